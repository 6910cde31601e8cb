import PyProof.Rows.All
import Wide.All
import OpenK.AllK
import Wide.FinOn
import HandS.ForMost
import HandS.ForExc
import HandS.IsInst
import HandS.Strs
import HandS.Wide
import HandS.EndBits
import HandS.ExcInit
import HandS.ExcSuper
import HandS.ExcField
import HandS.ExcIs
import KE.KSuper
import PyProof.ExcBaseAll.LookupError
import PyProof.Rows.FactsExc_KeyError
import KE.KOpsOwn
import HandS.ClsMeth
import KE.KExcIs
import PyProof.ReprRoads
import PyProof.InstNe
import HandS.Defaults
import HandS.Walk
import HandS.Deep
import HandS.TupAny
import HandS.TupMul
import HandS.SetFor
import HandS.Star
import PyProof.Rows.FactsB_or
import PyProof.Rows.FactsB_and
import PyProof.FactsInt2
import HandS.OwnEq
import HandS.Property
import HandS.More
import HandS.Style
import HandS.Bytes
import HandS.BytesMake
import HandS.TryMany
import HandS.TryOnly
import HandS.Iter
import KE.GoesMore
import HandS.Dict
import KE.KDictCopyH
import KE.KDictAny
import KE.KDictAnyGet
import KE.KEqDict
import KE.KDictLaw
import HandS.DictComp
import HandS.Zip
import KE.KParD
import HandS.HeadWalk
import KE.KCallOwn
import HandS.RevRange
import HandS.Conv
import HandS.Small
import HandS.SortInts
import HandS.GenList
import HandS.Comp
import HandS.RaiseMore
import PyProof.Rows.StrMeet
import HandS.Words
import HandS.Head2
import PySem.Challenge.RW_trustedpages_k15_lists_of_all_orders
set_option Elab.async false
set_option linter.all false
set_option maxRecDepth 100000
set_option maxHeartbeats 4000000
set_option maxRecDepth 1000000
set_option maxHeartbeats 0
namespace Law
open PySem PySem.W PySem.Calls PyProof.Rows
abbrev rowK : OpenRow := OpenLaw.row PySem.Challenge.rw_trustedpages_k15_lists_of_all_orders
def topK (i : Nat) : Stmt := PySem.Challenge.pw_trustedpages_k15_lists_of_all_orders.main.body.getD i (.Pass ⟨0, 0, 0, 0⟩)
abbrev fnK (st : Stmt) (nm ql : Str) (cl : List (Str × Addr)) (df kd md : Value) (cd : Addr) (an : Option Addr) (ct : Value) : Obj := { cls := .type "function", data := .func { name := nm, qualname := ql, params := L2.defArgs st, body := .stmts (L2.defBody st), scope := L2.defScope st, globals := 3, closure := cl, defaults := df, kwdefaults := kd, pyModule := md, annotations := an, code := .ref cd, closureTuple := ct } }
abbrev sK (s : Str) (t : Tok) : Value := .str s t
abbrev tpK (a : Array Value) : Obj := { cls := .type "tuple", data := .seq a }
abbrev cdK (a : Array Value) : Obj := { cls := .type "code", data := .fields a }
abbrev eK (P : Params) (s : Str) (t : Tok) (v : Value) : DictEntry := { hash := PyData.keyHash P s, key := .str s t, val := v }
def heapK (P : Params) : Frag := [
(2, { cls := .none, data := Data.dict #[] }),
(3, { cls := .type "dict", data := Data.dict #[eK P "__name__" 165 (sK "law_trustedpages_k15_lists_of_all_orders" 298), eK P "__doc__" 166 (.none), eK P "__package__" 167 (.none), eK P "__loader__" 168 (.builtin "__main__.__loader__#opaque"), eK P "__spec__" 169 (.none), eK P "__annotations__" 170 (.ref 6), eK P "__builtins__" 171 (.ref 4), eK P "__file__" 173 (sK "/claim/cut.py" 172), eK P "__cached__" 174 (.none), eK P "WRITER_WORDS" 195 (.ref 15), eK P "CLEANER_WORDS" 202 (.ref 16), eK P "READER_WORDS" 209 (.ref 17), eK P "words_of" 215 (.ref 22), eK P "all_there" 221 (.ref 27), eK P "is_ahead" 230 (.ref 34), eK P "is_locked_well" 237 (.ref 41), eK P "is_writer" 245 (.ref 48), eK P "is_cleaner" 253 (.ref 55), eK P "is_reader" 261 (.ref 62), eK P "mixed" 267 (.ref 67), eK P "listed" 273 (.ref 72), eK P "writer_orders" 281 (.ref 79), eK P "cleaner_orders" 290 (.ref 86), eK P "reader_orders" 297 (.ref 93), eK P "_law_pot" 305 (.ref 98), eK P "_law_draw" 316 (.ref 105), eK P "_law_put_in" 327 (.ref 112), eK P "_law_locked" 336 (.ref 119), eK P "_law_writer_words" 344 (.ref 126), eK P "_law_cleaner_words" 352 (.ref 133), eK P "_law_reader_words" 360 (.ref 140), eK P "_law_ahead" 369 (.ref 147), eK P "_law_fits" 375 (.ref 152), eK P "_law_is_writer" 383 (.ref 159), eK P "_law_is_cleaner" 391 (.ref 166), eK P "_law_is_reader" 399 (.ref 173), eK P "_law_spoilt" 413 (.ref 180), eK P "_law_ascends" 419 (.ref 185), eK P "law" 425 (.ref 190)] 39 }),
(15, tpK #[sK "change" 189, sK "enter" 190, sK "commit" 191, sK "clear" 192, sK "lock" 193, sK "unlock" 194]),
(16, tpK #[sK "look" 196, sK "set" 197, sK "remove" 198, sK "again" 199, sK "lock" 200, sK "unlock" 201]),
(17, tpK #[sK "entry" 203, sK "mark" 204, sK "page" 205, sK "hold" 206, sK "take" 207, sK "tell" 208]),
(21, cdK #[sK "words_of" 210, sK "words_of" 211, sK "/claim/cut.py" 212, .int 5 0, .int 2 0, .int 0 0, .int 0 0, .int 3 0, .ref 18, .bool true, .int 181 0, .ref 19, .none, .none, .none, .ref 20, .int 213 0, .int 5 0, sK "/claim/cut.py" 214]),
(22, fnK (topK 4) "words_of" "words_of" [] (.none) (.none) (sK "trustedpages.orders" 187) 21 (none) (.none)),
(26, cdK #[sK "all_there" 216, sK "all_there" 217, sK "/claim/cut.py" 218, .int 12 0, .int 2 0, .int 0 0, .int 0 0, .int 3 0, .ref 23, .bool true, .int 181 0, .ref 24, .none, .none, .none, .ref 25, .int 219 0, .int 12 0, sK "/claim/cut.py" 220]),
(27, fnK (topK 5) "all_there" "all_there" [] (.none) (.none) (sK "trustedpages.orders" 187) 26 (none) (.none)),
(33, cdK #[sK "is_ahead" 222, sK "is_ahead" 223, sK "/claim/cut.py" 224, .int 14 0, .int 3 0, .int 0 0, .int 0 0, .int 3 0, .ref 28, .bool true, .int 181 0, .ref 29, .none, .ref 30, .ref 31, .ref 32, .int 228 0, .int 14 0, sK "/claim/cut.py" 229]),
(34, fnK (topK 6) "is_ahead" "is_ahead" [] (.none) (.none) (sK "trustedpages.orders" 187) 33 (none) (.none)),
(40, cdK #[sK "is_locked_well" 231, sK "is_locked_well" 232, sK "/claim/cut.py" 233, .int 16 0, .int 1 0, .int 0 0, .int 0 0, .int 3 0, .ref 35, .bool true, .int 181 0, .ref 36, .none, .ref 37, .ref 38, .ref 39, .int 235 0, .int 16 0, sK "/claim/cut.py" 236]),
(41, fnK (topK 7) "is_locked_well" "is_locked_well" [] (.none) (.none) (sK "trustedpages.orders" 187) 40 (none) (.none)),
(47, cdK #[sK "is_writer" 238, sK "is_writer" 239, sK "/claim/cut.py" 240, .int 18 0, .int 1 0, .int 0 0, .int 0 0, .int 3 0, .ref 42, .bool true, .int 181 0, .ref 43, .none, .ref 44, .ref 45, .ref 46, .int 243 0, .int 18 0, sK "/claim/cut.py" 244]),
(48, fnK (topK 8) "is_writer" "is_writer" [] (.none) (.none) (sK "trustedpages.orders" 187) 47 (none) (.none)),
(54, cdK #[sK "is_cleaner" 246, sK "is_cleaner" 247, sK "/claim/cut.py" 248, .int 23 0, .int 1 0, .int 0 0, .int 0 0, .int 3 0, .ref 49, .bool true, .int 181 0, .ref 50, .none, .ref 51, .ref 52, .ref 53, .int 251 0, .int 23 0, sK "/claim/cut.py" 252]),
(55, fnK (topK 9) "is_cleaner" "is_cleaner" [] (.none) (.none) (sK "trustedpages.orders" 187) 54 (none) (.none)),
(61, cdK #[sK "is_reader" 254, sK "is_reader" 255, sK "/claim/cut.py" 256, .int 28 0, .int 1 0, .int 0 0, .int 0 0, .int 3 0, .ref 56, .bool true, .int 181 0, .ref 57, .none, .ref 58, .ref 59, .ref 60, .int 259 0, .int 28 0, sK "/claim/cut.py" 260]),
(62, fnK (topK 10) "is_reader" "is_reader" [] (.none) (.none) (sK "trustedpages.orders" 187) 61 (none) (.none)),
(66, cdK #[sK "mixed" 262, sK "mixed" 263, sK "/claim/cut.py" 264, .int 35 0, .int 2 0, .int 0 0, .int 0 0, .int 3 0, .ref 63, .bool true, .int 181 0, .ref 64, .none, .none, .none, .ref 65, .int 265 0, .int 35 0, sK "/claim/cut.py" 266]),
(67, fnK (topK 11) "mixed" "mixed" [] (.none) (.none) (sK "trustedpages.orders" 187) 66 (none) (.none)),
(71, cdK #[sK "listed" 268, sK "listed" 269, sK "/claim/cut.py" 270, .int 40 0, .int 3 0, .int 0 0, .int 0 0, .int 3 0, .ref 68, .bool true, .int 181 0, .ref 69, .none, .none, .none, .ref 70, .int 271 0, .int 40 0, sK "/claim/cut.py" 272]),
(72, fnK (topK 12) "listed" "listed" [] (.none) (.none) (sK "trustedpages.orders" 187) 71 (none) (.none)),
(78, cdK #[sK "writer_orders" 274, sK "writer_orders" 275, sK "/claim/cut.py" 276, .int 46 0, .int 0 0, .int 0 0, .int 0 0, .int 35 0, .ref 73, .bool true, .int 181 0, .ref 74, .none, .ref 75, .ref 76, .ref 77, .int 279 0, .int 46 0, sK "/claim/cut.py" 280]),
(79, fnK (topK 13) "writer_orders" "writer_orders" [] (.none) (.none) (sK "trustedpages.orders" 187) 78 (none) (.none)),
(85, cdK #[sK "cleaner_orders" 282, sK "cleaner_orders" 283, sK "/claim/cut.py" 284, .int 50 0, .int 0 0, .int 0 0, .int 0 0, .int 35 0, .ref 80, .bool true, .int 181 0, .ref 81, .none, .ref 82, .ref 83, .ref 84, .int 288 0, .int 50 0, sK "/claim/cut.py" 289]),
(86, fnK (topK 14) "cleaner_orders" "cleaner_orders" [] (.none) (.none) (sK "trustedpages.orders" 187) 85 (none) (.none)),
(92, cdK #[sK "reader_orders" 291, sK "reader_orders" 292, sK "/claim/cut.py" 293, .int 56 0, .int 0 0, .int 0 0, .int 0 0, .int 35 0, .ref 87, .bool true, .int 181 0, .ref 88, .none, .ref 89, .ref 90, .ref 91, .int 295 0, .int 56 0, sK "/claim/cut.py" 296]),
(93, fnK (topK 15) "reader_orders" "reader_orders" [] (.none) (.none) (sK "trustedpages.orders" 187) 92 (none) (.none)),
(97, cdK #[sK "_law_pot" 300, sK "_law_pot" 301, sK "/claim/cut.py" 302, .int 60 0, .int 1 0, .int 0 0, .int 0 0, .int 3 0, .ref 94, .bool true, .int 181 0, .ref 95, .none, .none, .none, .ref 96, .int 303 0, .int 60 0, sK "/claim/cut.py" 304]),
(98, fnK (topK 17) "_law_pot" "_law_pot" [] (.none) (.none) (sK "law_trustedpages_k15_lists_of_all_orders" 298) 97 (none) (.none)),
(104, cdK #[sK "_law_draw" 306, sK "_law_draw" 307, sK "/claim/cut.py" 308, .int 62 0, .int 2 0, .int 0 0, .int 0 0, .int 3 0, .ref 99, .bool true, .int 181 0, .ref 100, .none, .ref 101, .ref 102, .ref 103, .int 314 0, .int 62 0, sK "/claim/cut.py" 315]),
(105, fnK (topK 18) "_law_draw" "_law_draw" [] (.none) (.none) (sK "law_trustedpages_k15_lists_of_all_orders" 298) 104 (none) (.none)),
(111, cdK #[sK "_law_put_in" 317, sK "_law_put_in" 318, sK "/claim/cut.py" 319, .int 74 0, .int 4 0, .int 0 0, .int 0 0, .int 3 0, .ref 106, .bool true, .int 181 0, .ref 107, .none, .ref 108, .ref 109, .ref 110, .int 325 0, .int 74 0, sK "/claim/cut.py" 326]),
(112, fnK (topK 19) "_law_put_in" "_law_put_in" [] (.none) (.none) (sK "law_trustedpages_k15_lists_of_all_orders" 298) 111 (none) (.none)),
(118, cdK #[sK "_law_locked" 328, sK "_law_locked" 329, sK "/claim/cut.py" 330, .int 77 0, .int 2 0, .int 0 0, .int 0 0, .int 3 0, .ref 113, .bool true, .int 181 0, .ref 114, .none, .ref 115, .ref 116, .ref 117, .int 334 0, .int 77 0, sK "/claim/cut.py" 335]),
(119, fnK (topK 20) "_law_locked" "_law_locked" [] (.none) (.none) (sK "law_trustedpages_k15_lists_of_all_orders" 298) 118 (none) (.none)),
(125, cdK #[sK "_law_writer_words" 337, sK "_law_writer_words" 338, sK "/claim/cut.py" 339, .int 83 0, .int 1 0, .int 0 0, .int 0 0, .int 3 0, .ref 120, .bool true, .int 181 0, .ref 121, .none, .ref 122, .ref 123, .ref 124, .int 342 0, .int 83 0, sK "/claim/cut.py" 343]),
(126, fnK (topK 21) "_law_writer_words" "_law_writer_words" [] (.none) (.none) (sK "law_trustedpages_k15_lists_of_all_orders" 298) 125 (none) (.none)),
(132, cdK #[sK "_law_cleaner_words" 345, sK "_law_cleaner_words" 346, sK "/claim/cut.py" 347, .int 89 0, .int 1 0, .int 0 0, .int 0 0, .int 3 0, .ref 127, .bool true, .int 181 0, .ref 128, .none, .ref 129, .ref 130, .ref 131, .int 350 0, .int 89 0, sK "/claim/cut.py" 351]),
(133, fnK (topK 22) "_law_cleaner_words" "_law_cleaner_words" [] (.none) (.none) (sK "law_trustedpages_k15_lists_of_all_orders" 298) 132 (none) (.none)),
(139, cdK #[sK "_law_reader_words" 353, sK "_law_reader_words" 354, sK "/claim/cut.py" 355, .int 96 0, .int 1 0, .int 0 0, .int 0 0, .int 3 0, .ref 134, .bool true, .int 181 0, .ref 135, .none, .ref 136, .ref 137, .ref 138, .int 358 0, .int 96 0, sK "/claim/cut.py" 359]),
(140, fnK (topK 23) "_law_reader_words" "_law_reader_words" [] (.none) (.none) (sK "law_trustedpages_k15_lists_of_all_orders" 298) 139 (none) (.none)),
(146, cdK #[sK "_law_ahead" 361, sK "_law_ahead" 362, sK "/claim/cut.py" 363, .int 102 0, .int 3 0, .int 0 0, .int 0 0, .int 3 0, .ref 141, .bool true, .int 181 0, .ref 142, .none, .ref 143, .ref 144, .ref 145, .int 367 0, .int 102 0, sK "/claim/cut.py" 368]),
(147, fnK (topK 24) "_law_ahead" "_law_ahead" [] (.none) (.none) (sK "law_trustedpages_k15_lists_of_all_orders" 298) 146 (none) (.none)),
(151, cdK #[sK "_law_fits" 370, sK "_law_fits" 371, sK "/claim/cut.py" 372, .int 104 0, .int 3 0, .int 0 0, .int 0 0, .int 3 0, .ref 148, .bool true, .int 181 0, .ref 149, .none, .none, .none, .ref 150, .int 373 0, .int 104 0, sK "/claim/cut.py" 374]),
(152, fnK (topK 25) "_law_fits" "_law_fits" [] (.none) (.none) (sK "law_trustedpages_k15_lists_of_all_orders" 298) 151 (none) (.none)),
(158, cdK #[sK "_law_is_writer" 376, sK "_law_is_writer" 377, sK "/claim/cut.py" 378, .int 112 0, .int 1 0, .int 0 0, .int 0 0, .int 3 0, .ref 153, .bool true, .int 181 0, .ref 154, .none, .ref 155, .ref 156, .ref 157, .int 381 0, .int 112 0, sK "/claim/cut.py" 382]),
(159, fnK (topK 26) "_law_is_writer" "_law_is_writer" [] (.none) (.none) (sK "law_trustedpages_k15_lists_of_all_orders" 298) 158 (none) (.none)),
(165, cdK #[sK "_law_is_cleaner" 384, sK "_law_is_cleaner" 385, sK "/claim/cut.py" 386, .int 117 0, .int 1 0, .int 0 0, .int 0 0, .int 3 0, .ref 160, .bool true, .int 181 0, .ref 161, .none, .ref 162, .ref 163, .ref 164, .int 389 0, .int 117 0, sK "/claim/cut.py" 390]),
(166, fnK (topK 27) "_law_is_cleaner" "_law_is_cleaner" [] (.none) (.none) (sK "law_trustedpages_k15_lists_of_all_orders" 298) 165 (none) (.none)),
(172, cdK #[sK "_law_is_reader" 392, sK "_law_is_reader" 393, sK "/claim/cut.py" 394, .int 124 0, .int 1 0, .int 0 0, .int 0 0, .int 3 0, .ref 167, .bool true, .int 181 0, .ref 168, .none, .ref 169, .ref 170, .ref 171, .int 397 0, .int 124 0, sK "/claim/cut.py" 398]),
(173, fnK (topK 28) "_law_is_reader" "_law_is_reader" [] (.none) (.none) (sK "law_trustedpages_k15_lists_of_all_orders" 298) 172 (none) (.none)),
(179, cdK #[sK "_law_spoilt" 400, sK "_law_spoilt" 401, sK "/claim/cut.py" 402, .int 131 0, .int 2 0, .int 0 0, .int 0 0, .int 3 0, .ref 174, .bool true, .int 181 0, .ref 175, .none, .ref 176, .ref 177, .ref 178, .int 411 0, .int 131 0, sK "/claim/cut.py" 412]),
(180, fnK (topK 29) "_law_spoilt" "_law_spoilt" [] (.none) (.none) (sK "law_trustedpages_k15_lists_of_all_orders" 298) 179 (none) (.none)),
(184, cdK #[sK "_law_ascends" 414, sK "_law_ascends" 415, sK "/claim/cut.py" 416, .int 146 0, .int 1 0, .int 0 0, .int 0 0, .int 3 0, .ref 181, .bool true, .int 181 0, .ref 182, .none, .none, .none, .ref 183, .int 417 0, .int 146 0, sK "/claim/cut.py" 418]),
(185, fnK (topK 30) "_law_ascends" "_law_ascends" [] (.none) (.none) (sK "law_trustedpages_k15_lists_of_all_orders" 298) 184 (none) (.none)),
(189, cdK #[sK "law" 420, sK "law" 421, sK "/claim/cut.py" 422, .int 148 0, .int 1 0, .int 0 0, .int 0 0, .int 3 0, .ref 186, .bool true, .int 181 0, .ref 187, .none, .none, .none, .ref 188, .int 423 0, .int 148 0, sK "/claim/cut.py" 424]),
(190, fnK (topK 31) "law" "law" [] (.none) (.none) (sK "law_trustedpages_k15_lists_of_all_orders" 298) 189 (none) (.none))]
def asK : List Addr := [2, 3, 15, 16, 17, 21, 22, 26, 27, 33, 34, 40, 41, 47, 48, 54, 55, 61, 62, 66, 67, 71, 72, 78, 79, 85, 86, 92, 93, 97, 98, 104, 105, 111, 112, 118, 119, 125, 126, 132, 133, 139, 140, 146, 147, 151, 152, 158, 159, 165, 166, 172, 173, 179, 180, 184, 185, 189, 190]
abbrev hkK : Hook := kHook heapK asK (fun _ => by kernel_rfl)
def obK (s : SharedT) : List (Option Obj) := asK.map (HandSHeadRun.getT s)
theorem obK_eq (s : SharedT) : obK s = hkK.obs s.abs := by
  show asK.map (HandSHeadRun.getT s) = asK.map s.abs.heap.get?
  exact List.map_congr_left fun a _ => HandSHeadRun.getT_eq s a
abbrev qK : Program := view rowK.prog [31]
def nm0K : List PySem.Str := ["WRITER_WORDS", "CLEANER_WORDS", "READER_WORDS", "words_of", "all_there", "is_ahead", "is_locked_well", "is_writer", "is_cleaner", "is_reader", "mixed", "listed", "writer_orders", "cleaner_orders", "reader_orders", "_law_pot", "_law_draw", "_law_put_in", "_law_locked", "_law_writer_words", "_law_cleaner_words", "_law_reader_words", "_law_ahead", "_law_fits", "_law_is_writer", "_law_is_cleaner", "_law_is_reader", "_law_spoilt", "_law_ascends"]
def namesK : List PySem.Str := nm0K
theorem join3K {σ α β γ : Type} {x : Option σ} {f : σ → α} {g : σ → β} {h : σ → γ} {a : α} {b : β} {c : γ} (h1 : x.map (fun s => (f s, h s)) = some (a, c)) (h2 : x.map g = some b) : x.map (fun s => (f s, g s, h s)) = some (a, b, c) := by
  cases x with
  | none => cases h1
  | some s =>
    have e1 := Option.some.inj h1
    have e2 : g s = b := Option.some.inj h2
    have e3 : f s = a := congrArg Prod.fst e1
    have e4 : h s = c := congrArg Prod.snd e1
    show some (f s, g s, h s) = _
    rw [e2, e3, e4]
theorem runAK (w : World) (os : OsState) : (HandSHeadRun.endF (HandSHeadRun.stepQ (HandSHeadRun.denQ HandSHeadRun.tabQ) rowK.prog w) 1500 rowK.prog w os).map (fun s => (HandSHeadRun.looksF rowK.prog (boot_heap w.params) s.abs, obK s)) = some (true, hkK.val w) := by kernel_rfl
theorem runBK (w : World) (os : OsState) : (HandSHeadRun.endF (HandSHeadRun.stepQ (HandSHeadRun.denQ HandSHeadRun.tabQ) rowK.prog w) 1500 rowK.prog w os).map (fun s => HandSHeadRun.seenQ qK namesK (importedModules rowK.prog.main.body) (fun s => xlAt qK [] s && recOk rowK.toRowW.records s) s.abs) = some (openGood qK namesK) := by kernel_rfl
theorem runK (w : World) : HandSHeadRun.RunEq rowK qK hkK obK 1500 namesK w := fun os => join3K (runAK w os) (runBK w os)
end Law
set_option maxRecDepth 100000
set_option maxHeartbeats 4000000
namespace TP
open PySem PySem.Spec PyProof.Rows L2

def rPlus : R2 := fun x y H Q => rI0 (fun i j => .int (i + j)) x y H Q ∨ (∃ i j, x = .str i ∧ y = .str j ∧ i.length + j.length ≤ sizeLine ∧ Q (.str (i ++ j)) H) ∨ rCat x y H Q
def rMinus : R2 := rI0 fun i j => .int (i - j)
def rTimes : R2 := fun x y H Q => rI CMul (fun i j => .int (i * j)) x y H Q ∨ rRep x y H Q
def rRest : R2 := rI (fun _ j => 0 < j) fun i j => .int (i % j)
def rQuot : R2 := rI CDivW fun i j => .int (i / j)
def rPow : R2 := rI CPow fun i j => .int (i ^ j.toNat)
def rLess : R2 := rI0 fun i j => .bl (decide (i < j))
def rMore : R2 := rI0 fun i j => .bl (decide (j < i))
def rGeq : R2 := rI0 fun i j => .bl (decide (j ≤ i))
def rSame (K : PySem.W.Frag) : R2 := fun x y H Q => rEq x y H Q ∨ rEqD K x y H Q
def rUnlike (K : PySem.W.Frag) : R2 := fun x y H Q => rNe x y H Q ∨ rNeD K x y H Q
def rIsNo : R2 := fun x y H Q => y = .non ∧ Q (.bl (decide (x = .non))) H
def rNeg : V → Hp → VK → Prop := rU fun i => .int (-i)
def rLen (K : PySem.W.Frag) : List V → Hp → VK → Prop := fun xs H Q => ∃ x n, xs = [x] ∧ LenV K x H n ∧ Q (.int n) H
def rInt1 : List V → Hp → VK → Prop := fun xs H Q => (∃ i, xs = [.int i] ∧ Q (.int i) H) ∨ ∃ k, xs = [.bl k] ∧ Q (.int (if k then 1 else 0)) H
def rTupleOf (K : PySem.W.Frag) : List V → Hp → VK → Prop := fun xs H Q => ∃ p ys, xs = [.ref p] ∧ ((SqL K H p ys ∧ ∀ l, H l = none → Q (.ref l) (upd H l (.tup ys))) ∨ (SqT K H p ys ∧ Q (.ref p) H))
def rSplit : V → List V → Hp → VK → Prop := fun x xs H Q => ∃ a b, x = .str a ∧ xs = [.str b] ∧ (b.length == 0) = false ∧ a.length + 2 ≤ sizeLine ∧ rNewStrs (Txt.split a b) H Q
def rJoin (K : PySem.W.Frag) : V → List V → Hp → VK → Prop := fun x xs H Q => ∃ a p, ∃ ys : List Str, x = .str a ∧ xs = [.ref p] ∧ (SqL K H p (ys.map V.str) ∨ SqT K H p (ys.map V.str)) ∧
    (ys.map (·.length)).sum + ys.length * a.length ≤ 16777216 ∧ Q (.str (Txt.join a ys)) H
section
variable {X : Cx}
theorem op_plus : OpR X (binaryOp .Add) rPlus := op_add.or (op_add_str.or op_cat)
theorem op_minus : OpR X (binaryOp .Sub) rMinus := op_sub
theorem op_times : OpR X (binaryOp .Mult) rTimes := op_mul.or op_rep
theorem op_rest : OpR X (binaryOp .Mod) rRest := op_mod
theorem op_quot : OpR X (binaryOp .FloorDiv) rQuot := op_fdivW
theorem op_power : OpR X (binaryOp .Pow) rPow := op_pow
theorem op_less : OpR X (compareOp .Lt) rLess := op_lt
theorem op_more : OpR X (compareOp .Gt) rMore := op_gt
theorem op_geq : OpR X (compareOp .GtE) rGeq := op_ge
theorem op_same (hu : X.A.units + 64 < cLine) : OpR X (compareOp .Eq) (rSame X.K) := op_eq.or (op_eqD hu)
theorem op_unlike (hu : X.A.units + 64 < cLine) : OpR X (compareOp .NotEq) (rUnlike X.K) := op_ne.or (op_neD hu)
theorem op_isno : OpR X (compareOp .Is) rIsNo := op_isN
theorem un_minus : UnR X (unaryOp .USub) rNeg := un_neg
theorem cr_len : CallR X (.builtin "len") (rLen X.K) := call_len
theorem cr_int1 : CallR X (.type "int") rInt1 := call_int1
theorem cr_tuple : CallR X (.type "tuple") (rTupleOf X.K) := call_tuple_of
end

structure FunI (K : PySem.W.Frag) (mg : Str → Option Value) (x : Str) (st : Stmt) (ps : List Str) : Prop where
  ex : ∃ (f : Addr) (fd : FuncData), mg x = some (.ref f) ∧ Fun K x x st f fd ∧ Binds K fd ps []
structure FnI (P : Program) (w : World) (K : PySem.W.Frag) (mg : Str → Option Value) (base : Heap) (CX : CXT) (k : Nat) (x : Str) (ps : List Str) (sp : Sp) : Prop where
  ex : ∃ (f : Addr) (fd : FuncData), mg x = some (.ref f) ∧ PySem.W.keepIn K (.ref f) = true ∧ FnOk P w K mg base CX k f fd ps sp ∧ Binds K fd ps []
section
variable {P : Program} {w : World} {K : PySem.W.Frag} {mg : Str → Option Value} {base : Heap}
theorem FunI.ok {x : Str} {st : Stmt} {N ps : List Str} {k : Nat} {sp : Sp} (F : FunI K mg x st ps) (S : FnScope N ps (defScope st)) (len : ∀ vs H Q E, sp vs H Q E → vs.length = ps.length) {t : TS}
    (hd : ∀ (f : Addr) (cdv : Value) (A : Around) (outer : List Env) (s : Shared) (H : Hp) (E : XK), Room k (A.deeper (envOfC x (defScope st) s.heap.objs.size f cdv)) →
      PSs (cxOf CX0 P w K mg base N x (defScope st) f cdv A outer s H E).nox (defBody st) t)
    (hb : ∀ (H : Hp) (vs : List V) (Q : VK) (E : XK), sp vs H Q E → t { nx := fun _ H' => Q .non H', rt := Q } (start N vs) H) : FnI P w K mg base CX0 (k + 1) x ps sp := by
  obtain ⟨f, fd, hm, F, b⟩ := F.ex
  exact ⟨f, fd, hm, F.kp, F.ok S len fun cdv A outer s H vs Q E hr h => ⟨t, hd f cdv A outer s H E hr, hb H vs Q E h⟩, b⟩
end
section
variable {X : Cx} {CX : CXT} {k j : Nat} {ps : List Str} {sp : Sp} {E : XK} {x : Str} {p pos : Pos} {e : Expr} {es : List Expr} {t : TA}
end
def tTru (K : PySem.W.Frag) (ta : TE) : TT := fun σ H Q => ta σ H fun x H' => ∃ k, TruV K x H' k ∧ Q k H'
theorem pe_globA {X : Cx} {x : Str} {a : Addr} {pos : Pos} (h : X.mg x = some (.ref a)) (hg : Gl X x := by rfl) (hd : (x == ("__debug__" : Str)) = false := by decide) : PE X (.Name x pos) (tC (.ref a)) := pe_glob hg h rfl hd
end TP

namespace TP
open PySem PySem.Spec PyProof.Rows L2
def met {κ : Type} [DecidableEq κ] : List κ → List κ
  | [] => []
  | x :: r => if x ∈ met r then met r else x :: met r
def metTo {κ : Type} [DecidableEq κ] (f : Nat → κ) : Nat → List κ
  | 0 => []
  | i + 1 => if f i ∈ metTo f i then metTo f i else f i :: metTo f i
section
variable {κ : Type} [DecidableEq κ]
theorem metTo_len (f : Nat → κ) : ∀ i, (metTo f i).length ≤ i
  | 0 => Nat.le_refl _
  | i + 1 => by
    have ih := metTo_len f i
    unfold metTo
    split
    · omega
    · simp only [List.length_cons]; omega
theorem metTo_mem (f : Nat → κ) (k : κ) : ∀ i, k ∈ metTo f i ↔ ∃ j, j < i ∧ f j = k
  | 0 => by simp [metTo]
  | i + 1 => by
    have ih := metTo_mem f k i
    have step : (∃ j, j < i + 1 ∧ f j = k) ↔ (∃ j, j < i ∧ f j = k) ∨ f i = k := by
      constructor
      · rintro ⟨j, hj, e⟩
        by_cases q : j = i
        · subst q; exact .inr e
        · exact .inl ⟨j, by omega, e⟩
      · rintro (⟨j, hj, e⟩ | e)
        · exact ⟨j, by omega, e⟩
        · exact ⟨i, by omega, e⟩
    rw [step, ← ih]
    show k ∈ (if f i ∈ metTo f i then metTo f i else f i :: metTo f i) ↔ _
    split
    · rename_i h
      constructor
      · exact .inl
      · rintro (q | q)
        · exact q
        · rw [← q]; exact h
    · simp only [List.mem_cons]
      constructor
      · rintro (q | q)
        · exact .inr q.symm
        · exact .inl q
      · rintro (q | q)
        · exact .inr q
        · exact .inl q.symm
theorem metTo_full (f : Nat → κ) : ∀ i, (metTo f i).length = i ↔ ∀ a b, a < b → b < i → f a ≠ f b
  | 0 => by simp [metTo]
  | i + 1 => by
    have ih := metTo_full f i
    have le := metTo_len f i
    have mm := metTo_mem f (f i) i
    show (if f i ∈ metTo f i then metTo f i else f i :: metTo f i).length = i + 1 ↔ _
    split
    · rename_i h
      constructor
      · intro q; omega
      · intro q
        obtain ⟨j, hj, e⟩ := mm.mp h
        exact absurd e (q j i hj (Nat.lt_succ_self _))
    · rename_i h
      constructor
      · intro q a b hab hb
        have q' : (metTo f i).length = i := by simpa using q
        by_cases z : b = i
        · subst z
          exact fun e => h (mm.mpr ⟨a, hab, e⟩)
        · exact ih.mp q' a b hab (by omega)
      · intro q
        have q' := ih.mpr fun a b hab hb => q a b hab (by omega)
        simp only [List.length_cons, q']
theorem metTo_list (xs : List κ) (d : κ) : (metTo (fun i => xs.getD i d) xs.length).length = xs.length ↔ xs.Nodup := by
  rw [metTo_full]
  constructor
  · intro h
    rw [List.nodup_iff_pairwise_ne, List.pairwise_iff_getElem]
    intro i j hi hj hij
    have z := h i j hij hj
    simpa [List.getD, hi, hj] using z
  · intro h a b hab hb e
    rw [List.nodup_iff_pairwise_ne, List.pairwise_iff_getElem] at h
    have ha : a < xs.length := by omega
    exact h a b ha hb hab (by simpa [List.getD, ha, hb] using e)
end
abbrev nset (led : Bool) : Obj := { cls := .type "set", dict := none, data := .set #[] 0 (.fresh 0 0 led) }
section
variable {prog : Program} {w : World} {κ : Type} [DecidableEq κ]
theorem setOf_as {knd : PySem.KeyKind prog w κ} {h : Heap} {a : Addr} {S S' : κ → Bool} {n n' : Nat} (hS : h.SetOf knd a S n) (e : ∀ k, S k = S' k) (en : n = n') : h.SetOf knd a S' n' := by
  obtain rfl : S = S' := funext e
  subst en
  exact hS
section
variable {A : Around} {R : Result → Shared → Prop} {I : Addr} {fp wr : List Addr} {G : Array GenState → Array GenState → Prop} {n : Nat} {P : Nat → Value → Prop} {St : Nat → Shared → Prop}
theorem set_loop (knd : PySem.KeyKind prog w κ) (W : WalksS prog w A.in1 I fp wr G n P St) (a : Addr) (hf : a ∉ fp) (f : Nat → κ) (hval : ∀ i v, P i v → knd.is (f i) v = true ∧ v.scannable = true) (hb : n + 1 < scanBound) :
    ∀ (k i : Nat) (s : Shared), n - i = k → i ≤ n → St i s → s.heap.SetOf knd a (fun z => decide (z ∈ metTo f i)) (metTo f i).length →
      (∀ s', Moved (a :: wr) G s s' → s'.heap.SetOf knd a (fun z => decide (z ∈ metTo f n)) (metTo f n).length → R (.ok (.ret .none)) s') →
      codeAny (model prog w) A (.builtin "set.update.loop" ⟨[.ref a, .ref I], []⟩) R s := by
  have hw : a ∉ wr := fun h => hf (W.sub _ h)
  have sub : ∀ b ∈ wr, b ∈ a :: wr := fun b hb => List.mem_cons_of_mem _ hb
  have stay : ∀ {s s' : Shared} {i : Nat}, Moved wr G s s' → s.heap.SetOf knd a (fun z => decide (z ∈ metTo f i)) (metTo f i).length → s'.heap.SetOf knd a (fun z => decide (z ∈ metTo f i)) (metTo f i).length := fun hm hS => by
    obtain ⟨o, es, ep, t, ho, rest⟩ := hS
    exact ⟨o, es, ep, t, hm.heap a _ hw ho, rest⟩
  intro k
  induction k with
  | zero =>
    intro i s hk hi hst hS hR
    obtain rfl : i = n := by omega
    refine codeAny_builtin F.entry_set_update_loop ?_
    rw [Around.under_plainId F.plain_set_update_loop _]
    refine wpAny_bind (m := pyNext (.ref I)) (W.done s _ _ hst fun s' hm => ?_)
    exact wpAny_pure (hR s' (hm.mono sub) (stay hm hS))
  | succ k ih =>
    intro i s hk hi hst hS hR
    have hlt : i < n := by omega
    refine codeAny_builtin F.entry_set_update_loop ?_
    rw [Around.under_plainId F.plain_set_update_loop _]
    refine wpAny_bind (m := pyNext (.ref I)) (W.item i s _ _ hlt hst fun v s' hP hst' hm => ?_)
    obtain ⟨hv, hsc⟩ := hval i v hP
    have hS' := stay hm hS
    refine wpAny_bind (m := holding [v] (setAdd a v)) (wpAny_holding ?_)
    unfold setAdd
    refine wpAny_holding (wpAny_bind (knd.pyHash (k := f i) hv ?_))
    have room : (metTo f i).length + 1 < scanBound := by have := metTo_len f i; omega
    refine wpAny_setAddHashed_of (knd := knd) (s := { s' with toks := s'.toks + 1 }) hv hsc hS' room fun h' hsb hS2 => ?_
    have hSi : h'.SetOf knd a (fun z => decide (z ∈ metTo f (i + 1))) (metTo f (i + 1)).length := by
      refine setOf_as hS2 (fun z => ?_) ?_
      · rw [← Bool.decide_or]
        refine decide_eq_decide.mpr ?_
        show _ ↔ z ∈ (if f i ∈ metTo f i then metTo f i else f i :: metTo f i)
        split
        · rename_i q
          constructor
          · rintro (h | h)
            · exact h
            · rw [h]; exact q
          · exact .inl
        · rw [List.mem_cons]
          exact Or.comm
      · show _ = (if f i ∈ metTo f i then metTo f i else f i :: metTo f i).length
        by_cases q : f i ∈ metTo f i
        · simp [q]
        · simp [q]
    refine wpAny_pure ⟨plainId_quiet F.plain_set_update_loop _, ih (i + 1) _ (by omega) hlt (W.frame _ s' _ _ hst' (Nat.le_succ _) fun b hb o e => ?_) hSi fun s'' hm'' hS'' => ?_⟩
    · rw [hsb.2 b (fun h : b = a => hf (h ▸ hb))]; exact e
    · refine hR s'' (Moved.trans W.gtrans ((hm.mono sub).then_heap (Nat.le_succ _) fun b o hb e => ?_) hm'') hS''
      rw [hsb.2 b (fun h : b = a => hb (h ▸ List.mem_cons_self))]; exact e
end
section
variable {A : Around} {E : Value → Shared → Prop} {s : Shared}
theorem call_set_keys (knd : PySem.KeyKind prog w κ) {l : Addr} {items : Array Value} {Q : Value → Shared → Prop} (f : Nat → κ)
    (hh : A.handled = none) (hl : s.heap.IsList l items) (hi : ∀ (i : Nat) v, items[i]? = some v → knd.is (f i) v = true ∧ v.scannable = true) (hb : items.size + 1 < scanBound)
    (h : ∀ (h' : Heap) (tk : Nat), h'.SetOf knd s.heap.objs.size (fun z => decide (z ∈ metTo f items.size)) (metTo f items.size).length →
      (∀ b o, b < s.heap.objs.size → s.heap.get? b = some o → h'.get? b = some o) → Q (.ref s.heap.objs.size) { s with heap := h', toks := tk }) :
    wpAny (model prog w) A (call (.type "set") [.ref l]) Q E s := by
  obtain ⟨c, tl, hmro⟩ := PySem.F.called_set.mro
  have hmade := PySem.F.called_set.made
  have hsub := PySem.F.called_set.sub
  refine wpAny_call (codeAny_of_tree ?_)
  refine wpAny_pure ⟨Code.quiet_builtin _ (by decide +kernel), codeAny_builtin PySem.F.entry_type_call ?_⟩
  rw [Around.under_plain (weight_type_call_type "set" [.ref l] []) rfl]
  have h1 := PySem.F.called_set.notType
  have h2 := PySem.F.called_set.canCreate
  have hct := PySem.F.typeCall_set_1 (.ref l)
  repeat (any_goals (first | assumption | wp_step))
  refine codeAny_mono (code_set_new_1 (.ref l) (E := E) (Q₁ := fun obj s₁ => ∃ led : Bool, obj = .ref s.heap.objs.size ∧ s₁ = { s with heap := s.heap.push (nset led) }) fun led => ⟨led, rfl, rfl⟩) fun r s₁ hr => ?_
  cases r with
  | error e => exact hr
  | ok fl =>
    cases fl with
    | ret obj =>
      obtain ⟨led, rfl, rfl⟩ := hr
      have hS : (s.heap.push (nset led)).get? s.heap.objs.size = some (nset led) := Heap.get?_push_size _ rfl
      have hT : Shared.TypeIs { s with heap := s.heap.push (nset led) } (.ref s.heap.objs.size) "set" := ⟨_, hS, rfl⟩
      have hli := PySem.F.called_set.init.lookup
      have hbi := PySem.F.called_set.init.bind (.ref s.heap.objs.size)
      repeat (any_goals (first | assumption | wp_step))
      refine codeAny_mono (codeAny_call_builtin (R := wants (fun r s₂ => r = .none ∧ ∃ h' tk, s₂ = { s with heap := h', toks := tk } ∧ h'.SetOf knd s.heap.objs.size (fun z => decide (z ∈ metTo f items.size)) (metTo f items.size).length ∧
          (∀ b o, b < s.heap.objs.size → s.heap.get? b = some o → h'.get? b = some o)) E) PySem.F.called_set.init.plain PySem.F.entry_set_init (check_set_init_1 hT ?_)) fun r₂ s₂ hr₂ => ?_
      · obtain ⟨⟨ocls, odict, odata, oslots⟩, hol, hcl, nl, hdl⟩ := hl
        simp only at hcl hdl
        subst hcl hdl
        have hol' : (s.heap.push (nset led)).get? l = some { cls := .type "list", dict := odict, data := .seq items nl, slots := oslots } := Heap.get?_push_of_some _ hol
        have hsls := PySem.F.sub_list_set
        have hslf := PySem.F.sub_list_frozenset
        have hne : (Value.type "list" == Value.type "dict") = false := by decide
        have hl1 : (s.heap.push (nset led)).IsList l items := ⟨_, hol', rfl, nl, rfl⟩
        unfold Builtin.«set.__init__» noKeywords Builtin.Frozenset.updateFrom
        generalize hPI : pyIter = PI
        wp_walk
        subst hPI
        refine wpAny_pyIter_list hl1 (wpAny_bind (wpAny_runValue ?_))
        have hlS : l < s.heap.objs.size := Heap.lt_size hol
        have hh3 : A.in1.in1.in1.handled = none := by simp [hh]
        have sz : (s.heap.push (nset led)).objs.size = s.heap.objs.size + 1 := Heap.size_push _ _
        have hneI : l ≠ (s.heap.push (nset led)).objs.size := by rw [sz]; exact Nat.ne_of_lt (Nat.lt_succ_of_lt hlS)
        have hSf : s.heap.objs.size ∉ [(s.heap.push (nset led)).objs.size, l] := by
          rw [sz]
          intro q
          rcases List.mem_cons.mp q with q | q
          · exact absurd q (Nat.ne_of_lt (Nat.lt_succ_self _))
          · exact absurd (List.mem_singleton.mp q) (Nat.ne_of_gt hlS)
        refine set_loop knd ((Walks.list hh3 _ l hneI items).toS) s.heap.objs.size hSf f hi hb (items.size - 0) 0 _ (by omega) (Nat.zero_le _) ⟨⟨_, Heap.get?_push_size _ rfl, rfl, rfl⟩, (hl1.push _)⟩ ?hS0 ?hR
        case hS0 =>
          refine setOf_as ((setObjOf_fresh (knd := knd) led).setOf (Heap.get?_push_of_some _ hS) (by unfold scanBound; omega)) (fun z => ?_) rfl
          simp [metTo]
        case hR =>
          intro s' hm hS'
          obtain ⟨h', g', d', tk', os'⟩ := s'
          obtain rfl : g' = s.gens := hm.gens
          obtain rfl : d' = s.drawn := hm.drawn
          obtain rfl : os' = s.os := hm.os
          refine wpAny_pure (wpAny_pure ⟨rfl, h', tk', rfl, hS', fun b o hb e => ?_⟩)
          refine hm.heap b o (fun q => ?_) (Heap.get?_push_of_some _ (Heap.get?_push_of_some _ e))
          rcases List.mem_cons.mp q with q | q
          · exact absurd q (Nat.ne_of_lt hb)
          · have q' := List.mem_singleton.mp q
            rw [sz] at q'
            exact absurd q' (Nat.ne_of_lt (Nat.lt_succ_of_lt hb))
      · cases r₂ with
        | error e => exact hr₂
        | ok fl₂ =>
          cases fl₂ with
          | ret r =>
            obtain ⟨rfl, h', tk, rfl, hS', hk'⟩ := hr₂
            repeat (any_goals (first | assumption | wp_step))
            exact h _ _ hS' hk'
          | _ => exact hr₂.elim
    | _ => exact hr.elim
end
end
theorem strAt : ∀ {xs : List Str} {us : List Value}, Vals (xs.map V.str) us → ∀ (i : Nat) v, us[i]? = some v → ∃ t, v = .str (xs.getD i Str.empty) t
  | [], _, .nil, i, v, h => by simp at h
  | x :: xs, _, .cons r t, 0, v, h => by
    obtain ⟨k, rfl⟩ := r
    obtain rfl := Option.some.inj h
    exact ⟨k, rfl⟩
  | x :: xs, _, .cons r t, i + 1, v, h => strAt t i v h
def tLenSetS (K : PySem.W.Frag) (ta : TE) : TE := fun σ H Q => ta σ H fun x H1 => ∃ l, ∃ xs : List Str, x = .ref l ∧ SqL K H1 l (xs.map V.str) ∧ xs.length ≤ 1000 ∧ ∀ n : Nat, (n = xs.length ↔ xs.Nodup) → Q (.int n) H1
theorem pe_lenSetS {X : Cx} {a : Expr} {ta : TE} {p p2 q pos : Pos} (hc : X.calm = true) (hg : Gl X "len") (hm : X.mg "len" = none) (hg2 : Gl X "set") (hm2 : X.mg "set" = none) (ha : PE X a ta)
    (na : starEach [a] X.env = (false, eval a X.env) :: starEach [] X.env := by rfl) : PE X (.Call (.Name "len" p) [.Call (.Name "set" p2) [a] [] q] [] pos) (tLenSetS X.K ta) := by
  refine ⟨fun pins s σ H Q I h => ?_⟩
  refine Call_ (ld_blt I hg hm boot_len (callWith_builtin1 (args_cons ?_ rfl) rfl rfl))
  refine Call_ (ld_blt I hg2 hm2 boot_set (callWith_type1 (args_cons (thn (ha.run pins s σ H _ I h) fun v s1 ⟨x, H1, I1, r1, q1⟩ => args_nil ?_) na) na rfl))
  obtain ⟨l, xs, rfl, hq, h1, q1⟩ := q1
  cases r1
  obtain ⟨its, r, pl, hz⟩ := I1.list hq
  have hl : its.toArray.size = xs.length := by rw [List.size_toArray, ← r.length, List.length_map]
  refine call_set_keys (PySem.strKind X.prog X.w) (fun i => xs.getD i Str.empty) (I1.ok.hd hc) pl.isList (fun i v hv => ?_) (by rw [hl]; unfold scanBound; omega) fun h' tk hS hk => args_nil ?_
  · obtain ⟨t, rfl⟩ := strAt r i v (by simpa using hv)
    exact ⟨strKind_is _ _ _ _, rfl⟩
  · rw [hl] at hS
    have hN := metTo_list xs Str.empty
    have hle := metTo_len (fun i => xs.getD i Str.empty) xs.length
    obtain ⟨o, es, ep, t, ho, hex, hd, _, _, _, hf, hn⟩ := hS
    have I2 : Inv X pins σ H1 { s1 with heap := h', toks := tk } := I1.kept fun b o e => hk b o (Heap.lt_size e) e
    exact call_len_set ho hex hd hf (by rw [hn]; omega) ⟨.int _, H1, I2.tok _, ⟨_, by rw [hn]⟩, q1 _ hN⟩
end TP

namespace TP
open PySem PySem.Spec PyProof.Rows L2
section
variable {σ : L2.St} {H : Hp} {Q : VK} {QB : Bool → Hp → Prop} {QA : List V → Hp → Prop} {D : Ends} {ta tb te to : TE} {tt tu : TT} {tl tr : TA} {ts us : TS} {x y v : V} {i j : Int} {K : PySem.W.Frag}
end
theorem Same.new {H : Hp} {p : Addr} {o : HO} (h : H p = none) : Same H (upd H p o) := fun a u e => by
  rw [upd_ne (ne_of_none e h)]; exact e
theorem Same.none {H H' : Hp} (e : Same H H') {l : Addr} (h : H' l = Option.none) : H l = Option.none := e.free h
theorem Same.sqT {K : PySem.W.Frag} {H H' : Hp} {a : Addr} {xs : List V} (e : Same H H') (h : SqT K H a xs) : SqT K H' a xs := by
  rcases h with (h | ⟨o, h⟩) | h
  · exact .inl (.inl (e _ _ h))
  · exact .inl (.inr ⟨o, e _ _ h⟩)
  · exact .inr h
section
variable {σ : L2.St} {H : Hp} {Q : VK} {D : Ends} {te : TE} {tt : TT} {tl : TA} {tb : TS} {g : TG} {wi : TI} {vs : List Nat} {K : PySem.W.Frag} {R : It → Hp → Prop} {i j : Int}
end
section
variable {σ : L2.St} {H : Hp} {Q : VK} {D : Addr} {te : TE} {tt : TT} {g : TG} {vs : List Nat} {K : PySem.W.Frag} {a : Addr}
end
end TP

namespace TP
open PySem PySem.Spec PyProof.Rows L2
def dV : V → PyData
  | .bl b => .bool b
  | .int i => .int i
  | .str x => .str x
  | _ => .none
section
variable {K : PySem.W.Frag} {H : Hp} {Q : VK}
end
end TP

namespace TP
open PySem PySem.Spec PyProof.Rows L2
abbrev vin : Value := .builtin "ValueError.__init__"
section
variable {P : Program} {w : World} {M : Model} {A : Around} {E : Value → Shared → Prop} {h : Heap} {g : Array GenState} {d : Drawn} {t : Nat} {os : OsState}
end
section
variable {P : Program} {w : World} {M : Model} {A : Around} {E : Value → Shared → Prop} {s : Shared}
end
section
variable {P : Program} {w : World} {A : Around} {E : Value → Shared → Prop} {h : Heap} {g : Array GenState} {d : Drawn} {t : Nat} {os : OsState}
variable {nm q : Str} {C N : Addr} {bs bm : List Value} {hdct : Bool} {sn : List Str} {sub : List Value} {ab : Bool} {col : Option Bool} {dd : Option Addr} {k0 k1 k2 k3 k5 : Option Value}
end
end TP

namespace TP
open PySem PySem.Spec PyProof.Rows L2
def iniBody (fld txt : Str) (n3 : Nat) (p0 p1 p2 p3 p4 p5 q0 q1 q2 q3 : Pos) : List Stmt :=
  [.Expr (.Call (.Attribute (.Call (.Name "super" p0) [] [] p1) "__init__" p2) [.Constant (.str txt) n3 p3] [] p4) p5, .Assign [.Attribute (.Name "self" q0) fld q1] (.Name fld q2) q3]
def iniScope (fld : Str) : Scope := { kind := .function, names := [(PySem.Str.ofString "self", .local), (fld, .local), (PySem.Str.ofString "__class__", .free), (PySem.Str.ofString "super", .globalImplicit)], isGenerator := false, isCoroutine := false, more := [] }
structure IniTxt (P : Program) (K : PySem.W.Frag) (mg : Str → Option Value) (C fI : Addr) (fld qual : Str) (fd : FuncData) : Prop where
  oex : OexC K C
  no : PySem.W.findIn K (.ref C) fld = some none
  sup : mg "super" = none
  opq : PySem.W.nsIn K cStatics "thirdparty.any" = some none
  along : PySem.W.ks_superIn K C C "__init__" = some (some vin)
  mine : PySem.W.mroIn K C (.ref C) = some true
  isV : PySem.W.mroIn K C (.type "ValueError") = some true
  top : (P.main.scope.names.lookup ("super" : Str)).isSome = false
  code : ∃ (oc : Value) (od : Option Addr) (params : Arguments) (kV doc pm : Value) (an : Option Addr) (cda : Addr) (ct : Value) (cc : Addr) (osl : Array (Option Value)) (ar : Arg) (ccl : Value) (cdd : Option Addr) (vs : Array Value) (ccs : Array (Option Value)) (file : Str) (tf : Tok) (cl : Value) (cld : Option Addr) (csl : Array (Option Value))
      (txt : Str) (n3 : Nat) (p0 p1 p2 p3 p4 p5 q0 q1 q2 q3 : Pos),
    fd = PySem.W.ksFn "__init__" qual params (iniBody fld txt n3 p0 p1 p2 p3 p4 p5 q0 q1 q2 q3) (iniScope fld) .none kV doc pm an (.ref cda) ct cc ∧ K.lookup fI = some ⟨oc, od, .func fd, osl⟩ ∧ PySem.W.codeIn K (.ref cda) qual = true ∧
    (params.posonlyargs ++ params.args).head? = some ar ∧ ar.arg = "self" ∧ K.lookup cda = some ⟨ccl, cdd, .fields vs, ccs⟩ ∧ vs[2]? = some (.str file tf) ∧ ((P.main.file : Str) == file) = true ∧ K.lookup cc = some ⟨cl, cld, .cell (some (.ref C)), csl⟩ ∧
    (iniScope fld).names.lookup ("super" : Str) = some .globalImplicit ∧ (iniScope fld).names.lookup ("__class__" : Str) = some .free ∧ (iniScope fld).names.lookup ("self" : Str) = some .local ∧ (iniScope fld).names.lookup fld = some .local ∧ (fld == ("__debug__" : Str)) = false ∧ (fld ≠ "self") ∧ (p2.endLine == p4.line) = true
end TP

namespace TP
open PySem PySem.Spec PyProof.Rows L2
abbrev keTail : List Value := [.type "KeyError", .type "LookupError", .type "Exception", .type "BaseException", .type "object"]
structure OexK (K : PySem.W.Frag) (C : Addr) : Prop where
  cls : ∃ nm q N bs bm sn sub ab col dd k0 k1 k2 k3 k5, K.lookup C = some (excClassObj nm q C N bs bm true sn sub ab col dd k0 k1 k2 k3 k5 "LookupError.__new__") ∧ bm = keTail
  sa : PySem.W.findIn K (.ref C) "__setattr__" = some (some (.builtin "object.__setattr__"))
  exC : PySem.W.subIn K (.ref C) (.type "BaseException") = some true
  tyC : PySem.W.typeIn K (.ref C) = some (.type "type")
  kC : PySem.W.keepIn K (.ref C) = true
section
open Builtin Builtin.ObjectAttr PySem.HandSPX
variable {prog : Program} {w : World} {A : Around} {R : Result → Shared → Prop} {hp : Heap} {g : Array GenState} {d : Drawn} {t : Nat} {os : OsState}
end
section
open PySem.HandSPX
variable {prog : Program} {w : World} {M : Model} {A : Around} {E : Value → Shared → Prop} {R : Result → Shared → Prop} {h : Heap} {g : Array GenState} {d : Drawn} {t : Nat} {os : OsState}
variable {nm q : Str} {C N : Addr} {bs bm : List Value} {hdct : Bool} {sn : List Str} {sub : List Value} {ab : Bool} {col : Option Bool} {dd : Option Addr} {k0 k1 k2 k3 k5 : Option Value}
end
abbrev kin_ : Value := .builtin "KeyError.__init__"
section
variable {P : Program} {w : World} {M : Model} {A : Around} {E : Value → Shared → Prop} {h : Heap} {g : Array GenState} {d : Drawn} {t : Nat} {os : OsState}
end
section
variable {P : Program} {w : World} {M : Model} {A : Around} {E : Value → Shared → Prop} {s : Shared}
end
section
variable {P : Program} {w : World} {A : Around} {E : Value → Shared → Prop} {h : Heap} {g : Array GenState} {d : Drawn} {t : Nat} {os : OsState}
variable {nm q : Str} {C N : Addr} {bs bm : List Value} {hdct : Bool} {sn : List Str} {sub : List Value} {ab : Bool} {col : Option Bool} {dd : Option Addr} {k0 k1 k2 k3 k5 : Option Value}
end
structure IniTxtK (P : Program) (K : PySem.W.Frag) (mg : Str → Option Value) (C fI : Addr) (fld qual : Str) (fd : FuncData) : Prop where
  oex : OexK K C
  no : PySem.W.findIn K (.ref C) fld = some none
  sup : mg "super" = none
  opq : PySem.W.nsIn K cStatics "thirdparty.any" = some none
  along : PySem.W.ks_superIn K C C "__init__" = some (some kin_)
  mine : PySem.W.mroIn K C (.ref C) = some true
  isV : PySem.W.mroIn K C (.type "KeyError") = some true
  top : (P.main.scope.names.lookup ("super" : Str)).isSome = false
  code : ∃ (oc : Value) (od : Option Addr) (params : Arguments) (kV doc pm : Value) (an : Option Addr) (cda : Addr) (ct : Value) (cc : Addr) (osl : Array (Option Value)) (ar : Arg) (ccl : Value) (cdd : Option Addr) (vs : Array Value) (ccs : Array (Option Value)) (file : Str) (tf : Tok) (cl : Value) (cld : Option Addr) (csl : Array (Option Value))
      (txt : Str) (n3 : Nat) (p0 p1 p2 p3 p4 p5 q0 q1 q2 q3 : Pos),
    fd = PySem.W.ksFn "__init__" qual params (iniBody fld txt n3 p0 p1 p2 p3 p4 p5 q0 q1 q2 q3) (iniScope fld) .none kV doc pm an (.ref cda) ct cc ∧ K.lookup fI = some ⟨oc, od, .func fd, osl⟩ ∧ PySem.W.codeIn K (.ref cda) qual = true ∧
    (params.posonlyargs ++ params.args).head? = some ar ∧ ar.arg = "self" ∧ K.lookup cda = some ⟨ccl, cdd, .fields vs, ccs⟩ ∧ vs[2]? = some (.str file tf) ∧ ((P.main.file : Str) == file) = true ∧ K.lookup cc = some ⟨cl, cld, .cell (some (.ref C)), csl⟩ ∧
    (iniScope fld).names.lookup ("super" : Str) = some .globalImplicit ∧ (iniScope fld).names.lookup ("__class__" : Str) = some .free ∧ (iniScope fld).names.lookup ("self" : Str) = some .local ∧ (iniScope fld).names.lookup fld = some .local ∧ (fld == ("__debug__" : Str)) = false ∧ (fld ≠ "self") ∧ (p2.endLine == p4.line) = true
section
variable {X : Cx} {e : Expr} {es : List Expr} {ta : TA} {p pos : Pos}
end
end TP

namespace TP
open PySem PySem.Spec PyProof.Rows L2
structure MunI (K : PySem.W.Frag) (C : Addr) (m qual : Str) (st : Stmt) (ps : List Str) : Prop where
  ex : ∃ (f : Addr) (fd : FuncData), Meth K C m f ∧ Fun K m qual st f fd ∧ Binds K fd ps [] ∧ PySem.W.fnIn K f = true
structure MthI (P : Program) (w : World) (K : PySem.W.Frag) (mg : Str → Option Value) (base : Heap) (CX : CXT) (k : Nat) (C : Addr) (m : Str) (ps : List Str) (sp : Sp) : Prop where
  ex : ∃ (f : Addr) (fd : FuncData), Meth K C m f ∧ FnOk P w K mg base CX k f fd ps sp ∧ Binds K fd ps [] ∧ PySem.W.fnIn K f = true
section
variable {P : Program} {w : World} {K : PySem.W.Frag} {mg : Str → Option Value} {base : Heap} {C : Addr}
theorem MunI.ok {m qual : Str} {st : Stmt} {N ps : List Str} {k : Nat} {sp : Sp} (F : MunI K C m qual st ps) (S : FnScope N ps (defScope st)) (len : ∀ vs H Q E, sp vs H Q E → vs.length = ps.length) {t : TS}
    (hd : ∀ (f : Addr) (cdv : Value) (A : Around) (outer : List Env) (s : Shared) (H : Hp) (E : XK), Room k (A.deeper (envOfC qual (defScope st) s.heap.objs.size f cdv)) → PSs (cxOf CX0 P w K mg base N qual (defScope st) f cdv A outer s H E).nox (defBody st) t)
    (hb : ∀ (H : Hp) (vs : List V) (Q : VK) (E : XK), sp vs H Q E → t { nx := fun _ H' => Q .non H', rt := Q } (start N vs) H) : MthI P w K mg base CX0 (k + 1) C m ps sp := by
  obtain ⟨f, fd, hm, F, b, fi⟩ := F.ex
  exact ⟨f, fd, hm, F.ok S len fun cdv A outer s H vs Q E hr h => ⟨t, hd f cdv A outer s H E hr, hb H vs Q E h⟩, b, fi⟩
theorem MunI.okX {m qual : Str} {st : Stmt} {N ps : List Str} {k : Nat} {sp : Sp} (F : MunI K C m qual st ps) (S : FnScope N ps (defScope st)) (len : ∀ vs H Q E, sp vs H Q E → vs.length = ps.length) {t : XK → TS}
    (hd : ∀ (f : Addr) (cdv : Value) (A : Around) (outer : List Env) (s : Shared) (H : Hp) (E : XK), Room k (A.deeper (envOfC qual (defScope st) s.heap.objs.size f cdv)) → PSs (cxOf (L2.CX P w) P w K mg base N qual (defScope st) f cdv A outer s H E) (defBody st) (t E))
    (hb : ∀ (H : Hp) (vs : List V) (Q : VK) (E : XK), sp vs H Q E → t E { nx := fun _ H' => Q .non H', rt := Q } (start N vs) H) : MthI P w K mg base (L2.CX P w) (k + 1) C m ps sp := by
  obtain ⟨f, fd, hm, F, b, fi⟩ := F.ex
  exact ⟨f, fd, hm, F.okX S len fun cdv A outer s H vs Q E hr h => ⟨t E, hd f cdv A outer s H E hr, hb H vs Q E h⟩, b, fi⟩
theorem FunI.okX {x : Str} {st : Stmt} {N ps : List Str} {k : Nat} {sp : Sp} (F : FunI K mg x st ps) (S : FnScope N ps (defScope st)) (len : ∀ vs H Q E, sp vs H Q E → vs.length = ps.length) {t : XK → TS}
    (hd : ∀ (f : Addr) (cdv : Value) (A : Around) (outer : List Env) (s : Shared) (H : Hp) (E : XK), Room k (A.deeper (envOfC x (defScope st) s.heap.objs.size f cdv)) → PSs (cxOf (L2.CX P w) P w K mg base N x (defScope st) f cdv A outer s H E) (defBody st) (t E))
    (hb : ∀ (H : Hp) (vs : List V) (Q : VK) (E : XK), sp vs H Q E → t E { nx := fun _ H' => Q .non H', rt := Q } (start N vs) H) : FnI P w K mg base (L2.CX P w) (k + 1) x ps sp := by
  obtain ⟨f, fd, hm, F, b⟩ := F.ex
  exact ⟨f, fd, hm, F.kp, F.okX S len fun cdv A outer s H vs Q E hr h => ⟨t E, hd f cdv A outer s H E hr, hb H vs Q E h⟩, b⟩
end
section
variable {X : Cx} {CX : CXT} {k j : Nat} {C : Addr} {ps : List Str} {sp : Sp} {E : XK} {m : Str} {pos apos : Pos} {o e : Expr} {es : List Expr} {ta : TE} {t : TA}
end
section
variable {X : Cx} {CX : CXT} {k j : Nat} {C : Addr} {ps : List Str} {sp : Sp} {E : XK} {pins : List (Addr × Obj)} {σ : L2.St} {H : Hp} {s : Shared}
end
end TP

namespace TP
open PySem PySem.Spec PyProof.Rows L2
structure Room (k : Nat) (A : Around) : Prop extends L2.Room k A where
  gd : A.guards = some []
section
variable {j k : Nat} {A : Around}
theorem Room.mono (r : Room k A) (h : j ≤ k) : Room j A := ⟨r.toRoom.mono h, r.gd⟩
theorem Room.deeper (r : Room (k + 1) A) (env : Env) : Room k (A.deeper env) := ⟨r.toRoom.deeper env, r.gd⟩
theorem Room.in1 (r : Room (k + 1) A) : Room k A.in1 := ⟨r.toRoom.in1, r.gd⟩
end
structure FnOk (P : Program) (w : World) (K : PySem.W.Frag) (mg : Str → Option Value) (base : Heap) (CX : CXT) (k : Nat) (f : Addr) (fd : FuncData) (ps : List Str) (sp : Sp) : Prop where
  len : ∀ vs H Q E, sp vs H Q E → vs.length = ps.length
  run : ∀ (A : Around) (outer : List Env) (s : Shared) (H : Hp) (args : Args) (us : List Value) (vs : List V) (Q : VK) (E : XK), Room k A → Env0 P w K mg base A outer s H → BindsTo s fd args (ps.zip us) → Vals vs us → sp vs H Q E →
    codeAny (model P w) A (.call (.ref f) args) (CR CX outer P w H s Q E) s
section
variable {P : Program} {w : World} {K : PySem.W.Frag} {mg : Str → Option Value} {base : Heap} {CX : CXT} {j k : Nat} {f : Addr} {fd : FuncData} {ps : List Str} {sp : Sp}
theorem FnOk.mono (F : FnOk P w K mg base CX j f fd ps sp) (h : j ≤ k) : FnOk P w K mg base CX k f fd ps sp :=
  ⟨F.len, fun A outer s H args us vs Q E hr => F.run A outer s H args us vs Q E (hr.mono h)⟩
theorem fn_body {name qual : Str} {params : Arguments} {body : List Stmt} {scope : Scope} {dV kV doc pm cdv ct oc : Value} {an od : Option Addr} {osl : Array (Option Value)} {N : List Str}
    (lk : K.lookup f = some ⟨oc, od, .func (PySem.W.fnOf name qual params body scope dV kV doc pm an cdv ct), osl⟩) (hcd : PySem.W.codeIn K cdv qual = true) (S : FnScope N ps scope)
    (len : ∀ vs H Q E, sp vs H Q E → vs.length = ps.length)
    (hbody : ∀ (A : Around) (outer : List Env) (s : Shared) (H : Hp) (vs : List V) (Q : VK) (E : XK), Room k (A.deeper (envOfC qual scope s.heap.objs.size f cdv)) → sp vs H Q E →
      ∃ t, PSs (cxOf CX P w K mg base N qual scope f cdv A outer s H E) body t ∧ t { nx := fun _ H' => Q .non H', rt := Q } (start N vs) H) :
    FnOk P w K mg base CX (k + 1) f (PySem.W.fnOf name qual params body scope dV kV doc pm an cdv ct) ps sp where
  len := len
  run := by
    intro A outer s H args us vs Q E hr e0 hb r hsp
    have keep : ∀ b o, base.get? b = some o → s.heap.get? b = some o := fun b o e => (e0.bs b o e).1
    have KX : K.In s.heap := e0.mod.kin.keeps keep
    refine codeAny_call_function hr.depth (KX _ _ lk) rfl S.co S.gen rfl (PySem.W.codeRec_of KX hcd) (hb _ _ _ _ (wpAny_newFunctionEnv_cells S.kind (fun y hy => ?_) fun env he s1 x => ?_))
    · exact (S.par y.1 (List.of_mem_zip hy).1).imp id fun q => ⟨q, PySem.W.cellsFrom_some _ _ _ (.inl q)⟩
    · subst he
      obtain ⟨t, ht, hq⟩ := hbody A outer s H vs Q E (hr.deeper _) hsp
      refine ⟨(e0.mod.nolimit.keeps keep).keeps x.toInCall.keep, codeAny_func (wpAny_mono (ht.run [] s1 (start N vs) H _ (inv_start S hr.hd e0 (len _ _ _ _ hsp) r x) hq) (fun fl s' hs => ?_) fun e s' hs => hs)⟩
      cases fl with
      | ret u => exact let ⟨v, _, H', J, rv, q⟩ := hs; ⟨v, H', J.os, J.bare, J.base, J.hok, rv, q⟩
      | next => exact let ⟨_, H', J, q⟩ := hs; ⟨V.non, H', J.os, J.bare, J.base, J.hok, rfl, q⟩
      | brk => exact let ⟨_, _, _, q⟩ := hs; q.elim
      | cont => exact let ⟨_, _, _, q⟩ := hs; q.elim
theorem okG {x qual : Str} {st : Stmt} {N : List Str} (F : Fun K x qual st f fd) (S : FnScope N ps (defScope st)) (len : ∀ vs H Q E, sp vs H Q E → vs.length = ps.length)
    (hbody : ∀ (cdv : Value) (A : Around) (outer : List Env) (s : Shared) (H : Hp) (vs : List V) (Q : VK) (E : XK), Room k (A.deeper (envOfC qual (defScope st) s.heap.objs.size f cdv)) → sp vs H Q E →
      ∃ t, PSs (cxOf (L2.CX P w) P w K mg base N qual (defScope st) f cdv A outer s H E) (defBody st) t ∧ t { nx := fun _ H' => Q .non H', rt := Q } (start N vs) H) : FnOk P w K mg base (L2.CX P w) (k + 1) f fd ps sp := by
  obtain ⟨oc, od, kV, doc, pm, an, cdv, ct, osl, rfl, lk, hcd⟩ := F.ex
  exact fn_body lk hcd S len fun A outer s H vs Q E hr hsp => hbody cdv A outer s H vs Q E hr hsp
end
section
variable {X : Cx} {CX : CXT} {k : Nat} {f : Addr} {fd : FuncData} {ps : List Str} {sp : Sp} {E : L2.St → XK}
theorem run_fnS {pins : List (Addr × Obj)} {σ : L2.St} {H : Hp} {s : Shared} {Q : VK} {us : List Value} {vs : List V} (F : FnOk X.prog X.w X.K X.mg X.base CX k f fd ps sp) (hr : Room k X.A) (hb : Binds X.K fd ps []) (hx : PassesAt CX X σ (E σ))
    (I : Inv X pins σ H s) (r : Vals vs us) (h : sp vs H Q (E σ)) : wpAny (model X.prog X.w) X.A (call (.ref f) us) (EP X pins σ Q) X.xe s := by
  have b := hb s us I.kIn (by rw [List.append_nil, ← r.length]; exact F.len _ _ _ _ h)
  rw [List.append_nil] at b
  refine wpAny_call (codeAny_mono (F.run X.A X.stack s H ⟨us, []⟩ us vs Q (E σ) hr I.env0 b r h) fun r s' hq => ?_)
  match r, hq with
  | .error e, hq => exact hx pins H s e s' I hq
  | .ok (.ret u), hq => exact I.after hq
  | .ok .next, hq | .ok .brk, hq | .ok .cont, hq => exact False.elim hq
end
end TP

namespace TP
open PySem PySem.Spec PyProof.Rows L2
theorem top_call {P : Program} {w : World} {K : PySem.W.Frag} {mg mb : Str → Option Value} {CX : CXT} {k : Nat} {fa a : Addr} {fd : FuncData} {x : Str} {sp : Sp} {s : Shared} {vs : List Value} {ns : List Int}
    (KX : K.In s.heap) (hns : s.heap.Ns mainGlobals mg) (hb : s.heap.Ns builtinsNs mb) (hbb : ∀ x : Str, x ≠ "__name__" → mb x = bootBuiltins x) (hlim : s.heap.NoLimit) (hg : s.gens = #[])
    (ha : s.heap.get? a = some { cls := .type "list", data := .seq vs.toArray }) (hi : IntsAre vs ns) (hl : ns.length ≤ sizeLine) (hr : Room k callerA)
    (F : ∀ base : Heap, K.In base → base.Ns mainGlobals mg → FnOk P w K mg base CX k fa fd [x] sp) (hbind : ∀ (s : Shared) (u : Value), BindsTo s fd ⟨[u], []⟩ [(x, u)])
    (hsp : ∀ H : Hp, Only H → SqL K H a (ns.map V.int) → sp [.ref a] H (fun v _ => v = .bl true) fun _ _ _ => False)
    (hCX : ∀ H e s', CX [] H s (fun _ _ _ => False) e s' → False) :
    codeAny (model P w) callerA (.call (.ref fa) ⟨[.ref a], []⟩) (fun r s' => r = .ok (.ret (.bool true)) ∧ OldK s.heap s'.heap ∧ s'.os = s.os ∧ AllBare s'.gens) s := by
  have nofs : ∀ b : Addr, b ∉ frs [] := fun b z => absurd (show b ∈ ([] : List Addr) from z) (by simp)
  have main : ∀ H : Hp, Only H → SqL K H a (ns.map V.int) → HOk P w H s.heap → (∀ b, H b ≠ none → b = a ∧ K.lookup a = none) →
      codeAny (model P w) callerA (.call (.ref fa) ⟨[.ref a], []⟩) (fun r s' => r = .ok (.ret (.bool true)) ∧ OldK s.heap s'.heap ∧ s'.os = s.os ∧ AllBare s'.gens) s := fun H hO hS hok hA => by
    have none_of : ∀ {b : Addr}, (b = a → K.lookup a = none → False) → H b = none := fun {b} h => by
      cases q : H b with
      | none => rfl
      | some u => exact (h (hA b (by rw [q]; exact fun z => nomatch z)).1 (hA b (by rw [q]; exact fun z => nomatch z)).2).elim
    have ns_of : ∀ {b : Addr} {m : Str → Option Value}, s.heap.Ns b m → (hidT s.heap H).Ns b m := fun {b m} ⟨o, es, ep, e, d, r⟩ => ⟨o, es, ep, hidT_get e (none_of fun eb _ => by
      subst eb
      rw [ha] at e
      cases e
      exact nomatch (show Data.seq vs.toArray _ = Data.dict es ep from d)), d, r⟩
    have kin : K.In (hidT s.heap H) := fun b o e => hidT_get (KX b o e) (none_of fun eb z => by subst eb; rw [z] at e; exact nomatch e)
    have md : Mod K mg (hidT s.heap H) := ⟨kin, ns_of hns, ⟨mb, ns_of hb, hbb⟩, let ⟨mc, h1, h2⟩ := hlim; ⟨mc, ns_of h1, h2⟩⟩
    refine codeAny_mono ((F _ kin (ns_of hns)).run callerA [] s H ⟨[.ref a], []⟩ [.ref a] [.ref a] _ _ hr ⟨rfl, md, fun b o e => of_hidT e, Nat.le_of_eq (hidT_size _ _), trivial, fun b hb => absurd hb (nofs b), hok, .of_eq hg⟩ (hbind s (.ref a)) (.cons rfl .nil) (hsp H hO hS)) fun r s' h => ?_
    match r, h with
    | .error e, h => exact (hCX H e s' h).elim
    | .ok .next, h | .ok .brk, h | .ok .cont, h => exact False.elim h
    | .ok (.ret u), ⟨v, H', os, bare, un, hok', r', q⟩ =>
      obtain rfl : v = V.bl true := q
      obtain rfl : u = Value.bool true := r'
      refine ⟨rfl, OldK.of_keep fun b o e => ?_, os, bare⟩
      rcases hO b with z | ⟨ob, xs, z⟩
      · exact un.keep b o e z (nofs b) (by simp)
      · have e1 := (hok b _ z).1
        rw [e] at e1
        cases e1
        exact (hok' b _ (un.frzs b _ _ z)).1
  have lenV := hi.length
  cases hk : K.lookup a with
  | some o =>
    have e := KX a o hk
    rw [ha] at e
    cases e
    exact main (fun _ => none) (fun _ => .inl rfl) (.inr ⟨_, vs.toArray, _, hk, rfl, rfl, rfl, by rw [List.size_toArray, lenV]; exact hl, by simpa using vals_ints hi⟩) (fun b u z => nomatch (show (none : Option HO) = some u from z)) fun b z => absurd rfl z
  | none =>
    refine main (fun b => if b = a then some (.frz { cls := .type "list", data := .seq vs.toArray } (.lst (ns.map V.int))) else none) (fun b => ?_) (.inl (.inr ⟨{ cls := .type "list", data := .seq vs.toArray }, if_pos rfl⟩)) (fun b u z => ?_) (fun b z => ?_)
    · by_cases hb : b = a
      · exact .inr ⟨_, _, if_pos hb⟩
      · exact .inl (if_neg hb)
    · by_cases hb : b = a
      · subst hb
        cases (if_pos rfl).symm.trans z
        exact ⟨ha, by rw [List.length_map]; exact hl, vs, _, vals_ints hi, ha⟩
      · exact nomatch (if_neg hb).symm.trans z
    · by_cases hb : b = a
      · exact ⟨hb, hk⟩
      · exact absurd (if_neg hb) z
theorem walk_top {l : PySem.W.OpenLaw} {n k : Nat} {q : Program} {loose : List Str} {XP : (Str → Option Value) → Heap → Prop} {YP : World → Heap → Prop} {d : DefRec} {K : Params → PySem.W.Frag} {CX : World → CXT} {sp : World → Sp} {x : Str}
    (hn : l.most = some n) (hn2 : n ≤ sizeLine) (hdf : d.params.defaults = []) (hr : Room k callerA) (hY : ∀ (w : World) (h : Heap), YP w h → (K w.params).In h)
    (F : ∀ (w : World) (mg : Str → Option Value) (fa : Addr) (h : Heap), (K w.params).In h → h.Ns mainGlobals mg → mg d.name = some (.ref fa) →
      ∃ fd : FuncData, (∀ (s : Shared) (u : Value), BindsTo s fd ⟨[u], []⟩ [(x, u)]) ∧ ∀ base : Heap, (K w.params).In base → base.Ns mainGlobals mg → FnOk l.prog w (K w.params) mg base (CX w) k fa fd [x] (sp w))
    (hsp : ∀ (w : World) (H : Hp) (a : Addr) (ns : List Int), ns.length ≤ n → Only H → SqL (K w.params) H a (ns.map V.int) → sp w [.ref a] H (fun v _ => v = .bl true) fun _ _ _ => False)
    (hCX : ∀ (w : World) (H : Hp) (s : Shared) (e : Value) (s' : Shared), CX w [] H s (fun _ _ _ => False) e s' → False) :
    PySem.W.WalkO q loose XP YP l.row.toRowW d [] (fun f vs => PySem.call f vs) := by
  refine Att.attach_call hn hdf fun w s₀ s₁ mg mb fa o pm cd doc a vs ns G Y ho hd hcd hmg hobj hints hlen hg => ?_
  obtain ⟨fd, hb, hF⟩ := F w mg fa _ (hY w _ Y) G.T.g hmg
  exact top_call (hY w _ Y) G.T.g G.T.b G.T.builtins G.T.nolimit hg hobj hints (Nat.le_trans hlen hn2) hr hF hb (fun H hO hS => hsp w H a ns hlen hO hS) fun H e s' => hCX w H s₁ e s'
end TP

namespace TP
open PySem PySem.Spec PyProof.Rows L2
abbrev noW : WX := fun _ _ _ _ => False
abbrev wOut (E : XK) : WX := fun cls d _ H => E cls d H
structure FnZ (P : Program) (w : World) (K : PySem.W.Frag) (mg : Str → Option Value) (base : Heap) (k : Nat) (x : Str) (ps : List Str) (sp : Sp) : Prop where
  ex : ∃ (f : Addr) (fd : FuncData), mg x = some (.ref f) ∧ PySem.W.keepIn K (.ref f) = true ∧ FnOk P w K mg base (L2.CX P w) k f fd ps sp ∧ Binds K fd ps []
structure MthZ (P : Program) (w : World) (K : PySem.W.Frag) (mg : Str → Option Value) (base : Heap) (k : Nat) (C : Addr) (m : Str) (ps : List Str) (sp : Sp) : Prop where
  ex : ∃ (f : Addr) (fd : FuncData), Meth K C m f ∧ FnOk P w K mg base (L2.CX P w) k f fd ps sp ∧ Binds K fd ps [] ∧ PySem.W.fnIn K f = true
structure StaZ (P : Program) (w : World) (K : PySem.W.Frag) (mg : Str → Option Value) (base : Heap) (k : Nat) (C : Addr) (m : Str) (ps : List Str) (sp : Sp) : Prop where
  ex : ∃ (p f : Addr) (fd : FuncData) (mc : Value), ClX.CRead K C mc ∧ PySem.W.findCls K (.ref C) mc m = some (.get (.builtin "staticmethod.__get__") (.ref p) .none (.ref C)) ∧ (∃ rest, PySem.W.recIn K p "staticmethod" = some (.ref f :: rest)) ∧ PySem.W.keepIn K (.ref f) = true ∧
    FnOk P w K mg base (L2.CX P w) k f fd ps sp ∧ Binds K fd ps []
section
variable {P : Program} {w : World} {K : PySem.W.Frag} {mg : Str → Option Value} {base : Heap} {C : Addr}
theorem FunI.okZ {x : Str} {st : Stmt} {N ps : List Str} {k : Nat} {sp : Sp} (F : FunI K mg x st ps) (S : FnScope N ps (defScope st)) (len : ∀ vs H Q E, sp vs H Q E → vs.length = ps.length) {t : XK → TS}
    (hd : ∀ (f : Addr) (cdv : Value) (A : Around) (outer : List Env) (s : Shared) (H : Hp) (E : XK), Room k (A.deeper (envOfC x (defScope st) s.heap.objs.size f cdv)) → PSs (cxOf (L2.CX P w) P w K mg base N x (defScope st) f cdv A outer s H E) (defBody st) (t E))
    (hb : ∀ (H : Hp) (vs : List V) (Q : VK) (E : XK), sp vs H Q E → t E { nx := fun _ H' => Q .non H', rt := Q } (start N vs) H) : FnZ P w K mg base (k + 1) x ps sp := by
  obtain ⟨f, fd, hm, F, b⟩ := F.ex
  exact ⟨f, fd, hm, F.kp, okG F S len fun cdv A outer s H vs Q E hr h => ⟨t E, hd f cdv A outer s H E hr, hb H vs Q E h⟩, b⟩
theorem MunI.okZ {m qual : Str} {st : Stmt} {N ps : List Str} {k : Nat} {sp : Sp} (F : MunI K C m qual st ps) (S : FnScope N ps (defScope st)) (len : ∀ vs H Q E, sp vs H Q E → vs.length = ps.length) {t : XK → TS}
    (hd : ∀ (f : Addr) (cdv : Value) (A : Around) (outer : List Env) (s : Shared) (H : Hp) (E : XK), Room k (A.deeper (envOfC qual (defScope st) s.heap.objs.size f cdv)) → PSs (cxOf (L2.CX P w) P w K mg base N qual (defScope st) f cdv A outer s H E) (defBody st) (t E))
    (hb : ∀ (H : Hp) (vs : List V) (Q : VK) (E : XK), sp vs H Q E → t E { nx := fun _ H' => Q .non H', rt := Q } (start N vs) H) : MthZ P w K mg base (k + 1) C m ps sp := by
  obtain ⟨f, fd, hm, F, b, fi⟩ := F.ex
  exact ⟨f, fd, hm, okG F S len fun cdv A outer s H vs Q E hr h => ⟨t E, hd f cdv A outer s H E hr, hb H vs Q E h⟩, b, fi⟩
end
def tCallZ (sp : Sp) (W : WX) (t : TA) : TE := fun σ H Q => t σ H fun vs H1 => sp vs H1 Q (WE W σ)
section
variable {X : Cx} {k j : Nat} {C : Addr} {ps : List Str} {sp : Sp} {W : WX} {x m : Str} {p pos apos : Pos} {o e : Expr} {es : List Expr} {ta : TE} {t : TA}
theorem pe_callZ (I : FnZ X.prog X.w X.K X.mg X.base k x ps sp) (hr : Room j X.A) (hk : k ≤ j) (tk : Takes X W) (ha : PA X (e :: es) t) (hg : Gl X x := by rfl)
    (hdb : (x == ("__debug__" : Str)) = false := by decide) (he : starEach (e :: es) X.env = (false, eval e X.env) :: starEach es X.env := by rfl) (hpl : (backTo pos (starEach es X.env)).any (·.1) = false := by rfl) :
    PE X (.Call (.Name x p) (e :: es) [] pos) (tCallZ sp W t) := by
  obtain ⟨f, fd, hm, kp, F, b⟩ := I.ex
  refine ⟨fun pins s σ H Q I h => ?_⟩
  refine wpAny_Call_Name_kw (ld_glob I hg hm ?_ hdb)
  refine PySem.W.callWith_K (h₀ := X.base) I.ok.mod.kin kp (thn (ha.run pos pins s σ H _ I h) fun us s1 ⟨vs, H1, I1, r, q⟩ => ⟨I1.kIn, ?_⟩) he hpl
  exact run_fnS (E := WE W) F (hr.mono hk) b (passAt tk σ) I1 r q
end
end TP

namespace TP
open PySem PySem.Spec PyProof.Rows L2
structure ErrI (P : Program) (K : PySem.W.Frag) (mg : Str → Option Value) (x : Str) (C : Addr) (fld : Str) : Prop where
  at_ : mg x = some (.ref C)
  xf : XfC K C
  is_ : ExcC K C
  no : PySem.W.findIn K (.ref C) fld = some none
  ex : ∃ (fI : Addr) (fd : FuncData) (qual : Str), IniTxt P K mg C fI fld qual fd ∧ PySem.W.findIn K (.ref C) "__init__" = some (some (.ref fI)) ∧ PySem.W.typeIn K (.ref fI) = some (.type "function") ∧ Binds K fd ["self", fld] []
section
variable {X : Cx} {W : WX} {x fld : Str} {C : Addr} {j : Nat} {e : Expr} {ta : TA} {p p1 pos : Pos}
end
end TP

namespace TP
open PySem PySem.Spec PyProof.Rows L2
structure ErrK (P : Program) (K : PySem.W.Frag) (mg : Str → Option Value) (x : Str) (C : Addr) (fld : Str) : Prop where
  at_ : mg x = some (.ref C)
  xf : XfC K C
  is_ : ExcC K C
  no : PySem.W.findIn K (.ref C) fld = some none
  ex : ∃ (fI : Addr) (fd : FuncData) (qual : Str), IniTxtK P K mg C fI fld qual fd ∧ PySem.W.findIn K (.ref C) "__init__" = some (some (.ref fI)) ∧ PySem.W.typeIn K (.ref fI) = some (.type "function") ∧ Binds K fd ["self", fld] []
section
variable {X : Cx} {W : WX} {x fld : Str} {C : Addr} {j : Nat} {e : Expr} {ta : TA} {p p1 pos : Pos}
end
end TP

namespace TP
open PySem PySem.Spec PySem.Calls PyProof.Rows
open L2
section
variable {X : Cx} {a b e : Expr} {ta tb : TE} {pos : Pos}
end
end TP

namespace TP
open PySem PySem.Spec PyProof.Rows L2
structure OwnC (K : PySem.W.Frag) (C : Addr) : Prop where
  cls : Cls K C
  ca : PySem.W.findIn K (.ref C) "__class__" = some (some (.builtin "object.__class__"))
  cg : PySem.W.specialIn K (.builtin "object.__class__") "__get__" = some (some (.builtin "getset_descriptor.__get__"))
  ct : PySem.W.takesIn K (.builtin "object.__class__") = some true
  cm : PySem.W.mroIn K C (.type "object") = some true
  first : PySem.W.selfFirst K C = true
  nseq : PySem.W.noSeq K C = true
  ne : PySem.W.findIn K (.ref C) "__ne__" = some (some (.builtin "object.__ne__"))
theorem OwnC.ty {K : PySem.W.Frag} {C a dx : Addr} {H : Hp} {fs : List (Str × V)} (T : OwnC K C) (h : H a = some (.ins C dx fs)) : TyX K H (.ref a) (.ref C) := .base (.ins h T.cls T.ca T.cg T.ct T.cm)
theorem OwnC.self {K : PySem.W.Frag} {C : Addr} : PySem.W.notFirst K C (.ref C) = true := by unfold PySem.W.notFirst; rw [beq_self_eq_true]; rfl
section
variable {X : Cx} {k j : Nat} {C : Addr} {ps : List Str} {sp : Sp} {W : WX}
structure MixC (K : PySem.W.Frag) (C : Addr) (m rm : Str) : Prop where
  r : ∃ g : Addr, PySem.W.findIn K (.ref C) rm = some (some (.ref g))
  fo : ∃ v, PySem.W.findIn K (.type "int") m = some v
  ro : ∃ v, PySem.W.findIn K (.type "int") rm = some v
  sub : PySem.W.subIn K (.type "int") (.ref C) = some false
end
end TP

namespace TP
open PySem PySem.Spec PyProof.Rows L2
structure MakZ (P : Program) (w : World) (K : PySem.W.Frag) (mg : Str → Option Value) (base : Heap) (k : Nat) (x : Str) (C : Addr) (ps : List Str) (sp : Sp) (ds : List Value) : Prop where
  ex : ∃ (f : Addr) (fd : FuncData), mg x = some (.ref C) ∧ Mk K C f ∧ FnOk P w K mg base (L2.CX P w) k f fd ps sp ∧ Binds K fd ps ds
structure MakI (K : PySem.W.Frag) (mg : Str → Option Value) (x : Str) (C : Addr) (m qual : Str) (st : Stmt) (ps : List Str) (ds : List Value) : Prop where
  ex : ∃ (f : Addr) (fd : FuncData), mg x = some (.ref C) ∧ Mk K C f ∧ (Fun K m qual st f fd ∨ ∃ dvs kws, FunD K m qual (defArgs st) (defBody st) (defScope st) dvs kws f fd) ∧ Binds K fd ps ds
section
variable {P : Program} {w : World} {K : PySem.W.Frag} {mg : Str → Option Value} {base : Heap} {C : Addr}
theorem okGD {CX : CXT} {x qual : Str} {params : Arguments} {body : List Stmt} {scope : Scope} {dvs : List V} {kws : List (Str × V)} {f : Addr} {fd : FuncData} {N ps : List Str} {k : Nat} {sp : Sp} (F : FunD K x qual params body scope dvs kws f fd) (S : FnScope N ps scope) (len : ∀ vs H Q E, sp vs H Q E → vs.length = ps.length)
    (hbody : ∀ (cdv : Value) (A : Around) (outer : List Env) (s : Shared) (H : Hp) (vs : List V) (Q : VK) (E : XK), Room k (A.deeper (envOfC qual scope s.heap.objs.size f cdv)) → sp vs H Q E →
      ∃ t, PSs (cxOf CX P w K mg base N qual scope f cdv A outer s H E) body t ∧ t { nx := fun _ H' => Q .non H', rt := Q } (start N vs) H) : FnOk P w K mg base CX (k + 1) f fd ps sp := by
  obtain ⟨oc, od, dV, kV, doc, pm, an, cdv, ct, osl, rfl, lk, hcd, _, _⟩ := F.ex
  exact fn_body lk hcd S len fun A outer s H vs Q E hr hsp => hbody cdv A outer s H vs Q E hr hsp
theorem MakI.okZ {x m qual : Str} {st : Stmt} {N ps : List Str} {ds : List Value} {k : Nat} {sp : Sp} (F : MakI K mg x C m qual st ps ds) (S : FnScope N ps (defScope st)) (len : ∀ vs H Q E, sp vs H Q E → vs.length = ps.length) {t : XK → TS}
    (hd : ∀ (f : Addr) (cdv : Value) (A : Around) (outer : List Env) (s : Shared) (H : Hp) (E : XK), Room k (A.deeper (envOfC qual (defScope st) s.heap.objs.size f cdv)) → PSs (cxOf (L2.CX P w) P w K mg base N qual (defScope st) f cdv A outer s H E) (defBody st) (t E))
    (hb : ∀ (H : Hp) (vs : List V) (Q : VK) (E : XK), sp vs H Q E → t E { nx := fun _ H' => Q .non H', rt := Q } (start N vs) H) : MakZ P w K mg base (k + 1) x C ps sp ds := by
  obtain ⟨f, fd, at_, M, F, b⟩ := F.ex
  refine ⟨f, fd, at_, M, ?_, b⟩
  rcases F with F | ⟨dvs, kws, F⟩
  · exact okG F S len fun cdv A outer s H vs Q E hr h => ⟨t E, hd f cdv A outer s H E hr, hb H vs Q E h⟩
  · exact okGD F S len fun cdv A outer s H vs Q E hr h => ⟨t E, hd f cdv A outer s H E hr, hb H vs Q E h⟩
end
section
variable {X : Cx} {k j : Nat} {C : Addr} {ps : List Str} {sp : Sp} {W : WX} {x : Str} {p pos : Pos} {e : Expr} {es : List Expr} {t : TA} {ds : List Value} {dvs : List V}
end
end TP

namespace TP
open PySem PySem.Spec PyProof.Rows L2
section
variable {X : Cx} {o e value : Expr} {f : Str} {pos pos' : Pos} {ta tv : TE} {C : Addr}
end
end TP

namespace TP
open PySem PySem.Spec PyProof.Rows L2
section
variable {σ : L2.St} {H : Hp} {Q : VK} {QB : Bool → Hp → Prop} {QA : List V → Hp → Prop} {D : Ends} {ta tb te to ti : TE} {tl : TA} {ts us : TS} {x y v : V} {i j : Int} {K : PySem.W.Frag} {C : Addr} {sp : Sp} {W : WX}
end
def kinds : List String := ["NoneType", "bool", "int", "str", "list", "tuple", "bytes", "dict"]
def Kd (K : PySem.W.Frag) (H : Hp) (v : V) (t : String) : Prop := TyX K H v (.type t) ∧ t ∈ kinds
def isK (t T : String) : Bool := t == T || (t == "bool" && T == "int")
theorem kit_ty2 {K : PySem.W.Frag} {t T : String} {r : Bool} (h : PySem.W.kitOne [] (.type t) (.type T) = some r) : PySem.W.kitOne K (.type t) (.type T) = some r := by
  exact h
section
variable {K : PySem.W.Frag} {H : Hp}
end
def askedK : List String := ["int", "bool", "str", "list", "tuple", "bytes"]
theorem kit_all : ∀ t ∈ kinds, ∀ T ∈ askedK, PySem.W.kitOne [] (.type t) (.type T) = some (isK t T) := by decide +kernel
theorem Kd.same {K : PySem.W.Frag} {H H' : Hp} {v : V} {t : String} (h : Kd K H v t) (e : Same H H') : Kd K H' v t := by
  obtain ⟨h, m⟩ := h
  refine ⟨?_, m⟩
  cases h with
  | base b =>
    generalize hg : Value.type t = tt at b
    cases b with
    | non => cases hg; exact .base .non
    | bl x => cases hg; exact .base (.bl x)
    | int i => cases hg; exact .base (.int i)
    | str x => cases hg; exact .base (.str x)
    | flt x => cases hg; exact .base (.flt x)
    | lst h => cases hg; exact .base (.lst (e _ _ h))
    | frz h => cases hg; exact .base (.frz (e _ _ h))
    | tup h => cases hg; exact .base (.tup (e _ _ h))
    | dK h => cases hg; exact .base (.dK (e _ _ h))
    | dT h => cases hg; exact .base (.dT (e _ _ h))
    | ins => cases hg
  | byt b => exact .byt b
  | set h => exact .set (e _ _ h)
  | kList a c => exact .kList a c
  | kTuple a c => exact .kTuple a c
  | kDict a c => exact .kDict a c
  | fTuple h => exact .fTuple (e _ _ h)
  | fDict h => exact .fDict (e _ _ h)
def YP (ps : List (V × V)) : Nat → Hp → V → Hp → Prop := fun i H v H' => ∃ T x y, v = .ref T ∧ H T = none ∧ H' = upd H T (.tup [x, y]) ∧ ps[i]? = some (x, y)
section
variable {K : PySem.W.Frag} {a b : Addr} {xs ys : List V}
end
section
variable {σ : L2.St} {H : Hp} {Q : VK} {Dn : Addr} {te : TE} {tt : TT} {vs : List Nat} {K : PySem.W.Frag} {D : Ends} {tb : TS} {n1 n2 : Nat}
end
end TP

namespace MR
open PySem PySem.Spec PyProof.Rows L2 TP
inductive D where
  | non | bl (b : Bool) | int (i : Int) | str (x : Str) | byt (b : Array UInt8) | ty (n : String) | cls (c : Nat)
  | tup (ds : List D) | lst (ds : List D) | dic (ks : List Key) (ds : List D) | obj (c : Nat) (ns : List Str) (ds : List D) | ref (n : Nat) | scr (is : List Int) | fdc (ks : List Key) (ds : List D)
  deriving Inhabited
abbrev Sto := List (Option D)
inductive Slot where
  | no | val (d : D) | own (b : Bool) (d : D) | exn (c : Nat) (ns : List Str) (ds : List D)
  deriving Inhabited
abbrev Env := List Slot
section
variable (K : PySem.W.Frag) (Γ : Nat → Addr) (ρ : List Addr) (R : Hp)
mutual
def RepC : D → V → Prop
  | .non, v => v = .non
  | .bl b, v => v = .bl b
  | .int i, v => v = .int i
  | .str x, v => v = .str x
  | .byt b, v => v = .byt b
  | .ty n, v => v = .ty n
  | .cls c, v => v = .ref (Γ c)
  | .ref n, v => ∃ a, ρ[n]? = some a ∧ v = .ref a
  | .tup ds, v => ∃ a vs, v = .ref a ∧ SqT K R a vs ∧ vs.length ≤ sizeLine ∧ RepsC ds vs
  | .lst ds, v => ∃ a vs, v = .ref a ∧ R a = some (.lst vs) ∧ vs.length ≤ sizeLine ∧ RepsC ds vs
  | .scr is, v => ∃ a, v = .ref a ∧ SqL K R a (is.map V.int) ∧ is.length ≤ sizeLine
  | .dic ks ds, v => ∃ a vs, v = .ref a ∧ Rd R a (.dK (ks.zip vs)) ∧ ks.length = vs.length ∧ RepsC ds vs
  | .fdc ks ds, v => ∃ a o vs, v = .ref a ∧ R a = some (.frz o (.dK (ks.zip vs))) ∧ ks.length = vs.length ∧ ks.length ≤ sizeLine ∧ RepsC ds vs
  | .obj c ns ds, v => ∃ a dx vs, v = .ref a ∧ R a = some (.ins (Γ c) dx (ns.zip vs)) ∧ ns.length = vs.length ∧ RepsC ds vs
def RepsC : List D → List V → Prop
  | [], vs => vs = []
  | d :: ds, vs => ∃ v ws, vs = v :: ws ∧ RepC d v ∧ RepsC ds ws
end
end
structure Wd where
  R : Hp
  ρ : List Addr
  S : Sto
  H : Hp
section
variable (K : PySem.W.Frag) (Γ : Nat → Addr)
abbrev Rep (w : Wd) (d : D) (v : V) : Prop := RepC K Γ w.ρ w.R d v
abbrev Reps (w : Wd) (ds : List D) (vs : List V) : Prop := RepsC K Γ w.ρ w.R ds vs
def At (w : Wd) (d : D) (a : Addr) : Prop := match d with
  | .lst ds => ∃ vs, w.H a = some (.lst vs) ∧ vs.length ≤ sizeLine ∧ Reps K Γ w ds vs
  | .dic ks ds => ∃ vs, w.H a = some (.dK (ks.zip vs)) ∧ ks.length = vs.length ∧ Reps K Γ w ds vs
  | .obj c ns ds => ∃ dx vs, w.H a = some (.ins (Γ c) dx (ns.zip vs)) ∧ ns.length = vs.length ∧ Reps K Γ w ds vs
  | _ => False
def Live (w : Wd) (a : Addr) : Prop := ∃ (n : Nat) (d : D), w.S[n]? = some (some d) ∧ w.ρ[n]? = some a
structure Ok (w : Wd) : Prop where
  same : Same w.R w.H
  len : w.S.length = w.ρ.length
  cell : ∀ (n : Nat) (d : D), w.S[n]? = some (some d) → ∃ a, w.ρ[n]? = some a ∧ w.R a = none ∧ At K Γ w d a
  inj : ∀ (n m : Nat) (d e : D) (a : Addr), w.S[n]? = some (some d) → w.S[m]? = some (some e) → w.ρ[n]? = some a → w.ρ[m]? = some a → n = m
end
structure Ev (w w' : Wd) : Prop where
  rr : Same w.R w'.R
  pre : w.ρ <+: w'.ρ
  keep : ∀ a o, w.H a = some o → ¬ Live w a → w'.H a = some o
  dom : ∀ a, w'.H a = none → w.H a = none
  newR : ∀ a, w'.R a ≠ none → w.R a = none → w.H a = none ∨ Live w a
  newL : ∀ a, Live w' a → Live w a ∨ w.H a = none
theorem Ev.refl (w : Wd) : Ev w w := ⟨fun _ _ e => e, List.prefix_rfl, fun _ _ e _ => e, fun _ e => e, fun _ h e => absurd e h, fun _ h => .inl h⟩
theorem Ev.trans {w w' w'' : Wd} (h : Ev w w') (g : Ev w' w'') : Ev w w'' where
  rr := h.rr.trans g.rr
  pre := h.pre.trans g.pre
  keep := fun a o e n => g.keep a o (h.keep a o e n) fun l => by
    rcases h.newL a l with l | l
    · exact n l
    · rw [e] at l; cases l
  dom := fun a e => h.dom a (g.dom a e)
  newR := fun a r e => by
    by_cases q : w'.R a = none
    · rcases g.newR a r q with z | z
      · exact .inl (h.dom a z)
      · rcases h.newL a z with z | z
        · exact .inr z
        · exact .inl z
    · exact h.newR a q e
  newL := fun a l => by
    rcases g.newL a l with z | z
    · exact h.newL a z
    · exact .inr (h.dom a z)
section
variable {K : PySem.W.Frag} {Γ : Nat → Addr} {ρ ρ' : List Addr} {R R' : Hp}
theorem sqL_mono {a : Addr} {xs : List V} (s : Same R R') (h : SqL K R a xs) : SqL K R' a xs := s.seq h
theorem sqT_mono {a : Addr} {xs : List V} (s : Same R R') (h : SqT K R a xs) : SqT K R' a xs := Same.sqT s h
mutual
theorem repC_mono (s : Same R R') (p : ρ <+: ρ') : ∀ (d : D) (v : V), RepC K Γ ρ R d v → RepC K Γ ρ' R' d v
  | .non, _, h => h
  | .bl _, _, h => h
  | .int _, _, h => h
  | .str _, _, h => h
  | .byt _, _, h => h
  | .ty _, _, h => h
  | .cls _, _, h => h
  | .ref n, v, h => by
    obtain ⟨a, h1, h2⟩ := (show ∃ a, ρ[n]? = some a ∧ v = .ref a by simpa only [RepC] using h)
    obtain ⟨t, rfl⟩ := p
    simp only [RepC]
    exact ⟨a, by rw [List.getElem?_append_left (List.getElem?_eq_some_iff.mp h1).1]; exact h1, h2⟩
  | .tup ds, v, h => by
    simp only [RepC] at h ⊢
    obtain ⟨a, vs, h1, h2, h3, h4⟩ := h
    exact ⟨a, vs, h1, sqT_mono s h2, h3, repsC_mono s p ds vs h4⟩
  | .lst ds, v, h => by
    simp only [RepC] at h ⊢
    obtain ⟨a, vs, h1, h2, h3, h4⟩ := h
    exact ⟨a, vs, h1, s _ _ h2, h3, repsC_mono s p ds vs h4⟩
  | .scr is, v, h => by
    simp only [RepC] at h ⊢
    obtain ⟨a, h1, h2, h3⟩ := h
    exact ⟨a, h1, sqL_mono s h2, h3⟩
  | .dic ks ds, v, h => by
    simp only [RepC] at h ⊢
    obtain ⟨a, vs, h1, h2, h3, h4⟩ := h
    refine ⟨a, vs, h1, ?_, h3, repsC_mono s p ds vs h4⟩
    rcases h2 with h2 | ⟨o, h2⟩
    · exact .inl (s _ _ h2)
    · exact .inr ⟨o, s _ _ h2⟩
  | .fdc ks ds, v, h => by
    simp only [RepC] at h ⊢
    obtain ⟨a, o, vs, h1, h2, h3, h5, h4⟩ := h
    exact ⟨a, o, vs, h1, s _ _ h2, h3, h5, repsC_mono s p ds vs h4⟩
  | .obj c ns ds, v, h => by
    simp only [RepC] at h ⊢
    obtain ⟨a, dx, vs, h1, h2, h3, h4⟩ := h
    exact ⟨a, dx, vs, h1, s _ _ h2, h3, repsC_mono s p ds vs h4⟩
theorem repsC_mono (s : Same R R') (p : ρ <+: ρ') : ∀ (ds : List D) (vs : List V), RepsC K Γ ρ R ds vs → RepsC K Γ ρ' R' ds vs
  | [], _, h => h
  | d :: ds, vs, h => by
    simp only [RepsC] at h ⊢
    obtain ⟨v, ws, h1, h2, h3⟩ := h
    exact ⟨v, ws, h1, repC_mono s p d v h2, repsC_mono s p ds ws h3⟩
end
theorem reps_len : ∀ {ds : List D} {vs : List V}, RepsC K Γ ρ R ds vs → ds.length = vs.length
  | [], vs, h => by simp only [RepsC] at h; subst h; rfl
  | d :: ds, vs, h => by
    simp only [RepsC] at h
    obtain ⟨v, ws, rfl, _, h3⟩ := h
    rw [List.length_cons, List.length_cons, reps_len h3]
theorem reps_get : ∀ {ds : List D} {vs : List V} {i : Nat} {d : D}, RepsC K Γ ρ R ds vs → ds[i]? = some d → ∃ v, vs[i]? = some v ∧ RepC K Γ ρ R d v
  | [], _, i, d, _, e => by simp at e
  | d' :: ds, vs, i, d, h, e => by
    simp only [RepsC] at h
    obtain ⟨v, ws, rfl, h2, h3⟩ := h
    cases i with
    | zero => simp at e; subst e; exact ⟨v, rfl, h2⟩
    | succ i =>
      obtain ⟨u, h4, h5⟩ := reps_get (i := i) h3 (by simpa using e)
      exact ⟨u, by simpa using h4, h5⟩
theorem reps_get' : ∀ {ds : List D} {vs : List V} {i : Nat} {v : V}, RepsC K Γ ρ R ds vs → vs[i]? = some v → ∃ d, ds[i]? = some d ∧ RepC K Γ ρ R d v := fun {ds vs i v} h e => by
  have hl := reps_len h
  have hi : i < vs.length := (List.getElem?_eq_some_iff.mp e).1
  obtain ⟨d, hd⟩ : ∃ d, ds[i]? = some d := ⟨_, List.getElem?_eq_getElem (by omega)⟩
  obtain ⟨u, h1, h2⟩ := reps_get h hd
  rw [e] at h1
  cases h1
  exact ⟨d, hd, h2⟩
theorem reps_nil : RepsC K Γ ρ R [] [] := rfl
theorem reps_cons {d : D} {v : V} {ds : List D} {vs : List V} (h : RepC K Γ ρ R d v) (t : RepsC K Γ ρ R ds vs) : RepsC K Γ ρ R (d :: ds) (v :: vs) := by
  simp only [RepsC]; exact ⟨v, vs, rfl, h, t⟩
theorem reps_inv {d : D} {ds : List D} {vs : List V} (h : RepsC K Γ ρ R (d :: ds) vs) : ∃ v ws, vs = v :: ws ∧ RepC K Γ ρ R d v ∧ RepsC K Γ ρ R ds ws := by
  simpa only [RepsC] using h
theorem reps_app : ∀ {ds es : List D} {vs us : List V}, RepsC K Γ ρ R ds vs → RepsC K Γ ρ R es us → RepsC K Γ ρ R (ds ++ es) (vs ++ us)
  | [], es, vs, us, h, g => by simp only [RepsC] at h; subst h; exact g
  | d :: ds, es, vs, us, h, g => by
    obtain ⟨v, ws, rfl, h2, h3⟩ := reps_inv h
    exact reps_cons h2 (reps_app h3 g)
theorem reps_take : ∀ {ds : List D} {vs : List V} (n : Nat), RepsC K Γ ρ R ds vs → RepsC K Γ ρ R (ds.take n) (vs.take n)
  | _, _, 0, _ => by simp; exact reps_nil
  | [], vs, n + 1, h => by simp only [RepsC] at h; subst h; exact reps_nil
  | d :: ds, vs, n + 1, h => by
    obtain ⟨v, ws, rfl, h2, h3⟩ := reps_inv h
    exact reps_cons h2 (reps_take n h3)
theorem reps_drop : ∀ {ds : List D} {vs : List V} (n : Nat), RepsC K Γ ρ R ds vs → RepsC K Γ ρ R (ds.drop n) (vs.drop n)
  | _, _, 0, h => h
  | [], vs, n + 1, h => by simp only [RepsC] at h; subst h; exact reps_nil
  | d :: ds, vs, n + 1, h => by
    obtain ⟨v, ws, rfl, h2, h3⟩ := reps_inv h
    exact reps_drop n h3
theorem reps_set : ∀ {ds : List D} {vs : List V} {d : D} {v : V} (n : Nat), RepsC K Γ ρ R ds vs → RepC K Γ ρ R d v → RepsC K Γ ρ R (ds.set n d) (vs.set n v)
  | [], vs, d, v, n, h, _ => by simp only [RepsC] at h; subst h; cases n <;> exact reps_nil
  | d' :: ds, vs, d, v, n, h, g => by
    obtain ⟨u, ws, rfl, h2, h3⟩ := reps_inv h
    cases n with
    | zero => exact reps_cons g h3
    | succ n => exact reps_cons h2 (reps_set n h3 g)
end
section
variable {K : PySem.W.Frag} {Γ : Nat → Addr} {w w' w0 : Wd}
theorem Rep.ev {d : D} {v : V} (h : Rep K Γ w d v) (e : Ev w w') : Rep K Γ w' d v := repC_mono e.rr e.pre d v h
theorem Reps.ev {d : List D} {v : List V} (h : Reps K Γ w d v) (e : Ev w w') : Reps K Γ w' d v := repsC_mono e.rr e.pre d v h
structure OwnAt (K : PySem.W.Frag) (Γ : Nat → Addr) (w0 w : Wd) (d : D) (a : Addr) : Prop where
  new : w0.H a = none
  r : w.R a = none
  nl : ¬ Live w a
  at_ : At K Γ w d a
theorem at_some {d : D} {a : Addr} (h : At K Γ w d a) : ∃ o, w.H a = some o := by
  unfold At at h
  split at h
  · obtain ⟨_, h, _⟩ := h; exact ⟨_, h⟩
  · obtain ⟨_, h, _⟩ := h; exact ⟨_, h⟩
  · obtain ⟨_, _, h, _⟩ := h; exact ⟨_, h⟩
  · exact False.elim h
theorem at_mv {d : D} {a : Addr} (h : At K Γ w d a) (hh : ∀ o, w.H a = some o → w'.H a = some o) (rr : Same w.R w'.R) (pp : w.ρ <+: w'.ρ) : At K Γ w' d a := by
  cases d with
  | lst ds => obtain ⟨vs, h1, h2, h3⟩ := h; exact ⟨vs, hh _ h1, h2, repsC_mono rr pp _ _ h3⟩
  | dic ks ds => obtain ⟨vs, h1, h2, h3⟩ := h; exact ⟨vs, hh _ h1, h2, repsC_mono rr pp _ _ h3⟩
  | obj c ns ds => obtain ⟨dx, vs, h1, h2, h3⟩ := h; exact ⟨dx, vs, hh _ h1, h2, repsC_mono rr pp _ _ h3⟩
  | _ => exact False.elim h
theorem OwnAt.ev {d : D} {a : Addr} (h : OwnAt K Γ w0 w d a) (e : Ev w w') : OwnAt K Γ w0 w' d a := by
  obtain ⟨o, ho⟩ := (at_some h.at_)
  refine ⟨h.new, ?_, fun l => ?_, at_mv h.at_ (fun o ho => e.keep _ _ ho h.nl) e.rr e.pre⟩
  · by_cases q : w'.R a = none
    · exact q
    · rcases e.newR a q h.r with z | z
      · rw [ho] at z; cases z
      · exact absurd z h.nl
  · rcases e.newL a l with z | z
    · exact h.nl z
    · rw [ho] at z; cases z
structure XT where
  a : Addr
  cls : Value
  d : Option Addr
  s : Addr
def XD (K : PySem.W.Frag) (Γ : Nat → Addr) (w : Wd) (d : Option Addr) (ns : List Str) (ds : List D) : Prop :=
  (∃ dd vs, d = some dd ∧ w.R dd = some (.xd (ns.zip vs)) ∧ ns.length = vs.length ∧ Reps K Γ w ds vs) ∨ (d = none ∧ ns = [] ∧ ds = [])
theorem XD.ev {d : Option Addr} {ns : List Str} {ds : List D} (h : XD K Γ w d ns ds) (e : Ev w w') : XD K Γ w' d ns ds := by
  rcases h with ⟨dd, vs, h3, h4, h5, h6⟩ | h
  · exact .inl ⟨dd, vs, h3, e.rr _ _ h4, h5, Reps.ev h6 e⟩
  · exact .inr h
def SlotOk (K : PySem.W.Frag) (Γ : Nat → Addr) (xa : XT) (w0 w : Wd) (x : Option V) : Slot → Prop
  | .no => True
  | .val d => ∃ v, x = some v ∧ Rep K Γ w d v
  | .own b d => ∃ a, x = some (.ref a) ∧ OwnAt K Γ w0 w d a ∧ (b = true → a = xa.s)
  | .exn c ns ds => x = some (.ref xa.a) ∧ xa.cls = .ref (Γ c) ∧ XD K Γ w xa.d ns ds
theorem SlotOk.ev {xa : XT} {x : Option V} {s : Slot} (h : SlotOk K Γ xa w0 w x s) (e : Ev w w') : SlotOk K Γ xa w0 w' x s := by
  cases s with
  | no => trivial
  | val d => obtain ⟨v, h1, h2⟩ := h; exact ⟨v, h1, Rep.ev h2 e⟩
  | own b d => obtain ⟨a, h1, h2, h3⟩ := h; exact ⟨a, h1, h2.ev e, h3⟩
  | exn c ns ds => obtain ⟨h1, h2, h3⟩ := h; exact ⟨h1, h2, h3.ev e⟩
structure EnvOk (K : PySem.W.Frag) (Γ : Nat → Addr) (xa : XT) (w0 w : Wd) (σ : L2.St) (δ : Env) : Prop where
  len : δ.length = σ.length
  ok : ∀ (i : Nat) (x : Option V) (s : Slot), σ[i]? = some x → δ[i]? = some s → SlotOk K Γ xa w0 w x s
  sep : ∀ (i j : Nat) (b c : Bool) (d e : D) (a : Addr), δ[i]? = some (.own b d) → δ[j]? = some (.own c e) → σ[i]? = some (some (.ref a)) → σ[j]? = some (some (.ref a)) → i = j
theorem EnvOk.ev {xa : XT} {σ : L2.St} {δ : Env} (h : EnvOk K Γ xa w0 w σ δ) (e : Ev w w') : EnvOk K Γ xa w0 w' σ δ :=
  ⟨h.len, fun i x s h1 h2 => (h.ok i x s h1 h2).ev e, h.sep⟩
theorem EnvOk.get {xa : XT} {σ : L2.St} {δ : Env} {i : Nat} {s : Slot} (h : EnvOk K Γ xa w0 w σ δ) (hd : δ[i]? = some s) : ∃ x, σ[i]? = some x ∧ SlotOk K Γ xa w0 w x s := by
  have hi := (List.getElem?_eq_some_iff.mp hd).1
  have := h.len
  have e : σ[i]? = some σ[i] := List.getElem?_eq_getElem (by omega)
  exact ⟨_, e, h.ok i _ s e hd⟩
theorem EnvOk.val {xa : XT} {σ : L2.St} {δ : Env} {i : Nat} {d : D} (h : EnvOk K Γ xa w0 w σ δ) (hd : δ[i]? = some (.val d)) : ∃ v, σ[i]? = some (some v) ∧ Rep K Γ w d v := by
  obtain ⟨x, e, v, rfl, r⟩ := h.get hd
  exact ⟨v, e, r⟩
theorem EnvOk.own {xa : XT} {σ : L2.St} {δ : Env} {i : Nat} {b : Bool} {d : D} (h : EnvOk K Γ xa w0 w σ δ) (hd : δ[i]? = some (.own b d)) : ∃ a, σ[i]? = some (some (.ref a)) ∧ OwnAt K Γ w0 w d a := by
  obtain ⟨x, e, v, rfl, r, _⟩ := h.get hd
  exact ⟨v, e, r⟩
theorem EnvOk.set {xa : XT} {σ : L2.St} {δ : Env} {i : Nat} {d : D} {v : V} (h : EnvOk K Γ xa w0 w σ δ) (r : Rep K Γ w d v) : EnvOk K Γ xa w0 w (σ.set i (some v)) (δ.set i (.val d)) := by
  refine ⟨by rw [List.length_set, List.length_set, h.len], fun j x s h1 h2 => ?_, fun j k b c d' e a h1 h2 h3 h4 => ?_⟩
  · rw [List.getElem?_set] at h1 h2
    by_cases q : i = j
    · rw [if_pos q] at h1 h2
      split at h1 <;> cases h1
      split at h2 <;> cases h2
      exact ⟨v, rfl, r⟩
    · rw [if_neg q] at h1 h2
      exact h.ok j x s h1 h2
  · rw [List.getElem?_set] at h1 h2 h3 h4
    by_cases q : i = j
    · rw [if_pos q] at h1; split at h1 <;> cases h1
    · by_cases q2 : i = k
      · rw [if_pos q2] at h2; split at h2 <;> cases h2
      · rw [if_neg q] at h1 h3
        rw [if_neg q2] at h2 h4
        exact h.sep j k b c d' e a h1 h2 h3 h4
theorem EnvOk.setOwn {xa : XT} {σ : L2.St} {δ : Env} {i : Nat} {d : D} {a : Addr} (h : EnvOk K Γ xa w0 w σ δ) (r : OwnAt K Γ w0 w d a) (new : ∀ (j : Nat) (f : Bool) (e : D) (b : Addr), δ[j]? = some (Slot.own f e) → σ[j]? = some (some (V.ref b)) → b ≠ a) : EnvOk K Γ xa w0 w (σ.set i (some (.ref a))) (δ.set i (.own false d)) := by
  refine ⟨by rw [List.length_set, List.length_set, h.len], fun j x s h1 h2 => ?_, fun j k c c' d' e b h1 h2 h3 h4 => ?_⟩
  · rw [List.getElem?_set] at h1 h2
    by_cases q : i = j
    · rw [if_pos q] at h1 h2
      split at h1 <;> cases h1
      split at h2 <;> cases h2
      exact ⟨a, rfl, r, fun z => by cases z⟩
    · rw [if_neg q] at h1 h2
      exact h.ok j x s h1 h2
  · rw [List.getElem?_set] at h1 h2 h3 h4
    by_cases q : i = j
    · by_cases q2 : i = k
      · exact q.symm.trans q2
      · rw [if_pos q] at h3
        split at h3 <;> cases h3
        rw [if_neg q2] at h2 h4
        exact absurd rfl (new k _ e a h2 h4)
    · by_cases q2 : i = k
      · rw [if_pos q2] at h4
        split at h4 <;> cases h4
        rw [if_neg q] at h1 h3
        exact absurd rfl (new j _ d' a h1 h3)
      · rw [if_neg q] at h1 h3
        rw [if_neg q2] at h2 h4
        exact h.sep j k c c' d' e b h1 h2 h3 h4
end
end MR

namespace MR
open PySem PySem.Spec PyProof.Rows L2 TP
section
variable {K : PySem.W.Frag} {Γ : Nat → Addr} {w w' w0 : Wd}
theorem live_ne {a p : Addr} (h : Ok K Γ w) (l : Live w a) (hp : w.H p = none) : a ≠ p := by
  obtain ⟨n, d, h1, h2⟩ := l
  obtain ⟨b, h3, _, h4⟩ := h.cell n d h1
  rw [h2] at h3
  cases h3
  obtain ⟨o, ho⟩ := at_some h4
  exact ne_of_none ho hp
theorem r_none {p : Addr} (h : Ok K Γ w) (hp : w.H p = none) : w.R p = none := h.same.free hp
theorem not_live {p : Addr} (h : Ok K Γ w) (hp : w.H p = none) : ¬ Live w p := fun l => live_ne h l hp rfl
theorem live_r {a : Addr} (h : Ok K Γ w) (l : Live w a) : w.R a = none := by
  obtain ⟨n, d, h1, h2⟩ := l
  obtain ⟨b, h3, h4, _⟩ := h.cell n d h1
  rw [h2] at h3
  cases h3
  exact h4
theorem ok_mv {R' H' : Hp} (h : Ok K Γ w) (s : Same R' H') (rr : Same w.R R') (hl : ∀ a, Live w a → R' a = none ∧ H' a = w.H a) : Ok K Γ { w with R := R', H := H' } := by
  refine ⟨s, h.len, fun n d e => ?_, h.inj⟩
  obtain ⟨a, h1, h2, h3⟩ := h.cell n d e
  obtain ⟨q1, q2⟩ := hl a ⟨n, d, e, h1⟩
  exact ⟨a, h1, q1, at_mv (w' := { w with R := R', H := H' }) h3 (fun o ho => by show H' a = _; rw [q2]; exact ho) rr List.prefix_rfl⟩
def wFrz (w : Wd) (p : Addr) (o : HO) : Wd := { w with R := upd w.R p o, H := upd w.H p o }
theorem ok_frz {p : Addr} {o : HO} (h : Ok K Γ w) (hp : w.H p = none) : Ok K Γ (wFrz w p o) := by
  refine ok_mv h (fun b u e => ?_) (Same.new (r_none h hp)) fun a l => ?_
  · by_cases q : b = p
    · subst q; rw [upd_same] at e ⊢; exact e
    · rw [upd_ne q] at e ⊢; exact h.same _ _ e
  · have ne := live_ne h l hp
    exact ⟨by rw [upd_ne ne]; exact live_r h l, by rw [upd_ne ne]⟩
theorem ev_frz {p : Addr} {o : HO} (h : Ok K Γ w) (hp : w.H p = none) : Ev w (wFrz w p o) where
  rr := Same.new (r_none h hp)
  pre := List.prefix_rfl
  keep := fun a u e _ => by show upd w.H p o a = _; rw [upd_ne (ne_of_none e hp)]; exact e
  dom := fun a e => by
    by_cases q : a = p
    · subst q; exact hp
    · have e' : upd w.H p o a = none := e
      rw [upd_ne q] at e'; exact e'
  newR := fun a r e => by
    by_cases q : a = p
    · subst q; exact .inl hp
    · exact absurd (show upd w.R p o a = none by rw [upd_ne q]; exact e) r
  newL := fun a l => .inl l
def wPut (w : Wd) (p : Addr) (o : HO) : Wd := { w with H := upd w.H p o }
theorem ok_put {p : Addr} {o : HO} (h : Ok K Γ w) (r : w.R p = none) (nl : ¬ Live w p) : Ok K Γ (wPut w p o) := by
  refine ok_mv h (fun b u e => ?_) (fun _ _ e => e) fun a l => ?_
  · rw [upd_ne (fun z => by rw [z, r] at e; cases e)]; exact h.same _ _ e
  · exact ⟨live_r h l, upd_ne fun z => nl (z ▸ l)⟩
theorem ev_put {p : Addr} {o : HO} (e0 : Ev w0 w) (hp : w0.H p = none) : Ev w0 (wPut w p o) where
  rr := e0.rr
  pre := e0.pre
  keep := fun a u e n => by show upd w.H p o a = _; rw [upd_ne (ne_of_none e hp)]; exact e0.keep a u e n
  dom := fun a e => by
    by_cases q : a = p
    · subst q; exact hp
    · have e' : upd w.H p o a = none := e
      rw [upd_ne q] at e'; exact e0.dom a e'
  newR := e0.newR
  newL := e0.newL
def wFix (w : Wd) (p : Addr) (o : HO) : Wd := { w with R := upd w.R p o }
theorem ok_fix {p : Addr} {o : HO} (h : Ok K Γ w) (r : w.R p = none) (nl : ¬ Live w p) (ho : w.H p = some o) : Ok K Γ (wFix w p o) := by
  refine ok_mv h (fun b u e => ?_) (Same.new r) fun a l => ?_
  · by_cases q : b = p
    · subst q; rw [upd_same] at e; cases e; exact ho
    · rw [upd_ne q] at e; exact h.same _ _ e
  · have ne : a ≠ p := fun z => nl (z ▸ l)
    exact ⟨by rw [upd_ne ne]; exact live_r h l, rfl⟩
theorem ev_fix {p : Addr} {o : HO} (e0 : Ev w0 w) (r : w.R p = none) (hp : w0.H p = none) : Ev w0 (wFix w p o) where
  rr := e0.rr.trans (Same.new r)
  pre := e0.pre
  keep := e0.keep
  dom := e0.dom
  newR := fun a r e => by
    by_cases q : a = p
    · subst q; exact .inl hp
    · refine e0.newR a (fun z => r ?_) e
      show upd w.R p o a = none
      rw [upd_ne q]; exact z
  newL := e0.newL
def wCel (w : Wd) (n : Nat) (a : Addr) (o : HO) (d : Option D) : Wd := { w with H := upd w.H a o, S := w.S.set n d }
theorem ok_cel {n : Nat} {a : Addr} {o : HO} {d d0 : D} (h : Ok K Γ w) (hn : w.S[n]? = some (some d0)) (ha : w.ρ[n]? = some a) (at_ : At K Γ (wCel w n a o (some d)) d a) : Ok K Γ (wCel w n a o (some d)) := by
  have ra := live_r h ⟨n, d0, hn, ha⟩
  have get : ∀ (m : Nat) (e : D), (w.S.set n (some d))[m]? = some (some e) → (m = n ∧ e = d) ∨ (m ≠ n ∧ w.S[m]? = some (some e)) := fun m e q => by
    rw [List.getElem?_set] at q
    by_cases z : n = m
    · rw [if_pos z] at q; split at q <;> cases q; exact .inl ⟨z.symm, rfl⟩
    · rw [if_neg z] at q; exact .inr ⟨fun y => z y.symm, q⟩
  have ex : ∀ m e, (w.S.set n (some d))[m]? = some (some e) → ∃ e', w.S[m]? = some (some e') := fun m e q => by
    rcases get m e q with ⟨rfl, _⟩ | ⟨_, q⟩
    · exact ⟨_, hn⟩
    · exact ⟨_, q⟩
  refine ⟨fun b u e => ?_, by show (w.S.set n _).length = _; rw [List.length_set]; exact h.len, fun m e q => ?_, fun m k e f b q1 q2 q3 q4 => ?_⟩
  · show upd w.H a o b = _
    have ne : b ≠ a := fun z => by
      have e' : w.R b = some u := e
      rw [z, ra] at e'; cases e'
    rw [upd_ne ne]; exact h.same _ _ e
  · rcases get m e q with ⟨rfl, rfl⟩ | ⟨ne, q⟩
    · exact ⟨a, ha, ra, at_⟩
    · obtain ⟨b, h1, h2, h3⟩ := h.cell m e q
      have nb : b ≠ a := fun z => ne (h.inj m n e d0 a q hn (z ▸ h1) ha)
      exact ⟨b, h1, h2, at_mv (w' := wCel w n a o (some d)) h3 (fun u hu => by show upd w.H a o b = _; rw [upd_ne nb]; exact hu) (fun _ _ e => e) List.prefix_rfl⟩
  · obtain ⟨e', h1⟩ := ex m e q1
    obtain ⟨f', h2⟩ := ex k f q2
    exact h.inj m k e' f' b h1 h2 q3 q4
theorem live_cel {n : Nat} {a b : Addr} {o : HO} {d : Option D} {d0 : D} (hn : w.S[n]? = some (some d0)) (ha : w.ρ[n]? = some a) (l : Live (wCel w n a o d) b) : Live w b := by
  obtain ⟨m, e, h1, h2⟩ := l
  have h1' : (w.S.set n d)[m]? = some (some e) := h1
  rw [List.getElem?_set] at h1'
  by_cases z : n = m
  · subst z; exact ⟨n, d0, hn, h2⟩
  · rw [if_neg z] at h1'; exact ⟨m, e, h1', h2⟩
theorem ev_cel {n : Nat} {a : Addr} {o : HO} {d : Option D} {d0 : D} (h : Ok K Γ w) (hn : w.S[n]? = some (some d0)) (ha : w.ρ[n]? = some a) : Ev w (wCel w n a o d) where
  rr := fun _ _ e => e
  pre := List.prefix_rfl
  keep := fun b u e nl => by
    show upd w.H a o b = _
    have ne : b ≠ a := fun z => nl (z.symm ▸ ⟨n, d0, hn, ha⟩)
    rw [upd_ne ne]; exact e
  dom := fun b e => by
    by_cases q : b = a
    · have e' : upd w.H a o b = none := e
      rw [q, upd_same] at e'; cases e'
    · have e' : upd w.H a o b = none := e
      rw [upd_ne q] at e'; exact e'
  newR := fun b r e => absurd e r
  newL := fun b l => .inl (live_cel hn ha l)
def wAdd (w : Wd) (a : Addr) (d : D) : Wd := { w with ρ := w.ρ ++ [a], S := w.S ++ [some d] }
theorem ok_add {a : Addr} {d : D} (h : Ok K Γ w) (r : w.R a = none) (nl : ¬ Live w a) (at_ : At K Γ w d a) : Ok K Γ (wAdd w a d) := by
  have get : ∀ (m : Nat) (e : D) (b : Addr), (w.S ++ [some d])[m]? = some (some e) → (w.ρ ++ [a])[m]? = some b → (m = w.S.length ∧ e = d ∧ b = a) ∨ (m < w.S.length ∧ w.S[m]? = some (some e) ∧ w.ρ[m]? = some b) := fun m e b q1 q2 => by
    rcases Nat.lt_trichotomy m w.S.length with z | z | z
    · refine .inr ⟨z, ?_, ?_⟩
      · rwa [List.getElem?_append_left z] at q1
      · rwa [List.getElem?_append_left (by rw [← h.len]; exact z)] at q2
    · refine .inl ⟨z, ?_, ?_⟩
      · subst z; simp at q1; exact q1.symm
      · subst z; rw [h.len] at q2; simp at q2; exact q2.symm
    · rw [List.getElem?_eq_none_iff.mpr (by simp; omega)] at q1; cases q1
  have pp : w.ρ <+: w.ρ ++ [a] := List.prefix_append _ _
  refine ⟨h.same, by simp [wAdd, h.len], fun m e q => ?_, fun m k e f b q1 q2 q3 q4 => ?_⟩
  · have hm : m < w.ρ.length + 1 := by
      have := (List.getElem?_eq_some_iff.mp q).1
      simp [wAdd, h.len] at this; exact this
    obtain ⟨b, hb⟩ : ∃ b, (w.ρ ++ [a])[m]? = some b := ⟨_, List.getElem?_eq_getElem (by simpa using hm)⟩
    rcases get m e b q hb with ⟨_, rfl, rfl⟩ | ⟨_, q1, q2⟩
    · exact ⟨b, hb, r, at_mv (w' := wAdd w b e) at_ (fun _ z => z) (fun _ _ z => z) pp⟩
    · obtain ⟨b', h1, h2, h3⟩ := h.cell m e q1
      rw [q2] at h1
      cases h1
      exact ⟨b, hb, h2, at_mv (w' := wAdd w a d) h3 (fun _ z => z) (fun _ _ z => z) pp⟩
  · rcases get m e b q1 q3 with ⟨z1, _, z2⟩ | ⟨z1, z2, z3⟩ <;> rcases get k f b q2 q4 with ⟨y1, _, y2⟩ | ⟨y1, y2, y3⟩
    · rw [z1, y1]
    · exact absurd ⟨k, f, y2, z2 ▸ y3⟩ nl
    · exact absurd ⟨m, e, z2, y2 ▸ z3⟩ nl
    · exact h.inj m k e f b z2 y2 z3 y3
theorem ev_add {a : Addr} {d : D} (h : Ok K Γ w) (e0 : Ev w0 w) (new : w0.H a = none) : Ev w0 (wAdd w a d) where
  rr := e0.rr
  pre := e0.pre.trans (List.prefix_append _ _)
  keep := e0.keep
  dom := e0.dom
  newR := e0.newR
  newL := fun b l => by
    obtain ⟨m, e, h1, h2⟩ := l
    have h1' : (w.S ++ [some d])[m]? = some (some e) := h1
    have h2' : (w.ρ ++ [a])[m]? = some b := h2
    rcases Nat.lt_or_ge m w.S.length with z | z
    · rw [List.getElem?_append_left z] at h1'
      rw [List.getElem?_append_left (by rw [← h.len]; exact z)] at h2'
      exact e0.newL b ⟨m, e, h1', h2'⟩
    · have : m = w.S.length := by
        have := (List.getElem?_eq_some_iff.mp h1').1
        simp at this; omega
      rw [this, h.len] at h2'
      simp at h2'
      subst h2'
      exact .inr new
end
structure Gr (w w' : Wd) : Prop where
  rr : Same w.R w'.R
  pre : w.ρ <+: w'.ρ
theorem Gr.refl (w : Wd) : Gr w w := ⟨fun _ _ e => e, List.prefix_rfl⟩
theorem Gr.trans {w w' w'' : Wd} (h : Gr w w') (g : Gr w' w'') : Gr w w'' := ⟨h.rr.trans g.rr, h.pre.trans g.pre⟩
theorem Ev.gr {w w' : Wd} (h : Ev w w') : Gr w w' := ⟨h.rr, h.pre⟩
theorem Rep.gr {K : PySem.W.Frag} {Γ : Nat → Addr} {w w' : Wd} {d : D} {v : V} (h : Rep K Γ w d v) (e : Gr w w') : Rep K Γ w' d v := repC_mono e.rr e.pre d v h
theorem Reps.gr {K : PySem.W.Frag} {Γ : Nat → Addr} {w w' : Wd} {d : List D} {v : List V} (h : Reps K Γ w d v) (e : Gr w w') : Reps K Γ w' d v := repsC_mono e.rr e.pre d v h
inductive Out (α : Type) where
  | ok (a : α) (S : Sto) | ex (c : Nat) (ns : List Str) (ds : List D) (S : Sto) | bad
def bnd {α β : Type} (o : Out α) (f : α → Sto → Out β) : Out β := match o with
  | .ok a S => f a S
  | .ex c ns ds S => .ex c ns ds S
  | .bad => .bad
def noX {α : Type} (o : Out α) : Out α := match o with
  | .ok a S => .ok a S
  | _ => .bad
abbrev XP := Wd → Nat → List Str → List D → Prop
section
variable (K : PySem.W.Frag) (Γ : Nat → Addr)
def Post {α : Type} (o : Out α) (w : Wd) (ok : α → Wd → Prop) (ex : XP) : Prop := match o with
  | .ok a S => ∀ w', w'.S = S → Ok K Γ w' → Ev w w' → ok a w'
  | .ex c ns ds S => ∀ w', w'.S = S → Ok K Γ w' → Ev w w' → ex w' c ns ds
  | .bad => False
def XW (W : WX) (σ : L2.St) : XP := fun w c ns ds => ∀ d, XD K Γ w d ns ds → W (.ref (Γ c)) d σ w.H
def Pk (w : Wd) (d : D) (v : V) : Prop := Rep K Γ w d v ∨ ∃ w0 a, v = .ref a ∧ OwnAt K Γ w0 w d a
end
section
variable {K : PySem.W.Frag} {Γ : Nat → Addr} {w w' w0 : Wd}
theorem Post.ev {α : Type} {o : Out α} {ok : α → Wd → Prop} {ex : XP} (h : Post K Γ o w ok ex) (e : Ev w w') : Post K Γ o w' ok ex := by
  cases o with
  | ok a S => exact fun w1 hs ho he => h w1 hs ho (e.trans he)
  | ex c ns ds S => exact fun w1 hs ho he => h w1 hs ho (e.trans he)
  | bad => exact h
theorem Post.mono {α : Type} {o : Out α} {ok ok' : α → Wd → Prop} {ex ex' : XP} (h : Post K Γ o w ok ex) (f : ∀ a w', Ok K Γ w' → Ev w w' → ok a w' → ok' a w') (g : ∀ w' c ns ds, Ok K Γ w' → Ev w w' → ex w' c ns ds → ex' w' c ns ds) : Post K Γ o w ok' ex' := by
  cases o with
  | ok a S => exact fun w1 hs ho he => f a w1 ho he (h w1 hs ho he)
  | ex c ns ds S => exact fun w1 hs ho he => g w1 c ns ds ho he (h w1 hs ho he)
  | bad => exact h
theorem Post.then {α β : Type} {o : Out α} {f : α → Sto → Out β} {ok : β → Wd → Prop} {ok' : α → Wd → Prop} {ex : XP} (h : Post K Γ (bnd o f) w ok ex) (g : ∀ a w', Ok K Γ w' → Ev w w' → Post K Γ (f a w'.S) w' ok ex → ok' a w') : Post K Γ o w ok' ex := by
  cases o with
  | ok a S => exact fun w1 hs ho he => g a w1 ho he (by subst hs; exact Post.ev h he)
  | ex c ns ds S => exact h
  | bad => exact h
theorem Post.now {α : Type} {a : α} {ok : α → Wd → Prop} {ex : XP} (h : Post K Γ (.ok a w.S) w ok ex) (o : Ok K Γ w) : ok a w := h w rfl o (Ev.refl w)
theorem Post.at {α : Type} {a : α} {S : Sto} {ok : α → Wd → Prop} {ex : XP} (h : Post K Γ (.ok a S) w ok ex) (hs : w'.S = S) (o : Ok K Γ w') (e : Ev w w') : ok a w' := h w' hs o e
theorem Post.noX {α : Type} {o : Out α} {ok : α → Wd → Prop} {ex ex' : XP} (h : Post K Γ (MR.noX o) w ok ex) : Post K Γ o w ok ex' := by
  cases o with
  | ok a S => exact h
  | ex c ns ds S => exact False.elim h
  | bad => exact False.elim h
theorem Pk.ev {d : D} {v : V} (h : Pk K Γ w d v) (e : Ev w w') : Pk K Γ w' d v := by
  rcases h with h | ⟨w0, a, h1, h2⟩
  · exact .inl (Rep.ev h e)
  · exact .inr ⟨w0, a, h1, h2.ev e⟩
end
abbrev ME := Env → Sto → Out D
abbrev MA := Env → Sto → Out (List D)
abbrev MT := Env → Sto → Out Bool
inductive Fl where
  | nx (δ : Env) | rt (d : D) | bk (δ : Env) | ct (δ : Env) | ex (c : Nat) (ns : List Str) (ds : List D) (δ : Env)
abbrev MS := Env → Sto → Out Fl
abbrev MG := D → Env → Option Env
abbrev MGs := List D → Env → Option Env
section
variable (K : PySem.W.Frag) (Γ : Nat → Addr) (xa : XT)
structure SimE (W : WX) (te : TE) (me : ME) : Prop where
  run : ∀ (w0 w : Wd) (σ : L2.St) (δ : Env) (Q : VK), Ok K Γ w → Ev w0 w → EnvOk K Γ xa w0 w σ δ → Post K Γ (me δ w.S) w (fun d w' => ∀ v, Rep K Γ w' d v → Q v w'.H) (XW K Γ W σ) → te σ w.H Q
structure SimP (W : WX) (te : TE) (me : ME) : Prop where
  run : ∀ (w0 w : Wd) (σ : L2.St) (δ : Env) (Q : VK), Ok K Γ w → Ev w0 w → EnvOk K Γ xa w0 w σ δ → Post K Γ (me δ w.S) w (fun d w' => ∀ v, Pk K Γ w' d v → Q v w'.H) (XW K Γ W σ) → te σ w.H Q
structure SimF (W : WX) (te : TE) (me : ME) : Prop where
  run : ∀ (w0 w : Wd) (σ : L2.St) (δ : Env) (Q : VK), Ok K Γ w → Ev w0 w → EnvOk K Γ xa w0 w σ δ → Post K Γ (me δ w.S) w (fun d w' => ∀ a, OwnAt K Γ w w' d a → Q (.ref a) w'.H) (XW K Γ W σ) → te σ w.H Q
structure SimT (W : WX) (tt : TT) (mt : MT) : Prop where
  run : ∀ (w0 w : Wd) (σ : L2.St) (δ : Env) (Q : Bool → Hp → Prop), Ok K Γ w → Ev w0 w → EnvOk K Γ xa w0 w σ δ → Post K Γ (mt δ w.S) w (fun b w' => Q b w'.H) (XW K Γ W σ) → tt σ w.H Q
structure SimA (W : WX) (n : Nat) (ta : TA) (ma : MA) : Prop where
  len : ∀ (δ : Env) (S : Sto) (ds : List D) (S' : Sto), ma δ S = .ok ds S' → ds.length = n
  run : ∀ (w0 w : Wd) (σ : L2.St) (δ : Env) (Q : List V → Hp → Prop), Ok K Γ w → Ev w0 w → EnvOk K Γ xa w0 w σ δ → Post K Γ (ma δ w.S) w (fun ds w' => ∀ vs, Reps K Γ w' ds vs → Q vs w'.H) (XW K Γ W σ) → ta σ w.H Q
inductive Pks (w : Wd) : List D → List V → Prop
  | nil : Pks w [] []
  | cons {d : D} {v : V} {ds : List D} {vs : List V} (h : Pk K Γ w d v) (t : Pks w ds vs) : Pks w (d :: ds) (v :: vs)
structure SimPA (W : WX) (ta : TA) (ma : MA) : Prop where
  run : ∀ (w0 w : Wd) (σ : L2.St) (δ : Env) (Q : List V → Hp → Prop), Ok K Γ w → Ev w0 w → EnvOk K Γ xa w0 w σ δ → Post K Γ (ma δ w.S) w (fun ds w' => ∀ vs, Pks K Γ w' ds vs → Q vs w'.H) (XW K Γ W σ) → ta σ w.H Q
def PostS (W : WX) (o : Out Fl) (w0 w : Wd) (Dn : Ends) : Prop := match o with
  | .ok (.nx δ) S => ∀ w' σ, w'.S = S → Ok K Γ w' → Ev w0 w' → Gr w w' → EnvOk K Γ xa w0 w' σ δ → Dn.nx σ w'.H
  | .ok (.rt d) S => ∀ w' v, w'.S = S → Ok K Γ w' → Ev w0 w' → Gr w w' → Rep K Γ w' d v → Dn.rt v w'.H
  | .ok (.bk δ) S => ∀ w' σ, w'.S = S → Ok K Γ w' → Ev w0 w' → Gr w w' → EnvOk K Γ xa w0 w' σ δ → Dn.bk σ w'.H
  | .ok (.ct δ) S => ∀ w' σ, w'.S = S → Ok K Γ w' → Ev w0 w' → Gr w w' → EnvOk K Γ xa w0 w' σ δ → Dn.ct σ w'.H
  | .ok (.ex c ns ds δ) S => ∀ w' σ, w'.S = S → Ok K Γ w' → Ev w0 w' → Gr w w' → EnvOk K Γ xa w0 w' σ δ → XW K Γ W σ w' c ns ds
  | .ex _ _ _ _ => False
  | .bad => False
structure SimS (W : WX) (ts : TS) (ms : MS) : Prop where
  run : ∀ (w0 w : Wd) (σ : L2.St) (δ : Env) (Dn : Ends), Ok K Γ w → Ev w0 w → EnvOk K Γ xa w0 w σ δ → PostS K Γ xa W (ms δ w.S) w0 w Dn → ts Dn σ w.H
structure SimN (vs : List Nat) (tg : TG) (mg : D → Env → Option Env) : Prop where
  run : ∀ (w0 w : Wd) (σ : L2.St) (δ : Env) (d : D) (v : V) (Q : L2.St → Hp → Prop), Ok K Γ w → EnvOk K Γ xa w0 w σ δ → Rep K Γ w d v →
    (match mg d δ with | some δ' => ∀ σ', EnvOk K Γ xa w0 w σ' δ' → σ'.length = σ.length → (∀ i, i ∉ vs → σ'[i]? = σ[i]?) → Q σ' w.H | none => False) → tg v σ w.H Q
structure SimNs (vs : List Nat) (tg : TGs) (mg : List D → Env → Option Env) : Prop where
  run : ∀ (w0 w : Wd) (σ : L2.St) (δ : Env) (d : List D) (v : List V) (Q : L2.St → Hp → Prop), Ok K Γ w → EnvOk K Γ xa w0 w σ δ → Reps K Γ w d v →
    (match mg d δ with | some δ' => ∀ σ', EnvOk K Γ xa w0 w σ' δ' → σ'.length = σ.length → (∀ i, i ∉ vs → σ'[i]? = σ[i]?) → Q σ' w.H | none => False) → tg v σ w.H Q
end
end MR

namespace MR
open PySem PySem.Spec PyProof.Rows L2 TP
section
variable {K : PySem.W.Frag} {Γ : Nat → Addr} {xa : XT} {W : WX} {te ta tb : TE} {me ma mb : ME} {w w' w0 : Wd}
theorem SimE.p (h : SimE K Γ xa W te me) : SimP K Γ xa W te me := ⟨fun w0 w σ δ Q o e n p => h.run w0 w σ δ Q o e n (p.mono (fun d w' _ _ q v r => q v (.inl r)) fun _ _ _ _ _ _ x => x)⟩
theorem own_rep {d : D} {a : Addr} (o : Ok K Γ w') (e : Ev w w') (h : OwnAt K Γ w w' d a) : ∃ w2, w2.S = w'.S ∧ w2.H = w'.H ∧ Ok K Γ w2 ∧ Ev w w2 ∧ Gr w' w2 ∧ Rep K Γ w2 d (.ref a) ∧ w2.ρ = w'.ρ ∧ ∀ b, b ≠ a → w2.R b = w'.R b := by
  have at_ := h.at_
  have fin : ∀ {u : HO}, w'.H a = some u → Ok K Γ (wFix w' a u) ∧ Ev w (wFix w' a u) ∧ Gr w' (wFix w' a u) := fun {u} hu =>
    ⟨ok_fix o h.r h.nl hu, ev_fix e h.r h.new, ⟨Same.new h.r, List.prefix_rfl⟩⟩
  cases d with
  | lst ds =>
    obtain ⟨vs, h1, h2, h3⟩ := at_
    obtain ⟨o2, e2, g2⟩ := fin h1
    refine ⟨wFix w' a (.lst vs), rfl, rfl, o2, e2, g2, ?_, rfl, fun b nb => upd_ne nb⟩
    simp only [Rep, RepC]
    exact ⟨a, vs, rfl, upd_same, h2, Reps.gr h3 g2⟩
  | dic ks ds =>
    obtain ⟨vs, h1, h2, h3⟩ := at_
    obtain ⟨o2, e2, g2⟩ := fin h1
    refine ⟨wFix w' a (.dK (ks.zip vs)), rfl, rfl, o2, e2, g2, ?_, rfl, fun b nb => upd_ne nb⟩
    simp only [Rep, RepC]
    exact ⟨a, vs, rfl, .inl upd_same, h2, Reps.gr h3 g2⟩
  | obj c ns ds =>
    obtain ⟨dx, vs, h1, h2, h3⟩ := at_
    obtain ⟨o2, e2, g2⟩ := fin h1
    refine ⟨wFix w' a (.ins (Γ c) dx (ns.zip vs)), rfl, rfl, o2, e2, g2, ?_, rfl, fun b nb => upd_ne nb⟩
    simp only [Rep, RepC]
    exact ⟨a, dx, vs, rfl, upd_same, h2, Reps.gr h3 g2⟩
  | _ => exact False.elim at_
theorem SimF.e (h : SimF K Γ xa W te me) : SimE K Γ xa W te me := ⟨fun w0 w σ δ Q o e n p => h.run w0 w σ δ Q o e n (by
  cases z : me δ w.S with
  | bad => rw [z] at p; exact p
  | ex c ns ds S => rw [z] at p; exact p
  | ok d S =>
    rw [z] at p
    intro w1 hs o1 e1 a oa
    obtain ⟨w2, s2, hh, o2, e2, _, r2, _⟩ := own_rep o1 e1 oa
    have := p w2 (s2.trans hs) o2 e2 _ r2
    rw [hh] at this
    exact this)⟩
theorem SimF.p (h : SimF K Γ xa W te me) : SimP K Γ xa W te me := h.e.p
def mC (d : D) : ME := fun _ S => .ok d S
theorem sim_c {d : D} {v : V} (h : ∀ w, Rep K Γ w d v) : SimE K Γ xa W (tC v) (mC d) := ⟨fun w0 w σ δ Q o e n p => Post.now p o _ (h w)⟩
theorem sim_non : SimE K Γ xa W (tC .non) (mC .non) := sim_c fun _ => rfl
theorem sim_bl {b : Bool} : SimE K Γ xa W (tC (.bl b)) (mC (.bl b)) := sim_c fun _ => rfl
theorem sim_int {i : Int} : SimE K Γ xa W (tC (.int i)) (mC (.int i)) := sim_c fun _ => rfl
theorem sim_str {x : Str} : SimE K Γ xa W (tC (.str x)) (mC (.str x)) := sim_c fun _ => rfl
theorem sim_ty {n : String} : SimE K Γ xa W (tC (.ty n)) (mC (.ty n)) := sim_c fun _ => rfl
theorem sim_cls {c : Nat} {a : Addr} (h : Γ c = a) : SimE K Γ xa W (tC (.ref a)) (mC (.cls c)) := sim_c fun _ => by simp only [Rep, RepC]; rw [h]
def mVar (i : Nat) : ME := fun δ S => match δ[i]? with
  | some (.val d) => .ok d S
  | _ => .bad
theorem sim_var {i : Nat} : SimE K Γ xa W (tVar i) (mVar i) := ⟨fun w0 w σ δ Q o e n p => by
  unfold mVar at p
  split at p
  · rename_i d hd
    obtain ⟨v, h1, h2⟩ := n.val hd
    exact ⟨v, h1, Post.now p o v h2⟩
  · exact False.elim p⟩
def mPeek (i : Nat) : ME := fun δ S => match δ[i]? with
  | some (.val d) => .ok d S
  | some (.own _ d) => .ok d S
  | _ => .bad
theorem sim_peek {i : Nat} : SimP K Γ xa W (tVar i) (mPeek i) := ⟨fun w0 w σ δ Q o e n p => by
  unfold mPeek at p
  split at p
  · rename_i d hd
    obtain ⟨v, h1, h2⟩ := n.val hd
    exact ⟨v, h1, Post.now p o v (.inl h2)⟩
  · rename_i b d hd
    obtain ⟨a, h1, h2⟩ := n.own hd
    exact ⟨_, h1, Post.now p o _ (.inr ⟨w0, a, rfl, h2⟩)⟩
  · exact False.elim p⟩
structure OpM (K : PySem.W.Frag) (Γ : Nat → Addr) (r : R2) (op : D → D → Sto → Out D) : Prop where
  run : ∀ (w : Wd) (d e : D) (x y : V) (Q : VK) (ex : XP), Ok K Γ w → Pk K Γ w d x → Pk K Γ w e y → Post K Γ (op d e w.S) w (fun z w' => ∀ v, Rep K Γ w' z v → Q v w'.H) ex → r x y w.H Q
def mOp (op : D → D → Sto → Out D) (ma mb : ME) : ME := fun δ S => bnd (ma δ S) fun x S => bnd (mb δ S) fun y S => op x y S
theorem sim_op {r : R2} {op : D → D → Sto → Out D} (ho : OpM K Γ r op) (ha : SimP K Γ xa W ta ma) (hb : SimP K Γ xa W tb mb) : SimE K Γ xa W (tOp r ta tb) (mOp op ma mb) := ⟨fun w0 w σ δ Q o e n p =>
  ha.run w0 w σ δ _ o e n (p.then fun x w1 o1 e1 p1 v r1 => hb.run w0 w1 σ δ _ o1 (e.trans e1) (n.ev e1) (p1.then fun y w2 o2 e2 p2 u r2 => ho.run w2 _ _ _ _ _ _ o2 (r1.ev e2) r2 p2))⟩
structure OpF (K : PySem.W.Frag) (Γ : Nat → Addr) (r : R2) (op : D → D → Sto → Out D) : Prop where
  run : ∀ (w : Wd) (d e : D) (x y : V) (Q : VK) (ex : XP), Ok K Γ w → Pk K Γ w d x → Pk K Γ w e y → Post K Γ (op d e w.S) w (fun z w' => ∀ a, OwnAt K Γ w w' z a → Q (.ref a) w'.H) ex → r x y w.H Q
theorem own_back {w1 : Wd} {d : D} {a : Addr} (e : Ev w w1) (h : OwnAt K Γ w1 w' d a) : OwnAt K Γ w w' d a := ⟨e.dom a h.new, h.r, h.nl, h.at_⟩
structure UnM (K : PySem.W.Frag) (Γ : Nat → Addr) (r : V → Hp → VK → Prop) (op : D → Sto → Out D) : Prop where
  run : ∀ (w : Wd) (d : D) (x : V) (Q : VK) (ex : XP), Ok K Γ w → Pk K Γ w d x → Post K Γ (op d w.S) w (fun z w' => ∀ v, Rep K Γ w' z v → Q v w'.H) ex → r x w.H Q
def mUn (op : D → Sto → Out D) (ma : ME) : ME := fun δ S => bnd (ma δ S) op
theorem sim_un {r : V → Hp → VK → Prop} {op : D → Sto → Out D} (ho : UnM K Γ r op) (ha : SimP K Γ xa W ta ma) : SimE K Γ xa W (tUn r ta) (mUn op ma) := ⟨fun w0 w σ δ Q o e n p =>
  ha.run w0 w σ δ _ o e n (p.then fun x w1 o1 e1 p1 v r1 => ho.run w1 _ _ _ _ o1 r1 p1)⟩
def mTest (me : ME) : MT := fun δ S => bnd (me δ S) fun d S => match d with
  | .bl b => .ok b S
  | _ => .bad
theorem rep_bl {b : Bool} {v : V} (h : Rep K Γ w (.bl b) v) : v = .bl b := by simpa only [Rep, RepC] using h
theorem rep_int {i : Int} {v : V} (h : Rep K Γ w (.int i) v) : v = .int i := by simpa only [Rep, RepC] using h
theorem rep_str {x : Str} {v : V} (h : Rep K Γ w (.str x) v) : v = .str x := by simpa only [Rep, RepC] using h
theorem rep_non {v : V} (h : Rep K Γ w .non v) : v = .non := by simpa only [Rep, RepC] using h
theorem pk_bl {b : Bool} {v : V} (h : Pk K Γ w (.bl b) v) : v = .bl b := by
  rcases h with h | ⟨_, _, _, h⟩
  · exact rep_bl h
  · exact False.elim h.at_
theorem pk_int {i : Int} {v : V} (h : Pk K Γ w (.int i) v) : v = .int i := by
  rcases h with h | ⟨_, _, _, h⟩
  · exact rep_int h
  · exact False.elim h.at_
theorem pk_str {x : Str} {v : V} (h : Pk K Γ w (.str x) v) : v = .str x := by
  rcases h with h | ⟨_, _, _, h⟩
  · exact rep_str h
  · exact False.elim h.at_
theorem pk_non {v : V} (h : Pk K Γ w .non v) : v = .non := by
  rcases h with h | ⟨_, _, _, h⟩
  · exact rep_non h
  · exact False.elim h.at_
theorem sim_test (h : SimE K Γ xa W te me) : SimT K Γ xa W (tTest te) (mTest me) := ⟨fun w0 w σ δ Q o e n p =>
  h.run w0 w σ δ _ o e n (p.then fun d w1 o1 e1 p1 v r1 => by
    split at p1
    · exact ⟨_, rep_bl r1, Post.now p1 o1⟩
    · exact False.elim p1)⟩
theorem sim_B (h : SimE K Γ xa W te me) : SimT K Γ xa W (tB te) (mTest me) := ⟨fun w0 w σ δ Q o e n p =>
  h.run w0 w σ δ _ o e n (p.then fun d w1 o1 e1 p1 v r1 => by
    split at p1
    · exact ⟨_, rep_bl r1, Post.now p1 o1⟩
    · exact False.elim p1)⟩
def listOf (S : Sto) (d : D) : Option (List D) := match d with
  | .lst ds => some ds
  | .scr is => some (is.map D.int)
  | .ref n => match S[n]? with
    | some (some (.lst ds)) => some ds
    | _ => none
  | _ => none
theorem reps_ints {ρ : List Addr} {R : Hp} : ∀ {is : List Int}, RepsC K Γ ρ R (is.map D.int) (is.map V.int)
  | [] => reps_nil
  | i :: is => reps_cons (by simp only [RepC]) reps_ints
theorem listOf_ok {d : D} {v : V} {ds : List D} (o : Ok K Γ w) (h : Pk K Γ w d v) (e : listOf w.S d = some ds) : ∃ a vs, v = .ref a ∧ SqL K w.H a vs ∧ vs.length ≤ sizeLine ∧ Reps K Γ w ds vs := by
  unfold listOf at e
  split at e
  · cases e
    rcases h with h | ⟨_, a, rfl, h⟩
    · simp only [Rep, RepC] at h
      obtain ⟨a, vs, h1, h2, h3, h4⟩ := h
      exact ⟨a, vs, h1, SqL.of (o.same _ _ h2), h3, h4⟩
    · obtain ⟨vs, h1, h2, h3⟩ := h.at_
      exact ⟨a, vs, rfl, SqL.of h1, h2, h3⟩
  · cases e
    rcases h with h | ⟨_, a, rfl, h⟩
    · simp only [Rep, RepC] at h
      obtain ⟨a, h1, h2, h3⟩ := h
      exact ⟨a, _, h1, sqL_mono o.same h2, by rw [List.length_map]; exact h3, reps_ints⟩
    · exact False.elim h.at_
  · split at e
    · rename_i n ds' q
      cases e
      rcases h with h | ⟨_, a, rfl, h⟩
      · simp only [Rep, RepC] at h
        obtain ⟨a, h1, h2⟩ := h
        obtain ⟨b, h3, _, vs, h4, h5, h6⟩ := o.cell _ _ q
        rw [h1] at h3
        cases h3
        exact ⟨a, vs, h2, SqL.of h4, h5, h6⟩
      · exact False.elim h.at_
    · cases e
  · cases e
def tupOf (d : D) : Option (List D) := match d with
  | .tup ds => some ds
  | _ => none
theorem tupOf_ok {d : D} {v : V} {ds : List D} (o : Ok K Γ w) (h : Pk K Γ w d v) (e : tupOf d = some ds) : ∃ a vs, v = .ref a ∧ SqT K w.H a vs ∧ vs.length ≤ sizeLine ∧ Reps K Γ w ds vs := by
  unfold tupOf at e
  split at e
  · cases e
    rcases h with h | ⟨_, a, rfl, h⟩
    · simp only [Rep, RepC] at h
      obtain ⟨a, vs, h1, h2, h3, h4⟩ := h
      exact ⟨a, vs, h1, sqT_mono o.same h2, h3, h4⟩
    · exact False.elim h.at_
  · cases e
def objOf (S : Sto) (d : D) : Option (Nat × List Str × List D) := match d with
  | .obj c ns ds => some (c, ns, ds)
  | .ref n => match S[n]? with
    | some (some (.obj c ns ds)) => some (c, ns, ds)
    | _ => none
  | _ => none
theorem objOf_ok {d : D} {v : V} {c : Nat} {ns : List Str} {ds : List D} (o : Ok K Γ w) (h : Pk K Γ w d v) (e : objOf w.S d = some (c, ns, ds)) : ∃ a dx vs, v = .ref a ∧ w.H a = some (.ins (Γ c) dx (ns.zip vs)) ∧ ns.length = vs.length ∧ Reps K Γ w ds vs := by
  unfold objOf at e
  split at e
  · cases e
    rcases h with h | ⟨_, a, rfl, h⟩
    · simp only [Rep, RepC] at h
      obtain ⟨a, dx, vs, h1, h2, h3, h4⟩ := h
      exact ⟨a, dx, vs, h1, o.same _ _ h2, h3, h4⟩
    · obtain ⟨dx, vs, h1, h2, h3⟩ := h.at_
      exact ⟨a, dx, vs, rfl, h1, h2, h3⟩
  · split at e
    · rename_i n c' ns' ds' q
      cases e
      rcases h with h | ⟨_, a, rfl, h⟩
      · simp only [Rep, RepC] at h
        obtain ⟨a, h1, h2⟩ := h
        obtain ⟨b, h3, _, dx, vs, h4, h5, h6⟩ := o.cell _ _ q
        rw [h1] at h3
        cases h3
        exact ⟨a, dx, vs, h2, h4, h5, h6⟩
      · exact False.elim h.at_
    · cases e
  · cases e
def truD (S : Sto) (d : D) : Option Bool := match d with
  | .non => some false
  | .bl b => some b
  | .int i => some (i != 0)
  | d => match listOf S d with
    | some ds => some (!ds.isEmpty)
    | none => match tupOf d with
      | some ds => some (!ds.isEmpty)
      | none => none
theorem empty_reps {ds : List D} {vs : List V} (h : Reps K Γ w ds vs) : ds.isEmpty = vs.isEmpty := by
  have := reps_len h
  cases ds <;> cases vs <;> first | rfl | (simp at this)
theorem truD_ok {d : D} {v : V} {b : Bool} (o : Ok K Γ w) (h : Pk K Γ w d v) (e : truD w.S d = some b) : TruV K v w.H b := by
  unfold truD at e
  split at e
  · cases e; rw [pk_non h]; rfl
  · cases e; rw [pk_bl h]; rfl
  · cases e; rw [pk_int h]; rfl
  · split at e
    · rename_i ds q
      cases e
      obtain ⟨a, vs, rfl, h1, _, h2⟩ := listOf_ok o h q
      exact .inl ⟨vs, h1, by rw [empty_reps h2]⟩
    · split at e
      · rename_i ds q
        cases e
        obtain ⟨a, vs, rfl, h1, _, h2⟩ := tupOf_ok o h q
        exact .inr (.inl ⟨vs, h1, by rw [empty_reps h2]⟩)
      · cases e
def mTru (me : ME) : MT := fun δ S => bnd (me δ S) fun d S => match truD S d with
  | some b => .ok b S
  | none => .bad
theorem sim_tru (h : SimP K Γ xa W te me) : SimT K Γ xa W (tTru K te) (mTru me) := ⟨fun w0 w σ δ Q o e n p =>
  h.run w0 w σ δ _ o e n (p.then fun d w1 o1 e1 p1 v r1 => by
    split at p1
    · rename_i b q
      exact ⟨b, truD_ok o1 r1 q, Post.now p1 o1⟩
    · exact False.elim p1)⟩
variable {t u : TT} {mt mu : MT}
def mYes : MT := fun _ S => .ok true S
theorem sim_yes : SimT K Γ xa W tYes mYes := ⟨fun w0 w σ δ Q o e n p => Post.now p o⟩
def mAnd (mt mu : MT) : MT := fun δ S => bnd (mt δ S) fun b S => if b then mu δ S else .ok false S
theorem sim_and (h : SimT K Γ xa W t mt) (g : SimT K Γ xa W u mu) : SimT K Γ xa W (tAnd t u) (mAnd mt mu) := ⟨fun w0 w σ δ Q o e n p =>
  h.run w0 w σ δ _ o e n (p.then fun b w1 o1 e1 p1 => by
    cases b
    · rw [if_neg (by simp)]; exact Post.now p1 o1
    · rw [if_pos rfl]; exact g.run w0 w1 σ δ _ o1 (e.trans e1) (n.ev e1) p1)⟩
def mOr (mt mu : MT) : MT := fun δ S => bnd (mt δ S) fun b S => if b then .ok true S else mu δ S
theorem sim_or (h : SimT K Γ xa W t mt) (g : SimT K Γ xa W u mu) : SimT K Γ xa W (tOr t u) (mOr mt mu) := ⟨fun w0 w σ δ Q o e n p =>
  h.run w0 w σ δ _ o e n (p.then fun b w1 o1 e1 p1 => by
    cases b
    · rw [if_neg (by simp)]; exact g.run w0 w1 σ δ _ o1 (e.trans e1) (n.ev e1) p1
    · rw [if_pos rfl]; exact Post.now p1 o1)⟩
def mNot (mt : MT) : MT := fun δ S => bnd (mt δ S) fun b S => .ok (!b) S
theorem sim_not (h : SimT K Γ xa W t mt) : SimT K Γ xa W (tNot t) (mNot mt) := ⟨fun w0 w σ δ Q o e n p =>
  h.run w0 w σ δ _ o e n (p.then fun b w1 o1 e1 p1 => Post.now p1 o1)⟩
def mAndV (ma mb : ME) : ME := fun δ S => bnd (ma δ S) fun d S => match d with
  | .bl b => if b then mb δ S else .ok (.bl false) S
  | _ => .bad
theorem sim_andV (h : SimE K Γ xa W ta ma) (g : SimE K Γ xa W tb mb) : SimE K Γ xa W (tAndV ta tb) (mAndV ma mb) := ⟨fun w0 w σ δ Q o e n p =>
  h.run w0 w σ δ _ o e n (p.then fun d w1 o1 e1 p1 v r1 => by
    split at p1
    · rename_i b
      refine ⟨b, rep_bl r1, ?_⟩
      cases b
      · rw [if_neg (by simp)]; exact Post.now p1 o1 _ rfl
      · rw [if_pos rfl]; exact g.run w0 w1 σ δ _ o1 (e.trans e1) (n.ev e1) p1
    · exact False.elim p1)⟩
def mOrV (ma mb : ME) : ME := fun δ S => bnd (ma δ S) fun d S => match d with
  | .bl b => if b then .ok (.bl true) S else mb δ S
  | _ => .bad
theorem sim_orV (h : SimE K Γ xa W ta ma) (g : SimE K Γ xa W tb mb) : SimE K Γ xa W (tOrV ta tb) (mOrV ma mb) := ⟨fun w0 w σ δ Q o e n p =>
  h.run w0 w σ δ _ o e n (p.then fun d w1 o1 e1 p1 v r1 => by
    split at p1
    · rename_i b
      refine ⟨b, rep_bl r1, ?_⟩
      cases b
      · rw [if_neg (by simp)]; exact g.run w0 w1 σ δ _ o1 (e.trans e1) (n.ev e1) p1
      · rw [if_pos rfl]; exact Post.now p1 o1 _ rfl
    · exact False.elim p1)⟩
def mNotV (ma : ME) : ME := fun δ S => bnd (ma δ S) fun d S => match d with
  | .bl b => .ok (.bl (!b)) S
  | _ => .bad
def mIf (mt : MT) (ma mb : ME) : ME := fun δ S => bnd (mt δ S) fun b S => if b then ma δ S else mb δ S
def mChain (op op' : D → D → Sto → Out D) (ma mb mc : ME) : ME := fun δ S => bnd (ma δ S) fun x S => bnd (mb δ S) fun y S => bnd (op x y S) fun z S => match z with
  | .bl k => if k then bnd (mc δ S) fun u S => op' y u S else .ok (.bl false) S
  | _ => .bad
variable {tl : TA} {ml : MA} {n : Nat}
def mNil : MA := fun _ S => .ok [] S
def mCons (me : ME) (ml : MA) : MA := fun δ S => bnd (me δ S) fun x S => bnd (ml δ S) fun xs S => .ok (x :: xs) S
theorem bnd_ok {α β : Type} {o : Out α} {f : α → Sto → Out β} {b : β} {S : Sto} (h : bnd o f = .ok b S) : ∃ a S1, o = .ok a S1 ∧ f a S1 = .ok b S := by
  cases o with
  | ok a S1 => exact ⟨a, S1, rfl, h⟩
  | ex => cases h
  | bad => cases h
theorem sim_nil : SimA K Γ xa W 0 tNil mNil := ⟨fun δ S ds S' h => by cases h; rfl, fun w0 w σ δ Q o e n p => Post.now p o [] reps_nil⟩
theorem sim_cons (h : SimE K Γ xa W te me) (g : SimA K Γ xa W n tl ml) : SimA K Γ xa W (n + 1) (tCons te tl) (mCons me ml) := by
  refine ⟨fun δ S ds S' h => ?_, fun w0 w σ δ Q o e nn p => ?_⟩
  · obtain ⟨a, S1, h1, h2⟩ := bnd_ok h
    obtain ⟨b, S2, h3, h4⟩ := bnd_ok h2
    cases h4
    rw [List.length_cons, g.len _ _ _ _ h3]
  · exact h.run w0 w σ δ _ o e nn (p.then fun x w1 o1 e1 p1 v r1 => g.run w0 w1 σ δ _ o1 (e.trans e1) (nn.ev e1) (p1.then fun xs w2 o2 e2 p2 vs rs => Post.now p2 o2 _ (reps_cons (Rep.ev r1 e2) rs)))
theorem sim_pnil : SimPA K Γ xa W tNil mNil := ⟨fun w0 w σ δ Q o e n p => Post.now p o [] .nil⟩
theorem Pks.ev {ds : List D} {vs : List V} (h : Pks K Γ w ds vs) (e : Ev w w') : Pks K Γ w' ds vs := by
  induction h with
  | nil => exact .nil
  | cons h _ ih => exact .cons (h.ev e) ih
theorem sim_pcons (h : SimP K Γ xa W te me) (g : SimPA K Γ xa W tl ml) : SimPA K Γ xa W (tCons te tl) (mCons me ml) := ⟨fun w0 w σ δ Q o e nn p =>
  h.run w0 w σ δ _ o e nn (p.then fun x w1 o1 e1 p1 v r1 => g.run w0 w1 σ δ _ o1 (e.trans e1) (nn.ev e1) (p1.then fun xs w2 o2 e2 p2 vs rs => Post.now p2 o2 _ (.cons (r1.ev e2) rs)))⟩
def mTup (ml : MA) : ME := fun δ S => bnd (ml δ S) fun ds S => .ok (.tup ds) S
theorem post_len {ok : List D → Wd → Prop} {ex : XP} {o : Out (List D)} (h : Post K Γ o w ok ex) : Post K Γ o w (fun ds w' => (∃ S, o = .ok ds S) ∧ ok ds w') ex := by
  cases o with
  | ok a S => exact fun w1 hs ho he => ⟨⟨S, rfl⟩, h w1 hs ho he⟩
  | ex c ns ds S => exact h
  | bad => exact h
theorem sim_tup (g : SimA K Γ xa W n tl ml) (hn : n ≤ 1000 := by decide) : SimE K Γ xa W (tTup tl) (mTup ml) := ⟨fun w0 w σ δ Q o e nn p =>
  g.run w0 w σ δ _ o e nn ((post_len (p.then (ok' := fun ds w1 => Ok K Γ w1 ∧ Post K Γ (.ok (D.tup ds) w1.S) w1 (fun d w' => ∀ v, Rep K Γ w' d v → Q v w'.H) (XW K Γ W σ)) fun ds w1 o1 e1 p1 => ⟨o1, p1⟩)).mono (fun ds w1 o1 e1 q vs rs => by
    obtain ⟨⟨S, hS⟩, _, p1⟩ := q
    have hl : vs.length ≤ sizeLine := by
      rw [← reps_len rs, g.len _ _ _ _ hS]
      exact Nat.le_trans hn (by decide)
    refine ⟨hl, fun pp hp => ?_⟩
    have ev := ev_frz (o := .tup vs) o1 hp
    refine p1.at (w' := wFrz w1 pp (.tup vs)) rfl (ok_frz o1 hp) ev _ ?_
    simp only [Rep, RepC]
    exact ⟨pp, vs, rfl, SqT.of upd_same, hl, Reps.ev rs ev⟩) fun _ _ _ _ _ _ x => x)⟩
def mLst (ml : MA) : ME := fun δ S => bnd (ml δ S) fun ds S => .ok (.lst ds) S
theorem own_new {p : Addr} {o : HO} {d : D} (h : Ok K Γ w) (hp : w.H p = none) (at_ : At K Γ (wPut w p o) d p) : OwnAt K Γ w (wPut w p o) d p := ⟨hp, (r_none h hp : w.R p = none), fun l => not_live h hp l, at_⟩
theorem sim_lst (g : SimA K Γ xa W n tl ml) (hn : n ≤ 1000 := by decide) : SimF K Γ xa W (tLst tl) (mLst ml) := ⟨fun w0 w σ δ Q o e nn p =>
  g.run w0 w σ δ _ o e nn ((post_len (p.then (ok' := fun ds w1 => Post K Γ (.ok (D.lst ds) w1.S) w1 (fun d w' => ∀ a, OwnAt K Γ w w' d a → Q (.ref a) w'.H) (XW K Γ W σ)) fun ds w1 o1 e1 p1 => p1)).mono (fun ds w1 o1 e1 q vs rs => by
    obtain ⟨⟨S, hS⟩, p1⟩ := q
    have hl : vs.length ≤ sizeLine := by
      rw [← reps_len rs, g.len _ _ _ _ hS]
      exact Nat.le_trans hn (by decide)
    refine ⟨hl, fun pp hp => ?_⟩
    have ev := ev_put (o := .lst vs) (Ev.refl w1) hp
    exact p1.at (w' := wPut w1 pp (.lst vs)) rfl (ok_put o1 (r_none o1 hp) (not_live o1 hp)) ev _ (own_back e1 (own_new o1 hp ⟨vs, upd_same, hl, Reps.ev rs ev⟩))) fun _ _ _ _ _ _ x => x)⟩
end
end MR

namespace MR
open PySem PySem.Spec PyProof.Rows L2 TP
def bndS {α : Type} (o : Out α) (δ : Env) (f : α → Sto → Out Fl) : Out Fl := match o with
  | .ok a S => f a S
  | .ex c ns ds S => .ok (.ex c ns ds δ) S
  | .bad => .bad
section
variable {K : PySem.W.Frag} {Γ : Nat → Addr} {xa : XT} {W : WX} {te ta tb : TE} {me ma mb : ME} {w w' w0 w1 : Wd} {t u : TT} {mt mu : MT} {ts us : TS} {ms mus : MS} {Dn : Ends}
theorem PostS.gr {o : Out Fl} (h : PostS K Γ xa W o w0 w Dn) (g : Gr w w') : PostS K Γ xa W o w0 w' Dn := by
  cases o with
  | ok f S => cases f <;> exact fun w1 σ hs ho he hg => h w1 σ hs ho he (g.trans hg)
  | ex => exact h
  | bad => exact h
theorem PostS.then {α : Type} {o : Out α} {δ : Env} {σ : L2.St} {f : α → Sto → Out Fl} {ok : α → Wd → Prop} (h : PostS K Γ xa W (bndS o δ f) w0 w Dn) (e : Ev w0 w) (n : EnvOk K Γ xa w0 w σ δ)
    (g : ∀ a w', Ok K Γ w' → Ev w w' → PostS K Γ xa W (f a w'.S) w0 w' Dn → ok a w') : Post K Γ o w ok (XW K Γ W σ) := by
  cases o with
  | ok a S => exact fun w1 hs ho he => g a w1 ho he (by subst hs; exact PostS.gr h he.gr)
  | ex c ns ds S => exact fun w1 hs ho he => h w1 σ hs ho (e.trans he) he.gr (n.ev he)
  | bad => exact h
theorem PostS.nx {δ : Env} {σ : L2.St} (h : PostS K Γ xa W (.ok (.nx δ) w.S) w0 w Dn) (o : Ok K Γ w) (e : Ev w0 w) (n : EnvOk K Γ xa w0 w σ δ) : Dn.nx σ w.H := h w σ rfl o e (Gr.refl w) n
theorem PostS.rt {d : D} {v : V} (h : PostS K Γ xa W (.ok (.rt d) w.S) w0 w Dn) (o : Ok K Γ w) (e : Ev w0 w) (n : Rep K Γ w d v) : Dn.rt v w.H := h w v rfl o e (Gr.refl w) n
def mNext : MS := fun δ S => .ok (.nx δ) S
theorem sim_next : SimS K Γ xa W tNext mNext := ⟨fun w0 w σ δ Dn o e n p => p.nx o e n⟩
def onNx (o : Out Fl) (f : Env → Sto → Out Fl) : Out Fl := match o with
  | .ok (.nx δ) S => f δ S
  | o => o
def mSeq (ms mus : MS) : MS := fun δ S => onNx (ms δ S) mus
theorem sim_seq (h : SimS K Γ xa W ts ms) (g : SimS K Γ xa W us mus) : SimS K Γ xa W (tSeq ts us) (mSeq ms mus) := ⟨fun w0 w σ δ Dn o e n p => by
  refine h.run w0 w σ δ _ o e n ?_
  unfold mSeq onNx at p
  cases z : ms δ w.S with
  | ok f S =>
    rw [z] at p
    cases f with
    | nx δ' => exact fun w1 σ1 hs ho he hg hn => g.run w0 w1 σ1 δ' Dn ho he hn (by subst hs; exact PostS.gr p hg)
    | rt d => exact p
    | bk d => exact p
    | ct d => exact p
    | ex => exact p
  | ex => rw [z] at p; exact p
  | bad => rw [z] at p; exact p⟩
variable {vs : List Nat} {tg : TG} {mg : MG}
def onG (o : Option Env) (S : Sto) : Out Fl := match o with
  | some δ => .ok (.nx δ) S
  | none => .bad
def mAsg (me : ME) (mg : MG) : MS := fun δ S => bndS (me δ S) δ fun d S => onG (mg d δ) S
theorem sim_asg (h : SimE K Γ xa W te me) (g : SimN K Γ xa vs tg mg) : SimS K Γ xa W (tAsg te tg) (mAsg me mg) := ⟨fun w0 w σ δ Dn o e n p =>
  h.run w0 w σ δ _ o e n (p.then e n fun d w1 o1 e1 p1 v r1 => g.run w0 w1 σ δ d v _ o1 (n.ev e1) r1 (by
    cases z : mg d δ with
    | some δ' => rw [z] at p1; exact fun σ2 hn _ _ => p1.nx o1 (e.trans e1) hn
    | none => rw [z] at p1; exact p1))⟩
def mGName (i : Nat) : MG := fun d δ => some (δ.set i (.val d))
theorem sim_gname {i : Nat} : SimN K Γ xa [i] (gName i) (mGName i) := ⟨fun w0 w σ δ d v Q o n r p =>
  p _ (n.set r) (by rw [List.length_set]) fun j hj => by
    rw [List.getElem?_set, if_neg (fun z => hj (by rw [z]; exact List.mem_singleton_self _))]⟩
def mAsgO (me : ME) (i : Nat) : MS := fun δ S => bndS (me δ S) δ fun d S => .ok (.nx (δ.set i (.own false d))) S
theorem sim_asgO {i : Nat} (h : SimF K Γ xa W te me) : SimS K Γ xa W (tAsg te (gName i)) (mAsgO me i) := ⟨fun w0 w σ δ Dn o e n p =>
  h.run w0 w σ δ _ o e n (p.then e n fun d w1 o1 e1 p1 a oa => p1.nx o1 (e.trans e1) ((n.ev e1).setOwn (own_back e oa) fun j f e' b h1 h2 => by
    have h3 := n.own h1
    obtain ⟨b', h4, h5⟩ := h3
    rw [h2] at h4
    cases h4
    obtain ⟨u, hu⟩ := at_some h5.at_
    exact ne_of_none hu oa.new))⟩
def mAsgC (me : ME) (i : Nat) : MS := fun δ S => bndS (me δ S) δ fun d S => .ok (.nx (δ.set i (.val (.ref S.length)))) (S ++ [some d])
theorem rep_ref {a : Addr} {d : D} (o : Ok K Γ w) : Rep K Γ (wAdd w a d) (.ref w.S.length) (.ref a) := by
  simp only [Rep, RepC]
  exact ⟨a, by rw [o.len]; simp [wAdd], rfl⟩
def mRet (me : ME) : MS := fun δ S => bndS (me δ S) δ fun d S => .ok (.rt d) S
theorem sim_ret (h : SimE K Γ xa W te me) : SimS K Γ xa W (tRet te) (mRet me) := ⟨fun w0 w σ δ Dn o e n p =>
  h.run w0 w σ δ _ o e n (p.then e n fun d w1 o1 e1 p1 v r1 => p1.rt o1 (e.trans e1) r1)⟩
def mDrop (me : ME) : MS := fun δ S => bndS (me δ S) δ fun _ S => .ok (.nx δ) S
def mIfS (mt : MT) (ms mus : MS) : MS := fun δ S => bndS (mt δ S) δ fun b S => if b then ms δ S else mus δ S
theorem sim_ifS (h : SimT K Γ xa W t mt) (f : SimS K Γ xa W ts ms) (g : SimS K Γ xa W us mus) : SimS K Γ xa W (tIfS t ts us) (mIfS mt ms mus) := ⟨fun w0 w σ δ Dn o e n p =>
  h.run w0 w σ δ _ o e n (p.then e n fun b w1 o1 e1 p1 => by
    cases b
    · rw [if_neg (by simp)]; exact g.run w0 w1 σ δ _ o1 (e.trans e1) (n.ev e1) p1
    · rw [if_pos rfl]; exact f.run w0 w1 σ δ _ o1 (e.trans e1) (n.ev e1) p1)⟩
def mFix (i : Nat) (ms : MS) : MS := fun δ S => match δ[i]? with
  | some (.own _ d) => ms (δ.set i (.val d)) S
  | _ => ms δ S
end
end MR

namespace MR
open PySem PySem.Spec PyProof.Rows L2 TP
structure Items (K : PySem.W.Frag) (Γ : Nat → Addr) (rel : Wd → Wd → Prop) (w : Wd) (J : It) (ds : List D) : Prop where
  len : ds.length ≤ sizeLine
  go : ∀ w1 i, Ok K Γ w1 → rel w w1 → i < ds.length → J.go i w1.H
  yld : ∀ w1 i x H', Ok K Γ w1 → rel w w1 → i < ds.length → J.yld i w1.H x H' → ∃ w2 d, w2.H = H' ∧ w2.S = w1.S ∧ Ok K Γ w2 ∧ Ev w1 w2 ∧ ds[i]? = some d ∧ Rep K Γ w2 d x
  stop : ∀ w1, Ok K Γ w1 → rel w w1 → J.stop ds.length w1.H
structure SimI (K : PySem.W.Frag) (Γ : Nat → Addr) (xa : XT) (rel : Wd → Wd → Prop) (W : WX) (wi : TI) (mi : MA) : Prop where
  run : ∀ (w0 w : Wd) (σ : L2.St) (δ : Env) (R : It → Hp → Prop), Ok K Γ w → Ev w0 w → EnvOk K Γ xa w0 w σ δ → Post K Γ (mi δ w.S) w (fun ds w' => ∀ J, Items K Γ rel w' J ds → R J w'.H) (XW K Γ W σ) → wi σ w.H R
section
variable {K : PySem.W.Frag} {Γ : Nat → Addr} {xa : XT} {W : WX} {te ta tb : TE} {me ma mb : ME} {w w' w0 w1 : Wd} {t u : TT} {mt mu : MT} {ts us : TS} {ms mus : MS} {Dn : Ends} {tl : TA} {ml : MA} {wi : TI} {mi : MA}
theorem Items.ev {J : It} {ds : List D} (h : Items K Γ Gr w J ds) : Items K Γ Ev w J ds := ⟨h.len, fun w1 i o e => h.go w1 i o e.gr, fun w1 i x H' o e => h.yld w1 i x H' o e.gr, fun w1 o e => h.stop w1 o e.gr⟩
theorem SimI.ev (h : SimI K Γ xa Gr W wi mi) : SimI K Γ xa Ev W wi mi := ⟨fun w0 w σ δ R o e n p => h.run w0 w σ δ R o e n (p.mono (fun ds w' _ _ q J it => q J it.ev) fun _ _ _ _ _ _ x => x)⟩
theorem items_list {rel : Wd → Wd → Prop} {a : Addr} {vs : List V} {ds : List D} (hl : vs.length ≤ sizeLine) (h : ∀ w1, Ok K Γ w1 → rel w w1 → SqL K w1.H a vs ∧ Reps K Γ w1 ds vs) (hw : rel w w) (o : Ok K Γ w) : Items K Γ rel w (Itl K a) ds := by
  have el : ds.length = vs.length := reps_len (h w o hw).2
  refine ⟨by omega, fun w1 i o1 e1 hi => ?_, fun w1 i x H' o1 e1 hi y => ?_, fun w1 o1 e1 => ⟨vs, (h w1 o1 e1).1, by omega⟩⟩
  · exact ⟨vs, _, (h w1 o1 e1).1, List.getElem?_eq_getElem (by omega)⟩
  · obtain ⟨rfl, y⟩ := y
    obtain ⟨h1, h2⟩ := h w1 o1 e1
    obtain ⟨d, hd, hr⟩ := reps_get' h2 (y vs h1)
    exact ⟨w1, d, rfl, rfl, o1, Ev.refl w1, hd, hr⟩
def mIList (me : ME) : MA := fun δ S => bnd (me δ S) fun d S => match d with
  | .lst ds => .ok ds S
  | .scr is => .ok (is.map D.int) S
  | _ => .bad
theorem sim_ilist (h : SimE K Γ xa W te me) : SimI K Γ xa Gr W (iList K te) (mIList me) := ⟨fun w0 w σ δ R o e n p =>
  h.run w0 w σ δ _ o e n (p.then fun d w1 o1 e1 p1 v r1 => by
    split at p1
    · simp only [Rep, RepC] at r1
      obtain ⟨a, vs, h1, h2, h3, h4⟩ := r1
      exact ⟨a, h1, ⟨vs, SqL.of (o1.same _ _ h2)⟩, Post.now p1 o1 _ (items_list h3 (fun w2 o2 g2 => ⟨SqL.of (o2.same _ _ (g2.rr _ _ h2)), Reps.gr h4 g2⟩) (Gr.refl _) o1)⟩
    · simp only [Rep, RepC] at r1
      obtain ⟨a, h1, h2, h3⟩ := r1
      exact ⟨a, h1, ⟨_, sqL_mono o1.same h2⟩, Post.now p1 o1 _ (items_list (by rw [List.length_map]; exact h3) (fun w2 o2 g2 => ⟨sqL_mono o2.same (sqL_mono g2.rr h2), reps_ints⟩) (Gr.refl _) o1)⟩
    · exact False.elim p1)⟩
theorem sim_ilistP (h : SimP K Γ xa W te me) : SimI K Γ xa Ev W (iList K te) (mIList me) := ⟨fun w0 w σ δ R o e n p =>
  h.run w0 w σ δ _ o e n (p.then fun d w1 o1 e1 p1 v r1 => by
    rcases r1 with r1 | ⟨w9, a, rfl, oa⟩
    · split at p1
      · simp only [Rep, RepC] at r1
        obtain ⟨a, vs, h1, h2, h3, h4⟩ := r1
        exact ⟨a, h1, ⟨vs, SqL.of (o1.same _ _ h2)⟩, Post.now p1 o1 _ (items_list h3 (fun w2 o2 g2 => ⟨SqL.of (o2.same _ _ (g2.rr _ _ h2)), Reps.ev h4 g2⟩) (Ev.refl _) o1)⟩
      · simp only [Rep, RepC] at r1
        obtain ⟨a, h1, h2, h3⟩ := r1
        exact ⟨a, h1, ⟨_, sqL_mono o1.same h2⟩, Post.now p1 o1 _ (items_list (by rw [List.length_map]; exact h3) (fun w2 o2 g2 => ⟨sqL_mono o2.same (sqL_mono g2.rr h2), reps_ints⟩) (Ev.refl _) o1)⟩
      · exact False.elim p1
    · split at p1
      · obtain ⟨vs, h1, h2, h3⟩ := oa.at_
        exact ⟨a, rfl, ⟨vs, SqL.of h1⟩, Post.now p1 o1 _ (items_list h2 (fun w2 o2 g2 => ⟨SqL.of (g2.keep _ _ h1 oa.nl), Reps.ev h3 g2⟩) (Ev.refl _) o1)⟩
      · exact False.elim oa.at_
      · exact False.elim p1)⟩
def mITup (me : ME) : MA := fun δ S => bnd (me δ S) fun d S => match d with
  | .tup ds => .ok ds S
  | _ => .bad
theorem items_tup {rel : Wd → Wd → Prop} {a : Addr} {vs : List V} {ds : List D} (hl : vs.length ≤ sizeLine) (h : ∀ w1, Ok K Γ w1 → rel w w1 → SqT K w1.H a vs ∧ Reps K Γ w1 ds vs) (hw : rel w w) (o : Ok K Γ w) : Items K Γ rel w (Itt K a) ds := by
  have el : ds.length = vs.length := reps_len (h w o hw).2
  refine ⟨by omega, fun w1 i o1 e1 hi => ?_, fun w1 i x H' o1 e1 hi y => ?_, fun w1 o1 e1 => ⟨vs, (h w1 o1 e1).1, by omega⟩⟩
  · exact ⟨vs, _, (h w1 o1 e1).1, List.getElem?_eq_getElem (by omega)⟩
  · obtain ⟨rfl, y⟩ := y
    obtain ⟨h1, h2⟩ := h w1 o1 e1
    obtain ⟨d, hd, hr⟩ := reps_get' h2 (y vs h1)
    exact ⟨w1, d, rfl, rfl, o1, Ev.refl w1, hd, hr⟩
theorem sim_itup (h : SimE K Γ xa W te me) : SimI K Γ xa Gr W (iTup K te) (mITup me) := ⟨fun w0 w σ δ R o e n p =>
  h.run w0 w σ δ _ o e n (p.then fun d w1 o1 e1 p1 v r1 => by
    split at p1
    · simp only [Rep, RepC] at r1
      obtain ⟨a, vs, h1, h2, h3, h4⟩ := r1
      exact ⟨a, h1, ⟨vs, sqT_mono o1.same h2⟩, Post.now p1 o1 _ (items_tup h3 (fun w2 o2 g2 => ⟨sqT_mono o2.same (sqT_mono g2.rr h2), Reps.gr h4 g2⟩) (Gr.refl _) o1)⟩
    · exact False.elim p1)⟩
def rngD (lo : Int) (n : Nat) : List D := (List.range n).map fun k : Nat => D.int (lo + k)
theorem items_rng {rel : Wd → Wd → Prop} {lo : Int} {n : Nat} (hn : n ≤ sizeLine) : Items K Γ rel w (Itr lo n) (rngD lo n) := by
  have el : (rngD lo n).length = n := by simp [rngD]
  refine ⟨by rw [el]; exact hn, fun w1 i o1 e1 hi => by rw [el] at hi; exact hi, fun w1 i x H' o1 e1 hi y => ?_, fun w1 o1 e1 => by rw [el]; exact Nat.le_refl _⟩
  obtain ⟨rfl, rfl⟩ := y
  rw [el] at hi
  exact ⟨w1, .int (lo + i), rfl, rfl, o1, Ev.refl w1, by simp [rngD, hi], by simp only [Rep, RepC]⟩
def mIRng1 (ml : MA) : MA := fun δ S => bnd (ml δ S) fun ds S => match ds with
  | [.int j] => if j ≤ 16777216 ∧ -16777216 ≤ j then .ok (rngD 0 j.toNat) S else .bad
  | _ => .bad
theorem reps1 {d : D} {vs : List V} (h : Reps K Γ w [d] vs) : ∃ v, vs = [v] ∧ Rep K Γ w d v := by
  obtain ⟨v, ws, rfl, r, r2⟩ := reps_inv h
  simp only [RepsC] at r2
  subst r2
  exact ⟨v, rfl, r⟩
theorem reps2 {d e : D} {vs : List V} (h : Reps K Γ w [d, e] vs) : ∃ v u, vs = [v, u] ∧ Rep K Γ w d v ∧ Rep K Γ w e u := by
  obtain ⟨v, ws, rfl, r, r2⟩ := reps_inv h
  obtain ⟨u, rfl, q⟩ := reps1 r2
  exact ⟨v, u, rfl, r, q⟩
theorem sim_irng1 {n : Nat} (h : SimA K Γ xa W n tl ml) : SimI K Γ xa Gr W (iRng1 tl) (mIRng1 ml) := ⟨fun w0 w σ δ R o e n p =>
  h.run w0 w σ δ _ o e n (p.then fun ds w1 o1 e1 p1 vs r1 => by
    split at p1
    · rename_i j
      obtain ⟨v, rfl, r⟩ := reps1 r1
      rw [rep_int r]
      split at p1
      · rename_i hj
        exact ⟨j, rfl, by omega, by omega, Post.now p1 o1 _ (items_rng (by show j.toNat ≤ 2 ^ 24; omega))⟩
      · exact False.elim p1
    · exact False.elim p1)⟩
def mIRng2 (ml : MA) : MA := fun δ S => bnd (ml δ S) fun ds S => match ds with
  | [.int i, .int j] => if (j ≤ 16777216 ∧ -16777216 ≤ j) ∧ (i ≤ 16777216 ∧ -16777216 ≤ i) ∧ j - i ≤ 16777216 then .ok (rngD i (j - i).toNat) S else .bad
  | _ => .bad
theorem sim_irng2 {n : Nat} (h : SimA K Γ xa W n tl ml) : SimI K Γ xa Gr W (iRng2 tl) (mIRng2 ml) := ⟨fun w0 w σ δ R o e n p =>
  h.run w0 w σ δ _ o e n (p.then fun ds w1 o1 e1 p1 vs r1 => by
    split at p1
    · rename_i i j
      obtain ⟨v, u, rfl, r, r'⟩ := reps2 r1
      rw [rep_int r, rep_int r']
      split at p1
      · rename_i hj
        exact ⟨i, j, rfl, ⟨by omega, by omega, by omega, by omega⟩, Post.now p1 o1 _ (items_rng (by show (j - i).toNat ≤ 2 ^ 24; omega))⟩
      · exact False.elim p1
    · exact False.elim p1)⟩
def enumD (ds : List D) : List D := ds.mapIdx fun i d => D.tup [.int (i : Nat), d]
def mIEnum (ml : MA) : MA := fun δ S => bnd (ml δ S) fun ds S => match ds with
  | [.lst ds] => .ok (enumD ds) S
  | _ => .bad
variable {vs : List Nat} {tg : TG} {mg : MG}
def mLoop (mg : MG) (ms : MS) : List D → Env → Sto → Out Fl
  | [], δ, S => .ok (.nx δ) S
  | d :: ds, δ, S => match mg d δ with
    | none => .bad
    | some δ1 => match ms δ1 S with
      | .ok (.nx δ2) S2 => mLoop mg ms ds δ2 S2
      | .ok (.ct δ2) S2 => mLoop mg ms ds δ2 S2
      | .ok (.bk δ2) S2 => .ok (.nx δ2) S2
      | o => o
def mFor (mi : MA) (mg : MG) (ms : MS) : MS := fun δ S => bndS (mi δ S) δ fun ds S => mLoop mg ms ds δ S
theorem sim_for (hi : SimI K Γ xa Gr W wi mi) (hg : SimN K Γ xa vs tg mg) (hb : SimS K Γ xa W ts ms) : SimS K Γ xa W (tFor wi tg ts) (mFor mi mg ms) := ⟨fun w0 w σ δ Dn o e n p =>
  hi.run w0 w σ δ _ o e n (p.then e n fun ds w1 o1 e1 p1 J it => by
    refine ⟨fun i m σ H => m = ds.length - i ∧ i ≤ ds.length ∧ ∃ w' δ', w'.H = H ∧ Ok K Γ w' ∧ Ev w0 w' ∧ Gr w1 w' ∧ EnvOk K Γ xa w0 w' σ δ' ∧ PostS K Γ xa W (mLoop mg ms (ds.drop i) δ' w'.S) w0 w' Dn,
      ⟨_, rfl, Nat.zero_le _, w1, δ, rfl, o1, e.trans e1, Gr.refl _, n.ev e1, p1⟩, ?_⟩
    rintro i m σ' H ⟨rfl, hi, w', δ', rfl, o', e', g', n', p'⟩
    rcases Nat.lt_or_ge i ds.length with hlt | hge
    · refine .inr ⟨it.go w' i o' g' hlt, _, fun _ _ h => h, fun x H' y => ?_⟩
      obtain ⟨w2, d, rfl, hs2, o2, e2, hd, rx⟩ := it.yld w' i x H' o' g' hlt y
      have hdr : ds.drop i = d :: ds.drop (i + 1) := by
        rw [List.drop_eq_getElem_cons hlt]
        congr 1
        exact Option.some.inj ((List.getElem?_eq_getElem hlt).symm.trans hd)
      rw [hdr] at p'
      unfold mLoop at p'
      refine hg.run w0 w2 σ' δ' d x _ o2 (n'.ev e2) rx ?_
      cases zg : mg d δ' with
      | none => rw [zg] at p'; exact p'
      | some δ1 =>
        rw [zg] at p'
        intro σ1 n1 _ _
        refine hb.run w0 w2 σ1 δ1 _ o2 (e'.trans e2) n1 ?_
        have p2 := PostS.gr p' e2.gr
        rw [← hs2] at p2
        dsimp only at p2
        have m1 : ds.length - (i + 1) < ds.length - i := by omega
        have on : ∀ δ2 S2, PostS K Γ xa W (mLoop mg ms (ds.drop (i + 1)) δ2 S2) w0 w2 Dn → ∀ w3 σ3, w3.S = S2 → Ok K Γ w3 → Ev w0 w3 → Gr w2 w3 → EnvOk K Γ xa w0 w3 σ3 δ2 →
            ∃ m', m' < ds.length - i ∧ (m' = ds.length - (i + 1) ∧ i + 1 ≤ ds.length ∧ ∃ w' δ', w'.H = w3.H ∧ Ok K Γ w' ∧ Ev w0 w' ∧ Gr w1 w' ∧ EnvOk K Γ xa w0 w' σ3 δ' ∧ PostS K Γ xa W (mLoop mg ms (ds.drop (i + 1)) δ' w'.S) w0 w' Dn) :=
          fun δ2 S2 pp w3 σ3 hs ho he hgr hn => ⟨_, m1, rfl, hlt, w3, δ2, rfl, ho, he, g'.trans (e2.gr.trans hgr), hn, by rw [hs]; exact PostS.gr pp hgr⟩
        cases zm : ms δ1 w2.S with
        | ok f S2 =>
          rw [zm] at p2
          cases f with
          | nx δ2 => exact on δ2 S2 p2
          | ct δ2 => exact on δ2 S2 p2
          | bk δ2 => exact p2
          | rt d2 => exact p2
          | ex => exact p2
        | ex => rw [zm] at p2; exact p2
        | bad => rw [zm] at p2; exact p2
    · have hi' : i = ds.length := by omega
      subst hi'
      refine .inl ⟨it.stop w' o' g', ?_⟩
      rw [List.drop_length] at p'
      exact p'.nx o' e' n')⟩
def mwipe (δ : Env) : List Nat → Env
  | [] => δ
  | v :: vs => (mwipe δ vs).set v .no
theorem EnvOk.setNo {σ : L2.St} {δ : Env} {i : Nat} {x : Option V} (h : EnvOk K Γ xa w0 w σ δ) : EnvOk K Γ xa w0 w (σ.set i x) (δ.set i .no) := by
  refine ⟨by rw [List.length_set, List.length_set, h.len], fun j x s h1 h2 => ?_, fun j k b c d' e a h1 h2 h3 h4 => ?_⟩
  · rw [List.getElem?_set] at h1 h2
    by_cases q : i = j
    · rw [if_pos q] at h2
      split at h2 <;> cases h2
      trivial
    · rw [if_neg q] at h1 h2
      exact h.ok j x s h1 h2
  · rw [List.getElem?_set] at h1 h2 h3 h4
    by_cases q : i = j
    · rw [if_pos q] at h1; split at h1 <;> cases h1
    · by_cases q2 : i = k
      · rw [if_pos q2] at h2; split at h2 <;> cases h2
      · rw [if_neg q] at h1 h3
        rw [if_neg q2] at h2 h4
        exact h.sep j k b c d' e a h1 h2 h3 h4
theorem EnvOk.wipe {σ : L2.St} {δ : Env} (h : EnvOk K Γ xa w0 w σ δ) : ∀ vs : List Nat, EnvOk K Γ xa w0 w (wipe σ vs) (mwipe δ vs)
  | [] => h
  | v :: vs => (EnvOk.wipe h vs).setNo
theorem wipe_get {σ : L2.St} : ∀ (vs : List Nat) (i : Nat), (wipe σ vs)[i]? = if i ∈ vs then (if i < σ.length then some none else none) else σ[i]?
  | [], i => by simp [wipe]
  | v :: vs, i => by
    unfold wipe
    rw [List.getElem?_set, wipe_length, wipe_get vs i]
    by_cases q : v = i
    · subst q
      rw [if_pos rfl, if_pos List.mem_cons_self]
    · rw [if_neg q]
      by_cases z : i ∈ vs
      · rw [if_pos z, if_pos (List.mem_cons_of_mem _ z)]
      · rw [if_neg z, if_neg (fun y => by rcases List.mem_cons.mp y with y | y; exact q y.symm; exact z y)]
theorem wipe_same {σ σ' : L2.St} {us vs : List Nat} (hl : σ'.length = σ.length) (h : ∀ i, i ∉ us → σ'[i]? = σ[i]?) (hu : ∀ i ∈ us, i ∈ vs) : wipe σ' vs = wipe σ vs := by
  refine List.ext_getElem? fun i => ?_
  rw [wipe_get, wipe_get, hl]
  by_cases z : i ∈ vs
  · rw [if_pos z, if_pos z]
  · rw [if_neg z, if_neg z, h i fun y => z (hu i y)]
theorem wipe_wipe {σ : L2.St} (vs : List Nat) : wipe (wipe σ vs) vs = wipe σ vs := by
  refine List.ext_getElem? fun i => ?_
  rw [wipe_get, wipe_get, wipe_length]
  by_cases z : i ∈ vs
  · rw [if_pos z, if_pos z]
  · rw [if_neg z, if_neg z]
def mLcL (mg : MG) (mt : MT) (me : ME) (δ : Env) : List D → Sto → Out (List D)
  | [], S => .ok [] S
  | d :: ds, S => match mg d δ with
    | none => .bad
    | some δ1 => bnd (noX (mt δ1 S)) fun b S => if b then bnd (noX (me δ1 S)) fun y S => bnd (mLcL mg mt me δ ds S) fun ys S => .ok (y :: ys) S else mLcL mg mt me δ ds S
def mLc (mi : MA) (mg : MG) (mt : MT) (me : ME) (vs : List Nat) : ME := fun δ S => bnd (mi δ S) fun ds S => bnd (mLcL mg mt me (mwipe δ vs) ds S) fun ys S => .ok (.lst ys) S
theorem bnd_assoc {α β γ : Type} (o : Out α) (f : α → Sto → Out β) (g : β → Sto → Out γ) : bnd (bnd o f) g = bnd o fun a S => bnd (f a S) g := by cases o <;> rfl
theorem Post.thenE {α β : Type} {o : Out α} {f : α → Sto → Out β} {ok : β → Wd → Prop} {ok' : α → Wd → Prop} {ex : XP} (h : Post K Γ (bnd o f) w ok ex) (g : ∀ a w', o = .ok a w'.S → Ok K Γ w' → Ev w w' → Post K Γ (f a w'.S) w' ok ex → ok' a w') : Post K Γ o w ok' ex := by
  cases o with
  | ok a S => exact fun w1 hs ho he => g a w1 (by rw [hs]) ho he (by subst hs; exact Post.ev h he)
  | ex c ns ds S => exact h
  | bad => exact h
theorem sim_lc {us : List Nat} (hi : SimI K Γ xa Ev W wi mi) (hg : SimN K Γ xa us tg mg) (ht : SimT K Γ xa noW t mt) (he : SimE K Γ xa noW te me) (hu : ∀ i ∈ us, i ∈ vs := by decide) : SimF K Γ xa W (tLc wi tg t te vs) (mLc mi mg mt me vs) := ⟨fun w0 w σ δ Q o e n p =>
  hi.run w0 w σ δ _ o e n (p.then fun ds w1 o1 e1 p1 J it Dd hD => by
    let okF : D → Wd → Prop := fun d w' => ∀ a, OwnAt K Γ w w' d a → Q (.ref a) w'.H
    refine ⟨fun i m H => m = ds.length - i ∧ i ≤ ds.length ∧ ∃ w' acc, w'.H = H ∧ Ok K Γ w' ∧ Ev w1 w' ∧ OwnAt K Γ w1 w' (.lst acc) Dd ∧ acc.length ≤ i ∧
        Post K Γ (bnd (mLcL mg mt me (mwipe δ vs) (ds.drop i) w'.S) fun ys S => .ok (D.lst (acc ++ ys)) S) w1 okF (XW K Γ W σ), ⟨_, rfl, Nat.zero_le _, wPut w1 Dd (.lst []), [], rfl, ok_put o1 (r_none o1 hD) (not_live o1 hD), ev_put (Ev.refl _) hD, own_new o1 hD ⟨[], upd_same, by decide, reps_nil⟩, Nat.le_refl _, p1⟩, ?_⟩
    rintro i m H ⟨rfl, hi, w', acc, rfl, o', e', oa, hacc, p'⟩
    rcases Nat.lt_or_ge i ds.length with hlt | hge
    · refine .inr ⟨it.go w' i o' e' hlt, _, fun _ h => h, fun x H' y => ?_⟩
      obtain ⟨w2, d, rfl, hs2, o2, e2, hd, rx⟩ := it.yld w' i x H' o' e' hlt y
      have hdr : ds.drop i = d :: ds.drop (i + 1) := by
        rw [List.drop_eq_getElem_cons hlt]
        congr 1
        exact Option.some.inj ((List.getElem?_eq_getElem hlt).symm.trans hd)
      rw [hdr] at p'
      unfold mLcL at p'
      have n2 : EnvOk K Γ xa w0 w2 (wipe σ vs) (mwipe δ vs) := (((n.ev e1).ev e').ev e2).wipe vs
      have ev02 : Ev w0 w2 := ((e.trans e1).trans e').trans e2
      refine hg.run w0 w2 _ _ d x _ o2 n2 rx ?_
      cases zg : mg d (mwipe δ vs) with
      | none => rw [zg] at p'; exact p'
      | some δ1 =>
        rw [zg] at p'
        dsimp only at p'
        rw [← hs2, bnd_assoc] at p'
        intro σ1 n1 hl1 hk1
        refine ⟨(wipe_same hl1 hk1 hu).trans (wipe_wipe vs), ?_⟩
        refine ht.run w0 w2 σ1 δ1 _ o2 ev02 n1 (Post.noX ((Post.ev p' (e'.trans e2)).thenE fun b w3 q3 o3 e3 p3 => ?_))
        have oa3 := (oa.ev e2).ev e3
        have m1 : ds.length - (i + 1) < ds.length - i := by omega
        rw [q3] at p'
        cases b with
        | false =>
          rw [if_neg (by simp)]
          exact ⟨_, m1, rfl, hlt, w3, acc, rfl, o3, (e'.trans e2).trans e3, oa3, by omega, p'⟩
        | true =>
          rw [if_pos rfl]
          have p3' : Post K Γ (bnd (bnd (noX (me δ1 w3.S)) fun y S => bnd (mLcL mg mt me (mwipe δ vs) (ds.drop (i + 1)) S) fun ys S => .ok (y :: ys) S) fun ys S => .ok (D.lst (acc ++ ys)) S) w1 okF (XW K Γ W σ) := p'
          rw [bnd_assoc] at p3'
          refine he.run w0 w3 σ1 δ1 _ o3 (ev02.trans e3) (n1.ev e3) (Post.noX ((Post.ev p3' ((e'.trans e2).trans e3)).thenE fun yd w4 q4 o4 e4 p4 v r4 => ?_))
          rw [q4] at p3'
          have oa4 := oa3.ev e4
          obtain ⟨va, h1, h2, h3⟩ := oa4.at_
          have hal := reps_len h3
          have hlen : va.length < sizeLine := by have := it.len; omega
          refine ⟨va, h1, hlen, _, m1, rfl, hlt, wPut w4 Dd (.lst (va ++ [v])), acc ++ [yd], rfl, ok_put o4 oa4.r oa4.nl, ?_, ?_, by rw [List.length_append]; simp; omega, ?_⟩
          · exact ev_put (((e'.trans e2).trans e3).trans e4) oa4.new
          · exact ⟨oa4.new, oa4.r, oa4.nl, va ++ [v], upd_same, by rw [List.length_append]; simp; omega, reps_app h3 (reps_cons r4 reps_nil)⟩
          · have p5 : Post K Γ (bnd (bnd (mLcL mg mt me (mwipe δ vs) (ds.drop (i + 1)) w4.S) fun ys S => .ok (yd :: ys) S) fun ys S => .ok (D.lst (acc ++ ys)) S) w1 okF (XW K Γ W σ) := p3'
            rw [bnd_assoc] at p5
            have e6 : (fun (ys : List D) (S : Sto) => bnd (.ok (yd :: ys) S) fun ys S => Out.ok (D.lst (acc ++ ys)) S) = fun ys S => Out.ok (D.lst ((acc ++ [yd]) ++ ys)) S := by
              funext ys S
              show Out.ok (D.lst (acc ++ (yd :: ys))) S = _
              rw [List.append_assoc]; rfl
            rw [e6] at p5
            exact p5
    · have hi' : i = ds.length := by omega
      subst hi'
      refine .inl ⟨it.stop w' o' e', ?_⟩
      rw [List.drop_length] at p'
      have p2 : Post K Γ (.ok (D.lst (acc ++ [])) w'.S) w1 okF (XW K Γ W σ) := p'
      rw [List.append_nil] at p2
      exact p2.at rfl o' e' _ (own_back e1 oa))⟩
end
end MR

namespace MR
open PySem PySem.Spec PyProof.Rows L2 TP
section
variable {K : PySem.W.Frag} {Γ : Nat → Addr} {xa : XT} {W : WX} {te ta tb to ti tv : TE} {me ma mb mo mk mv : ME} {w w' w0 w1 : Wd} {t u : TT} {mt mu : MT} {ts us : TS} {ms mus : MS} {Dn : Ends} {tl : TA} {ml : MA} {n : Nat}
theorem own_put {d d' : D} {a : Addr} {o : HO} (h : OwnAt K Γ w0 w d a) (at_ : At K Γ (wPut w a o) d' a) : OwnAt K Γ w0 (wPut w a o) d' a := ⟨h.new, h.r, h.nl, at_⟩
theorem EnvOk.put {σ : L2.St} {δ : Env} {i : Nat} {fb : Bool} {d d' : D} {a : Addr} {o : HO} (h : EnvOk K Γ xa w0 w σ δ) (hd : δ[i]? = some (.own fb d)) (hs : σ[i]? = some (some (.ref a))) (oa : OwnAt K Γ w0 w d a) (at_ : At K Γ (wPut w a o) d' a) : EnvOk K Γ xa w0 (wPut w a o) σ (δ.set i (.own fb d')) := by
  have hi := (List.getElem?_eq_some_iff.mp hd).1
  refine ⟨by rw [List.length_set]; exact h.len, fun j x s hx hs' => ?_, fun j k fa fc e f b q1 q2 q3 q4 => ?_⟩
  · rw [List.getElem?_set] at hs'
    by_cases q : i = j
    · subst q
      rw [if_pos rfl, if_pos hi] at hs'
      cases hs'
      rw [hs] at hx
      cases hx
      refine ⟨a, rfl, own_put oa at_, ?_⟩
      obtain ⟨x, hx', a', q1, _, q3⟩ := h.get hd
      rw [hs] at hx'
      cases hx'
      cases q1
      exact q3
    · rw [if_neg q] at hs'
      have z := h.ok j x s hx hs'
      cases s with
      | no => trivial
      | val e => exact z
      | own fe e =>
        obtain ⟨b, q1, q2, q3⟩ := z
        have nb : b ≠ a := fun y => q (h.sep i j fb fe d e a hd hs' hs (by rw [hx, q1, y]))
        refine ⟨b, q1, ⟨q2.new, q2.r, q2.nl, ?_⟩, q3⟩
        exact at_mv (w' := wPut w a o) q2.at_ (fun u hu => by show upd w.H a o b = _; rw [upd_ne nb]; exact hu) (fun _ _ e => e) List.prefix_rfl
      | exn => exact z
  · have own : ∀ (m : Nat) (fg : Bool) (g : D), (δ.set i (Slot.own fb d'))[m]? = some (Slot.own fg g) → ∃ fg' g', δ[m]? = some (Slot.own fg' g') := fun m fg g q => by
      rw [List.getElem?_set] at q
      by_cases z : i = m
      · subst z; exact ⟨fb, d, hd⟩
      · rw [if_neg z] at q; exact ⟨fg, g, q⟩
    obtain ⟨fe, e', z1⟩ := own j fa e q1
    obtain ⟨ff, f', z2⟩ := own k fc f q2
    exact h.sep j k fe ff e' f' b z1 z2 q3 q4
def mAppend (i : Nat) (me : ME) : MS := fun δ S => match δ[i]? with
  | some (.own fb (.lst ds)) => bndS (me δ S) δ fun d S => if ds.length < 16777216 then .ok (.nx (δ.set i (.own fb (.lst (ds ++ [d]))))) S else .bad
  | _ => .bad
theorem tyV_list {H : Hp} {a : Addr} {xs : List V} (h : SqL K H a xs) : tyV K "list" (.ref a) H := .inl ⟨rfl, xs, h⟩
def mSetI (i : Nat) (me mk : ME) : MS := fun δ S => match δ[i]? with
  | some (.own fb (.lst ds)) => bndS (me δ S) δ fun d S => bndS (mk δ S) δ fun k S => match k with
    | .int k => match ixN ds.length k with
      | some j => .ok (.nx (δ.set i (.own fb (.lst (ds.set j d))))) S
      | none => .bad
    | _ => .bad
  | _ => .bad
theorem cel_at {m : Nat} {d : D} {v : V} (o : Ok K Γ w) (h : w.S[m]? = some (some d)) (r : Rep K Γ w (.ref m) v) : ∃ a, v = .ref a ∧ w.ρ[m]? = some a ∧ At K Γ w d a := by
  simp only [Rep, RepC] at r
  obtain ⟨a, h1, h2⟩ := r
  obtain ⟨b, h3, _, h4⟩ := o.cell m d h
  rw [h1] at h3
  cases h3
  exact ⟨a, h2, h1, h4⟩
def mSetC (me mo mk : ME) : MS := fun δ S => bndS (me δ S) δ fun d S => bndS (mo δ S) δ fun x S => bndS (mk δ S) δ fun k S => match x, k with
  | .ref m, .int k => match S[m]? with
    | some (some (.lst ds)) => match ixN ds.length k with
      | some j => .ok (.nx δ) (S.set m (some (.lst (ds.set j d))))
      | none => .bad
    | _ => .bad
  | _, _ => .bad
theorem sim_setC (h : SimE K Γ xa W te me) (ho : SimE K Γ xa W to mo) (g : SimE K Γ xa W ti mk) : SimS K Γ xa W (tAsg te (gSub to ti rSetL)) (mSetC me mo mk) := ⟨fun w0 w σ δ Dn o e n p => by
  refine h.run w0 w σ δ _ o e n (p.then e n fun d w1 o1 e1 p1 v r1 => ?_)
  refine ho.run w0 w1 σ δ _ o1 (e.trans e1) (n.ev e1) (p1.then (e.trans e1) (n.ev e1) fun x w2 o2 e2 p2 u r2 => ?_)
  have e12 := e1.trans e2
  refine g.run w0 w2 σ δ _ o2 (e.trans e12) (n.ev e12) (p2.then (e.trans e12) (n.ev e12) fun k w3 o3 e3 p3 z r3 => ?_)
  have e13 := e12.trans e3
  split at p3
  · rename_i m kk
    split at p3
    · rename_i ds hm
      obtain ⟨a, rfl, ha, vs, h2, h3, h4⟩ := cel_at o3 hm (Rep.ev r2 e3)
      split at p3
      · rename_i j hj
        rw [rep_int r3]
        refine ⟨a, vs, kk, j, rfl, rfl, h2, by rw [← reps_len h4]; exact hj, ?_⟩
        have r1' : Rep K Γ w3 d v := Rep.ev r1 (e2.trans e3)
        have at' : At K Γ (wCel w3 m a (.lst (vs.set j v)) (some (.lst (ds.set j d)))) (.lst (ds.set j d)) a := ⟨vs.set j v, upd_same, by rw [List.length_set]; exact h3, reps_set j h4 r1'⟩
        have ev := ev_cel (o := .lst (vs.set j v)) (d := some (.lst (ds.set j d))) o3 hm ha
        exact p3 _ σ rfl (ok_cel o3 hm ha at') ((e.trans e13).trans ev) ev.gr ((n.ev e13).ev ev)
      · exact False.elim p3
    · exact False.elim p3
  · exact False.elim p3⟩
def mGetF (c : Nat) (f : Str) (ma : ME) : ME := fun δ S => bnd (ma δ S) fun d S => match objOf S d with
  | some (c', ns, ds) => if c' = c then match (ns.zip ds).lookup f with
      | some x => .ok x S
      | none => .bad
    else .bad
  | none => .bad
def putN (f : Str) : List Str → List Str
  | [] => [f]
  | g :: r => if g = f then g :: r else g :: putN f r
def putX {α : Type} (f : Str) (y : α) : List Str → List α → List α
  | [], _ => [y]
  | g :: r, x :: xs => if g = f then y :: xs else x :: putX f y r xs
  | _ :: _, [] => []
def mSetFO (i c : Nat) (f : Str) (mv : ME) : MS := fun δ S => match δ[i]? with
  | some (.own fb (.obj c' ns ds)) => bndS (mv δ S) δ fun d S => if c' = c ∧ ns.length < 1000 then .ok (.nx (δ.set i (.own fb (.obj c (putN f ns) (putX f d ns ds))))) S else .bad
  | _ => .bad
end
end MR

namespace MR
open PySem PySem.Spec PyProof.Rows L2 TP
abbrev MF := List D → Sto → Out D
section
variable (K : PySem.W.Frag) (Γ : Nat → Addr)
def XE' (E : XK) : XP := fun w c ns ds => ∀ d, XD K Γ w d ns ds → E (.ref (Γ c)) d w.H
def spM (n : Nat) (m : MF) : Sp := fun vs H Q E => ∃ (w : Wd) (ds : List D), w.H = H ∧ Ok K Γ w ∧ Reps K Γ w ds vs ∧ ds.length = n ∧ Post K Γ (m ds w.S) w (fun d w' => ∀ v, Rep K Γ w' d v → Q v w'.H) (XE' K Γ E)
abbrev MI := List D → Sto → Out (List Str × List D)
end
section
variable {K : PySem.W.Frag} {Γ : Nat → Addr} {xa : XT} {W : WX} {te ta tb to ti tv : TE} {me ma mb mo mk mv : ME} {w w' w0 w1 : Wd} {t u : TT} {mt mu : MT} {ts us : TS} {ms mus : MS} {Dn : Ends} {tl : TA} {ml : MA} {n : Nat} {m : MF}
theorem spM_len {vs : List V} {H : Hp} {Q : VK} {E : XK} (h : spM K Γ n m vs H Q E) : vs.length = n := by
  obtain ⟨w, ds, _, _, h3, h4, _⟩ := h
  rw [← reps_len h3]; exact h4
def mCall (n : Nat) (m : MF) (ml : MA) : ME := fun δ S => bnd (ml δ S) fun ds S => m ds S
theorem sim_call (h : SimA K Γ xa W n tl ml) : SimE K Γ xa W (tCallZ (spM K Γ n m) W tl) (mCall n m ml) := ⟨fun w0 w σ δ Q o e nn p =>
  h.run w0 w σ δ _ o e nn ((post_len (p.then (ok' := fun ds w1 => Ok K Γ w1 ∧ Post K Γ (m ds w1.S) w1 (fun d w' => ∀ v, Rep K Γ w' d v → Q v w'.H) (XW K Γ W σ)) fun ds w1 o1 e1 p1 => ⟨o1, p1⟩)).mono (fun ds w1 o1 e1 q vs rs => by
    obtain ⟨⟨S, hS⟩, _, p1⟩ := q
    exact ⟨w1, ds, rfl, o1, rs, h.len _ _ _ _ hS, p1⟩) fun _ _ _ _ _ _ x => x)⟩
structure SimAs (K : PySem.W.Frag) (Γ : Nat → Addr) (xa : XT) (W : WX) (ta : TA) (ma : MA) : Prop where
  run : ∀ (w0 w : Wd) (σ : L2.St) (δ : Env) (Q : List V → Hp → Prop), Ok K Γ w → Ev w0 w → EnvOk K Γ xa w0 w σ δ → Post K Γ (ma δ w.S) w (fun ds w' => ∀ vs, Reps K Γ w' ds vs → Q vs w'.H) (XW K Γ W σ) → ta σ w.H Q
def mMeth (c : Nat) (f : Str) (n : Nat) (m : MF) (ma : ME) (ml : MA) : ME := fun δ S => bnd (ma δ S) fun d S => match objOf S d with
  | some (c', ns, ds) => if c' = c ∧ (ns.zip ds).lookup f = none then bnd (ml δ S) fun as S => m (d :: as) S else .bad
  | none => .bad
def mNew (c : Nat) (m : MI) (ml : MA) (dds : List D) : ME := fun δ S => bnd (ml δ S) fun ds S => bnd (m (ds ++ dds) S) fun p S => .ok (.obj c p.1 p.2) S
def mRaise (c : Nat) (f : Str) (ml : MA) : MS := fun δ S => bndS (ml δ S) δ fun ds S => .ok (.ex c [f] ds δ) S
def fin (o : Out Fl) : Out D := match o with
  | .ok (.nx _) S => .ok .non S
  | .ok (.rt d) S => .ok d S
  | .ok (.ex c ns ds _) S => .ex c ns ds S
  | _ => .bad
def startD (N : Nat) (ds : List D) : Env := ds.map Slot.val ++ List.replicate (N - ds.length) .no
def mRun (N : Nat) (ms : MS) : MF := fun ds S => fin (ms (startD N ds) S)
theorem startD_ok {N : List Str} {ds : List D} {vs : List V} (r : Reps K Γ w ds vs) : EnvOk K Γ xa w0 w (start N vs) (startD N.length ds) := by
  have hl := reps_len r
  refine ⟨by simp [L2.start, startD, hl], fun i x s h1 h2 => ?_, fun i j b c d e a h1 _ _ _ => ?_⟩
  · unfold L2.start at h1
    unfold startD at h2
    rcases Nat.lt_or_ge i ds.length with q | q
    · rw [List.getElem?_append_left (by rw [List.length_map]; omega), List.getElem?_map] at h1
      rw [List.getElem?_append_left (by rw [List.length_map]; exact q), List.getElem?_map] at h2
      cases z : ds[i]? with
      | none => rw [z] at h2; cases h2
      | some d =>
        rw [z] at h2
        cases h2
        obtain ⟨v, hv, rv⟩ := reps_get r z
        rw [hv] at h1
        cases h1
        exact ⟨v, rfl, rv⟩
    · rw [List.getElem?_append_right (by rw [List.length_map]; exact q)] at h2
      rw [List.getElem?_replicate] at h2
      split at h2 <;> cases h2
      trivial
  · unfold startD at h1
    rcases Nat.lt_or_ge i ds.length with q | q
    · rw [List.getElem?_append_left (by rw [List.length_map]; exact q), List.getElem?_map] at h1
      cases z : ds[i]? with
      | none => rw [z] at h1; cases h1
      | some d => rw [z] at h1; cases h1
    · rw [List.getElem?_append_right (by rw [List.length_map]; exact q), List.getElem?_replicate] at h1
      split at h1 <;> cases h1
theorem spM_run {N : List Str} {ts : TS} {E : XK} {vs : List V} {H : Hp} {Q : VK} (hb : SimS K Γ xa (wOut E) ts ms) (h : spM K Γ n (mRun N.length ms) vs H Q E) : ts { nx := fun _ H' => Q .non H', rt := Q } (start N vs) H := by
  obtain ⟨w, ds, rfl, o, r, hn, p⟩ := h
  refine hb.run w w _ _ _ o (Ev.refl w) (startD_ok r) ?_
  unfold mRun fin at p
  cases z : ms (startD N.length ds) w.S with
  | ex => rw [z] at p; exact False.elim p
  | bad => rw [z] at p; exact False.elim p
  | ok f S =>
    rw [z] at p
    cases f with
    | nx δ => exact fun w' σ hs ho he hg hn => p w' hs ho he _ rfl
    | rt d => exact fun w' v hs ho he hg rv => p w' hs ho he v rv
    | bk => exact False.elim p
    | ct => exact False.elim p
    | ex c ns es δ => exact fun w' σ hs ho he hg hn dx hx => p w' hs ho he dx hx
end
end MR

namespace MR
open PySem PySem.Spec PyProof.Rows L2 TP
section
variable {K : PySem.W.Frag} {Γ : Nat → Addr} {w w' : Wd}
def opI (C : Int → Int → Bool) (f : Int → Int → D) : D → D → Sto → Out D := fun d e S => match d, e with
  | .int i, .int j => if C i j then .ok (f i j) S else .bad
  | _, _ => .bad
def dv : D → V
  | .int i => .int i
  | .bl b => .bl b
  | _ => .non
def sc : D → Bool
  | .int _ => true
  | .bl _ => true
  | .non => true
  | _ => false
theorem rep_dv {d : D} (h : sc d = true) : Rep K Γ w d (dv d) := by cases d <;> first | (simp only [Rep, RepC, dv]; done) | (exact absurd h (by simp [sc]))
theorem om_int {C : Int → Int → Bool} {Cp : Int → Int → Prop} {f : Int → Int → D} {g : Int → Int → V} (hC : ∀ i j, C i j = true → Cp i j) (hf : ∀ i j, sc (f i j) = true ∧ dv (f i j) = g i j) : OpM K Γ (rI Cp g) (opI C f) := ⟨fun w d e x y Q ex o hx hy p => by
  unfold opI at p
  split at p
  · rename_i i j
    split at p
    · rename_i c
      refine ⟨i, j, pk_int hx, pk_int hy, hC i j c, ?_⟩
      rw [← (hf i j).2]
      exact Post.now p o _ (rep_dv (hf i j).1)
    · exact False.elim p
  · exact False.elim p⟩
theorem om_int0 {f : Int → Int → D} {g : Int → Int → V} (hf : ∀ i j, sc (f i j) = true ∧ dv (f i j) = g i j) : OpM K Γ (rI0 g) (opI (fun _ _ => true) f) := ⟨fun w d e x y Q ex o hx hy p => by
  obtain ⟨i, j, h1, h2, _, q⟩ := (om_int (Cp := fun _ _ => True) (fun _ _ _ => trivial) hf).run w d e x y Q ex o hx hy p
  exact ⟨i, j, h1, h2, q⟩⟩
abbrev opMinus := opI (fun _ _ => true) fun i j => .int (i - j)
abbrev opRest := opI (fun _ j => decide (0 < j)) fun i j => .int (i % j)
abbrev opQuot := opI (fun _ j => decide (0 < j) && decide (j < 18446744073709551616)) fun i j => .int (i / j)
abbrev opPow := opI (fun i j => decide (0 ≤ j) && decide (j ≤ 1000) && decide (-1000 ≤ i) && decide (i ≤ 1000)) fun i j => .int (i ^ j.toNat)
abbrev opLess := opI (fun _ _ => true) fun i j => .bl (decide (i < j))
abbrev opLeq := opI (fun _ _ => true) fun i j => .bl (decide (i ≤ j))
abbrev opMore := opI (fun _ _ => true) fun i j => .bl (decide (j < i))
abbrev opGeq := opI (fun _ _ => true) fun i j => .bl (decide (j ≤ i))
theorem om_minus : OpM K Γ rMinus opMinus := om_int0 fun _ _ => ⟨rfl, rfl⟩
theorem om_rest : OpM K Γ rRest opRest := om_int (fun _ _ h => of_decide_eq_true h) fun _ _ => ⟨rfl, rfl⟩
theorem om_quot : OpM K Γ rQuot opQuot := om_int (fun i j h => by
  rw [Bool.and_eq_true] at h
  exact wide_div (b := 64) (of_decide_eq_true h.1) (by have := of_decide_eq_true h.2; have := of_decide_eq_true h.1; omega) (by decide) (by decide)) fun _ _ => ⟨rfl, rfl⟩
theorem om_pow : OpM K Γ rPow opPow := om_int (fun i j h => by
  simp only [Bool.and_eq_true, decide_eq_true_eq] at h
  exact ⟨by omega, by omega, by omega⟩) fun _ _ => ⟨rfl, rfl⟩
theorem om_less : OpM K Γ rLess opLess := om_int0 fun _ _ => ⟨rfl, rfl⟩
theorem om_more : OpM K Γ rMore opMore := om_int0 fun _ _ => ⟨rfl, rfl⟩
theorem om_geq : OpM K Γ rGeq opGeq := om_int0 fun _ _ => ⟨rfl, rfl⟩
def unNeg : D → Sto → Out D := fun d S => match d with
  | .int i => .ok (.int (-i)) S
  | _ => .bad
theorem um_neg : UnM K Γ rNeg unNeg := ⟨fun w d x Q ex o hx p => by
  unfold unNeg at p
  split at p
  · exact ⟨_, pk_int hx, Post.now p o _ (by simp only [Rep, RepC])⟩
  · exact False.elim p⟩
theorem OpF.m {r : R2} {op : D → D → Sto → Out D} (h : OpF K Γ r op) : OpM K Γ r op := ⟨fun w d e x y Q ex o hx hy p => h.run w d e x y Q ex o hx hy (by
  cases z : op d e w.S with
  | bad => rw [z] at p; exact p
  | ex c ns ds S => rw [z] at p; exact p
  | ok d' S =>
    rw [z] at p
    intro w1 hs o1 e1 a oa
    obtain ⟨w2, s2, hh, o2, e2, _, r2, _⟩ := own_rep o1 e1 oa
    have := p w2 (s2.trans hs) o2 e2 _ r2
    rw [hh] at this
    exact this)⟩
def lst1 (S : Sto) (d : D) : Option (List D) := match d with
  | .lst ds => some ds
  | .ref n => match S[n]? with
    | some (some (.lst ds)) => some ds
    | _ => none
  | _ => none
theorem lst1_ok {d : D} {v : V} {ds : List D} (o : Ok K Γ w) (h : Pk K Γ w d v) (e : lst1 w.S d = some ds) : ∃ a vs, v = .ref a ∧ w.H a = some (.lst vs) ∧ vs.length ≤ sizeLine ∧ Reps K Γ w ds vs := by
  unfold lst1 at e
  split at e
  · cases e
    rcases h with h | ⟨_, a, rfl, h⟩
    · simp only [Rep, RepC] at h
      obtain ⟨a, vs, h1, h2, h3, h4⟩ := h
      exact ⟨a, vs, h1, o.same _ _ h2, h3, h4⟩
    · obtain ⟨vs, h1, h2, h3⟩ := h.at_
      exact ⟨a, vs, rfl, h1, h2, h3⟩
  · split at e
    · rename_i n ds' q
      cases e
      rcases h with h | ⟨_, a, rfl, h⟩
      · simp only [Rep, RepC] at h
        obtain ⟨a, h1, h2⟩ := h
        obtain ⟨b, h3, _, vs, h4, h5, h6⟩ := o.cell _ _ q
        rw [h1] at h3
        cases h3
        exact ⟨a, vs, h2, h4, h5, h6⟩
      · exact False.elim h.at_
    · cases e
  · cases e
theorem new_lst {ds : List D} {vs : List V} {p : Addr} {ok : D → Wd → Prop} {ex : XP} (o : Ok K Γ w) (r : Reps K Γ w ds vs) (hl : vs.length ≤ sizeLine) (hp : w.H p = none) (h : Post K Γ (.ok (.lst ds) w.S) w ok ex) : ok (.lst ds) (wPut w p (.lst vs)) ∧ OwnAt K Γ w (wPut w p (.lst vs)) (.lst ds) p := by
  have ev := ev_put (o := .lst vs) (Ev.refl w) hp
  exact ⟨h.at (w' := wPut w p (.lst vs)) rfl (ok_put o (r_none o hp) (not_live o hp)) ev, own_new o hp ⟨vs, upd_same, hl, Reps.ev r ev⟩⟩
def opCat : D → D → Sto → Out D := fun d e S => match lst1 S d, lst1 S e with
  | some xs, some ys => if xs.length + ys.length ≤ 16777216 then .ok (.lst (xs ++ ys)) S else .bad
  | _, _ => .bad
theorem of_cat : OpF K Γ rPlus opCat := ⟨fun w d e x y Q ex o hx hy p => by
  unfold opCat at p
  split at p
  · rename_i xs ys h1 h2
    split at p
    · rename_i hl
      obtain ⟨a, vs, rfl, a1, a2, a3⟩ := lst1_ok o hx h1
      obtain ⟨b, us, rfl, b1, b2, b3⟩ := lst1_ok o hy h2
      have hl' : vs.length + us.length ≤ sizeLine := by rw [← reps_len a3, ← reps_len b3]; exact hl
      refine .inr (.inr ⟨a, b, vs, us, rfl, rfl, a1, b1, hl', fun q hq => ?_⟩)
      obtain ⟨k1, k2⟩ := new_lst o (reps_app a3 b3) (by rw [List.length_append]; exact hl') hq p
      exact k1 _ k2
    · exact False.elim p
  · exact False.elim p⟩
def opPlus : D → D → Sto → Out D := fun d e S => match d, e with
  | .int i, .int j => .ok (.int (i + j)) S
  | .str a, .str b => if a.length + b.length ≤ 16777216 then .ok (.str (a ++ b)) S else .bad
  | d, e => opCat d e S
theorem om_plus : OpM K Γ rPlus opPlus := ⟨fun w d e x y Q ex o hx hy p => by
  unfold opPlus at p
  split at p
  · exact .inl ⟨_, _, pk_int hx, pk_int hy, Post.now p o _ (by simp only [Rep, RepC])⟩
  · split at p
    · rename_i hl
      exact .inr (.inl ⟨_, _, pk_str hx, pk_str hy, hl, Post.now p o _ (by simp only [Rep, RepC])⟩)
    · exact False.elim p
  · exact of_cat.m.run w d e x y Q ex o hx hy p⟩
def opRep : D → D → Sto → Out D := fun d e S => match lst1 S d, e with
  | some xs, .int k => if k ≤ 16777216 ∧ -16777216 ≤ k ∧ xs.length * k.toNat ≤ 16777216 then .ok (.lst (List.replicate k.toNat xs).flatten) S else .bad
  | _, _ => .bad
theorem reps_rep {ρ : List Addr} {R : Hp} {ds : List D} {vs : List V} (h : RepsC K Γ ρ R ds vs) : ∀ n : Nat, RepsC K Γ ρ R (List.replicate n ds).flatten (List.replicate n vs).flatten
  | 0 => reps_nil
  | n + 1 => by
    rw [List.replicate_succ, List.replicate_succ, List.flatten_cons, List.flatten_cons]
    exact reps_app h (reps_rep h n)
theorem of_rep : OpF K Γ rTimes opRep := ⟨fun w d e x y Q ex o hx hy p => by
  unfold opRep at p
  split at p
  · rename_i xs k h1
    split at p
    · rename_i hl
      obtain ⟨a, vs, rfl, a1, a2, a3⟩ := lst1_ok o hx h1
      have hl' : vs.length * k.toNat ≤ sizeLine := by rw [← reps_len a3]; exact hl.2.2
      refine .inr ⟨a, k, vs, rfl, pk_int hy, a1, by omega, by omega, hl', fun q hq => ?_⟩
      obtain ⟨k1, k2⟩ := new_lst o (reps_rep a3 k.toNat) (by rw [List.length_flatten]; simp; rw [Nat.mul_comm]; exact hl') hq p
      exact k1 _ k2
    · exact False.elim p
  · exact False.elim p⟩
def mulOk (i j : Int) : Bool := (decide (-18446744073709551616 < i) && decide (i < 18446744073709551616)) || (decide (-18446744073709551616 < j) && decide (j < 18446744073709551616))
def opTimes : D → D → Sto → Out D := fun d e S => match d, e with
  | .int i, .int j => if mulOk i j then .ok (.int (i * j)) S else .bad
  | d, e => opRep d e S
theorem om_times : OpM K Γ rTimes opTimes := ⟨fun w d e x y Q ex o hx hy p => by
  unfold opTimes at p
  split at p
  · split at p
    · rename_i i j c
      refine .inl ⟨_, _, pk_int hx, pk_int hy, ?_, Post.now p o _ (by simp only [Rep, RepC])⟩
      unfold mulOk at c
      simp only [Bool.or_eq_true, Bool.and_eq_true, decide_eq_true_eq] at c
      rcases c with c | c
      · exact .inl ⟨by omega, by omega⟩
      · exact .inr ⟨by omega, by omega⟩
    · exact False.elim p
  · exact of_rep.m.run w d e x y Q ex o hx hy p⟩
theorem rep_tup {ds : List D} {a : Addr} {vs : List V} (h : SqT K w.R a vs) (hl : vs.length ≤ sizeLine) (r : Reps K Γ w ds vs) : Rep K Γ w (.tup ds) (.ref a) := by
  simp only [Rep, RepC]
  exact ⟨a, vs, rfl, h, hl, r⟩
theorem new_tup {ds : List D} {vs : List V} {p : Addr} {ok : D → Wd → Prop} {ex : XP} (o : Ok K Γ w) (r : Reps K Γ w ds vs) (hl : vs.length ≤ sizeLine) (hp : w.H p = none) (h : Post K Γ (.ok (.tup ds) w.S) w ok ex) : ok (.tup ds) (wFrz w p (.tup vs)) ∧ Rep K Γ (wFrz w p (.tup vs)) (.tup ds) (.ref p) := by
  have ev := ev_frz (o := .tup vs) o hp
  exact ⟨h.at (w' := wFrz w p (.tup vs)) rfl (ok_frz o hp) ev, rep_tup (SqT.of upd_same) hl (Reps.ev r ev)⟩
theorem pk_tup {ds : List D} {v : V} (h : Pk K Γ w (.tup ds) v) : ∃ a vs, v = .ref a ∧ SqT K w.R a vs ∧ vs.length ≤ sizeLine ∧ Reps K Γ w ds vs := by
  rcases h with h | ⟨_, _, _, h⟩
  · simpa only [Rep, RepC] using h
  · exact False.elim h.at_
def opIx : D → D → Sto → Out D := fun d e S => match e with
  | .int i => match listOf S d with
    | some ds => match atI ds i with
      | some x => .ok x S
      | none => .bad
    | none => match tupOf d with
      | some ds => match atI ds i with
        | some x => .ok x S
        | none => .bad
      | none => .bad
  | _ => .bad
theorem atI_reps {ds : List D} {vs : List V} {i : Int} {d : D} (r : Reps K Γ w ds vs) (h : atI ds i = some d) : ∃ v, atI vs i = some v ∧ Rep K Γ w d v := by
  unfold atI at h ⊢
  rw [← reps_len r]
  cases z : ixN ds.length i with
  | none => rw [z] at h; cases h
  | some j =>
    rw [z] at h
    exact reps_get r h
theorem om_ix : OpM K Γ (rIx K) opIx := ⟨fun w d e x y Q ex o hx hy p => by
  unfold opIx at p
  split at p
  · rename_i i
    split at p
    · rename_i ds h1
      obtain ⟨a, vs, rfl, a1, a2, a3⟩ := listOf_ok o hx h1
      split at p
      · rename_i z hz
        obtain ⟨v, v1, v2⟩ := atI_reps a3 hz
        exact .inl ⟨a, vs, i, v, rfl, pk_int hy, a1, v1, Post.now p o _ v2⟩
      · exact False.elim p
    · split at p
      · rename_i ds h1
        obtain ⟨a, vs, rfl, a1, a2, a3⟩ := tupOf_ok o hx h1
        split at p
        · rename_i z hz
          obtain ⟨v, v1, v2⟩ := atI_reps a3 hz
          exact .inr (.inl ⟨a, vs, i, v, rfl, pk_int hy, a1, v1, Post.now p o _ v2⟩)
        · exact False.elim p
      · exact False.elim p
  · exact False.elim p⟩
def isNon : D → Bool
  | .non => true
  | _ => false
def opIs : D → D → Sto → Out D := fun d e S => match e with
  | .non => .ok (.bl (isNon d)) S
  | _ => .bad
def opIsnt : D → D → Sto → Out D := fun d e S => match e with
  | .non => .ok (.bl (!isNon d)) S
  | _ => .bad
theorem isNon_ok {d : D} {v : V} (h : Pk K Γ w d v) : decide (v = .non) = isNon d := by
  rcases h with h | ⟨_, a, rfl, h⟩
  · cases d <;> simp only [Rep, RepC] at h
    case non => subst h; rfl
    case bl b => subst h; rfl
    case int i => subst h; rfl
    case str i => subst h; rfl
    case byt i => subst h; rfl
    case ty i => subst h; rfl
    case cls i => subst h; rfl
    case tup ds => obtain ⟨a, vs, rfl, _⟩ := h; rfl
    case lst ds => obtain ⟨a, vs, rfl, _⟩ := h; rfl
    case dic ks ds => obtain ⟨a, vs, rfl, _⟩ := h; rfl
    case fdc ks ds => obtain ⟨a, _, _, rfl, _⟩ := h; rfl
    case obj c ns ds => obtain ⟨a, dx, vs, rfl, _⟩ := h; rfl
    case ref n => obtain ⟨a, _, rfl⟩ := h; rfl
    case scr n => obtain ⟨a, rfl, _⟩ := h; rfl
  · cases d <;> first | rfl | exact False.elim h.at_
theorem om_is : OpM K Γ rIsNo opIs := ⟨fun w d e x y Q ex o hx hy p => by
  unfold opIs at p
  split at p
  · exact ⟨pk_non hy, by rw [isNon_ok hx]; exact Post.now p o _ (by simp only [Rep, RepC])⟩
  · exact False.elim p⟩
mutual
def toPy : D → PyData
  | .bl b => .bool b
  | .int i => .int i
  | .str x => .str x
  | .tup ds => .tuple (toPys ds)
  | .lst ds => .list (toPys ds)
  | _ => .none
def toPys : List D → List PyData
  | [] => []
  | d :: ds => toPy d :: toPys ds
end
def okN (n : Nat) (d : D) : Bool := match d with
  | .non => true
  | .bl _ => true
  | .int _ => true
  | .str x => PyData.canLay0 (.str x)
  | .tup ds => match n with
    | 0 => false
    | m + 1 => ds.all (okN m)
  | .lst ds => match n with
    | 0 => false
    | m + 1 => ds.all (okN m)
  | _ => false
termination_by structural n
theorem dp_of : ∀ (n : Nat) (d : D) (v : V), okN n d = true → Ok K Γ w → Rep K Γ w d v → Dp K w.H v (toPy d)
  | n, .non, v, _, _, r => by rw [rep_non r]; exact .non
  | n, .bl b, v, _, _, r => by rw [rep_bl r]; simp only [toPy]; exact .bl b
  | n, .int i, v, _, _, r => by rw [rep_int r]; simp only [toPy]; exact .int i
  | n, .str x, v, _, _, r => by rw [rep_str r]; simp only [toPy]; exact .str x
  | n + 1, .tup ds, v, h, o, r => by
    simp only [Rep, RepC] at r
    obtain ⟨a, vs, rfl, h2, _, h4⟩ := r
    have go : ∀ (ds : List D) (vs : List V), ds.all (okN n) = true → Reps K Γ w ds vs → DpAll K w.H vs (toPys ds) := fun ds => by
      induction ds with
      | nil => intro vs _ r; simp only [Reps, RepsC] at r; subst r; simp only [toPys]; exact .nil
      | cons d ds ih =>
        intro vs h r
        obtain ⟨v, ws, rfl, r1, r2⟩ := reps_inv r
        rw [List.all_cons, Bool.and_eq_true] at h
        simp only [toPys]
        exact .cons (dp_of n d v h.1 o r1) (ih ws h.2 r2)
    simp only [toPy]
    unfold okN at h
    exact .tup (sqT_mono o.same h2) (go ds vs h h4)
  | n + 1, .lst ds, v, h, o, r => by
    simp only [Rep, RepC] at r
    obtain ⟨a, vs, rfl, h2, _, h4⟩ := r
    have go : ∀ (ds : List D) (vs : List V), ds.all (okN n) = true → Reps K Γ w ds vs → DpAll K w.H vs (toPys ds) := fun ds => by
      induction ds with
      | nil => intro vs _ r; simp only [Reps, RepsC] at r; subst r; simp only [toPys]; exact .nil
      | cons d ds ih =>
        intro vs h r
        obtain ⟨v, ws, rfl, r1, r2⟩ := reps_inv r
        rw [List.all_cons, Bool.and_eq_true] at h
        simp only [toPys]
        exact .cons (dp_of n d v h.1 o r1) (ih ws h.2 r2)
    simp only [toPy]
    unfold okN at h
    exact .lst (SqL.of (o.same _ _ h2)) (go ds vs h h4)
  | n, .byt _, _, h, _, _ => by unfold okN at h; cases h
  | n, .ty _, _, h, _, _ => by unfold okN at h; cases h
  | n, .cls _, _, h, _, _ => by unfold okN at h; cases h
  | n, .ref _, _, h, _, _ => by unfold okN at h; cases h
  | n, .scr _, _, h, _, _ => by unfold okN at h; cases h
  | n, .dic _ _, _, h, _, _ => by unfold okN at h; cases h
  | n, .fdc _ _, _, h, _, _ => by unfold okN at h; cases h
  | n, .obj _ _ _, _, h, _, _ => by unfold okN at h; cases h
  | 0, .tup _, _, h, _, _ => by unfold okN at h; cases h
  | 0, .lst _, _, h, _, _ => by unfold okN at h; cases h
theorem dpall_of {n : Nat} (o : Ok K Γ w) : ∀ (ds : List D) (vs : List V), ds.all (okN n) = true → Reps K Γ w ds vs → DpAll K w.H vs (toPys ds)
  | [], vs, _, r => by simp only [Reps, RepsC] at r; subst r; simp only [toPys]; exact .nil
  | d :: ds, vs, h, r => by
    obtain ⟨v, ws, rfl, r1, r2⟩ := reps_inv r
    rw [List.all_cons, Bool.and_eq_true] at h
    simp only [toPys]
    exact .cons (dp_of n d v h.1 o r1) (dpall_of o ds ws h.2 r2)
theorem dp_pk {n : Nat} {d : D} {v : V} (h : okN (n + 1) d = true) (o : Ok K Γ w) (r : Pk K Γ w d v) : Dp K w.H v (toPy d) := by
  rcases r with r | ⟨_, a, rfl, oa⟩
  · exact dp_of _ d v h o r
  · cases d with
    | lst ds =>
      obtain ⟨vs, h1, _, h3⟩ := oa.at_
      simp only [toPy]
      unfold okN at h
      exact .lst (SqL.of h1) (dpall_of (n := n) o ds vs h h3)
    | dic ks ds => unfold okN at h; cases h
    | obj c ns ds => unfold okN at h; cases h
    | _ => exact False.elim oa.at_
theorem shaped_of : ∀ (n : Nat) (d : D), okN n d = true → (toPy d).canLay0 = true ∧ (toPy d).depth ≤ n
  | n, .non, _ => by simp [toPy, PyData.canLay0, PyData.depth]
  | n, .bl b, _ => by simp [toPy, PyData.canLay0, PyData.depth]
  | n, .int i, _ => by simp [toPy, PyData.canLay0, PyData.depth]
  | n, .str x, h => by unfold okN at h; simp only [toPy, PyData.depth]; exact ⟨h, Nat.zero_le _⟩
  | n + 1, .tup ds, h => by
    have go : ∀ ds : List D, ds.all (okN n) = true → PyData.canLayAll0 (toPys ds) = true ∧ PyData.depthAll (toPys ds) ≤ n := fun ds => by
      induction ds with
      | nil => intro _; simp [toPys, PyData.canLayAll0, PyData.depthAll]
      | cons d ds ih =>
        intro h
        rw [List.all_cons, Bool.and_eq_true] at h
        have h1 := shaped_of n d h.1
        have h2 := ih h.2
        simp only [toPys, PyData.canLayAll0, PyData.depthAll, h1.1, h2.1]
        exact ⟨rfl, by omega⟩
    unfold okN at h
    have g := go ds h
    simp only [toPy, PyData.canLay0, PyData.depth]
    exact ⟨g.1, by omega⟩
  | n + 1, .lst ds, h => by
    have go : ∀ ds : List D, ds.all (okN n) = true → PyData.canLayAll0 (toPys ds) = true ∧ PyData.depthAll (toPys ds) ≤ n := fun ds => by
      induction ds with
      | nil => intro _; simp [toPys, PyData.canLayAll0, PyData.depthAll]
      | cons d ds ih =>
        intro h
        rw [List.all_cons, Bool.and_eq_true] at h
        have h1 := shaped_of n d h.1
        have h2 := ih h.2
        simp only [toPys, PyData.canLayAll0, PyData.depthAll, h1.1, h2.1]
        exact ⟨rfl, by omega⟩
    unfold okN at h
    have g := go ds h
    simp only [toPy, PyData.canLay0, PyData.depth]
    exact ⟨g.1, by omega⟩
  | n, .byt _, h => by unfold okN at h; cases h
  | n, .ty _, h => by unfold okN at h; cases h
  | n, .cls _, h => by unfold okN at h; cases h
  | n, .ref _, h => by unfold okN at h; cases h
  | n, .scr _, h => by unfold okN at h; cases h
  | n, .dic _ _, h => by unfold okN at h; cases h
  | n, .fdc _ _, h => by unfold okN at h; cases h
  | n, .obj _ _ _, h => by unfold okN at h; cases h
  | 0, .tup _, h => by unfold okN at h; cases h
  | 0, .lst _, h => by unfold okN at h; cases h
theorem shaped_okN {n : Nat} {d : D} (h : okN n d = true) (hn : n ≤ 64) : SeqAt.shaped (toPy d) = true := by
  obtain ⟨h1, h2⟩ := shaped_of n d h
  unfold SeqAt.shaped
  rw [h1, decide_eq_true (by omega)]
  rfl
def eqD (d e : D) : Bool := PyData.eqv (toPy d) (toPy e)
def opEq (neg : Bool) : D → D → Sto → Out D := fun d e S => match d, e with
  | .int i, .int j => .ok (.bl (xor neg (decide (i = j)))) S
  | .str i, .str j => .ok (.bl (xor neg (decide (i = j)))) S
  | .byt i, .byt j => .ok (.bl (xor neg (decide (i = j)))) S
  | .bl i, .bl j => .ok (.bl (xor neg (i == j))) S
  | d, e => if okN 9 d && okN 9 e then .ok (.bl (xor neg (eqD d e))) S else .bad
theorem pk_byt {x : Array UInt8} {v : V} (h : Pk K Γ w (.byt x) v) : v = .byt x := by
  rcases h with h | ⟨_, _, _, h⟩
  · simpa only [Rep, RepC] using h
  · exact False.elim h.at_
theorem om_eq : OpM K Γ (rSame K) (opEq false) := ⟨fun w d e x y Q ex o hx hy p => by
  unfold opEq at p
  split at p
  · rename_i i j
    rw [pk_int hx, pk_int hy]
    refine .inl ⟨rfl, ?_⟩
    have e : decide (V.int i = V.int j) = decide (i = j) := decide_eq_decide.mpr ⟨fun h => V.int.inj h, fun h => congrArg _ h⟩
    rw [e]
    have := Post.now p o (.bl (decide (i = j))) (by simp only [Rep, RepC, Bool.false_xor])
    exact this
  · rename_i i j
    rw [pk_str hx, pk_str hy]
    refine .inl ⟨rfl, ?_⟩
    have e : decide (V.str i = V.str j) = decide (i = j) := decide_eq_decide.mpr ⟨fun h => V.str.inj h, fun h => congrArg _ h⟩
    rw [e]
    exact Post.now p o (.bl (decide (i = j))) (by simp only [Rep, RepC, Bool.false_xor])
  · rename_i i j
    rw [pk_byt hx, pk_byt hy]
    refine .inl ⟨rfl, ?_⟩
    have e : decide (V.byt i = V.byt j) = decide (i = j) := decide_eq_decide.mpr ⟨fun h => V.byt.inj h, fun h => congrArg _ h⟩
    rw [e]
    exact Post.now p o (.bl (decide (i = j))) (by simp only [Rep, RepC, Bool.false_xor])
  · rename_i i j
    rw [pk_bl hx, pk_bl hy]
    refine .inl ⟨rfl, ?_⟩
    have e : decide (V.bl i = V.bl j) = (i == j) := by cases i <;> cases j <;> decide
    rw [e]
    exact Post.now p o (.bl (i == j)) (by simp only [Rep, RepC, Bool.false_xor])
  · split at p
    · rename_i h
      rw [Bool.and_eq_true] at h
      exact .inr ⟨_, _, dp_pk h.1 o hx, dp_pk h.2 o hy, shaped_okN h.1 (by decide), shaped_okN h.2 (by decide), Post.now p o (.bl (eqD d e)) (by simp only [Rep, RepC, Bool.false_xor])⟩
    · exact False.elim p⟩
theorem om_ne : OpM K Γ (rUnlike K) (opEq true) := ⟨fun w d e x y Q ex o hx hy p => by
  unfold opEq at p
  split at p
  · rename_i i j
    rw [pk_int hx, pk_int hy]
    refine .inl ⟨rfl, ?_⟩
    have e : decide (V.int i = V.int j) = decide (i = j) := decide_eq_decide.mpr ⟨fun h => V.int.inj h, fun h => congrArg _ h⟩
    rw [e]
    exact Post.now p o (.bl (!decide (i = j))) (by simp only [Rep, RepC, Bool.true_xor])
  · rename_i i j
    rw [pk_str hx, pk_str hy]
    refine .inl ⟨rfl, ?_⟩
    have e : decide (V.str i = V.str j) = decide (i = j) := decide_eq_decide.mpr ⟨fun h => V.str.inj h, fun h => congrArg _ h⟩
    rw [e]
    exact Post.now p o (.bl (!decide (i = j))) (by simp only [Rep, RepC, Bool.true_xor])
  · rename_i i j
    rw [pk_byt hx, pk_byt hy]
    refine .inl ⟨rfl, ?_⟩
    have e : decide (V.byt i = V.byt j) = decide (i = j) := decide_eq_decide.mpr ⟨fun h => V.byt.inj h, fun h => congrArg _ h⟩
    rw [e]
    exact Post.now p o (.bl (!decide (i = j))) (by simp only [Rep, RepC, Bool.true_xor])
  · rename_i i j
    rw [pk_bl hx, pk_bl hy]
    refine .inl ⟨rfl, ?_⟩
    have e : decide (V.bl i = V.bl j) = (i == j) := by cases i <;> cases j <;> decide
    rw [e]
    exact Post.now p o (.bl (!(i == j))) (by simp only [Rep, RepC, Bool.true_xor])
  · split at p
    · rename_i h
      rw [Bool.and_eq_true] at h
      exact .inr ⟨_, _, dp_pk h.1 o hx, dp_pk h.2 o hy, shaped_okN h.1 (by decide), shaped_okN h.2 (by decide), Post.now p o (.bl (!eqD d e)) (by simp only [Rep, RepC, Bool.true_xor])⟩
    · exact False.elim p⟩
def flatD : D → Bool
  | .non => true
  | .bl _ => true
  | .int _ => true
  | .str _ => true
  | _ => false
def eqF : D → D → Bool
  | .non, .non => true
  | .bl a, .bl b => a == b
  | .bl a, .int b => (if a then 1 else 0) == b
  | .int a, .bl b => a == (if b then 1 else 0)
  | .int a, .int b => a == b
  | .str a, .str b => a == b
  | _, _ => false
theorem flat_rep {d : D} {v : V} (h : flatD d = true) (r : Rep K Γ w d v) : flatV v = true := by
  cases d <;> first | (exact Bool.noConfusion (show false = true from h)) | skip
  · rw [rep_non r]; rfl
  · rw [rep_bl r]; rfl
  · rw [rep_int r]; rfl
  · rw [rep_str r]; rfl
theorem eqF_rep {d e : D} {v u : V} (h : flatD d = true) (g : flatD e = true) (r : Rep K Γ w d v) (q : Rep K Γ w e u) : eqV v u = eqF d e := by
  cases d <;> first | (exact Bool.noConfusion (show false = true from h)) | skip
  all_goals (cases e <;> first | (exact Bool.noConfusion (show false = true from g)) | skip)
  all_goals (simp only [Rep, RepC] at r q; subst r; subst q; rfl)
theorem flats_reps : ∀ {ds : List D} {vs : List V}, ds.all flatD = true → Reps K Γ w ds vs → vs.all flatV = true
  | [], vs, _, r => by simp only [Reps, RepsC] at r; subst r; rfl
  | d :: ds, vs, h, r => by
    obtain ⟨v, ws, rfl, r1, r2⟩ := reps_inv r
    rw [List.all_cons, Bool.and_eq_true] at h ⊢
    exact ⟨flat_rep h.1 r1, flats_reps h.2 r2⟩
theorem in_reps {x : D} {u : V} (hx : flatD x = true) (rx : Rep K Γ w x u) : ∀ {ds : List D} {vs : List V}, ds.all flatD = true → Reps K Γ w ds vs → inV u vs = ds.any fun d => eqF d x
  | [], vs, _, r => by simp only [Reps, RepsC] at r; subst r; rfl
  | d :: ds, vs, h, r => by
    obtain ⟨v, ws, rfl, r1, r2⟩ := reps_inv r
    rw [List.all_cons, Bool.and_eq_true] at h
    have ih := in_reps hx rx h.2 r2
    unfold inV at ih ⊢
    rw [List.any_cons, List.any_cons, ih, eqF_rep h.1 hx r1 rx]
def seqOf (S : Sto) (d : D) : Option (List D) := match listOf S d with
  | some ds => some ds
  | none => tupOf d
theorem seqOf_ok {d : D} {v : V} {ds : List D} (o : Ok K Γ w) (h : Pk K Γ w d v) (e : seqOf w.S d = some ds) : ∃ a vs, v = .ref a ∧ (SqL K w.H a vs ∨ SqT K w.H a vs) ∧ vs.length ≤ sizeLine ∧ Reps K Γ w ds vs := by
  unfold seqOf at e
  split at e
  · rename_i q
    cases e
    obtain ⟨a, vs, h1, h2, h3, h4⟩ := listOf_ok o h q
    exact ⟨a, vs, h1, .inl h2, h3, h4⟩
  · obtain ⟨a, vs, h1, h2, h3, h4⟩ := tupOf_ok o h e
    exact ⟨a, vs, h1, .inr h2, h3, h4⟩
def opIn (neg : Bool) : D → D → Sto → Out D := fun x d S => match seqOf S d with
  | some ds => if flatD x && ds.all flatD then .ok (.bl (xor neg (ds.any fun d => eqF d x))) S else .bad
  | none => .bad
theorem pk_flat {d : D} {v : V} (h : flatD d = true) (r : Pk K Γ w d v) : Rep K Γ w d v := by
  rcases r with r | ⟨_, _, _, oa⟩
  · exact r
  · have := oa.at_
    cases d <;> first | exact False.elim this | (exact Bool.noConfusion (show false = true from h))
theorem om_in {neg : Bool} : OpM K Γ (rIn K neg) (opIn neg) := ⟨fun w d e x y Q ex o hx hy p => by
  unfold opIn at p
  split at p
  · rename_i ds h1
    split at p
    · rename_i h
      rw [Bool.and_eq_true] at h
      obtain ⟨a, vs, rfl, a1, a2, a3⟩ := seqOf_ok o hy h1
      have rx := pk_flat h.1 hx
      refine ⟨a, vs, rfl, a1, flat_rep h.1 rx, flats_reps h.2 a3, ?_⟩
      rw [in_reps h.1 rx h.2 a3]
      refine Post.now p o _ ?_
      simp only [Rep, RepC]
      cases neg <;> simp
    · exact False.elim p
  · exact False.elim p⟩
end
end MR

namespace MR
open PySem PySem.Spec PyProof.Rows L2 TP
section
variable {K : PySem.W.Frag} {Γ : Nat → Addr} {xa : XT} {W : WX} {te ta tb to ti tv : TE} {me ma mb mo mk mv : ME} {w w' w0 w1 : Wd} {tl : TA} {ml : MA} {n : Nat}
structure CallM (K : PySem.W.Frag) (Γ : Nat → Addr) (r : List V → Hp → VK → Prop) (f : MF) : Prop where
  run : ∀ (w : Wd) (ds : List D) (vs : List V) (Q : VK) (ex : XP), Ok K Γ w → Pks K Γ w ds vs → Post K Γ (f ds w.S) w (fun z w' => ∀ v, Rep K Γ w' z v → Q v w'.H) ex → r vs w.H Q
structure CallF (K : PySem.W.Frag) (Γ : Nat → Addr) (r : List V → Hp → VK → Prop) (f : MF) : Prop where
  run : ∀ (w : Wd) (ds : List D) (vs : List V) (Q : VK) (ex : XP), Ok K Γ w → Pks K Γ w ds vs → Post K Γ (f ds w.S) w (fun z w' => ∀ a, OwnAt K Γ w w' z a → Q (.ref a) w'.H) ex → r vs w.H Q
def mCB (f : MF) (ml : MA) : ME := fun δ S => bnd (ml δ S) f
theorem sim_cb {r : List V → Hp → VK → Prop} {f : MF} (h : CallM K Γ r f) (ha : SimPA K Γ xa W tl ml) : SimE K Γ xa W (tCB r tl) (mCB f ml) := ⟨fun w0 w σ δ Q o e n p =>
  ha.run w0 w σ δ _ o e n (p.then fun ds w1 o1 e1 p1 vs r1 => h.run w1 ds vs Q _ o1 r1 p1)⟩
theorem sim_cbF {r : List V → Hp → VK → Prop} {f : MF} (h : CallF K Γ r f) (ha : SimPA K Γ xa W tl ml) : SimF K Γ xa W (tCB r tl) (mCB f ml) := ⟨fun w0 w σ δ Q o e n p =>
  ha.run w0 w σ δ _ o e n (p.then fun ds w1 o1 e1 p1 vs r1 => h.run w1 ds vs Q _ o1 r1 (p1.mono (fun z w3 _ _ q a oa => q a (own_back e1 oa)) fun _ _ _ _ _ _ x => x))⟩
theorem pks1 {d : D} {vs : List V} (h : Pks K Γ w [d] vs) : ∃ v, vs = [v] ∧ Pk K Γ w d v := by
  cases h with
  | cons h t => cases t; exact ⟨_, rfl, h⟩
theorem pks2 {d e : D} {vs : List V} (h : Pks K Γ w [d, e] vs) : ∃ v u, vs = [v, u] ∧ Pk K Γ w d v ∧ Pk K Γ w e u := by
  cases h with
  | cons h t => obtain ⟨u, rfl, q⟩ := pks1 t; exact ⟨_, u, rfl, h, q⟩
def fLen : MF := fun ds S => match ds with
  | [.str x] => if x.length ≤ 16777216 then .ok (.int x.length) S else .bad
  | [.byt x] => if x.size ≤ 16777216 then .ok (.int x.size) S else .bad
  | [d] => match seqOf S d with
    | some xs => .ok (.int xs.length) S
    | none => .bad
  | _ => .bad
theorem cm_len : CallM K Γ (TP.rLen K) fLen := ⟨fun w ds vs Q ex o r p => by
  unfold fLen at p
  split at p
  · obtain ⟨v, rfl, r1⟩ := pks1 r
    rw [pk_str r1]
    split at p
    · rename_i hl
      exact ⟨_, _, rfl, ⟨hl, rfl⟩, Post.now p o _ (by simp only [Rep, RepC])⟩
    · exact False.elim p
  · obtain ⟨v, rfl, r1⟩ := pks1 r
    rw [pk_byt r1]
    split at p
    · rename_i hl
      exact ⟨_, _, rfl, ⟨hl, rfl⟩, Post.now p o _ (by simp only [Rep, RepC])⟩
    · exact False.elim p
  · obtain ⟨v, rfl, r1⟩ := pks1 r
    split at p
    · rename_i xs h1
      obtain ⟨a, vs, rfl, a1, a2, a3⟩ := seqOf_ok o r1 h1
      rw [reps_len a3] at p
      refine ⟨_, vs.length, rfl, ?_, Post.now p o _ (by simp only [Rep, RepC])⟩
      rcases a1 with a1 | a1
      · exact .inl ⟨vs, a1, rfl⟩
      · exact .inr ⟨vs, a1, rfl⟩
    · exact False.elim p
  · exact False.elim p⟩
def fInt : MF := fun ds S => match ds with
  | [.int i] => .ok (.int i) S
  | [.bl b] => .ok (.int (if b then 1 else 0)) S
  | _ => .bad
theorem cm_int : CallM K Γ rInt1 fInt := ⟨fun w ds vs Q ex o r p => by
  unfold fInt at p
  split at p
  · obtain ⟨v, rfl, r1⟩ := pks1 r
    exact .inl ⟨_, by rw [pk_int r1], Post.now p o _ (by simp only [Rep, RepC])⟩
  · obtain ⟨v, rfl, r1⟩ := pks1 r
    exact .inr ⟨_, by rw [pk_bl r1], Post.now p o _ (by simp only [Rep, RepC])⟩
  · exact False.elim p⟩
def fTuple : MF := fun ds S => match ds with
  | [.tup xs] => .ok (.tup xs) S
  | [d] => match listOf S d with
    | some xs => .ok (.tup xs) S
    | none => .bad
  | _ => .bad
theorem cm_tuple : CallM K Γ (rTupleOf K) fTuple := ⟨fun w ds vs Q ex o r p => by
  unfold fTuple at p
  split at p
  · obtain ⟨v, rfl, r1⟩ := pks1 r
    obtain ⟨a, vs, rfl, a1, a2, a3⟩ := pk_tup r1
    exact ⟨a, vs, rfl, .inr ⟨sqT_mono o.same a1, Post.now p o _ (rep_tup a1 a2 a3)⟩⟩
  · obtain ⟨v, rfl, r1⟩ := pks1 r
    split at p
    · rename_i xs h1
      obtain ⟨a, vs, rfl, a1, a2, a3⟩ := listOf_ok o r1 h1
      refine ⟨a, vs, rfl, .inl ⟨a1, fun q hq => ?_⟩⟩
      obtain ⟨k1, k2⟩ := new_tup o a3 a2 hq p
      exact k1 _ k2
    · exact False.elim p
  · exact False.elim p⟩
def blsOf : List D → Option (List Bool)
  | [] => some []
  | .bl b :: r => (blsOf r).map (b :: ·)
  | _ => none
theorem bls_reps : ∀ {ds : List D} {bs : List Bool} {vs : List V}, blsOf ds = some bs → Reps K Γ w ds vs → vs = bs.map V.bl
  | [], bs, vs, h, r => by cases h; simp only [Reps, RepsC] at r; exact r
  | .bl b :: ds, bs, vs, h, r => by
    obtain ⟨v, ws, rfl, r1, r2⟩ := reps_inv r
    unfold blsOf at h
    cases z : blsOf ds with
    | none => rw [z] at h; cases h
    | some cs =>
      rw [z] at h
      cases h
      rw [rep_bl r1, bls_reps z r2]
      rfl
  | .non :: _, _, _, h, _ => by cases h
  | .int _ :: _, _, _, h, _ => by cases h
  | .str _ :: _, _, _, h, _ => by cases h
  | .byt _ :: _, _, _, h, _ => by cases h
  | .ty _ :: _, _, _, h, _ => by cases h
  | .cls _ :: _, _, _, h, _ => by cases h
  | .tup _ :: _, _, _, h, _ => by cases h
  | .lst _ :: _, _, _, h, _ => by cases h
  | .dic _ _ :: _, _, _, h, _ => by cases h
  | .fdc _ _ :: _, _, _, h, _ => by cases h
  | .obj _ _ _ :: _, _, _, h, _ => by cases h
  | .ref _ :: _, _, _, h, _ => by cases h
  | .scr _ :: _, _, _, h, _ => by cases h
def fAll : MF := fun ds S => match ds with
  | [d] => match (listOf S d).bind blsOf with
    | some bs => .ok (.bl (bs.all id)) S
    | none => .bad
  | _ => .bad
theorem bls_list {d : D} {v : V} {bs : List Bool} (o : Ok K Γ w) (r : Pk K Γ w d v) (h : (listOf w.S d).bind blsOf = some bs) : ∃ a, v = .ref a ∧ SqL K w.H a (bs.map V.bl) := by
  cases z : listOf w.S d with
  | none => rw [z] at h; cases h
  | some xs =>
    rw [z] at h
    obtain ⟨a, vs, rfl, a1, a2, a3⟩ := listOf_ok o r z
    rw [bls_reps h a3] at a1
    exact ⟨a, rfl, a1⟩
theorem cm_all : CallM K Γ (rAll K) fAll := ⟨fun w ds vs Q ex o r p => by
  unfold fAll at p
  split at p
  · obtain ⟨v, rfl, r1⟩ := pks1 r
    split at p
    · rename_i bs h
      obtain ⟨a, rfl, h1⟩ := bls_list o r1 h
      exact ⟨a, bs, rfl, h1, Post.now p o _ (by simp only [Rep, RepC])⟩
    · exact False.elim p
  · exact False.elim p⟩
inductive Kn where
  | t (n : String) | c (n : Nat)
def kindD (S : Sto) (d : D) : Option Kn := match d with
  | .non => some (.t "NoneType")
  | .bl _ => some (.t "bool")
  | .int _ => some (.t "int")
  | .str _ => some (.t "str")
  | .byt _ => some (.t "bytes")
  | .lst _ => some (.t "list")
  | .scr _ => some (.t "list")
  | .tup _ => some (.t "tuple")
  | .obj c _ _ => some (.c c)
  | .ref n => match S[n]? with
    | some (some (.lst _)) => some (.t "list")
    | some (some (.obj c _ _)) => some (.c c)
    | _ => none
  | _ => none
structure ClsF (K : PySem.W.Frag) (Γ : Nat → Addr) (N : Nat) : Prop where
  own : ∀ c, c < N → OwnC K (Γ c)
  kk : ∀ c c', c < N → c' < N → PySem.W.kitOne K (.ref (Γ c)) (.ref (Γ c')) = some (c == c')
  kt : ∀ c, c < N → ∀ T ∈ askedK, PySem.W.kitOne K (.ref (Γ c)) (.type T) = some false
  tk : ∀ c, c < N → ∀ t ∈ kinds, PySem.W.kitOne K (.type t) (.ref (Γ c)) = some false
def fIsi (N : Nat) : MF := fun ds S => match ds with
  | [d, .ty T] => if askedK.contains T then match kindD S d with
      | some (.t t) => .ok (.bl (isK t T)) S
      | some (.c c) => if c < N then .ok (.bl false) S else .bad
      | none => .bad
    else .bad
  | [d, .cls c'] => if c' < N then match kindD S d with
      | some (.t t) => .ok (.bl false) S
      | some (.c c) => if c < N then .ok (.bl (c == c')) S else .bad
      | none => .bad
    else .bad
  | _ => .bad
theorem tyL {H : Hp} {a : Addr} {vs : List V} (h : SqL K H a vs) : TyX K H (.ref a) (.type "list") := by
  rcases h with (h | ⟨o, h⟩) | ⟨o, its, n, h1, h2, h3, h4, _⟩
  · exact .base (.lst h)
  · exact .base (.frz h)
  · exact .kList h1 h2
theorem tyT {H : Hp} {a : Addr} {vs : List V} (h : SqT K H a vs) : TyX K H (.ref a) (.type "tuple") := by
  rcases h with (h | ⟨o, h⟩) | ⟨o, its, n, h1, h2, _⟩
  · exact .base (.tup h)
  · exact .fTuple h
  · exact .kTuple h1 h2
def knV (Γ : Nat → Addr) : Kn → Value
  | .t n => .type n
  | .c c => .ref (Γ c)
theorem kind_ok {N : Nat} {d : D} {v : V} {k : Kn} (F : ClsF K Γ N) (o : Ok K Γ w) (r : Pk K Γ w d v) (h : kindD w.S d = some k) (hk : ∀ c, k = .c c → c < N) : TyX K w.H v (knV Γ k) ∧ ∀ t, k = .t t → t ∈ kinds := by
  unfold kindD at h
  split at h
  · cases h; rw [pk_non r]; exact ⟨.base .non, fun t e => by cases e; decide⟩
  · cases h; rw [pk_bl r]; exact ⟨.base (.bl _), fun t e => by cases e; decide⟩
  · cases h; rw [pk_int r]; exact ⟨.base (.int _), fun t e => by cases e; decide⟩
  · cases h; rw [pk_str r]; exact ⟨.base (.str _), fun t e => by cases e; decide⟩
  · cases h; rw [pk_byt r]; exact ⟨.byt _, fun t e => by cases e; decide⟩
  · cases h
    obtain ⟨a, vs, rfl, h1, _, _⟩ := listOf_ok (ds := _) o r rfl
    exact ⟨tyL h1, fun t e => by cases e; decide⟩
  · cases h
    obtain ⟨a, vs, rfl, h1, _, _⟩ := listOf_ok (ds := _) o r rfl
    exact ⟨tyL h1, fun t e => by cases e; decide⟩
  · cases h
    obtain ⟨a, vs, rfl, h1, _, _⟩ := pk_tup r
    exact ⟨tyT (sqT_mono o.same h1), fun t e => by cases e; decide⟩
  · cases h
    obtain ⟨a, dx, vs, rfl, h1, _, _⟩ := objOf_ok o r rfl
    exact ⟨(F.own _ (hk _ rfl)).ty h1, fun t e => by cases e⟩
  · rename_i n
    split at h
    · rename_i q
      cases h
      obtain ⟨a, vs, rfl, h1, _, _⟩ := listOf_ok (ds := _) o r (by unfold listOf; dsimp only; rw [q])
      exact ⟨tyL h1, fun t e => by cases e; decide⟩
    · rename_i q
      cases h
      obtain ⟨a, dx, vs, rfl, h1, _, _⟩ := objOf_ok o r (by unfold objOf; dsimp only; rw [q])
      exact ⟨(F.own _ (hk _ rfl)).ty h1, fun t e => by cases e⟩
    · cases h
  · cases h
theorem cm_isi {N : Nat} (F : ClsF K Γ N) : CallM K Γ (rIsi K) (fIsi N) := ⟨fun w ds vs Q ex o r p => by
  have fin : ∀ {b : Bool}, Post K Γ (.ok (D.bl b) w.S) w (fun z w' => ∀ v, Rep K Γ w' z v → Q v w'.H) ex → Q (.bl b) w.H := fun p => Post.now p o _ (by simp only [Rep, RepC])
  unfold fIsi at p
  split at p
  · rename_i d T
    obtain ⟨v, u, rfl, r1, r2⟩ := pks2 r
    have eu : u = .ty T := by
      rcases r2 with r2 | ⟨_, _, _, r2⟩
      · simpa only [Rep, RepC] using r2
      · exact False.elim r2.at_
    subst eu
    split at p
    · rename_i hT
      have hT' : T ∈ askedK := List.contains_iff_mem.mp hT
      split at p
      · rename_i t q
        obtain ⟨h1, h2⟩ := kind_ok F o r1 q (fun c e => by cases e)
        exact ⟨v, _, _, _, _, rfl, .ty T, h1, kit_ty2 (kit_all t (h2 t rfl) T hT'), fin p⟩
      · rename_i c q
        split at p
        · rename_i hc
          obtain ⟨h1, h2⟩ := kind_ok F o r1 q (fun c' e => by cases e; exact hc)
          exact ⟨v, _, _, _, _, rfl, .ty T, h1, F.kt c hc T hT', fin p⟩
        · exact False.elim p
      · exact False.elim p
    · exact False.elim p
  · rename_i d c'
    obtain ⟨v, u, rfl, r1, r2⟩ := pks2 r
    have eu : u = .ref (Γ c') := by
      rcases r2 with r2 | ⟨_, _, _, r2⟩
      · simpa only [Rep, RepC] using r2
      · exact False.elim r2.at_
    subst eu
    split at p
    · rename_i hc'
      split at p
      · rename_i t q
        obtain ⟨h1, h2⟩ := kind_ok F o r1 q (fun c e => by cases e)
        exact ⟨v, _, _, _, _, rfl, .own _, h1, F.tk c' hc' t (h2 t rfl), fin p⟩
      · rename_i c q
        split at p
        · rename_i hc
          obtain ⟨h1, h2⟩ := kind_ok F o r1 q (fun c' e => by cases e; exact hc)
          exact ⟨v, _, _, _, _, rfl, .own _, h1, F.kk c c' hc hc', fin p⟩
        · exact False.elim p
      · exact False.elim p
    · exact False.elim p
  · exact False.elim p⟩
abbrev MO := Env → Sto → Out (Option Int)
structure SimO (K : PySem.W.Frag) (Γ : Nat → Addr) (xa : XT) (W : WX) (t : L2.St → Hp → (Option Int → Hp → Prop) → Prop) (m : MO) : Prop where
  run : ∀ (w0 w : Wd) (σ : L2.St) (δ : Env) (Q : Option Int → Hp → Prop), Ok K Γ w → Ev w0 w → EnvOk K Γ xa w0 w σ δ → Post K Γ (m δ w.S) w (fun b w' => Q b w'.H) (XW K Γ W σ) → t σ w.H Q
def mNoPart : MO := fun _ S => .ok none S
theorem sim_nopart : SimO K Γ xa W tNoPart mNoPart := ⟨fun w0 w σ δ Q o e n p => Post.now p o⟩
def mPart (me : ME) : MO := fun δ S => bnd (me δ S) fun d S => match d with
  | .int i => .ok (some i) S
  | _ => .bad
theorem sim_part (h : SimE K Γ xa W te me) : SimO K Γ xa W (tPart te) (mPart me) := ⟨fun w0 w σ δ Q o e n p =>
  h.run w0 w σ δ _ o e n (p.then fun d w1 o1 e1 p1 v r1 => by
    split at p1
    · exact ⟨_, rep_int r1, Post.now p1 o1⟩
    · exact False.elim p1)⟩
def cutD (xs : List D) (lo hi : Option Int) : List D := (xs.drop (HT.sIx xs.length 0 lo)).take (HT.sIx xs.length xs.length hi - HT.sIx xs.length 0 lo)
theorem cut_reps {xs : List D} {vs : List V} {lo hi : Option Int} (r : Reps K Γ w xs vs) : Reps K Γ w (cutD xs lo hi) (cutV vs lo hi) := by
  unfold cutD cutV
  rw [reps_len r]
  exact reps_take _ (reps_drop _ r)
variable {tlo thi : L2.St → Hp → (Option Int → Hp → Prop) → Prop} {mlo mhi : MO}
def mSl (f : D → Option Int → Option Int → Sto → Out D) (me : ME) (mlo mhi : MO) : ME := fun δ S => bnd (me δ S) fun d S => bnd (mlo δ S) fun l S => bnd (mhi δ S) fun h S => f d l h S
structure SlM (K : PySem.W.Frag) (Γ : Nat → Addr) (r : V → Option Int → Option Int → Hp → VK → Prop) (f : D → Option Int → Option Int → Sto → Out D) : Prop where
  run : ∀ (w : Wd) (d : D) (v : V) (l h : Option Int) (Q : VK) (ex : XP), Ok K Γ w → Pk K Γ w d v → Post K Γ (f d l h w.S) w (fun z w' => ∀ v, Rep K Γ w' z v → Q v w'.H) ex → r v l h w.H Q
structure SlF (K : PySem.W.Frag) (Γ : Nat → Addr) (r : V → Option Int → Option Int → Hp → VK → Prop) (f : D → Option Int → Option Int → Sto → Out D) : Prop where
  run : ∀ (w : Wd) (d : D) (v : V) (l h : Option Int) (Q : VK) (ex : XP), Ok K Γ w → Pk K Γ w d v → Post K Γ (f d l h w.S) w (fun z w' => ∀ a, OwnAt K Γ w w' z a → Q (.ref a) w'.H) ex → r v l h w.H Q
theorem sim_sl {r : V → Option Int → Option Int → Hp → VK → Prop} {f : D → Option Int → Option Int → Sto → Out D} (hf : SlM K Γ r f) (h : SimP K Γ xa W te me) (hl : SimO K Γ xa W tlo mlo) (hh : SimO K Γ xa W thi mhi) : SimE K Γ xa W (tSl r te tlo thi) (mSl f me mlo mhi) := ⟨fun w0 w σ δ Q o e n p =>
  h.run w0 w σ δ _ o e n (p.then fun d w1 o1 e1 p1 v r1 => hl.run w0 w1 σ δ _ o1 (e.trans e1) (n.ev e1) (p1.then fun l w2 o2 e2 p2 => hh.run w0 w2 σ δ _ o2 ((e.trans e1).trans e2) ((n.ev e1).ev e2) (p2.then fun h w3 o3 e3 p3 => hf.run w3 d v l h Q _ o3 (r1.ev (e2.trans e3)) p3)))⟩
theorem sim_slF {r : V → Option Int → Option Int → Hp → VK → Prop} {f : D → Option Int → Option Int → Sto → Out D} (hf : SlF K Γ r f) (h : SimP K Γ xa W te me) (hl : SimO K Γ xa W tlo mlo) (hh : SimO K Γ xa W thi mhi) : SimF K Γ xa W (tSl r te tlo thi) (mSl f me mlo mhi) := ⟨fun w0 w σ δ Q o e n p =>
  h.run w0 w σ δ _ o e n (p.then fun d w1 o1 e1 p1 v r1 => hl.run w0 w1 σ δ _ o1 (e.trans e1) (n.ev e1) (p1.then fun l w2 o2 e2 p2 => hh.run w0 w2 σ δ _ o2 ((e.trans e1).trans e2) ((n.ev e1).ev e2) (p2.then fun h w3 o3 e3 p3 => hf.run w3 d v l h Q _ o3 (r1.ev (e2.trans e3)) (p3.mono (fun z w4 _ _ q a oa => q a (own_back ((e1.trans e2).trans e3) oa)) fun _ _ _ _ _ _ x => x))))⟩
def slL : D → Option Int → Option Int → Sto → Out D := fun d l h S => match listOf S d with
  | some xs => .ok (.lst (cutD xs l h)) S
  | none => .bad
theorem cutV_len {vs : List V} {l h : Option Int} (hl : vs.length ≤ sizeLine) : (cutV vs l h).length ≤ sizeLine := Nat.le_trans (cutV_length vs l h) hl
theorem sf_list : SlF K Γ (rSlL K) slL := ⟨fun w d v l h Q ex o r p => by
  unfold slL at p
  split at p
  · rename_i xs h1
    obtain ⟨a, vs, rfl, a1, a2, a3⟩ := listOf_ok o r h1
    refine ⟨a, vs, rfl, a1, fun q hq => ?_⟩
    obtain ⟨k1, k2⟩ := new_lst o (cut_reps (lo := l) (hi := h) a3) (cutV_len a2) hq p
    exact k1 _ k2
  · exact False.elim p⟩
def slT : D → Option Int → Option Int → Sto → Out D := fun d l h S => match d with
  | .tup xs => .ok (.tup (cutD xs l h)) S
  | _ => .bad
theorem cut_all {xs : List D} {lo hi : Option Int} (h : HT.sIx xs.length 0 lo = 0 ∧ HT.sIx xs.length xs.length hi = xs.length) : cutD xs lo hi = xs := by
  unfold cutD
  rw [h.1, h.2, List.drop_zero, Nat.sub_zero, List.take_length]
theorem sm_tup : SlM K Γ (rSlA K) slT := ⟨fun w d v l h Q ex o r p => by
  unfold slT at p
  split at p
  · rename_i xs
    obtain ⟨a, vs, rfl, a1, a2, a3⟩ := pk_tup r
    refine ⟨a, vs, rfl, sqT_mono o.same a1, fun z => ?_, fun _ q hq => ?_⟩
    · rw [cut_all (by rw [reps_len a3]; exact z)] at p
      exact Post.now p o _ (rep_tup a1 a2 a3)
    · obtain ⟨k1, k2⟩ := new_tup o (cut_reps (lo := l) (hi := h) a3) (cutV_len a2) hq p
      exact k1 _ k2
  · exact False.elim p⟩
theorem reps_strs {ρ : List Addr} {R : Hp} : ∀ {xs : List Str}, RepsC K Γ ρ R (xs.map D.str) (xs.map V.str)
  | [] => reps_nil
  | i :: is => reps_cons (by simp only [RepC]) reps_strs
def mM1 (op : D → D → Sto → Out D) (mo me : ME) : ME := fun δ S => bnd (mo δ S) fun x S => match x with
  | .str _ => bnd (me δ S) fun y S => op x y S
  | _ => .bad
structure M1F (K : PySem.W.Frag) (Γ : Nat → Addr) (r : V → List V → Hp → VK → Prop) (op : D → D → Sto → Out D) : Prop where
  run : ∀ (w : Wd) (d e : D) (x y : V) (Q : VK) (ex : XP), Ok K Γ w → Rep K Γ w d x → Pk K Γ w e y → Post K Γ (op d e w.S) w (fun z w' => ∀ a, OwnAt K Γ w w' z a → Q (.ref a) w'.H) ex → r x [y] w.H Q
structure M1M (K : PySem.W.Frag) (Γ : Nat → Addr) (r : V → List V → Hp → VK → Prop) (op : D → D → Sto → Out D) : Prop where
  run : ∀ (w : Wd) (d e : D) (x y : V) (Q : VK) (ex : XP), Ok K Γ w → Rep K Γ w d x → Pk K Γ w e y → Post K Γ (op d e w.S) w (fun z w' => ∀ v, Rep K Γ w' z v → Q v w'.H) ex → r x [y] w.H Q
theorem sim_m1F {r : V → List V → Hp → VK → Prop} {op : D → D → Sto → Out D} (hf : M1F K Γ r op) (ho : SimE K Γ xa W to mo) (h : SimP K Γ xa W te me) : SimF K Γ xa W (tM1 r to te) (mM1 op mo me) := ⟨fun w0 w σ δ Q o e n p =>
  ho.run w0 w σ δ _ o e n (p.then fun x w1 o1 e1 p1 v r1 => by
    split at p1
    · exact ⟨⟨_, rep_str r1⟩, h.run w0 w1 σ δ _ o1 (e.trans e1) (n.ev e1) (p1.then fun y w2 o2 e2 p2 u r2 => hf.run w2 _ _ _ _ _ _ o2 (Rep.ev r1 e2) r2 (p2.mono (fun z w4 _ _ q a oa => q a (own_back (e1.trans e2) oa)) fun _ _ _ _ _ _ x => x))⟩
    · exact False.elim p1)⟩
theorem sim_m1 {r : V → List V → Hp → VK → Prop} {op : D → D → Sto → Out D} (hf : M1M K Γ r op) (ho : SimE K Γ xa W to mo) (h : SimP K Γ xa W te me) : SimE K Γ xa W (tM1 r to te) (mM1 op mo me) := ⟨fun w0 w σ δ Q o e n p =>
  ho.run w0 w σ δ _ o e n (p.then fun x w1 o1 e1 p1 v r1 => by
    split at p1
    · exact ⟨⟨_, rep_str r1⟩, h.run w0 w1 σ δ _ o1 (e.trans e1) (n.ev e1) (p1.then fun y w2 o2 e2 p2 u r2 => hf.run w2 _ _ _ _ _ _ o2 (Rep.ev r1 e2) r2 p2)⟩
    · exact False.elim p1)⟩
def opSplit : D → D → Sto → Out D := fun d e S => match d, e with
  | .str a, .str b => if (b.length == 0) = false ∧ a.length + 2 ≤ 16777216 then .ok (.lst ((Txt.split a b).map D.str)) S else .bad
  | _, _ => .bad
theorem split_le' (a b : Str) (h : a.length + 2 ≤ sizeLine) : (Txt.split a b).length ≤ sizeLine := by
  have := PyProof.Rows.split_le a b
  omega
theorem mf_split : M1F K Γ rSplit opSplit := ⟨fun w d e x y Q ex o hx hy p => by
  unfold opSplit at p
  split at p
  · rename_i a b
    split at p
    · rename_i h
      refine ⟨a, b, rep_str hx, by rw [pk_str hy], h.1, h.2, fun q hq => ?_⟩
      obtain ⟨k1, k2⟩ := new_lst o (reps_strs (xs := Txt.split a b)) (by rw [List.length_map]; exact split_le' a b h.2) hq p
      exact k1 _ k2
    · exact False.elim p
  · exact False.elim p⟩
def strsOf : List D → Option (List Str)
  | [] => some []
  | .str b :: r => (strsOf r).map (b :: ·)
  | _ => none
theorem strs_eq : ∀ {ds : List D} {bs : List Str}, strsOf ds = some bs → ds = bs.map D.str
  | [], bs, h => by cases h; rfl
  | .str b :: ds, bs, h => by
    unfold strsOf at h
    cases z : strsOf ds with
    | none => rw [z] at h; cases h
    | some cs => rw [z] at h; cases h; rw [strs_eq z]; rfl
  | .non :: _, _, h => by cases h
  | .bl _ :: _, _, h => by cases h
  | .int _ :: _, _, h => by cases h
  | .byt _ :: _, _, h => by cases h
  | .ty _ :: _, _, h => by cases h
  | .cls _ :: _, _, h => by cases h
  | .tup _ :: _, _, h => by cases h
  | .lst _ :: _, _, h => by cases h
  | .dic _ _ :: _, _, h => by cases h
  | .fdc _ _ :: _, _, h => by cases h
  | .obj _ _ _ :: _, _, h => by cases h
  | .ref _ :: _, _, h => by cases h
  | .scr _ :: _, _, h => by cases h
theorem reps_strs_eq : ∀ {xs : List Str} {vs : List V}, Reps K Γ w (xs.map D.str) vs → vs = xs.map V.str
  | [], vs, r => by simp only [List.map_nil, Reps, RepsC] at r; exact r
  | x :: xs, vs, r => by
    obtain ⟨v, ws, rfl, r1, r2⟩ := reps_inv r
    rw [rep_str r1, reps_strs_eq r2]
    rfl
def opJoin : D → D → Sto → Out D := fun d e S => match d, (seqOf S e).bind strsOf with
  | .str a, some ys => if (ys.map (·.length)).sum + ys.length * a.length ≤ 16777216 then .ok (.str (Txt.join a ys)) S else .bad
  | _, _ => .bad
theorem mm_join : M1M K Γ (rJoin K) opJoin := ⟨fun w d e x y Q ex o hx hy p => by
  unfold opJoin at p
  split at p
  · rename_i a ys h
    split at p
    · rename_i hl
      cases z : seqOf w.S e with
      | none => rw [z] at h; cases h
      | some ds =>
        rw [z] at h
        obtain ⟨b, vs, rfl, b1, b2, b3⟩ := seqOf_ok o hy z
        rw [strs_eq h] at b3
        rw [reps_strs_eq b3] at b1
        exact ⟨a, b, ys, rep_str hx, rfl, b1, hl, Post.now p o _ (by simp only [Rep, RepC])⟩
    · exact False.elim p
  · exact False.elim p⟩
def idxD (x : D) : List D → Option Nat
  | [] => none
  | d :: ds => if eqF d x then some 0 else (idxD x ds).map (· + 1)
def mIndex (mo me : ME) : ME := fun δ S => bnd (mo δ S) fun d S => if (listOf S d).isSome = true then bnd (me δ S) fun y S => match listOf S d with
    | some ds => if flatD y && ds.all flatD then match idxD y ds with
      | some j => .ok (.int (j : Nat)) S
      | none => .bad
      else .bad
    | none => .bad
  else .bad
theorem idx_reps {x : D} {u : V} (hx : flatD x = true) (rx : Rep K Γ w x u) : ∀ {ds : List D} {vs : List V} {j : Nat}, ds.all flatD = true → Reps K Γ w ds vs → idxD x ds = some j → ∃ z, vs[j]? = some z ∧ eqV z u = true ∧ ∀ (m : Nat) (z' : V), m < j → vs[m]? = some z' → eqV z' u = false
  | [], vs, j, _, _, e => by cases e
  | d :: ds, vs, j, h, r, e => by
    obtain ⟨v, ws, rfl, r1, r2⟩ := reps_inv r
    rw [List.all_cons, Bool.and_eq_true] at h
    unfold idxD at e
    have q := eqF_rep h.1 hx r1 rx
    by_cases z : eqF d x = true
    · rw [if_pos z] at e
      cases e
      exact ⟨v, rfl, by rw [q, z], fun m z' hm => absurd hm (Nat.not_lt_zero _)⟩
    · rw [if_neg z] at e
      cases y : idxD x ds with
      | none => rw [y] at e; cases e
      | some k =>
        rw [y] at e
        cases e
        obtain ⟨z', h1, h2, h3⟩ := idx_reps hx rx h.2 r2 y
        refine ⟨z', by simpa using h1, h2, fun m u' hm hu => ?_⟩
        cases m with
        | zero => simp at hu; subst hu; rw [q]; simpa using z
        | succ m => exact h3 m u' (Nat.lt_of_succ_lt_succ hm) (by simpa using hu)
theorem sim_index (ho : SimP K Γ xa W to mo) (h : SimE K Γ xa W te me) : SimE K Γ xa W (tBM K "list" (rIndex K) to (tCons te tNil)) (mIndex mo me) := ⟨fun w0 w σ δ Q o e n p =>
  ho.run w0 w σ δ _ o e n (p.then fun x w1 o1 e1 p1 v r1 => by
    split at p1
    · rename_i hs
      cases hz : listOf w1.S x with
      | none => rw [hz] at hs; cases hs
      | some ds0 =>
      obtain ⟨a, vs, rfl, a1, a2, a3⟩ := listOf_ok o1 r1 hz
      refine ⟨tyV_list a1, ?_⟩
      refine h.run w0 w1 σ δ _ o1 (e.trans e1) (n.ev e1) (p1.then fun y w2 o2 e2 p2 u r2 => ?_)
      show rIndex K (.ref a) [u] w2.H Q
      split at p2
      · rename_i ds hd
        split at p2
        · rename_i hf
          rw [Bool.and_eq_true] at hf
          split at p2
          · rename_i j hj
            obtain ⟨b, us, eb, b1, b2, b3⟩ := listOf_ok o2 (r1.ev e2) hd
            cases eb
            obtain ⟨z, z1, z2, z3⟩ := idx_reps hf.1 r2 hf.2 b3 hj
            exact ⟨a, us, u, j, z, rfl, rfl, b1, flat_rep hf.1 r2, flats_reps hf.2 b3, z1, z2, z3, Post.now p2 o2 _ (by simp only [Rep, RepC])⟩
          · exact False.elim p2
        · exact False.elim p2
      · exact False.elim p2
    · exact False.elim p1)⟩
def mCell (me : ME) : ME := fun δ S => bnd (me δ S) fun d S => .ok (.ref S.length) (S ++ [some d])
theorem sim_cell (h : SimF K Γ xa W te me) : SimE K Γ xa W te (mCell me) := ⟨fun w0 w σ δ Q o e n p =>
  h.run w0 w σ δ _ o e n (p.thenE fun d w1 q o1 e1 _ a oa => by
    have p' : Post K Γ (bnd (me δ w.S) fun d S => .ok (.ref S.length) (S ++ [some d])) w (fun d w' => ∀ v, Rep K Γ w' d v → Q v w'.H) (XW K Γ W σ) := p
    rw [q] at p'
    exact p' (wAdd w1 a d) rfl (ok_add o1 oa.r oa.nl oa.at_) (ev_add o1 e1 oa.new) _ (rep_ref o1))⟩
end
end MR

namespace MR
open PySem PySem.Spec PyProof.Rows L2 TP
section
variable {K : PySem.W.Frag} {Γ : Nat → Addr} {xa : XT} {W : WX} {te ta tb to ti tv : TE} {me ma mb mo mk mv : ME} {w w' w0 w1 : Wd} {tl : TA} {ml : MA} {n N c : Nat} {C : Addr} {m : MF} {Dn : Ends}
structure ClsG (K : PySem.W.Frag) (Γ : Nat → Addr) (N : Nat) : Prop extends ClsF K Γ N where
  nt : ∀ c, c < N → ∀ t ∈ kinds, PySem.W.notFirst K (Γ c) (.type t) = true
  nc : ∀ c c', c < N → c' < N → PySem.W.notFirst K (Γ c) (.ref (Γ c')) = true
def isObj (S : Sto) (c : Nat) (d : D) : Bool := match objOf S d with
  | some (c', _, _) => c' == c
  | none => false
def negB (neg : Bool) (d : D) (S : Sto) : Out D := match d with
  | .bl b => .ok (.bl (xor neg b)) S
  | _ => .bad
def mCmpO (N c : Nat) (neg : Bool) (m : MF) (ma mb : ME) : ME := fun δ S => bnd (ma δ S) fun x S => bnd (mb δ S) fun y S => if isObj S c x && decide (c < N) then match kindD S y with
    | some (.t _) => bnd (m [x, y] S) (negB neg)
    | some (.c c') => if c' < N then bnd (m [x, y] S) (negB neg) else .bad
    | none => .bad
  else .bad
def mBinO (c : Nat) (m : MF) (ma mb : ME) : ME := fun δ S => bnd (ma δ S) fun x S => bnd (mb δ S) fun y S => if isObj S c x && isObj S c y then m [x, y] S else .bad
def mBinI (c : Nat) (m : MF) (ma mb : ME) : ME := fun δ S => bnd (ma δ S) fun x S => bnd (mb δ S) fun y S => match y with
  | .int _ => if isObj S c x then m [x, y] S else .bad
  | _ => .bad
def mInZ (c : Nat) (neg : Bool) (m : MF) (ma mb : ME) : ME := fun δ S => bnd (ma δ S) fun x S => bnd (mb δ S) fun y S => if isObj S c y then bnd (m [y, x] S) (negB neg) else .bad
def mLenZ (c : Nat) (m : MF) (ml : MA) : ME := fun δ S => bnd (ml δ S) fun ds S => match ds with
  | [x] => if isObj S c x then bnd (m [x] S) fun r S => match r with
      | .int k => if 0 ≤ k ∧ k < 9223372036854775808 then .ok (.int k) S else .bad
      | _ => .bad
    else .bad
  | _ => .bad
def mAug (i : Nat) (f : Int → Int → Int) (me : ME) : MS := fun δ S => match δ[i]? with
  | some (.val (.int x)) => bndS (me δ S) δ fun y S => match y with
    | .int y => .ok (.nx (δ.set i (.val (.int (f x y))))) S
    | _ => .bad
  | _ => .bad
end
end MR

namespace MR
open PySem PySem.Spec PyProof.Rows L2 TP
section
variable {K : PySem.W.Frag} {Γ : Nat → Addr} {xa : XT} {W : WX}
structure IsxF (K : PySem.W.Frag) (Γ : Nat → Addr) (tab : List (Nat × Bool)) (cv : V) (cu : Value) : Prop where
  cls : ClsV cv cu
  ok : ∀ p ∈ tab, ExcC K (Γ p.1) ∧ PySem.W.kitOne K (.ref (Γ p.1)) cu = some p.2
end
theorem law_in {K : PySem.W.Frag} {Γ : Nat → Addr} {m : MF} {a : Addr} {ns : List Int} {H : Hp} {Q : VK} {E : XK} (hS : SqL K H a (ns.map V.int)) (hl : ns.length ≤ 63) (hm : ∃ S, m [.scr ns] [] = .ok (.bl true) S) (q : ∀ H', Q (.bl true) H') : spM K Γ 1 m [.ref a] H Q E := by
  obtain ⟨S, hm⟩ := hm
  refine ⟨⟨H, [], [], H⟩, [.scr ns], rfl, ⟨fun _ _ e => e, rfl, fun n d e => by simp at e, fun n m d e a h => by simp at h⟩, reps_cons ?_ reps_nil, rfl, ?_⟩
  · simp only [RepC]
    exact ⟨a, rfl, hS, Nat.le_trans hl (by decide)⟩
  · show Post K Γ (m [.scr ns] []) _ _ _
    rw [hm]
    intro w' _ _ _ v r
    rw [rep_bl r]
    exact q _
end MR

namespace TP
open PySem PySem.Spec PyProof.Rows L2
section
variable {prog : Program} {w : World} {A : Around} {E : Value → Shared → Prop} {s : Shared}
end
end TP

namespace TP
open PySem PySem.Spec PyProof.Rows L2
section
variable {X : Cx}
end
end TP

namespace MR
open PySem PySem.Spec PyProof.Rows L2 TP
def insU (x : Int) : List Int → List Int
  | [] => [x]
  | y :: ys => if x < y then x :: y :: ys else if x = y then y :: ys else y :: insU x ys
def sortU : List Int → List Int
  | [] => []
  | x :: xs => insU x (sortU xs)
def intsOf : List D → Option (List Int)
  | [] => some []
  | .int b :: r => (intsOf r).map (b :: ·)
  | _ => none
section
variable {K : PySem.W.Frag} {Γ : Nat → Addr} {xa : XT} {W : WX} {te : TE} {me : ME} {w w0 : Wd} {tl : TA} {ml : MA} {n : Nat}
def mSortSet (me : ME) : ME := fun δ S => bnd (me δ S) fun d S => match (listOf S d).bind intsOf with
  | some ns => if ns.length < 63 then .ok (.lst ((sortU ns).map D.int)) S else .bad
  | none => .bad
theorem SimA.s (h : SimA K Γ xa W n tl ml) : SimAs K Γ xa W tl ml := ⟨h.run⟩
theorem sim_snil : SimAs K Γ xa W tNil mNil := sim_nil.s
theorem sim_scons (h : SimE K Γ xa W te me) (g : SimAs K Γ xa W tl ml) : SimAs K Γ xa W (tCons te tl) (mCons me ml) := ⟨fun w0 w σ δ Q o e nn p =>
  h.run w0 w σ δ _ o e nn (p.then fun x w1 o1 e1 p1 v r1 => g.run w0 w1 σ δ _ o1 (e.trans e1) (nn.ev e1) (p1.then fun xs w2 o2 e2 p2 vs rs => Post.now p2 o2 _ (reps_cons (Rep.ev r1 e2) rs)))⟩
def mStar (me : ME) (ml : MA) : MA := fun δ S => bnd (me δ S) fun d S => match d with
  | .tup xs => bnd (ml δ S) fun ys S => .ok (xs ++ ys) S
  | .lst xs => bnd (ml δ S) fun ys S => .ok (xs ++ ys) S
  | _ => .bad
theorem sim_star (h : SimE K Γ xa W te me) (g : SimAs K Γ xa W tl ml) : SimAs K Γ xa W (StX.tStar K te tl) (mStar me ml) := ⟨fun w0 w σ δ Q o e nn p =>
  h.run w0 w σ δ _ o e nn (p.then fun x w1 o1 e1 p1 v r1 => by
    split at p1
    · simp only [Rep, RepC] at r1
      obtain ⟨a, vs, rfl, h2, h3, h4⟩ := r1
      refine ⟨a, vs, rfl, .inl (sqT_mono o1.same h2), g.run w0 w1 σ δ _ o1 (e.trans e1) (nn.ev e1) (p1.then fun ys w2 o2 e2 p2 us rs => Post.now p2 o2 _ (reps_app (Reps.ev h4 e2) rs))⟩
    · simp only [Rep, RepC] at r1
      obtain ⟨a, vs, rfl, h2, h3, h4⟩ := r1
      refine ⟨a, vs, rfl, .inr (SqL.of (o1.same _ _ h2)), g.run w0 w1 σ δ _ o1 (e.trans e1) (nn.ev e1) (p1.then fun ys w2 o2 e2 p2 us rs => Post.now p2 o2 _ (reps_app (Reps.ev h4 e2) rs))⟩
    · exact False.elim p1)⟩
def mTupS (ml : MA) : ME := fun δ S => bnd (ml δ S) fun ds S => if ds.length ≤ 16777216 then .ok (.tup ds) S else .bad
theorem sim_tupS (g : SimAs K Γ xa W tl ml) : SimE K Γ xa W (tTup tl) (mTupS ml) := ⟨fun w0 w σ δ Q o e nn p =>
  g.run w0 w σ δ _ o e nn (p.then fun ds w1 o1 e1 p1 vs rs => by
    split at p1
    · rename_i hl
      have hl' : vs.length ≤ sizeLine := by rw [← reps_len rs]; exact hl
      refine ⟨hl', fun pp hp => ?_⟩
      obtain ⟨k1, k2⟩ := new_tup o1 rs hl' hp p1
      exact k1 _ k2
    · exact False.elim p1)⟩
end
end MR

namespace TP
open PySem PySem.Spec PyProof.Rows L2
def FnR (P : Program) (w : World) (K : PySem.W.Frag) (mg : Str → Option Value) (base : Heap) (CX : CXT) (k : Nat) (f : Addr) (sp : Sp) : Prop :=
  ∀ (A : Around) (outer : List Env) (s : Shared) (H : Hp) (us : List Value) (vs : List V) (Q : VK) (E : XK), Room k A → Env0 P w K mg base A outer s H → Vals vs us → sp vs H Q E → codeAny (model P w) A (.call (.ref f) ⟨us, []⟩) (CR CX outer P w H s Q E) s
structure MakV (P : Program) (w : World) (K : PySem.W.Frag) (mg : Str → Option Value) (base : Heap) (k : Nat) (x : Str) (C : Addr) (sp : Sp) : Prop where
  ex : ∃ f : Addr, mg x = some (.ref C) ∧ Mk K C f ∧ FnR P w K mg base (L2.CX P w) k f sp
def spV (k : Nat) (sp : Sp) : Sp := fun vs H Q E => ∃ ws rest, vs = ws ++ rest ∧ ws.length = k ∧ rest.length ≤ sizeLine ∧ ∀ p, H p = none → sp (ws ++ [V.ref p]) (upd H p (.tup rest)) Q E
section
variable {X : Cx} {k j : Nat} {C : Addr} {sp : Sp} {W : WX} {x : Str} {p p' pos : Pos} {e : Expr} {es : List Expr} {t : TA} {te : TE}
end
structure StrI (K : PySem.W.Frag) (mg : Str → Option Value) (x : Str) (C : Addr) (qual : Str) (st : Stmt) (ps : List Str) (pv : Str) : Prop where
  ex : ∃ (f : Addr) (oc : Value) (od an : Option Addr) (osl : Array (Option Value)) (dV kV doc pm cdv ct : Value), mg x = some (.ref C) ∧ Mk K C f ∧
    K.lookup f = some ⟨oc, od, .func (PySem.W.fnOf "__init__" qual (defArgs st) (defBody st) (defScope st) dV kV doc pm an cdv ct), osl⟩ ∧ PySem.W.codeIn K cdv qual = true ∧
    ∀ us rest : List Value, us.length = ps.length → bindArgs (PySem.W.fnOf "__init__" qual (defArgs st) (defBody st) (defScope st) dV kV doc pm an cdv ct) ⟨us ++ rest, []⟩ = (newTuple rest >>= fun t => pure (ps.zip us ++ [(pv, t)]))
theorem fn_starG {CX : CXT} {P : Program} {w : World} {K : PySem.W.Frag} {mg : Str → Option Value} {base : Heap} {k : Nat} {f : Addr} {name qual pv : Str} {params : Arguments} {body : List Stmt} {scope : Scope} {dV kV doc pm cdv ct oc : Value} {an od : Option Addr} {osl : Array (Option Value)} {N ps : List Str} {sp : Sp}
    (lk : K.lookup f = some ⟨oc, od, .func (PySem.W.fnOf name qual params body scope dV kV doc pm an cdv ct), osl⟩) (hcd : PySem.W.codeIn K cdv qual = true) (S : FnScope N (ps ++ [pv]) scope) (hCX : StX.CXUp CX)
    (hb : ∀ us rest : List Value, us.length = ps.length → bindArgs (PySem.W.fnOf name qual params body scope dV kV doc pm an cdv ct) ⟨us ++ rest, []⟩ = (newTuple rest >>= fun t => pure (ps.zip us ++ [(pv, t)])))
    (hbody : ∀ (A : Around) (outer : List Env) (s : Shared) (H : Hp) (vs : List V) (Q : VK) (E : XK), Room k (A.deeper (envOfC qual scope s.heap.objs.size f cdv)) → sp vs H Q E →
      ∃ t, PSs (cxOf CX P w K mg base N qual scope f cdv A outer s H E) body t ∧ t { nx := fun _ H' => Q .non H', rt := Q } (L2.start N vs) H) : FnR P w K mg base CX (k + 1) f (spV ps.length sp) := by
  rintro A outer s H us vs Q E hr e0 r ⟨ws, rest, rfl, hl, hz, hq⟩
  obtain ⟨u1, u2, rfl, r1, r2⟩ := StX.vals_split r
  have l1 : ps.length = u1.length := by rw [← hl]; exact r1.length
  have free : H s.heap.objs.size = none := e0.hok.fresh (Nat.le_refl _)
  refine StX.run_bnd lk hcd S hr.toRoom e0 (G := fun xs H2 => ∃ p, H p = none ∧ xs = ws ++ [V.ref p] ∧ H2 = upd H p (.tup rest)) (fun A' Ex Q' h => ?_) ?_
  · have new : ObjOk P w (upd H s.heap.objs.size (.tup rest)) (s.heap.push ({ cls := .type "tuple", data := .seq u2.toArray } : Obj)) s.heap.objs.size (.tup rest) := ⟨hz, u2, r2, ⟨_, Heap.get?_push_size _ rfl, rfl, _, rfl⟩⟩
    have un := StX.un_laid (fs := frs outer) (s := s) (o := ({ cls := .type "tuple", data := .seq u2.toArray } : Obj)) (u := .tup rest) free
    have z := h _ _ (ws ++ [V.ref s.heap.objs.size]) (u1 ++ [Value.ref s.heap.objs.size]) (StX.env0_laid e0 new) un rfl (fun e s' => hCX outer s H _ _ E e s' un (fun b o q => Heap.get?_push_of_some _ q) rfl) (r1.append (.cons rfl .nil)) (by rw [List.length_append, List.length_append, hl] <;> rfl) ⟨_, free, rfl, rfl⟩
    rw [List.zip_append l1] at z
    rw [hb u1 u2 l1.symm]
    exact wpAny_bind (wpAny_newTuple (wpAny_pure z) (by rw [← r2.length]; exact hz))
  · rintro s2 H2 xs ⟨p, hp, rfl, rfl⟩ hr'
    exact hbody A outer s2 _ _ Q E ⟨hr', hr.gd⟩ (hq p hp)
theorem StrI.okZ {P : Program} {w : World} {K : PySem.W.Frag} {mg : Str → Option Value} {base : Heap} {C : Addr} {x qual pv : Str} {st : Stmt} {N ps : List Str} {k : Nat} {sp : Sp} (F : StrI K mg x C qual st ps pv) (S : FnScope N (ps ++ [pv]) (defScope st)) {t : XK → TS}
    (hd : ∀ (f : Addr) (cdv : Value) (A : Around) (outer : List Env) (s : Shared) (H : Hp) (E : XK), Room k (A.deeper (envOfC qual (defScope st) s.heap.objs.size f cdv)) → PSs (cxOf (L2.CX P w) P w K mg base N qual (defScope st) f cdv A outer s H E) (defBody st) (t E))
    (hb : ∀ (H : Hp) (vs : List V) (Q : VK) (E : XK), sp vs H Q E → t E { nx := fun _ H' => Q .non H', rt := Q } (L2.start N vs) H) : MakV P w K mg base (k + 1) x C (spV ps.length sp) := by
  obtain ⟨f, oc, od, an, osl, dV, kV, doc, pm, cdv, ct, hm, M, lk, hcd, hbd⟩ := F.ex
  exact ⟨f, hm, M, fn_starG lk hcd S StX.cxUp hbd fun A outer s H vs Q E hr h => ⟨t E, hd f cdv A outer s H E hr, hb H vs Q E h⟩⟩
end TP

namespace TP
open PySem PySem.Spec PyProof.Rows L2
section
variable {prog : Program} {w : World} {A : Around} {E : Value → Shared → Prop} {s : Shared} {K : PySem.W.Frag} {x C L f f0 dx : Addr} {h₀ : Heap} {m : Str → Option Value} {od : Option Obj} {nm : String}
open PySem.W in
end
structure MixR (K : PySem.W.Frag) (C : Addr) (m : Str) : Prop where
  l : ∃ g : Addr, PySem.W.findIn K (.ref C) m = some (some (.ref g))
  sub : PySem.W.subIn K (.ref C) (.type "int") = some false
structure IntOp (nm : String) : Prop where
  ex : ∃ (id n : String) (g : Int → Int → Sem Fin) (b : Builtin), Slot "int" (PySem.dunder nm) id ∧ fillsNumberSlot (.type "int") nm = pure true ∧ entryFor table id = some b ∧ b = Builtin.Int.intBinary n g ∧ ∀ a b, argsOk id ⟨[a, b], []⟩
section
variable {X : Cx} {k j : Nat} {C : Addr} {ps : List Str} {sp : Sp} {W : WX}
end
end TP

namespace TP
open PySem PySem.Spec PyProof.Rows L2
structure StaI (K : PySem.W.Frag) (C : Addr) (m qual : Str) (st : Stmt) (ps : List Str) : Prop where
  ex : ∃ (p f : Addr) (fd : FuncData) (mc : Value), ClX.CRead K C mc ∧ PySem.W.findCls K (.ref C) mc m = some (.get (.builtin "staticmethod.__get__") (.ref p) .none (.ref C)) ∧ (∃ rest, PySem.W.recIn K p "staticmethod" = some (.ref f :: rest)) ∧ Fun K m qual st f fd ∧ Binds K fd ps []
theorem StaI.okZ {P : Program} {w : World} {K : PySem.W.Frag} {mg : Str → Option Value} {base : Heap} {C : Addr} {m qual : Str} {st : Stmt} {N ps : List Str} {k : Nat} {sp : Sp} (F : StaI K C m qual st ps) (S : FnScope N ps (defScope st)) (len : ∀ vs H Q E, sp vs H Q E → vs.length = ps.length) {t : XK → TS}
    (hd : ∀ (f : Addr) (cdv : Value) (A : Around) (outer : List Env) (s : Shared) (H : Hp) (E : XK), Room k (A.deeper (envOfC qual (defScope st) s.heap.objs.size f cdv)) → PSs (cxOf (L2.CX P w) P w K mg base N qual (defScope st) f cdv A outer s H E) (defBody st) (t E))
    (hb : ∀ (H : Hp) (vs : List V) (Q : VK) (E : XK), sp vs H Q E → t E { nx := fun _ H' => Q .non H', rt := Q } (start N vs) H) : StaZ P w K mg base (k + 1) C m ps sp := by
  obtain ⟨p, f, fd, mc, h1, h2, h3, F, b⟩ := F.ex
  exact ⟨p, f, fd, mc, h1, h2, h3, F.kp, okG F S len fun cdv A outer s H vs Q E hr h => ⟨t E, hd f cdv A outer s H E hr, hb H vs Q E h⟩, b⟩
end TP

namespace MR
open PySem PySem.Spec PyProof.Rows L2 TP
section
variable {K : PySem.W.Frag} {Γ : Nat → Addr} {xa : XT} {W : WX} {w w0 : Wd} {tl : TA} {ml : MA} {n c : Nat} {C : Addr} {m : MI}
def mNewV (c k : Nat) (m : MI) (ml : MA) : ME := fun δ S => bnd (ml δ S) fun ds S => if k ≤ ds.length ∧ ds.length ≤ 16777216 then bnd (m (ds.take k ++ [.tup (ds.drop k)]) S) fun p S => .ok (.obj c p.1 p.2) S else .bad
end
end MR

namespace MR
open PySem PySem.Spec PyProof.Rows L2 TP
section
variable {K : PySem.W.Frag} {Γ : Nat → Addr} {xa : XT} {W : WX} {ta tb : TE} {ma mb : ME} {m : MF} {c : Nat} {C : Addr}
def mBinR (c : Nat) (m : MF) (ma mb : ME) : ME := fun δ S => bnd (ma δ S) fun x S => bnd (mb δ S) fun y S => match x with
  | .int _ => if isObj S c y then m [y, x] S else .bad
  | _ => .bad
end
end MR

namespace TP
open PySem PySem.Spec PyProof.Rows L2
section
variable {X : Cx} {k j : Nat} {C : Addr} {ps : List Str} {sp : Sp} {W : WX}
end
end TP

namespace MR
open PySem PySem.Spec PyProof.Rows L2 TP
section
variable {K : PySem.W.Frag} {Γ : Nat → Addr} {xa : XT} {W : WX} {ta tb : TE} {ma mb : ME} {m : MF} {c : Nat} {C : Addr}
def EqAll (c : Nat) (m : MF) (S : Sto) (xs ys : List D) : Prop := xs.length = ys.length ∧ ∀ p ∈ xs.zip ys, isObj S c p.1 = true ∧ isObj S c p.2 = true ∧ m [p.1, p.2] S = .ok (.bl true) S
open Classical in
noncomputable def mEqL (c : Nat) (m : MF) (ma mb : ME) : ME := fun δ S => bnd (ma δ S) fun x S => bnd (mb δ S) fun y S => match x, y with
  | .lst xs, .lst ys => if EqAll c m S xs ys then .ok (.bl true) S else .bad
  | _, _ => .bad
end
end MR

namespace TP
open PySem PySem.Spec PyProof.Rows L2
structure PrpZ (P : Program) (w : World) (K : PySem.W.Frag) (mg : Str → Option Value) (base : Heap) (k : Nat) (C : Addr) (f : Str) (ps : List Str) (sp : Sp) : Prop where
  ex : ∃ (p g : Addr) (fd : FuncData), PropOf K C f p g ∧ L2.FnOk P w K mg base (L2.CX P w) k g fd ps sp ∧ Binds K fd ps []
section
variable {X : Cx} {k j : Nat} {C : Addr} {f : Str} {ps : List Str} {sp : Sp} {e : Expr} {pos : Pos} {ta : TE}
end
inductive Src where
  | pos (i : Nat)
  | kw (i : Nat)
  | dfl (i : Nat)
def pick {α : Type} (us ws ds : List α) : Src → Option α
  | .pos i => us[i]?
  | .kw i => ws[i]?
  | .dfl i => ds[i]?
def arr {α : Type} (src : List Src) (us ws ds : List α) : List α := src.filterMap (pick us ws ds)
theorem vals_get {vs : List V} {us : List Value} (h : Vals vs us) (i : Nat) : (vs[i]? = none ∧ us[i]? = none) ∨ ∃ v u, vs[i]? = some v ∧ us[i]? = some u ∧ RelV v u := by
  induction h generalizing i with
  | nil => exact .inl ⟨by simp, by simp⟩
  | cons r t ih =>
    cases i with
    | zero => exact .inr ⟨_, _, rfl, rfl, r⟩
    | succ i => simpa using ih i
theorem arr_vals {src : List Src} {vs zs dv : List V} {us ws ds : List Value} (h1 : Vals vs us) (h2 : Vals zs ws) (h3 : Vals dv ds) : Vals (arr src vs zs dv) (arr src us ws ds) := by
  induction src with
  | nil => exact .nil
  | cons s src ih =>
    have key : (pick vs zs dv s = none ∧ pick us ws ds s = none) ∨ ∃ v u, pick vs zs dv s = some v ∧ pick us ws ds s = some u ∧ RelV v u := by
      cases s with
      | pos i => exact vals_get h1 i
      | kw i => exact vals_get h2 i
      | dfl i => exact vals_get h3 i
    unfold arr at ih ⊢
    rcases key with ⟨e1, e2⟩ | ⟨v, u, e1, e2, r⟩
    · rw [List.filterMap_cons_none e1, List.filterMap_cons_none e2]; exact ih
    · rw [List.filterMap_cons_some e1, List.filterMap_cons_some e2]; exact .cons r ih
structure MakK (P : Program) (w : World) (K : PySem.W.Frag) (mg : Str → Option Value) (base : Heap) (k : Nat) (x : Str) (C : Addr) (n : Nat) (ks : List Str) (src : List Src) (dvs : List V) (ps : List Str) (sp : Sp) : Prop where
  ex : ∃ (f : Addr) (fd : FuncData) (its : List Value), mg x = some (.ref C) ∧ Mk K C f ∧ FnOk P w K mg base (L2.CX P w) k f fd ps sp ∧ Vals dvs its ∧
    ∀ (s : Shared) (v : Value) (us ws : List Value), K.In s.heap → us.length = n → ws.length = ks.length → BindsTo s fd ⟨v :: us, ks.zip ws⟩ (ps.zip (v :: arr src us ws its))
section
variable {X : Cx} {k j n : Nat} {C : Addr} {sp : Sp} {W : WX} {x : Str} {p pos : Pos} {e : Expr} {es : List Expr} {kws : List Keyword} {t tkw : TA} {ks ps : List Str} {src : List Src} {dvs : List V}
end
end TP

namespace TP
open PySem PySem.Spec PyProof.Rows L2
structure MkKI (K : PySem.W.Frag) (mg : Str → Option Value) (x : Str) (C : Addr) (m qual : Str) (st : Stmt) (n : Nat) (ks : List Str) (src : List Src) (dvs : List V) (ps : List Str) : Prop where
  ex : ∃ (f : Addr) (fd : FuncData) (its : List Value), mg x = some (.ref C) ∧ Mk K C f ∧ (∃ dvs kws, FunD K m qual (defArgs st) (defBody st) (defScope st) dvs kws f fd) ∧ Vals dvs its ∧
    ∀ (s : Shared) (v : Value) (us ws : List Value), K.In s.heap → us.length = n → ws.length = ks.length → BindsTo s fd ⟨v :: us, ks.zip ws⟩ (ps.zip (v :: arr src us ws its))
structure PrpI (K : PySem.W.Frag) (C : Addr) (f qual : Str) (st : Stmt) (ps : List Str) : Prop where
  ex : ∃ (p g : Addr) (fd : FuncData), PropOf K C f p g ∧ Fun K f qual st g fd ∧ Binds K fd ps []
section
variable {P : Program} {w : World} {K : PySem.W.Frag} {mg : Str → Option Value} {base : Heap} {C : Addr}
theorem MkKI.okZ {x m qual : Str} {st : Stmt} {n : Nat} {ks : List Str} {src : List Src} {dvs : List V} {N ps : List Str} {k : Nat} {sp : Sp} (F : MkKI K mg x C m qual st n ks src dvs ps) (S : FnScope N ps (defScope st)) (len : ∀ vs H Q E, sp vs H Q E → vs.length = ps.length) {t : XK → TS}
    (hd : ∀ (f : Addr) (cdv : Value) (A : Around) (outer : List Env) (s : Shared) (H : Hp) (E : XK), Room k (A.deeper (envOfC qual (defScope st) s.heap.objs.size f cdv)) → PSs (cxOf (L2.CX P w) P w K mg base N qual (defScope st) f cdv A outer s H E) (defBody st) (t E))
    (hb : ∀ (H : Hp) (vs : List V) (Q : VK) (E : XK), sp vs H Q E → t E { nx := fun _ H' => Q .non H', rt := Q } (start N vs) H) : MakK P w K mg base (k + 1) x C n ks src dvs ps sp := by
  obtain ⟨f, fd, its, at_, M, ⟨dv', kws, F⟩, hv, b⟩ := F.ex
  exact ⟨f, fd, its, at_, M, okGD F S len fun cdv A outer s H vs Q E hr h => ⟨t E, hd f cdv A outer s H E hr, hb H vs Q E h⟩, hv, b⟩
theorem PrpI.okZ {f qual : Str} {st : Stmt} {N ps : List Str} {k : Nat} {sp : Sp} (F : PrpI K C f qual st ps) (S : FnScope N ps (defScope st)) (len : ∀ vs H Q E, sp vs H Q E → vs.length = ps.length) {t : XK → TS}
    (hd : ∀ (f : Addr) (cdv : Value) (A : Around) (outer : List Env) (s : Shared) (H : Hp) (E : XK), L2.Room k (A.deeper (envOfC qual (defScope st) s.heap.objs.size f cdv)) → PSs (cxOf (L2.CX P w) P w K mg base N qual (defScope st) f cdv A outer s H E) (defBody st) (t E))
    (hb : ∀ (H : Hp) (vs : List V) (Q : VK) (E : XK), sp vs H Q E → t E { nx := fun _ H' => Q .non H', rt := Q } (start N vs) H) : PrpZ P w K mg base (k + 1) C f ps sp := by
  obtain ⟨p, g, fd, hp, F, b⟩ := F.ex
  exact ⟨p, g, fd, hp, F.okX S len fun cdv A outer s H vs Q E hr h => ⟨t E, hd g cdv A outer s H E hr, hb H vs Q E h⟩, b⟩
end
end TP

namespace MR
open PySem PySem.Spec PyProof.Rows L2 TP
section
variable {K : PySem.W.Frag} {Γ : Nat → Addr} {xa : XT} {W : WX} {te : TE} {me : ME} {m : MF} {c : Nat} {C : Addr} {tl tk : TA} {ml mk : MA} {n1 n2 : Nat}
end
end MR

namespace MR
open PySem PySem.Spec L2 TP
variable {K : PySem.W.Frag} {Γ : Nat → Addr} {w w0 w1 w' : Wd} {xa : XT} {W : WX} {te ta : TE} {me ma : ME} {tl : TA} {ml : MA} {n : Nat} {m : MF}
end MR

namespace TP
open PySem PySem.Spec PyProof.Rows L2
end TP
namespace MR
open PySem PySem.Spec L2 TP
variable {K : PySem.W.Frag} {Γ : Nat → Addr} {w w0 w1 w' : Wd} {xa : XT} {W : WX} {te tk : TE} {me mk : ME}
end MR

namespace TP
open PySem PySem.Spec PyProof.Rows L2
end TP
namespace MR
open PySem PySem.Spec L2 TP
variable {K : PySem.W.Frag} {Γ : Nat → Addr} {w w0 w1 w' : Wd} {xa : XT} {W : WX} {te tk : TE} {me mk : ME}
end MR

namespace MR
open PySem PySem.Spec L2 TP
variable {K : PySem.W.Frag} {Γ : Nat → Addr} {w w0 w1 w' : Wd} {xa : XT} {W : WX} {te tk : TE} {me mk : ME}
end MR

namespace MR
open PySem PySem.Spec L2 TP
abbrev Nxt := Nat → Sto → Option (Option D)
abbrev MN := Env → Sto → Out Nxt
structure ItemsD (K : PySem.W.Frag) (Γ : Nat → Addr) (w : Wd) (J : It) (nx : Nxt) : Prop where
  lim : ∀ w1 i d, Ok K Γ w1 → Gr w w1 → nx i w1.S = some (some d) → i < sizeLine
  go : ∀ w1 i d, Ok K Γ w1 → Gr w w1 → nx i w1.S = some (some d) → J.go i w1.H
  yld : ∀ w1 i d x H', Ok K Γ w1 → Gr w w1 → nx i w1.S = some (some d) → J.yld i w1.H x H' → ∃ w2, w2.H = H' ∧ w2.S = w1.S ∧ Ok K Γ w2 ∧ Ev w1 w2 ∧ Rep K Γ w2 d x
  stop : ∀ w1 i, Ok K Γ w1 → Gr w w1 → nx i w1.S = some none → J.stop i w1.H
structure SimDI (K : PySem.W.Frag) (Γ : Nat → Addr) (xa : XT) (W : WX) (wi : TI) (mi : MN) : Prop where
  run : ∀ (w0 w : Wd) (σ : L2.St) (δ : Env) (R : It → Hp → Prop), Ok K Γ w → Ev w0 w → EnvOk K Γ xa w0 w σ δ → Post K Γ (mi δ w.S) w (fun nx w' => ∀ J, ItemsD K Γ w' J nx → R J w'.H) (XW K Γ W σ) → wi σ w.H R
section
variable {K : PySem.W.Frag} {Γ : Nat → Addr} {xa : XT} {W : WX} {te : TE} {me : ME} {w w' w0 w1 : Wd} {t : TT} {mt : MT} {ts : TS} {ms : MS} {Dn : Ends} {tl : TA} {ml : MA} {wi : TI} {mi : MN} {tg : TG} {mg : MG} {vs : List Nat}
end
end MR

namespace GQ
open PySem PySem.SeqAt
open AutoSeq1 (wpAny_loadPart')
open MeetsSeq MeetsSeq2 MeetsSeq3 SeqRoads2
section
variable {prog : Program} {w : World} {A : Around} {R : Result → Shared → Prop}
end
section
variable {prog : Program} {w : World} {A : Around} {E : Value → Shared → Prop} {s : Shared}
end
end GQ
namespace TP
open PySem PySem.Spec PyProof.Rows L2
section
variable {X : Cx} {k j : Nat} {C : Addr} {ps : List Str} {sp : Sp} {W : WX}
end
end TP

namespace MR
open PySem PySem.Spec L2 TP
open Classical in
section
variable {K : PySem.W.Frag} {Γ : Nat → Addr} {xa : XT} {W : WX} {ta tb : TE} {ma mb : ME} {w w' w0 w1 w2 : Wd} {c : Nat} {C : Addr} {m : MF}
end
end MR

namespace TP
open PySem PySem.Spec PyProof.Rows L2
end TP
namespace MR
open PySem PySem.Spec L2 TP
variable {K : PySem.W.Frag} {Γ : Nat → Addr} {w w0 w1 w' : Wd} {xa : XT} {W : WX} {te : TE} {me : ME} {tl : TA} {ml : MA}
end MR

namespace GQ
open PySem PySem.SeqAt
open AutoSeq1 (wpAny_loadPart')
open MeetsSeq MeetsSeq2 MeetsSeq3 SeqRoads2
section
variable {prog : Program} {w : World} {A : Around} {R : Result → Shared → Prop}
end
section
variable {prog : Program} {w : World} {A : Around} {E : Value → Shared → Prop} {s : Shared}
end
end GQ
namespace TP
open PySem PySem.Spec PyProof.Rows L2
section
variable {X : Cx} {k j : Nat} {C : Addr} {ps : List Str} {sp : Sp} {W : WX}
end
end TP

namespace MR
open PySem PySem.Spec L2 TP
open Classical in
section
variable {K : PySem.W.Frag} {Γ : Nat → Addr} {xa : XT} {W : WX} {ta tb : TE} {ma mb : ME} {w w' w0 w1 w2 : Wd} {c : Nat} {C : Addr} {m : MF}
end
end MR

namespace TP
open PySem PySem.Spec PyProof.Rows L2
section
variable {X : Cx}
end
end TP

namespace MR
open PySem PySem.Spec L2 TP
variable {K : PySem.W.Frag} {Γ : Nat → Addr} {xa : XT} {W : WX} {te ti : TE} {me mk : ME}
end MR

namespace TP
open PySem PySem.Spec PyProof.Rows L2
inductive HdsA (X : Cx) : List ExceptHandler → List (Value × Nat × (Addr → Value → Option Addr → TS)) → Prop
  | nil : HdsA X [] []
  | cons {x n : Str} {c : Value} {i : Nat} {ts : Addr → Value → Option Addr → TS} {b₀ : Stmt} {suite : List Stmt} {np pos' : Pos} {hds : List ExceptHandler} {l : List (Value × Nat × (Addr → Value → Option Addr → TS))} (hi : X.N[i]? = some n) (hln : X.env.kindOf n = some .local) (hc : Names X x c)
      (hsu : ∀ (a : Addr) (oe : Obj) (cls : Value) (d : Option Addr) (pn : List (Addr × Obj)), Zc cls d oe → (∃ vs, oe.data = .fields vs) → PSs (X.suite a ((a, oe) :: pn)) (b₀ :: suite) (ts a cls d)) (r : HdsA X hds l) :
      HdsA X (.ExceptHandler (some (.Name x np)) (some n) (b₀ :: suite) pos' :: hds) ((c, i, ts) :: l)
section
variable {X : Cx} {body : List Stmt} {h₀ : ExceptHandler} {hds : List ExceptHandler} {l : List (Value × Nat × (Addr → Value → Option Addr → TS))} {pos : Pos} {tb : WX → TS} {Wout : WX}
end
end TP

namespace MR
open PySem PySem.Spec L2 TP
section
variable {K : PySem.W.Frag} {Γ : Nat → Addr} {xa : XT} {W : WX} {te : TE} {me : ME} {w w' w0 w1 : Wd} {t t1 : TT} {mt mt1 : MT} {ms : MS} {wi wi1 : TI} {mi mi1 : MA} {tg tg1 : TG} {mg mg1 : MG} {vs vs1 : List Nat}
def notOwn : Slot → Bool
  | .own _ _ => false
  | _ => true
theorem EnvOk.grN {σ : L2.St} {δ : Env} (h : EnvOk K Γ xa w0 w σ δ) (hn : δ.all notOwn = true) (g : Gr w w') : EnvOk K Γ xa w0 w' σ δ := by
  refine ⟨h.len, fun i x s h1 h2 => ?_, h.sep⟩
  have k := h.ok i x s h1 h2
  cases s with
  | no => trivial
  | val d => obtain ⟨v, e1, e2⟩ := k; exact ⟨v, e1, Rep.gr e2 g⟩
  | own b d =>
    have := List.all_eq_true.mp hn _ (List.mem_of_getElem? h2)
    cases this
  | exn c ns ds => obtain ⟨e1, e2, e3⟩ := k; exact ⟨e1, e2, e3.imp (fun ⟨dd, vs, e3, e4, e5, e6⟩ => ⟨dd, vs, e3, g.rr _ _ e4, e5, Reps.gr e6 g⟩) id⟩
def mLc2L (mg : MG) (mt : MT) (mi1 : MA) (mg1 : MG) (mt1 : MT) (me : ME) (vs1 : List Nat) (δ : Env) : List D → Sto → Out (List D)
  | [], S => .ok [] S
  | d :: ds, S => match mg d δ with
    | none => .bad
    | some δ1 => bnd (noX (mt δ1 S)) fun b S => if b then bnd (noX (mi1 δ1 S)) fun es S => if es.length ≤ 4000 ∧ δ1.all notOwn = true then bnd (mLcL mg1 mt1 me (mwipe δ1 vs1) es S) fun ys S => bnd (mLc2L mg mt mi1 mg1 mt1 me vs1 δ ds S) fun zs S => .ok (ys ++ zs) S else .bad else mLc2L mg mt mi1 mg1 mt1 me vs1 δ ds S
def mLc2 (mi : MA) (mg : MG) (mt : MT) (mi1 : MA) (mg1 : MG) (mt1 : MT) (me : ME) (vs vs1 : List Nat) : ME := fun δ S => bnd (mi δ S) fun ds S => if ds.length ≤ 4000 then bnd (mLc2L mg mt mi1 mg1 mt1 me vs1 (mwipe δ vs) ds S) fun ys S => .ok (.lst ys) S else .bad
theorem sim_lc2 {us us1 : List Nat} (hi : SimI K Γ xa Ev W wi mi) (hg : SimN K Γ xa us tg mg) (ht : SimT K Γ xa noW t mt) (hi1 : SimI K Γ xa Gr noW wi1 mi1) (hg1 : SimN K Γ xa us1 tg1 mg1) (ht1 : SimT K Γ xa noW t1 mt1) (he : SimE K Γ xa noW te me) (hu : ∀ i ∈ us, i ∈ vs := by decide) (hu1 : ∀ i ∈ us1, i ∈ vs1 := by decide) : SimF K Γ xa W (tLc2 wi tg t wi1 tg1 t1 te vs vs1) (mLc2 mi mg mt mi1 mg1 mt1 me vs vs1) := ⟨fun w0 w σ δ Q o e n p =>
  hi.run w0 w σ δ _ o e n (p.then fun ds w1 o1 e1 p1 J it Dd hD => by
    split at p1
    case isFalse => exact False.elim p1
    rename_i hds
    let okF : D → Wd → Prop := fun d w' => ∀ a, OwnAt K Γ w w' d a → Q (.ref a) w'.H
    refine ⟨fun i m H => m = ds.length - i ∧ i ≤ ds.length ∧ ∃ w' acc, w'.H = H ∧ Ok K Γ w' ∧ Ev w1 w' ∧ OwnAt K Γ w1 w' (.lst acc) Dd ∧ acc.length ≤ i * 4000 ∧
        Post K Γ (bnd (mLc2L mg mt mi1 mg1 mt1 me vs1 (mwipe δ vs) (ds.drop i) w'.S) fun ys S => .ok (D.lst (acc ++ ys)) S) w1 okF (XW K Γ W σ), ⟨_, rfl, Nat.zero_le _, wPut w1 Dd (.lst []), [], rfl, ok_put o1 (r_none o1 hD) (not_live o1 hD), ev_put (Ev.refl _) hD, own_new o1 hD ⟨[], upd_same, by decide, reps_nil⟩, Nat.zero_le _, p1⟩, ?_⟩
    rintro i m H ⟨rfl, hi, w', acc, rfl, o', e', oa, hacc, p'⟩
    rcases Nat.lt_or_ge i ds.length with hlt | hge
    · refine .inr ⟨it.go w' i o' e' hlt, _, fun _ h => h, fun x H' y => ?_⟩
      obtain ⟨w2, d, rfl, hs2, o2, e2, hd, rx⟩ := it.yld w' i x H' o' e' hlt y
      have hdr : ds.drop i = d :: ds.drop (i + 1) := by
        rw [List.drop_eq_getElem_cons hlt]
        congr 1
        exact Option.some.inj ((List.getElem?_eq_getElem hlt).symm.trans hd)
      rw [hdr] at p'
      unfold mLc2L at p'
      have n2 : EnvOk K Γ xa w0 w2 (wipe σ vs) (mwipe δ vs) := (((n.ev e1).ev e').ev e2).wipe vs
      have ev02 : Ev w0 w2 := ((e.trans e1).trans e').trans e2
      refine hg.run w0 w2 _ _ d x _ o2 n2 rx ?_
      cases zg : mg d (mwipe δ vs) with
      | none => rw [zg] at p'; exact p'
      | some δ1 =>
        rw [zg] at p'
        dsimp only at p'
        rw [← hs2, bnd_assoc] at p'
        intro σ1 n1 hl1 hk1
        refine ⟨(wipe_same hl1 hk1 hu).trans (wipe_wipe vs), ?_⟩
        refine ht.run w0 w2 σ1 δ1 _ o2 ev02 n1 (Post.noX ((Post.ev p' (e'.trans e2)).thenE fun b w3 q3 o3 e3 p3 => ?_))
        have oa3 := (oa.ev e2).ev e3
        have m1 : ds.length - (i + 1) < ds.length - i := by omega
        rw [q3] at p'
        cases b with
        | false =>
          rw [if_neg (by simp)]
          exact ⟨_, m1, rfl, hlt, w3, acc, rfl, o3, (e'.trans e2).trans e3, oa3, by omega, p'⟩
        | true =>
          rw [if_pos rfl]
          have e13 : Ev w1 w3 := (e'.trans e2).trans e3
          have p3' : Post K Γ (bnd (noX (mi1 δ1 w3.S)) fun es S => bnd (if es.length ≤ 4000 ∧ δ1.all notOwn = true then bnd (mLcL mg1 mt1 me (mwipe δ1 vs1) es S) fun ys S => bnd (mLc2L mg mt mi1 mg1 mt1 me vs1 (mwipe δ vs) (ds.drop (i + 1)) S) fun zs S => .ok (ys ++ zs) S else .bad) fun ys S => .ok (D.lst (acc ++ ys)) S) w1 okF (XW K Γ W σ) := by
            rw [← bnd_assoc]; exact p'
          refine hi1.run w0 w3 σ1 δ1 _ o3 (ev02.trans e3) (n1.ev e3) (Post.noX ((Post.ev p3' e13).thenE fun es w4 q4 o4 e4 p4 J1 it1 => ?_))
          rw [q4] at p3'
          have p4' : Post K Γ (bnd (if es.length ≤ 4000 ∧ δ1.all notOwn = true then bnd (mLcL mg1 mt1 me (mwipe δ1 vs1) es w4.S) fun ys S => bnd (mLc2L mg mt mi1 mg1 mt1 me vs1 (mwipe δ vs) (ds.drop (i + 1)) S) fun zs S => .ok (ys ++ zs) S else .bad) fun ys S => .ok (D.lst (acc ++ ys)) S) w1 okF (XW K Γ W σ) := p3'
          split at p4'
          case isFalse => exact False.elim p4'
          rename_i hes
          obtain ⟨hes, hno⟩ := hes
          have e14 : Ev w1 w4 := e13.trans e4
          have e04 : Ev w0 w4 := (ev02.trans e3).trans e4
          refine ⟨fun j k H => k = es.length - j ∧ j ≤ es.length ∧ ∃ w' acc, w'.H = H ∧ Ok K Γ w' ∧ Ev w1 w' ∧ Gr w4 w' ∧ OwnAt K Γ w1 w' (.lst acc) Dd ∧ acc.length ≤ i * 4000 + j ∧
            Post K Γ (bnd (mLcL mg1 mt1 me (mwipe δ1 vs1) (es.drop j) w'.S) fun ys S => bnd (mLc2L mg mt mi1 mg1 mt1 me vs1 (mwipe δ vs) (ds.drop (i + 1)) S) fun zs S => .ok (D.lst (acc ++ (ys ++ zs))) S) w1 okF (XW K Γ W σ), ⟨_, rfl, Nat.zero_le _, w4, acc, rfl, o4, e14, Gr.refl _, oa3.ev e4, hacc, ?_⟩, ?_⟩
          · rw [bnd_assoc] at p4'
            have ef : (fun (ys : List D) (S : Sto) => bnd (bnd (mLc2L mg mt mi1 mg1 mt1 me vs1 (mwipe δ vs) (ds.drop (i + 1)) S) fun zs S => .ok (ys ++ zs) S) fun ys S => Out.ok (D.lst (acc ++ ys)) S) = fun ys S => bnd (mLc2L mg mt mi1 mg1 mt1 me vs1 (mwipe δ vs) (ds.drop (i + 1)) S) fun zs S => .ok (D.lst (acc ++ (ys ++ zs))) S := by
              funext ys S
              rw [bnd_assoc]; rfl
            rw [ef] at p4'
            exact p4'
          rintro j k H ⟨rfl, hj, w5, acc5, rfl, o5, e15, g5, oa5, hacc5, p5⟩
          rcases Nat.lt_or_ge j es.length with hlt1 | hge1
          · refine .inr ⟨it1.go w5 j o5 g5 hlt1, _, fun _ h => h, fun x1 H1 y1 => ?_⟩
            obtain ⟨w6, d1, rfl, hs6, o6, e6, hd1, rx1⟩ := it1.yld w5 j x1 H1 o5 g5 hlt1 y1
            have hdr1 : es.drop j = d1 :: es.drop (j + 1) := by
              rw [List.drop_eq_getElem_cons hlt1]
              congr 1
              exact Option.some.inj ((List.getElem?_eq_getElem hlt1).symm.trans hd1)
            rw [hdr1] at p5
            unfold mLcL at p5
            have n6 : EnvOk K Γ xa w0 w6 (wipe σ1 vs1) (mwipe δ1 vs1) := ((((n1.ev e3).ev e4).grN hno g5).ev e6).wipe vs1
            have ev06 : Ev w0 w6 := ((e.trans e1).trans e15).trans e6
            refine hg1.run w0 w6 _ _ d1 x1 _ o6 n6 rx1 ?_
            cases zg1 : mg1 d1 (mwipe δ1 vs1) with
            | none => rw [zg1] at p5; exact p5
            | some δ2 =>
              rw [zg1] at p5
              dsimp only at p5
              rw [← hs6, bnd_assoc] at p5
              intro σ2 n7 hl2 hk2
              refine ⟨(wipe_same hl2 hk2 hu1).trans (wipe_wipe vs1), ?_⟩
              have e16 : Ev w1 w6 := e15.trans e6
              refine ht1.run w0 w6 σ2 δ2 _ o6 ev06 n7 (Post.noX ((Post.ev p5 e16).thenE fun b w7 q7 o7 e7 p7 => ?_))
              have oa7 := (oa5.ev e6).ev e7
              have m2 : es.length - (j + 1) < es.length - j := by omega
              rw [q7] at p5
              cases b with
              | false =>
                rw [if_neg (by simp)]
                exact ⟨_, m2, rfl, hlt1, w7, acc5, rfl, o7, e16.trans e7, g5.trans (e6.gr.trans e7.gr), oa7, by omega, p5⟩
              | true =>
                rw [if_pos rfl]
                have p8 : Post K Γ (bnd (bnd (noX (me δ2 w7.S)) fun y S => bnd (mLcL mg1 mt1 me (mwipe δ1 vs1) (es.drop (j + 1)) S) fun ys S => .ok (y :: ys) S) fun ys S => bnd (mLc2L mg mt mi1 mg1 mt1 me vs1 (mwipe δ vs) (ds.drop (i + 1)) S) fun zs S => .ok (D.lst (acc5 ++ (ys ++ zs))) S) w1 okF (XW K Γ W σ) := p5
                rw [bnd_assoc] at p8
                refine he.run w0 w7 σ2 δ2 _ o7 (ev06.trans e7) (n7.ev e7) (Post.noX ((Post.ev p8 (e16.trans e7)).thenE fun yd w8 q8 o8 e8 p9 v r8 => ?_))
                rw [q8] at p8
                have oa8 := oa7.ev e8
                obtain ⟨va, h1, h2, h3⟩ := oa8.at_
                have hal := reps_len h3
                have hlen : va.length < sizeLine := by rw [sizeLine_eq]; omega
                refine ⟨va, h1, hlen, _, m2, rfl, hlt1, wPut w8 Dd (.lst (va ++ [v])), acc5 ++ [yd], rfl, ok_put o8 oa8.r oa8.nl, ?_, ?_, ?_, by rw [List.length_append]; simp; omega, ?_⟩
                · exact ev_put ((e16.trans e7).trans e8) oa8.new
                · have g8 : Gr w4 w8 := g5.trans (e6.gr.trans (e7.gr.trans e8.gr))
                  exact ⟨g8.rr, g8.pre⟩
                · exact ⟨oa8.new, oa8.r, oa8.nl, va ++ [v], upd_same, by rw [List.length_append]; simp; omega, reps_app h3 (reps_cons r8 reps_nil)⟩
                · have p10 : Post K Γ (bnd (bnd (mLcL mg1 mt1 me (mwipe δ1 vs1) (es.drop (j + 1)) w8.S) fun ys S => .ok (yd :: ys) S) fun ys S => bnd (mLc2L mg mt mi1 mg1 mt1 me vs1 (mwipe δ vs) (ds.drop (i + 1)) S) fun zs S => .ok (D.lst (acc5 ++ (ys ++ zs))) S) w1 okF (XW K Γ W σ) := p8
                  rw [bnd_assoc] at p10
                  have e9 : (fun (ys : List D) (S : Sto) => bnd (.ok (yd :: ys) S) fun ys S => bnd (mLc2L mg mt mi1 mg1 mt1 me vs1 (mwipe δ vs) (ds.drop (i + 1)) S) fun zs S => Out.ok (D.lst (acc5 ++ (ys ++ zs))) S) = fun ys S => bnd (mLc2L mg mt mi1 mg1 mt1 me vs1 (mwipe δ vs) (ds.drop (i + 1)) S) fun zs S => Out.ok (D.lst ((acc5 ++ [yd]) ++ (ys ++ zs))) S := by
                    funext ys S
                    show bnd (mLc2L mg mt mi1 mg1 mt1 me vs1 (mwipe δ vs) (ds.drop (i + 1)) S) (fun zs S => Out.ok (D.lst (acc5 ++ ((yd :: ys) ++ zs))) S) = _
                    congr 1
                    funext zs S
                    rw [List.append_assoc]; rfl
                  rw [e9] at p10
                  exact p10
          · have hj' : j = es.length := by omega
            subst hj'
            refine .inl ⟨it1.stop w5 o5 g5, ?_⟩
            rw [List.drop_length] at p5
            exact ⟨_, m1, rfl, hlt, w5, acc5, rfl, o5, e15, oa5, by rw [Nat.add_mul]; omega, p5⟩
    · have hi' : i = ds.length := by omega
      subst hi'
      refine .inl ⟨it.stop w' o' e', ?_⟩
      rw [List.drop_length] at p'
      have p2 : Post K Γ (.ok (D.lst (acc ++ [])) w'.S) w1 okF (XW K Γ W σ) := p'
      rw [List.append_nil] at p2
      exact p2.at rfl o' e' _ (own_back e1 oa))⟩
structure SimX (K : PySem.W.Frag) (Γ : Nat → Addr) (xa : XT) (W : WX) (tw : Ends → WX) (mx : Nat → List Str → List D → MS) : Prop where
  run : ∀ (w0 w : Wd) (σ : L2.St) (δ : Env) (Dn : Ends) (c : Nat) (ns : List Str) (ds : List D), Ok K Γ w → Ev w0 w → EnvOk K Γ xa w0 w σ δ → PostS K Γ xa W (mx c ns ds δ w.S) w0 w Dn → ∀ d, XD K Γ w d ns ds → tw Dn (.ref (Γ c)) d σ w.H
end
end MR

namespace TP
open PySem PySem.Spec PyProof.Rows L2
section
variable {X : Cx}
end
end TP
namespace MR
open PySem PySem.Spec L2 TP
section
variable {K : PySem.W.Frag} {Γ : Nat → Addr} {xa : XT} {W : WX} {w : Wd} {vs : List Nat}
end
end MR

namespace TP
open PySem PySem.Spec PySem.Calls PyProof.Rows L2
section
variable {M : Model} {A : Around} {E : Value → Shared → Prop} {s : Shared} {K : PySem.W.Frag} {env : PySem.Env} {pos p : Pos} {f : Value} {first : List Value} {Q : Value → Shared → Prop} {h₀ : Heap} {e : Expr} {rest : List Expr}
end
def spW (k : Nat) (kv : List V) (sp : Sp) : Sp := fun vs H Q E => ∃ ws rest, vs = ws ++ rest ∧ ws.length = k ∧ rest.length ≤ sizeLine ∧ ∀ p, H p = none → sp (ws ++ kv ++ [V.ref p]) (upd H p (.tup rest)) Q E
def FnW (P : Program) (w : World) (K : PySem.W.Frag) (mg : Str → Option Value) (base : Heap) (CX : CXT) (k : Nat) (f : Addr) (ks : List Str) (src : List Src) (dvs : List V) (n : Nat) (sp : Sp) : Prop :=
  ∀ (A : Around) (outer : List Env) (s : Shared) (H : Hp) (us ws : List Value) (vs zs : List V) (Q : VK) (E : XK), Room k A → Env0 P w K mg base A outer s H → Vals vs us → Vals zs ws → zs.length = ks.length → spW n (arr src [] zs dvs) sp vs H Q E → codeAny (model P w) A (.call (.ref f) ⟨us, ks.zip ws⟩) (CR CX outer P w H s Q E) s
structure MakW (P : Program) (w : World) (K : PySem.W.Frag) (mg : Str → Option Value) (base : Heap) (k : Nat) (x : Str) (C : Addr) (ks : List Str) (src : List Src) (dvs : List V) (n : Nat) (sp : Sp) : Prop where
  ex : ∃ f : Addr, mg x = some (.ref C) ∧ Mk K C f ∧ FnW P w K mg base (L2.CX P w) k f ks src dvs n sp
section
variable {X : Cx} {k j n : Nat} {C : Addr} {sp : Sp} {W : WX} {x : Str} {p pos : Pos} {e : Expr} {es : List Expr} {kws : List Keyword} {t tkw : TA} {ks : List Str} {src : List Src} {dvs : List V}
end
structure StWI (K : PySem.W.Frag) (mg : Str → Option Value) (x : Str) (C : Addr) (qual : Str) (st : Stmt) (ks : List Str) (src : List Src) (dvs : List V) (ps kn : List Str) (pv : Str) : Prop where
  ex : ∃ (f : Addr) (oc : Value) (od an : Option Addr) (osl : Array (Option Value)) (dV kV doc pm cdv ct : Value) (its : List Value), mg x = some (.ref C) ∧ Mk K C f ∧
    K.lookup f = some ⟨oc, od, .func (PySem.W.fnOf "__init__" qual (defArgs st) (defBody st) (defScope st) dV kV doc pm an cdv ct), osl⟩ ∧ PySem.W.codeIn K cdv qual = true ∧ Vals dvs its ∧
    ∀ (M : Model) (A : Around) (E : Value → Shared → Prop) (Q : List (Str × Value) → Shared → Prop) (s : Shared) (us rest ws : List Value), K.In s.heap → us.length = ps.length → ws.length = ks.length → wpAny M A (newTuple rest >>= fun t => pure (ps.zip us ++ kn.zip (arr src [] ws its) ++ [(pv, t)])) Q E s → wpAny M A (bindArgs (PySem.W.fnOf "__init__" qual (defArgs st) (defBody st) (defScope st) dV kV doc pm an cdv ct) ⟨us ++ rest, ks.zip ws⟩) Q E s
theorem StWI.okZ {P : Program} {w : World} {K : PySem.W.Frag} {mg : Str → Option Value} {base : Heap} {C : Addr} {x qual pv : Str} {st : Stmt} {ks : List Str} {src : List Src} {dvs : List V} {N ps kn : List Str} {k : Nat} {sp : Sp} (F : StWI K mg x C qual st ks src dvs ps kn pv) (S : FnScope N (ps ++ kn ++ [pv]) (defScope st)) (hsrc : src.length = kn.length) (hlen : ∀ zs : List V, zs.length = ks.length → (arr src [] zs dvs).length = kn.length) {t : XK → TS}
    (hd : ∀ (f : Addr) (cdv : Value) (A : Around) (outer : List Env) (s : Shared) (H : Hp) (E : XK), Room k (A.deeper (envOfC qual (defScope st) s.heap.objs.size f cdv)) → PSs (cxOf (L2.CX P w) P w K mg base N qual (defScope st) f cdv A outer s H E) (defBody st) (t E))
    (hb : ∀ (H : Hp) (vs : List V) (Q : VK) (E : XK), sp vs H Q E → t E { nx := fun _ H' => Q .non H', rt := Q } (L2.start N vs) H) : MakW P w K mg base (k + 1) x C ks src dvs ps.length sp := by
  obtain ⟨f, oc, od, an, osl, dV, kV, doc, pm, cdv, ct, its, hm, M, lk, hcd, hv, hbd⟩ := F.ex
  refine ⟨f, hm, M, ?_⟩
  rintro A outer s H us ws vs zs Q E hr e0 r rz lz ⟨w1, rest, rfl, hl, hz, hq⟩
  obtain ⟨u1, u2, rfl, r1, r2⟩ := StX.vals_split r
  have l1 : ps.length = u1.length := by rw [← hl]; exact r1.length
  have lw : ws.length = ks.length := by rw [← rz.length]; exact lz
  have rk : Vals (arr src [] zs dvs) (arr src [] ws its) := arr_vals .nil rz hv
  have lk2 : (arr src [] zs dvs).length = kn.length := hlen zs lz
  have lk3 : kn.length = (arr src [] ws its).length := by rw [← lk2]; exact rk.length
  have KX : K.In s.heap := e0.mod.kin.keeps fun b o e => (e0.bs b o e).1
  have free : H s.heap.objs.size = none := e0.hok.fresh (Nat.le_refl _)
  refine StX.run_bnd lk hcd S hr.toRoom e0 (G := fun xs H2 => ∃ p, H p = none ∧ xs = w1 ++ arr src [] zs dvs ++ [V.ref p] ∧ H2 = upd H p (.tup rest)) (fun A' Ex Q' h => ?_) ?_
  · have new : ObjOk P w (upd H s.heap.objs.size (.tup rest)) (s.heap.push ({ cls := .type "tuple", data := .seq u2.toArray } : Obj)) s.heap.objs.size (.tup rest) := ⟨hz, u2, r2, ⟨_, Heap.get?_push_size _ rfl, rfl, _, rfl⟩⟩
    have un := StX.un_laid (fs := frs outer) (s := s) (o := ({ cls := .type "tuple", data := .seq u2.toArray } : Obj)) (u := .tup rest) free
    have z := h _ _ (w1 ++ arr src [] zs dvs ++ [V.ref s.heap.objs.size]) (u1 ++ arr src [] ws its ++ [Value.ref s.heap.objs.size]) (StX.env0_laid e0 new) un rfl (fun e s' => StX.cxUp outer s H _ _ E e s' un (fun b o q => Heap.get?_push_of_some _ q) rfl) ((r1.append rk).append (.cons rfl .nil)) (by rw [List.length_append, List.length_append, List.length_append, List.length_append, hl, lk2] <;> rfl) ⟨_, free, rfl, rfl⟩
    rw [List.zip_append (by rw [List.length_append, List.length_append, l1, lk3]), List.zip_append l1] at z
    refine hbd _ _ _ _ _ u1 u2 ws KX l1.symm lw ?_
    exact wpAny_bind (wpAny_newTuple (wpAny_pure z) (by rw [← r2.length]; exact hz))
  · rintro s2 H2 xs ⟨p, hp, rfl, rfl⟩ hr'
    exact ⟨t E, hd f cdv A outer s2 _ E ⟨hr', hr.gd⟩, hb _ _ Q E (hq p hp)⟩
end TP

namespace MR
open PySem PySem.Spec PyProof.Rows L2 TP
section
variable {K : PySem.W.Frag} {Γ : Nat → Addr} {xa : XT} {W : WX} {c : Nat} {C : Addr} {tl tk : TA} {ml mk : MA} {n2 : Nat}
end
end MR

namespace PySem
open Sem (wp)
open AutoSeq1 (wpAny_loadPart')
end PySem
namespace TP
open PySem PySem.Spec PyProof.Rows L2
end TP

namespace PySem.W
open PySem PySem.Calls PyProof.Rows
end PySem.W
namespace TP
open PySem PySem.Spec PyProof.Rows L2
section
variable {X : Cx} {k j : Nat} {C : Addr} {ps : List Str} {sp : Sp} {W : WX}
structure MixD (K : PySem.W.Frag) (C : Addr) (m rm : Str) (ts : List String) : Prop where
  r : ∃ rc : Option Value, PySem.W.findIn K (.ref C) rm = some rc ∧ (rc = none ∨ ∃ g : Addr, rc = some (.ref g))
  t : ∀ T ∈ ts, (PySem.W.findIn K (.type T) m).isSome = true ∧ (PySem.W.findIn K (.type T) rm).isSome = true ∧ PySem.W.subIn K (.type T) (.ref C) = some false
end
end TP

namespace MR
open PySem PySem.Spec PyProof.Rows L2 TP
section
variable {K : PySem.W.Frag} {Γ : Nat → Addr} {xa : XT} {W : WX} {w : Wd} {tl : TA} {ml : MA} {N c : Nat} {C : Addr} {ta tb : TE} {ma mb : ME} {m : MF}
end
end MR

namespace TP
open PySem PySem.Spec PySem.Calls PyProof.Rows L2
def FnO (P : Program) (w : World) (K : PySem.W.Frag) (mg : Str → Option Value) (base : Heap) (CX : CXT) (k : Nat) (f : Addr) (ks : List Str) (src : List Src) (dvs : List V) (sp : Sp) : Prop :=
  ∀ (A : Around) (outer : List Env) (s : Shared) (H : Hp) (u : Value) (ws : List Value) (v : V) (zs : List V) (Q : VK) (E : XK), Room k A → Env0 P w K mg base A outer s H → RelV v u → Vals zs ws → zs.length = ks.length → sp (v :: arr src [] zs dvs) H Q E → codeAny (model P w) A (.call (.ref f) ⟨[u], ks.zip ws⟩) (CR CX outer P w H s Q E) s
structure MakO (P : Program) (w : World) (K : PySem.W.Frag) (mg : Str → Option Value) (base : Heap) (k : Nat) (x : Str) (C : Addr) (ks : List Str) (src : List Src) (dvs : List V) (sp : Sp) : Prop where
  ex : ∃ f : Addr, mg x = some (.ref C) ∧ Mk K C f ∧ FnO P w K mg base (L2.CX P w) k f ks src dvs sp
section
variable {X : Cx} {k j : Nat} {C : Addr} {sp : Sp} {W : WX} {x : Str} {p pos : Pos} {kws : List Keyword} {tkw : TA} {ks : List Str} {src : List Src} {dvs : List V}
end
structure StOI (K : PySem.W.Frag) (mg : Str → Option Value) (x : Str) (C : Addr) (qual : Str) (st : Stmt) (ks : List Str) (src : List Src) (dvs : List V) (ps : Str) (kn : List Str) : Prop where
  ex : ∃ (f : Addr) (oc : Value) (od an : Option Addr) (osl : Array (Option Value)) (dV kV doc pm cdv ct : Value) (its : List Value), mg x = some (.ref C) ∧ Mk K C f ∧
    K.lookup f = some ⟨oc, od, .func (PySem.W.fnOf "__init__" qual (defArgs st) (defBody st) (defScope st) dV kV doc pm an cdv ct), osl⟩ ∧ PySem.W.codeIn K cdv qual = true ∧ Vals dvs its ∧
    ∀ (M : Model) (A : Around) (E : Value → Shared → Prop) (Q : List (Str × Value) → Shared → Prop) (s : Shared) (u : Value) (ws : List Value), K.In s.heap → ws.length = ks.length → Q ((ps, u) :: kn.zip (arr src [] ws its)) s → wpAny M A (bindArgs (PySem.W.fnOf "__init__" qual (defArgs st) (defBody st) (defScope st) dV kV doc pm an cdv ct) ⟨[u], ks.zip ws⟩) Q E s
theorem StOI.okZ {P : Program} {w : World} {K : PySem.W.Frag} {mg : Str → Option Value} {base : Heap} {C : Addr} {x qual ps : Str} {st : Stmt} {ks : List Str} {src : List Src} {dvs : List V} {N kn : List Str} {k : Nat} {sp : Sp} (F : StOI K mg x C qual st ks src dvs ps kn) (S : FnScope N (ps :: kn) (defScope st)) (hlen : ∀ zs : List V, zs.length = ks.length → (arr src [] zs dvs).length = kn.length) {t : XK → TS}
    (hd : ∀ (f : Addr) (cdv : Value) (A : Around) (outer : List Env) (s : Shared) (H : Hp) (E : XK), Room k (A.deeper (envOfC qual (defScope st) s.heap.objs.size f cdv)) → PSs (cxOf (L2.CX P w) P w K mg base N qual (defScope st) f cdv A outer s H E) (defBody st) (t E))
    (hb : ∀ (H : Hp) (vs : List V) (Q : VK) (E : XK), sp vs H Q E → t E { nx := fun _ H' => Q .non H', rt := Q } (L2.start N vs) H) : MakO P w K mg base (k + 1) x C ks src dvs sp := by
  obtain ⟨f, oc, od, an, osl, dV, kV, doc, pm, cdv, ct, its, hm, M, lk, hcd, hv, hbd⟩ := F.ex
  refine ⟨f, hm, M, ?_⟩
  rintro A outer s H u ws v zs Q E hr e0 r rz lz hq
  have lw : ws.length = ks.length := by rw [← rz.length]; exact lz
  have rk : Vals (arr src [] zs dvs) (arr src [] ws its) := arr_vals .nil rz hv
  have lk2 : (arr src [] zs dvs).length = kn.length := hlen zs lz
  have KX : K.In s.heap := e0.mod.kin.keeps fun b o e => (e0.bs b o e).1
  refine StX.run_bnd lk hcd S hr.toRoom e0 (G := fun xs H2 => xs = v :: arr src [] zs dvs ∧ H2 = H) (fun A' Ex Q' h => ?_) ?_
  · have z := h s H (v :: arr src [] zs dvs) (u :: arr src [] ws its) e0 .refl rfl (fun e s' q => q) (.cons r rk) (by rw [List.length_cons, List.length_cons, lk2]) ⟨rfl, rfl⟩
    exact hbd _ _ _ _ _ u ws KX lw z
  · rintro s2 H2 xs ⟨rfl, rfl⟩ hr'
    exact ⟨t E, hd f cdv A outer s2 _ E ⟨hr', hr.gd⟩, hb _ _ Q E hq⟩
end TP

namespace TP
open PySem PySem.Spec PySem.Calls PyProof.Rows L2
section
variable {P : Program} {w : World} {A : Around} {E : Value → Shared → Prop} {d a : Addr} {knd : KeyKind P w Key}
end
section
variable {X : Cx} {k j : Nat} {C : Addr} {sp : Sp} {W : WX} {x : Str} {p pos : Pos} {e : Expr} {te : TE} {ks : List Str} {src : List Src} {dvs : List V} {kws : List Keyword}
end
end TP

namespace TP
open PySem PySem.Spec PySem.Calls PyProof.Rows L2
structure SetOf (K : PySem.W.Frag) (C : Addr) (f : Str) (g : Addr) : Prop where
  ex : ∃ (p : Addr) (a : Value) (rest : List Value), PySem.W.takerIn K C f = some (some (.ref p)) ∧ PySem.W.typeIn K (.ref p) = some (.type "property") ∧ PySem.W.recIn K p "property" = some (a :: .ref g :: rest)
structure StpZ (P : Program) (w : World) (K : PySem.W.Frag) (mg : Str → Option Value) (base : Heap) (k : Nat) (C : Addr) (f : Str) (ps : List Str) (sp : Sp) : Prop where
  ex : ∃ (g : Addr) (fd : FuncData), SetOf K C f g ∧ FnOk P w K mg base (L2.CX P w) k g fd ps sp ∧ Binds K fd ps []
section
variable {X : Cx} {k j : Nat} {C : Addr} {ps : List Str} {sp : Sp} {W : WX}
end
end TP

namespace TP
open PySem PySem.Spec PySem.Calls PyProof.Rows L2
structure DTab (P : Program) (w : World) (K : PySem.W.Frag) (a : Addr) (kvs : List (Key × V)) : Prop where
  ex : ∃ (o : Obj) (us : List (Key × Value)), K.lookup a = some o ∧ Obj.IsDictOf (mixKind P w) o us ∧ KV kvs us
  ns : (a == sysModules) = false
section
variable {X : Cx} {a : Addr} {kvs : List (Key × V)}
end
def eqSV : V → V → Bool
  | .str a, .str b => a == b
  | .bl a, .bl b => a == b
  | _, _ => false
def flatS : V → Bool
  | .str _ => true
  | .bl _ => true
  | _ => false
def eqSVs : List V → List V → Bool
  | [], [] => true
  | x :: xs, y :: ys => eqSV x y && eqSVs xs ys
  | _, _ => false
def rEqD (neg : Bool) : R2 := fun x y H Q => ∃ a b ks ls, x = .ref a ∧ y = .ref b ∧ Rd H a (.dK ks) ∧ Rd H b (.dK ls) ∧ ks.map (·.1) = ls.map (·.1) ∧ (∀ p ∈ ks, flatS p.2 = true) ∧ (∀ p ∈ ls, flatS p.2 = true) ∧ Q (.bl (xor neg (eqSVs (ks.map (·.2)) (ls.map (·.2))))) H
structure StpI (K : PySem.W.Frag) (C : Addr) (f qual : Str) (st : Stmt) (ps : List Str) : Prop where
  ex : ∃ (g : Addr) (fd : FuncData), SetOf K C f g ∧ Fun K f qual st g fd ∧ Binds K fd ps []
theorem StpI.okZ {P : Program} {w : World} {K : PySem.W.Frag} {mg : Str → Option Value} {base : Heap} {C : Addr} {f qual : Str} {st : Stmt} {N ps : List Str} {k : Nat} {sp : Sp} (F : StpI K C f qual st ps) (S : FnScope N ps (defScope st)) (len : ∀ vs H Q E, sp vs H Q E → vs.length = ps.length) {t : XK → TS}
    (hd : ∀ (f : Addr) (cdv : Value) (A : Around) (outer : List Env) (s : Shared) (H : Hp) (E : XK), Room k (A.deeper (envOfC qual (defScope st) s.heap.objs.size f cdv)) → PSs (cxOf (L2.CX P w) P w K mg base N qual (defScope st) f cdv A outer s H E) (defBody st) (t E))
    (hb : ∀ (H : Hp) (vs : List V) (Q : VK) (E : XK), sp vs H Q E → t E { nx := fun _ H' => Q .non H', rt := Q } (L2.start N vs) H) : StpZ P w K mg base (k + 1) C f ps sp := by
  obtain ⟨g, fd, hm, F, b⟩ := F.ex
  exact ⟨g, fd, hm, okG F S len fun cdv A outer s H vs Q E hr h => ⟨t E, hd g cdv A outer s H E hr, hb H vs Q E h⟩, b⟩
end TP

namespace MR
open PySem PySem.Spec PyProof.Rows L2 TP
section
variable {K : PySem.W.Frag} {Γ : Nat → Addr} {xa : XT} {W : WX} {w w' w0 : Wd} {te to ti ta tb : TE} {me mo mk ma mb : ME}
def hasK (k : Key) (ks : List Key) : Bool := ks.any fun j => decide (j = k)
def putD (k : Key) (d : D) (ks : List Key) (ds : List D) : List Key × List D := if hasK k ks = true then (ks, (ks.zip ds).map fun p => if p.1 = k then d else p.2) else (ks ++ [k], ds ++ [d])
end
end MR

namespace TP
open PySem PySem.Spec PySem.Calls PyProof.Rows L2
section
variable {M : Model} {A : Around} {E : Value → Shared → Prop} {s : Shared}
theorem forIn_walk {α σ : Type} {f : α → σ → Sem (ForInStep σ)} {Q : σ → Shared → Prop} (I : List α → σ → Prop) (hs : ∀ a as t, I (a :: as) t → ∃ t', wpAny M A (f a t) (fun r s' => r = ForInStep.yield t' ∧ s' = s) E s ∧ I as t') (he : ∀ t, I [] t → Q t s) : ∀ (as : List α) (t : σ), I as t → wpAny M A (forIn as t f) Q E s
  | [], t, h => wpAny_pure (he t h)
  | a :: as, t, h => by
    obtain ⟨t', h1, h2⟩ := hs a as t h
    rw [List.forIn_cons]
    refine wpAny_bind (wpAny_mono h1 (fun r s' hr => ?_) fun _ _ x => x)
    obtain ⟨hr1, hr2⟩ := hr
    rw [hr1, hr2]
    exact forIn_walk I hs he as t' h2
end
end TP

namespace MR
open PySem PySem.Spec PyProof.Rows L2 TP
section
variable {K : PySem.W.Frag} {Γ : Nat → Addr} {xa : XT} {W : WX} {w w' w0 : Wd} {te to ti ta tb : TE} {me mo mk ma mb : ME} {tl : TA} {ml : MA}
variable {c : Nat} {C : Addr} {m : MF}
end
end MR

namespace MR
open PySem PySem.Spec PyProof.Rows L2 TP
section
variable {K : PySem.W.Frag} {Γ : Nat → Addr} {xa : XT} {W : WX} {w w' w0 : Wd} {te to ti ta tb tk tv : TE} {me mo mk ma mb mv : ME} {tl : TA} {ml mi : MA} {t : TT} {mt : MT} {tg : TG} {mg : MG} {wi : TI} {vs : List Nat} {c : Nat} {C : Addr}
end
end MR

namespace MR
open PySem PySem.Spec PyProof.Rows L2 TP
section
variable {K : PySem.W.Frag} {Γ : Nat → Addr} {xa : XT} {W : WX} {w w' w0 : Wd}
def textsOf : List D → Option (List Str)
  | [] => some []
  | .str b :: r => (textsOf r).map (b :: ·)
  | _ => none
theorem texts_reps : ∀ {ds : List D} {xs : List Str} {vs : List V}, textsOf ds = some xs → Reps K Γ w ds vs → vs = xs.map V.str
  | [], xs, vs, h, r => by cases h; exact r
  | d :: ds, xs, vs, h, r => by
    cases d with
    | str b =>
      obtain ⟨v, ws, rfl, r1, r2⟩ := reps_inv r
      cases z : textsOf ds with
      | none => rw [show textsOf (.str b :: ds) = (textsOf ds).map (b :: ·) from rfl, z] at h; cases h
      | some ys =>
        rw [show textsOf (.str b :: ds) = (textsOf ds).map (b :: ·) from rfl, z] at h
        cases h
        rw [texts_reps z r2, show v = .str b from r1]; rfl
    | _ => cases h
def nodupB : List Str → Bool
  | [] => true
  | x :: xs => !(xs.any fun y => decide (y = x)) && nodupB xs
theorem nodupB_iff : ∀ xs : List Str, nodupB xs = true ↔ xs.Nodup
  | [] => ⟨fun _ => List.nodup_nil, fun _ => rfl⟩
  | x :: xs => by
    rw [List.nodup_cons, ← nodupB_iff xs]
    show (!(xs.any fun y => decide (y = x)) && nodupB xs) = true ↔ _
    rw [Bool.and_eq_true, Bool.not_eq_true', List.any_eq_false]
    constructor
    · rintro ⟨h1, h2⟩
      exact ⟨fun hm => h1 x hm (decide_eq_true rfl), h2⟩
    · rintro ⟨h1, h2⟩
      exact ⟨fun y hy e => h1 (by rw [decide_eq_true_eq] at e; rw [← e]; exact hy), h2⟩
def mSetNe (i : Nat) : ME := fun δ S => match mPeek i δ S with
  | .ok d S => match (listOf S d).bind textsOf with
    | some xs => if xs.length ≤ 1000 then .ok (.bl (!nodupB xs)) S else .bad
    | none => .bad
  | _ => .bad
theorem sim_setNe {i : Nat} : SimE K Γ xa W (tOp (rUnlike K) (tLenSetS K (tVar i)) (tCB (TP.rLen K) (tCons (tVar i) tNil))) (mSetNe i) := ⟨fun w0 w σ δ Q o e n p => by
  have key : ∀ d, mPeek i δ w.S = .ok d w.S → ∃ v, σ[i]? = some (some v) ∧ Pk K Γ w d v := fun d hd => by
    unfold mPeek at hd
    split at hd
    · rename_i d' h
      cases hd
      obtain ⟨v, h1, h2⟩ := n.val h
      exact ⟨v, h1, .inl h2⟩
    · rename_i b d' h
      cases hd
      obtain ⟨a, h1, h2⟩ := n.own h
      exact ⟨.ref a, h1, .inr ⟨w0, a, rfl, h2⟩⟩
    · cases hd
  unfold mSetNe at p
  cases z : mPeek i δ w.S with
  | bad => rw [z] at p; exact False.elim p
  | ex => rw [z] at p; exact False.elim p
  | ok d S =>
    have hS : S = w.S := by
      unfold mPeek at z
      split at z <;> cases z <;> rfl
    subst hS
    obtain ⟨v, hv, hp⟩ := key d z
    rw [z] at p
    dsimp only at p
    cases zl : listOf w.S d with
    | none => rw [zl] at p; exact False.elim p
    | some ds =>
      rw [zl] at p
      cases zt : textsOf ds with
      | none => rw [show (some ds).bind textsOf = textsOf ds from rfl, zt] at p; exact False.elim p
      | some xs =>
        rw [show (some ds).bind textsOf = textsOf ds from rfl, zt] at p
        dsimp only at p
        split at p
        · rename_i hl
          obtain ⟨a, vs, rfl, a1, a2, a3⟩ := listOf_ok o hp zl
          have hvs := texts_reps zt a3
          subst hvs
          refine ⟨_, hv, a, xs, rfl, a1, hl, fun n hn => ?_⟩
          refine ⟨_, hv, ?_⟩
          show TP.rLen K [V.ref a] w.H fun y H2 => rUnlike K (V.int n) y H2 Q
          have hf : fLen [d] w.S = .ok (.int ds.length) w.S := by
            have hs : seqOf w.S d = some ds := by unfold seqOf; rw [zl]
            cases d <;> first | (cases zl; done) | (unfold fLen; simp only [hs])
          have hd : ds.length = xs.length := by rw [reps_len a3, List.length_map]
          refine cm_len.run w [d] [.ref a] _ (fun _ _ _ _ => True) o (.cons hp .nil) ?_
          rw [hf]
          intro w1 hs1 o1 e1 v hv1
          rw [show v = .int (ds.length : Int) from hv1]
          refine om_ne.run w1 (.int n) (.int ds.length) _ _ Q (fun _ _ _ _ => True) o1 (.inl rfl) (.inl rfl) ?_
          show Post K Γ (.ok (D.bl (xor true (decide ((n : Int) = ds.length)))) w1.S) w1 _ _
          intro w2 hs2 o2 e2 v2 hv2
          refine p w2 (hs2.trans hs1) o2 (e1.trans e2) v2 ?_
          rw [show v2 = V.bl (xor true (decide ((n : Int) = ds.length))) from hv2]
          have : decide ((n : Int) = ds.length) = nodupB xs := by
            rw [hd]
            cases zn : nodupB xs with
            | true => exact decide_eq_true (by have := hn.mpr ((nodupB_iff xs).mp zn); omega)
            | false =>
              refine decide_eq_false fun h => ?_
              have h2 := hn.mp (by omega)
              rw [← nodupB_iff, zn] at h2
              cases h2
          rw [this, Bool.true_xor]
          simp only [Rep, RepC]
        · exact False.elim p⟩
end
end MR

namespace TP
open PySem PySem.Spec PySem.Calls PyProof.Rows L2
section
variable {M : Model} {A : Around} {E : Value → Shared → Prop}
abbrev dctO (es : List DictEntry) (n : Nat) : Obj := { cls := .type "dict", dict := none, data := .dict es.toArray n, slots := #[] }
def kwE (P : Params) : Tok → List (Str × Value) → List DictEntry
  | _, [] => []
  | t, x :: r => ⟨PyData.keyHash P x.1, .str x.1 t, x.2⟩ :: kwE P (t + 1) r
theorem put_new {k : Str} {hsh : Int} {key v : Value} : ∀ {es : List DictEntry}, (∀ e ∈ es, e.key.isStr k = false) → PySem.W.putL k hsh key v es = es ++ [⟨hsh, key, v⟩] := PySem.W.putL_new
theorem ns_put {P : Program} {w : World} {s : Shared} {d : Addr} {es : List DictEntry} {n : Nat} {k : Str} {v : Value} {Q : Unit → Shared → Prop} (D : s.heap.get? d = some (dctO es n)) (hs : ∀ e ∈ es, e.key.isStr k = false) (hr : ∀ e ∈ es, e.refKey = false)
    (h : ∀ h', (∀ b o, b ≠ d → s.heap.get? b = some o → h'.get? b = some o) → h'.get? d = some (dctO (es ++ [⟨PyData.keyHash w.params k, .str k s.toks, v⟩]) (n + 1)) → Q () { s with heap := h', toks := s.toks + 1 }) :
    wpAny (model P w) A (nsSet d k v) Q E s := by
  have e1 : es.any (·.key.isStr k) = false := by
    cases q : es.any (·.key.isStr k) with
    | false => rfl
    | true => obtain ⟨e, he, z⟩ := List.any_eq_true.mp q; rw [hs e he] at z; cases z
  have e2 : es.any (·.refKey) = false := by
    cases q : es.any (·.refKey) with
    | false => rfl
    | true => obtain ⟨e, he, z⟩ := List.any_eq_true.mp q; rw [hr e he] at z; cases z
  have e : Obj.putName k (PyData.keyHash w.params k) (.str k s.toks) v (dctO es n) = dctO (es ++ [⟨PyData.keyHash w.params k, .str k s.toks, v⟩]) (n + 1) := by
    rw [PySem.W.putName_dict, put_new hs]
    show dctO _ (if es.any (·.key.isStr k) then n else n + 1) = _
    rw [e1, if_neg Bool.false_ne_true]
  have c : aRefKeyMayBeTheName k es.toArray = false := by
    rw [aRefKeyMayBeTheName_at, ← Array.any_toList, ← Array.any_toList]
    show (!es.any (·.key.isStr k) && es.any (·.refKey)) = false
    rw [e2, Bool.and_false]
  unfold nsSet
  refine wpAny_bind (wpAny_bind (wpAny_askSetting (wpAny_pure (wpAny_bind (wpAny_mkText (wpAny_bind (wpAny_loadPart D ?_)))))))
  dsimp only
  rw [c]
  refine wpAny_updatePart D (h _ (fun b o hb ho => ?_) ?_)
  · rw [Heap.get?_update_other _ _ (Ne.symm hb)]; exact ho
  · have hf : (Obj.putName k (PyData.keyHash w.params k) (.str k s.toks) v (dctO es n)).isFreed = false := by rw [e]; rfl
    exact (Heap.get?_update_self _ D hf).trans (congrArg some e)
theorem ns_fill {P : Program} {w : World} {d : Addr} {Q : PUnit → Shared → Prop} : ∀ (ex : List (Str × Value)) (s : Shared) (es : List DictEntry) (n : Nat), s.heap.get? d = some (dctO es n) → (∀ e ∈ es, ∀ x ∈ ex, e.key.isStr x.1 = false) → (∀ e ∈ es, e.refKey = false) → (ex.map (·.1)).Nodup →
    (∀ h', (∀ b o, b ≠ d → s.heap.get? b = some o → h'.get? b = some o) → h'.get? d = some (dctO (es ++ kwE w.params s.toks ex) (n + ex.length)) → Q ⟨⟩ { s with heap := h', toks := s.toks + ex.length }) →
    wpAny (model P w) A (forIn ex PUnit.unit fun x _ => (nsSet d x.1 x.2 >>= fun _ => pure (ForInStep.yield PUnit.unit))) Q E s
  | [], s, es, n, D, _, _, _, h => by
    rw [List.forIn_nil]
    refine wpAny_pure (h s.heap (fun _ _ _ e => e) ?_)
    show s.heap.get? d = some (dctO (es ++ []) n)
    rw [List.append_nil]; exact D
  | x :: r, s, es, n, D, hs, hr, hn, h => by
    obtain ⟨hn1, hn2⟩ := List.nodup_cons.mp (show (x.1 :: r.map (·.1)).Nodup from hn)
    rw [List.forIn_cons]
    refine wpAny_bind (wpAny_bind (ns_put D (fun e he => hs e he x (.head _)) hr fun h' k' D' => wpAny_pure ?_))
    show wpAny (model P w) A (forIn r PUnit.unit fun x _ => (nsSet d x.1 x.2 >>= fun _ => pure (ForInStep.yield PUnit.unit))) Q E { s with heap := h', toks := s.toks + 1 }
    refine ns_fill r { s with heap := h', toks := s.toks + 1 } _ _ D' (fun e he y hy => ?_) (fun e he => ?_) hn2 fun h'' k'' D'' => ?_
    · rcases List.mem_append.mp he with he | he
      · exact hs e he y (.tail _ hy)
      · rw [List.mem_singleton.mp he]
        show (Value.str x.1 s.toks).isStr y.1 = false
        have : x.1 ≠ y.1 := fun z => hn1 (by rw [z]; exact List.mem_map_of_mem hy)
        simp [Value.isStr, this]
    · rcases List.mem_append.mp he with he | he
      · exact hr e he
      · rw [List.mem_singleton.mp he]; rfl
    · have e1 : s.toks + 1 + r.length = s.toks + (x :: r).length := by rw [List.length_cons]; omega
      have := h h'' (fun b o hb ho => k'' b o hb (k' b o hb ho)) (by
        rw [D'']
        show some (dctO (es ++ [_] ++ kwE w.params (s.toks + 1) r) (n + 1 + r.length)) = some (dctO (es ++ (_ :: kwE w.params (s.toks + 1) r)) (n + (r.length + 1)))
        rw [List.append_assoc, show n + 1 + r.length = n + (r.length + 1) by omega]; rfl)
      show Q ⟨⟩ { s with heap := h'', toks := s.toks + 1 + r.length }
      rw [e1]; exact this
theorem kw_dk {P : Program} {w : World} {H : Hp} {h : Heap} {a : Addr} {t : Tok} {ks : List Str} {zs : List V} {ws : List Value} {n : Nat} (D : h.get? a = some (dctO (kwE w.params t (ks.zip ws)) n)) (r : Vals zs ws) (hl : zs.length = ks.length) (nk : ks.Nodup) (hz : ks.length ≤ sizeLine) (hb : (a == sysModules) = false) :
    ObjOk P w H h a (.dK ((ks.map Sum.inr).zip zs)) := by
  have lw : ws.length = ks.length := by rw [← r.length]; exact hl
  refine ⟨by rw [List.length_zip, List.length_map, hl, Nat.min_self]; exact hz, hb, (ks.map Sum.inr).zip ws, ?_, _, _, _, D, ⟨rfl, rfl, rfl⟩, rfl, fun e he => ?_, ?_, ?_⟩
  · clear D nk hz
    induction ks generalizing zs ws with
    | nil => exact .nil
    | cons k ks ih =>
      cases r with
      | nil => cases hl
      | cons r1 r2 =>
        rw [List.map_cons, List.zip_cons_cons, List.zip_cons_cons]
        exact .cons ⟨rfl, r1⟩ (ih r2 (by simpa using hl) (by simpa using lw))
  · have he' : e ∈ kwE w.params t (ks.zip ws) := by simpa using he
    have key : ∀ {ex : List (Str × Value)} {t : Tok}, e ∈ kwE w.params t ex → ∃ k : Key, (mixKind P w).is k e.key ∧ e.hash = (mixKind P w).hash k := fun {ex} => by
      induction ex with
      | nil => intro t h; cases h
      | cons x r ih =>
        intro t h
        rcases List.mem_cons.mp h with z | z
        · subst z
          refine ⟨.inr x.1, ?_, rfl⟩
          show Value.isStrOf x.1 (.str x.1 t) = true
          simp [Value.isStrOf]
        · exact ih z
    exact key he'
  · show Pairs (mixKind P w) (kwE w.params t (ks.zip ws)) _
    clear D nk hz r hl
    induction ks generalizing ws t with
    | nil => exact .nil
    | cons k ks ih =>
      cases ws with
      | nil => cases lw
      | cons v ws =>
        rw [List.map_cons, List.zip_cons_cons, List.zip_cons_cons]
        refine .cons ?_ rfl (ih (by simpa using lw))
        show Value.isStrOf k (.str k t) = true
        simp [Value.isStrOf]
  · have e : ((ks.map Sum.inr).zip ws : List (Key × Value)).map (·.1) = ks.map Sum.inr := List.map_fst_zip (by rw [List.length_map, lw]; exact Nat.le_refl _)
    rw [e]
    exact List.Pairwise.map Sum.inr (fun a b h z => h (by injection z)) nk
end
end TP
namespace TP
open PySem PySem.Spec PySem.Calls PyProof.Rows L2
theorem bind_kv {P : Program} {w : World} {A : Around} {E : Value → Shared → Prop} {s : Shared} {fd : FuncData} {sn kn : Str} {ar : Arg} {ks : List Str} {ws : List Value} {u : Value} {Q : List (Str × Value) → Shared → Prop}
    (p1 : fd.params.posonlyargs = []) (p2 : fd.params.args.map (·.arg) = [sn]) (p3 : fd.params.kwonlyargs = []) (p4 : fd.params.vararg = none) (p5 : fd.params.kwarg = some ar) (p8 : ar.arg = kn) (p6 : fd.defaults = .none)
    (lw : ws.length = ks.length) (nk : ks.Nodup) (ns : sn ∉ ks) (hz : ks.length ≤ sizeLine)
    (q : ∀ h', (∀ b o, s.heap.get? b = some o → h'.get? b = some o) → h'.get? s.heap.objs.size = some (dctO (kwE w.params s.toks (ks.zip ws)) ks.length) → Q [(sn, u), (kn, .ref s.heap.objs.size)] { s with heap := h', toks := s.toks + ks.length }) :
    wpAny (model P w) A (bindArgs fd ⟨[u], ks.zip ws⟩) Q E s := by
  unfold bindArgs
  dsimp only
  rw [p1, p2, p3, p4, p5, p6]
  dsimp only [List.map_nil, List.nil_append, List.length_cons, List.length_nil, List.zip_cons_cons, List.zip_nil_left, List.zip_nil_right]
  refine wpAny_bind (forIn_walk (fun as t => ∃ done rest, ks = done ++ rest ∧ as = rest.zip (ws.drop done.length) ∧ t = ([(sn, u)], done.zip (ws.take done.length))) ?_ ?_ _ _ ⟨[], ks, rfl, rfl, rfl⟩)
  · rintro ⟨k, v⟩ as t ⟨done, rest, e1, e2, rfl⟩
    have hrest : ∃ rs, rest = k :: rs ∧ ∃ vs, ws.drop done.length = v :: vs ∧ as = rs.zip vs := by
      cases rest with
      | nil => rw [List.zip_nil_left] at e2; cases e2
      | cons r rs =>
        cases z : ws.drop done.length with
        | nil => rw [z, List.zip_nil_right] at e2; cases e2
        | cons v' vs => rw [z, List.zip_cons_cons] at e2; cases e2; exact ⟨rs, rfl, vs, rfl, rfl⟩
    obtain ⟨rs, rfl, vs, hv, rfl⟩ := hrest
    have hk : k ∈ ks := by rw [e1]; exact List.mem_append_right _ List.mem_cons_self
    have hdl : done.length < ws.length := by rw [lw, e1, List.length_append, List.length_cons]; omega
    have hvv : ws[done.length] = v := by
      rw [List.drop_eq_getElem_cons hdl] at hv
      exact (List.cons.inj hv).1
    refine ⟨([(sn, u)], (done ++ [k]).zip (ws.take (done.length + 1))), ?_, done ++ [k], rs, by rw [e1, List.append_assoc]; rfl, ?_, ?_⟩
    · dsimp only
      have hc : (([sn] : List Str).contains k || (List.map (fun x : Arg => x.arg) []).contains k) = false := by
        have hne : k ≠ sn := fun z => ns (by rw [← z]; exact hk)
        simp [hne]
      rw [hc, if_neg (by decide), if_pos (show (some ar).isSome = true from rfl)]
      refine wpAny_pure ⟨?_, rfl⟩
      congr 2
      rw [List.take_add_one, List.getElem?_eq_getElem hdl, hvv, List.zip_append (by rw [List.length_take]; omega)]
      rfl
    · rw [List.length_append, List.length_singleton]
      rw [show ws.drop (done.length + 1) = vs by rw [← List.drop_drop, hv]; rfl]
    · rw [List.length_append, List.length_singleton]
  rintro t ⟨done, rest, e1, e2, rfl⟩
  have hr0 : rest = [] := by
    cases rest with
    | nil => rfl
    | cons r rs =>
      have hdl : done.length < ws.length := by rw [lw, e1, List.length_append, List.length_cons]; omega
      rw [List.drop_eq_getElem_cons hdl, List.zip_cons_cons] at e2
      cases e2
  subst hr0
  rw [List.append_nil] at e1
  subst e1
  rw [List.take_of_length_le (by omega)]
  dsimp only
  refine wpAny_bind (wpAny_of_eq (show seqItems? .none = pure none from rfl) ?_)
  have hsn : List.lookup sn [(sn, u)] = some u := by rw [List.lookup_cons, beq_self_eq_true]
  have hm : List.filter (fun n => (List.lookup n [(sn, u)]).isNone) [sn] = [] := by
    rw [List.filter_cons_of_neg (by rw [hsn]; simp), List.filter_nil]
  simp only [List.map_nil, List.nil_append, List.length_cons, List.length_nil, Option.getD_none, List.drop_nil, Nat.sub_zero, List.take_succ_cons, List.take_zero, Nat.zero_add, Array.toList_empty, List.take_zero, List.drop_succ_cons, List.drop_zero, List.zip_nil_right, List.zip_nil_left, Nat.zero_sub, Nat.sub_self, gt_iff_lt, Nat.lt_irrefl, decide_false, Bool.false_and, hm, List.isEmpty_nil, Bool.not_true, if_false, Bool.false_eq_true, reduceIte]
  have hb : List.filterMap (fun n => Option.map (fun x => (n, x)) (List.lookup n [(sn, u)])) [sn] = [(sn, u)] := by
    rw [List.filterMap_cons_some (by rw [hsn]; rfl), List.filterMap_nil]
  refine wpAny_bind (wpAny_pure ?_)
  refine wpAny_bind ?_
  rw [List.forIn_nil]
  refine wpAny_pure ?_
  dsimp only
  simp only [List.isEmpty_nil, Bool.not_true, if_false, Bool.false_eq_true, reduceIte, List.append_nil]
  rw [hb]
  have hle : ¬ sizeLine + 1 < (ks.zip ws).length := by rw [List.length_zip, lw, Nat.min_self]; omega
  rw [if_neg hle]
  refine wpAny_bind (wpAny_alloc ?_)
  refine wpAny_bind (ns_fill (ks.zip ws) _ [] 0 (Heap.get?_push_size _ rfl) (fun _ h => absurd h List.not_mem_nil) (fun _ h => absurd h List.not_mem_nil) (by rw [List.map_fst_zip (by omega)]; exact nk) fun h' k' D' => ?_)
  refine wpAny_pure ?_
  rw [p8]
  have el : (ks.zip ws).length = ks.length := by rw [List.length_zip, lw, Nat.min_self]
  rw [el] at D' ⊢
  rw [Nat.zero_add, List.nil_append] at D'
  exact q h' (fun b o e => k' b o (Nat.ne_of_lt (Heap.lt_size e)) (Heap.get?_push_of_some _ e)) D'
end TP
namespace TP
open PySem PySem.Spec PySem.Calls PyProof.Rows L2
theorem env0_at {P : Program} {w : World} {K : PySem.W.Frag} {mg : Str → Option Value} {base : Heap} {A : Around} {outer : List Env} {s : Shared} {H : Hp} {u : HO} {h' : Heap} {t : Tok} {x : Obj} (e0 : Env0 P w K mg base A outer s H) (kp : ∀ b o, s.heap.get? b = some o → h'.get? b = some o) (D : h'.get? s.heap.objs.size = some x) (new : ObjOk P w (upd H s.heap.objs.size u) h' s.heap.objs.size u) :
    Env0 P w K mg base A outer { s with heap := h', toks := t } (upd H s.heap.objs.size u) := by
  refine ⟨e0.frames, e0.mod, fun b x e => ⟨kp b x (e0.bs b x e).1, ?_⟩, ?_, Heap.FunFrames.of_keeps (fun b x e _ => ⟨x, kp b x e, rfl⟩) e0.funs, fun b hb => ?_, e0.hok.laid kp (Nat.le_refl _) new, e0.bare⟩
  · rw [upd_ne (Nat.ne_of_lt (Heap.lt_size (e0.bs b x e).1))]
    exact (e0.bs b x e).2
  · exact Nat.le_trans e0.bsz (Nat.le_of_lt (Heap.lt_size D))
  · obtain ⟨_, x, hx, _⟩ := e0.funs.mem hb
    rw [upd_ne (Nat.ne_of_lt (Heap.lt_size hx))]
    exact e0.frf b hb
def FnV (P : Program) (w : World) (K : PySem.W.Frag) (mg : Str → Option Value) (base : Heap) (CX : CXT) (k : Nat) (f : Addr) (ks : List Str) (sp : Sp) : Prop :=
  ∀ (A : Around) (outer : List Env) (s : Shared) (H : Hp) (u : Value) (ws : List Value) (v : V) (zs : List V) (Q : VK) (E : XK), Room k A → Env0 P w K mg base A outer s H → RelV v u → Vals zs ws → zs.length = ks.length →
    (∀ p o, H p = none → sp [v, .ref p] (upd H p (.frz o (.dK ((ks.map Sum.inr).zip zs)))) Q E) → codeAny (model P w) A (.call (.ref f) ⟨[u], ks.zip ws⟩) (CR CX outer P w H s Q E) s
structure MthV (P : Program) (w : World) (K : PySem.W.Frag) (mg : Str → Option Value) (base : Heap) (k : Nat) (C : Addr) (m : Str) (ks : List Str) (sp : Sp) : Prop where
  ex : ∃ f : Addr, Meth K C m f ∧ FnV P w K mg base (L2.CX P w) k f ks sp
section
variable {X : Cx} {k j : Nat} {C : Addr} {sp : Sp} {W : WX} {m : Str} {pos apos : Pos} {o : Expr} {kws : List Keyword} {ta : TE} {t : TA} {ks : List Str}
end
structure StvI (K : PySem.W.Frag) (C : Addr) (m qual : Str) (st : Stmt) (sn kn : Str) : Prop where
  ex : ∃ (f : Addr) (oc : Value) (od an : Option Addr) (osl : Array (Option Value)) (kV doc pm cdv ct : Value) (ar : Arg), Meth K C m f ∧
    K.lookup f = some ⟨oc, od, .func (PySem.W.fnOf m qual (defArgs st) (defBody st) (defScope st) .none kV doc pm an cdv ct), osl⟩ ∧ PySem.W.codeIn K cdv qual = true ∧
    (defArgs st).posonlyargs = [] ∧ (defArgs st).args.map (·.arg) = [sn] ∧ (defArgs st).kwonlyargs = [] ∧ (defArgs st).vararg = none ∧ (defArgs st).kwarg = some ar ∧ ar.arg = kn
theorem StvI.okZ {P : Program} {w : World} {K : PySem.W.Frag} {mg : Str → Option Value} {base : Heap} {C : Addr} {m qual sn kn : Str} {st : Stmt} {N ks : List Str} {k : Nat} {sp : Sp} (F : StvI K C m qual st sn kn) (S : FnScope N [sn, kn] (defScope st)) (nk : ks.Nodup) (ns : sn ∉ ks) (hz : ks.length ≤ 1000) {t : XK → TS}
    (hd : ∀ (f : Addr) (cdv : Value) (A : Around) (outer : List Env) (s : Shared) (H : Hp) (E : XK), Room k (A.deeper (envOfC qual (defScope st) s.heap.objs.size f cdv)) → PSs (cxOf (L2.CX P w) P w K mg base N qual (defScope st) f cdv A outer s H E) (defBody st) (t E))
    (hb : ∀ (H : Hp) (vs : List V) (Q : VK) (E : XK), sp vs H Q E → t E { nx := fun _ H' => Q .non H', rt := Q } (L2.start N vs) H) : MthV P w K mg base (k + 1) C m ks sp := by
  obtain ⟨f, oc, od, an, osl, kV, doc, pm, cdv, ct, ar, hm, lk, hcd, p1, p2, p3, p4, p5, p8⟩ := F.ex
  refine ⟨f, hm, ?_⟩
  rintro A outer s H u ws v zs Q E hr e0 r rz lz hq
  have lw : ws.length = ks.length := by rw [← rz.length]; exact lz
  have hz2 : ks.length ≤ sizeLine := Nat.le_trans hz (by rw [sizeLine_eq]; decide)
  have free : H s.heap.objs.size = none := e0.hok.fresh (Nat.le_refl _)
  refine StX.run_bnd lk hcd S hr.toRoom e0 (G := fun xs H2 => ∃ p o, H p = none ∧ xs = [v, V.ref p] ∧ H2 = upd H p (.frz o (.dK ((ks.map Sum.inr).zip zs)))) (fun A' Ex Q' h => ?_) ?_
  · refine bind_kv (w := w) (P := P) p1 p2 p3 p4 p5 p8 rfl lw nk ns hz2 fun h' k' D' => ?_
    have new : ObjOk P w (upd H s.heap.objs.size (.frz (dctO (kwE w.params s.toks (ks.zip ws)) ks.length) (.dK ((ks.map Sum.inr).zip zs)))) h' s.heap.objs.size (.frz (dctO (kwE w.params s.toks (ks.zip ws)) ks.length) (.dK ((ks.map Sum.inr).zip zs))) := ⟨D', kw_dk D' rz lz nk hz2 (beq_eq_false_iff_ne.mpr (Ne.symm (Nat.ne_of_lt (StX.env0_big e0))))⟩
    have un : Un (frs outer) [] H (upd H s.heap.objs.size (.frz (dctO (kwE w.params s.toks (ks.zip ws)) ks.length) (.dK ((ks.map Sum.inr).zip zs)))) s.heap h' := Un.laid k' (Nat.le_refl _) free
    exact h _ _ [v, V.ref s.heap.objs.size] [u, Value.ref s.heap.objs.size] (env0_at e0 k' D' new) un rfl (fun e s' => StX.cxUp outer s H _ _ E e s' un k' rfl) (.cons r (.cons rfl .nil)) rfl ⟨_, _, free, rfl, rfl⟩
  · rintro s2 H2 xs ⟨p, o, hp, rfl, rfl⟩ hr'
    exact ⟨t E, hd f cdv A outer s2 _ E ⟨hr', hr.gd⟩, hb _ _ Q E (hq p o hp)⟩
end TP

namespace MR
open PySem PySem.Spec PyProof.Rows L2 TP
section
variable {K : PySem.W.Frag} {Γ : Nat → Addr} {xa : XT} {W : WX} {w w' w0 : Wd} {te to ti ta tb td : TE} {me mo mk ma mb md : ME} {tl : TA} {ml : MA} {n : Nat} {m : MF}
end
end MR

namespace TP
open PySem PySem.Spec PySem.Calls PyProof.Rows L2
section
variable {M : Model} {A : Around} {E : Value → Shared → Prop} {s : Shared} {K : PySem.W.Frag} {env : Env} {pos : Pos} {x C : Addr} {ox : Obj} {Q : Value → Shared → Prop}
end
section
variable {X : Cx} {k j : Nat} {C : Addr} {sp : Sp} {W : WX} {x : Str} {ps : List Str} {p pos : Pos} {e : Expr} {es : List Expr} {to : TE} {t : TA}
end
end TP

namespace MR
open PySem PySem.Spec PyProof.Rows L2 TP
section
variable {K : PySem.W.Frag} {Γ : Nat → Addr} {xa : XT} {W : WX} {w w' w0 : Wd} {te to ti ta tb td : TE} {me mo mk ma mb md : ME} {tl : TA} {ml : MA} {n : Nat} {m : MF}
end
end MR

namespace TP
open PySem PySem.Spec PyProof.Rows L2
end TP
namespace MR
open PySem PySem.Spec PyProof.Rows L2 TP
section
variable {K : PySem.W.Frag} {Γ : Nat → Addr} {xa : XT} {W : WX} {w w' w0 : Wd} {te to ti ta tb td : TE} {me mo mk ma mb md : ME} {tl : TA} {ml : MA} {n : Nat} {m : MF}
end
end MR

namespace TP
open PySem PySem.Spec PySem.Calls PyProof.Rows L2
def ixOf (n : Str) : List Str → Nat
  | [] => 0
  | k :: ks => if n = k then 0 else ixOf n ks + 1
def srcOf (kn dn ks : List Str) : List Src := kn.map fun n => if n ∈ ks then .kw (ixOf n ks) else .dfl (ixOf n dn)
structure OkKs (kn dn ks : List Str) : Prop where
  nodup : ks.Nodup
  sub : ∀ k ∈ ks, k ∈ kn
  cov : ∀ n ∈ kn, n ∈ ks ∨ n ∈ dn
theorem ix_get {α : Type} {n : Str} : ∀ {ks : List Str} {ws : List α}, n ∈ ks → ws.length = ks.length → ∃ v, ws[ixOf n ks]? = some v ∧ (ks.zip ws).lookup n = some v
  | [], _, h, _ => absurd h List.not_mem_nil
  | k :: ks, [], _, hl => by cases hl
  | k :: ks, w :: ws, h, hl => by
    rw [List.zip_cons_cons, List.lookup_cons]
    unfold ixOf
    by_cases e : n = k
    · subst e
      exact ⟨w, by rw [if_pos rfl]; rfl, by rw [beq_self_eq_true]⟩
    · obtain ⟨v, h1, h2⟩ := ix_get (ws := ws) ((List.mem_cons.mp h).resolve_left e) (by simpa using hl)
      exact ⟨v, by rw [if_neg e]; simpa using h1, by rw [beq_eq_false_iff_ne.mpr e]; exact h2⟩
theorem look_not {α : Type} {n : Str} : ∀ {ks : List Str} {ws : List α}, n ∉ ks → (ks.zip ws).lookup n = none
  | [], _, _ => rfl
  | k :: ks, [], _ => rfl
  | k :: ks, w :: ws, h => by
    rw [List.zip_cons_cons, List.lookup_cons, beq_eq_false_iff_ne.mpr (fun z => h (by rw [z]; exact List.mem_cons_self))]
    exact look_not fun z => h (List.mem_cons_of_mem _ z)
theorem fm_map {α β γ : Type} {g : α → β} {f : β → Option γ} {u : α → γ} : ∀ {l : List α}, (∀ n ∈ l, f (g n) = some (u n)) → (l.map g).filterMap f = l.map u
  | [], _ => rfl
  | n :: l, h => by
    rw [List.map_cons, List.filterMap_cons_some (h n List.mem_cons_self), fm_map fun m hm => h m (List.mem_cons_of_mem _ hm), List.map_cons]
def valA {α : Type} (z : α) (ks : List Str) (ws : List α) (dn : List Str) (its : List α) (n : Str) : α := ((ks.zip ws).lookup n).getD (((dn.zip its).lookup n).getD z)
theorem arr_src {α : Type} (z : α) {kn dn ks : List Str} {ws its : List α} (o : OkKs kn dn ks) (lw : ws.length = ks.length) (ld : its.length = dn.length) : arr (srcOf kn dn ks) [] ws its = kn.map (valA z ks ws dn its) := by
  unfold arr srcOf
  refine fm_map fun n hn => ?_
  unfold valA
  by_cases h : n ∈ ks
  · obtain ⟨v, h1, h2⟩ := ix_get h lw
    rw [if_pos h, h2]
    exact h1
  · obtain ⟨v, h1, h2⟩ := ix_get ((o.cov n hn).resolve_left h) ld
    rw [if_neg h, look_not h, h2]
    exact h1
structure MakP (P : Program) (w : World) (K : PySem.W.Frag) (mg : Str → Option Value) (base : Heap) (k : Nat) (x : Str) (C : Addr) (kn dn : List Str) (dvs : List V) (sp : Sp) : Prop where
  one : ∃ f, mg x = some (.ref C) ∧ Mk K C f
  all : ∀ ks, OkKs kn dn ks → MakO P w K mg base k x C ks (srcOf kn dn ks) dvs sp
structure StPI (K : PySem.W.Frag) (mg : Str → Option Value) (x : Str) (C : Addr) (qual : Str) (st : Stmt) (dvs : List V) (ps : Str) (kn dn : List Str) : Prop where
  one : ∃ f, mg x = some (.ref C) ∧ Mk K C f
  all : ∀ ks, OkKs kn dn ks → StOI K mg x C qual st ks (srcOf kn dn ks) dvs ps kn
theorem StPI.okZ {P : Program} {w : World} {K : PySem.W.Frag} {mg : Str → Option Value} {base : Heap} {C : Addr} {x qual ps : Str} {st : Stmt} {dvs : List V} {N kn dn : List Str} {k : Nat} {sp : Sp} (F : StPI K mg x C qual st dvs ps kn dn) (S : FnScope N (ps :: kn) (defScope st)) (ld : dvs.length = dn.length) {t : XK → TS}
    (hd : ∀ (f : Addr) (cdv : Value) (A : Around) (outer : List Env) (s : Shared) (H : Hp) (E : XK), Room k (A.deeper (envOfC qual (defScope st) s.heap.objs.size f cdv)) → PSs (cxOf (L2.CX P w) P w K mg base N qual (defScope st) f cdv A outer s H E) (defBody st) (t E))
    (hb : ∀ (H : Hp) (vs : List V) (Q : VK) (E : XK), sp vs H Q E → t E { nx := fun _ H' => Q .non H', rt := Q } (L2.start N vs) H) : MakP P w K mg base (k + 1) x C kn dn dvs sp :=
  ⟨F.one, fun ks o => (F.all ks o).okZ S (fun zs lz => by rw [arr_src .non o lz ld, List.length_map]) hd hb⟩
section
variable {X : Cx} {k j : Nat} {C : Addr} {sp : Sp} {W : WX} {x : Str} {p pos : Pos} {e : Expr} {te : TE} {kn dn : List Str} {dvs : List V} {kws : List Keyword}
end
end TP

namespace MR
open PySem PySem.Spec PyProof.Rows L2 TP
section
variable {K : PySem.W.Frag} {Γ : Nat → Addr} {xa : XT} {W : WX} {w w' w0 : Wd} {te to ti ta tb tk tv : TE} {me mo mk ma mb mv : ME} {tl : TA} {ml mi : MA} {t : TT} {mt : MT} {tg : TG} {mg : MG} {wi : TI} {vs : List Nat} {c : Nat} {C : Addr}
end
end MR

namespace MR
open PySem PySem.Spec PyProof.Rows L2 TP
section
variable {K : PySem.W.Frag} {Γ : Nat → Addr} {xa : XT} {W : WX} {te : TE} {me : ME}
end
end MR

namespace TP
open PySem PySem.Spec PyProof.Rows L2
section
variable {X : Cx} {k j : Nat} {C : Addr} {sp : Sp} {W : WX} {m : Str} {pos apos : Pos} {o : Expr} {ta : TE}
end
end TP

namespace TP
open PySem PySem.Spec PyProof.Rows L2
section
variable {X : Cx} {body : List Stmt} {h₀ : ExceptHandler} {hds : List ExceptHandler} {pos : Pos} {tb : TS}
end
end TP

namespace TP
open PySem PySem.Spec PyProof.Rows L2
section
variable {X : Cx}
end
end TP

namespace TP
open PySem PySem.Spec PyProof.Rows L2
structure MthR (P : Program) (w : World) (K : PySem.W.Frag) (mg : Str → Option Value) (base : Heap) (k : Nat) (C : Addr) (m : Str) (sp : Sp) : Prop where
  ex : ∃ f : Addr, Meth K C m f ∧ FnR P w K mg base (L2.CX P w) k f sp
section
variable {X : Cx} {k j : Nat} {C : Addr} {sp : Sp} {W : WX} {m : Str} {pos apos : Pos} {o e : Expr} {es : List Expr} {ta : TE} {t : TA}
end
structure StmI (K : PySem.W.Frag) (C : Addr) (m qual : Str) (st : Stmt) (ps : List Str) (pv : Str) : Prop where
  ex : ∃ (f : Addr) (oc : Value) (od an : Option Addr) (osl : Array (Option Value)) (dV kV doc pm cdv ct : Value), Meth K C m f ∧
    K.lookup f = some ⟨oc, od, .func (PySem.W.fnOf m qual (defArgs st) (defBody st) (defScope st) dV kV doc pm an cdv ct), osl⟩ ∧ PySem.W.codeIn K cdv qual = true ∧
    ∀ us rest : List Value, us.length = ps.length → bindArgs (PySem.W.fnOf m qual (defArgs st) (defBody st) (defScope st) dV kV doc pm an cdv ct) ⟨us ++ rest, []⟩ = (newTuple rest >>= fun t => pure (ps.zip us ++ [(pv, t)]))
theorem StmI.okZ {P : Program} {w : World} {K : PySem.W.Frag} {mg : Str → Option Value} {base : Heap} {C : Addr} {m qual pv : Str} {st : Stmt} {N ps : List Str} {k : Nat} {sp : Sp} (F : StmI K C m qual st ps pv) (S : FnScope N (ps ++ [pv]) (defScope st)) {t : XK → TS}
    (hd : ∀ (f : Addr) (cdv : Value) (A : Around) (outer : List Env) (s : Shared) (H : Hp) (E : XK), Room k (A.deeper (envOfC qual (defScope st) s.heap.objs.size f cdv)) → PSs (cxOf (L2.CX P w) P w K mg base N qual (defScope st) f cdv A outer s H E) (defBody st) (t E))
    (hb : ∀ (H : Hp) (vs : List V) (Q : VK) (E : XK), sp vs H Q E → t E { nx := fun _ H' => Q .non H', rt := Q } (L2.start N vs) H) : MthR P w K mg base (k + 1) C m (spV ps.length sp) := by
  obtain ⟨f, oc, od, an, osl, dV, kV, doc, pm, cdv, ct, hm, lk, hcd, hbd⟩ := F.ex
  exact ⟨f, hm, fn_starG lk hcd S StX.cxUp hbd fun A outer s H vs Q E hr h => ⟨t E, hd f cdv A outer s H E hr, hb H vs Q E h⟩⟩
end TP

namespace TP
open PySem PySem.Spec PyProof.Rows L2
structure PrpG (P : Program) (w : World) (K : PySem.W.Frag) (mg : Str → Option Value) (base : Heap) (k : Nat) (C : Addr) (f : Str) (ps : List Str) (sp : Sp) : Prop where
  ex : ∃ (p g : Addr) (fd : FuncData), PropOf K C f p g ∧ FnOk P w K mg base (L2.CX P w) k g fd ps sp ∧ Binds K fd ps []
theorem PrpI.okG {P : Program} {w : World} {K : PySem.W.Frag} {mg : Str → Option Value} {base : Heap} {C : Addr} {f qual : Str} {st : Stmt} {N ps : List Str} {k : Nat} {sp : Sp} (F : PrpI K C f qual st ps) (S : FnScope N ps (defScope st)) (len : ∀ vs H Q E, sp vs H Q E → vs.length = ps.length) {t : XK → TS}
    (hd : ∀ (f : Addr) (cdv : Value) (A : Around) (outer : List Env) (s : Shared) (H : Hp) (E : XK), Room k (A.deeper (envOfC qual (defScope st) s.heap.objs.size f cdv)) → PSs (cxOf (L2.CX P w) P w K mg base N qual (defScope st) f cdv A outer s H E) (defBody st) (t E))
    (hb : ∀ (H : Hp) (vs : List V) (Q : VK) (E : XK), sp vs H Q E → t E { nx := fun _ H' => Q .non H', rt := Q } (start N vs) H) : PrpG P w K mg base (k + 1) C f ps sp := by
  obtain ⟨p, g, fd, hp, F, b⟩ := F.ex
  exact ⟨p, g, fd, hp, TP.okG F S len fun cdv A outer s H vs Q E hr h => ⟨t E, hd g cdv A outer s H E hr, hb H vs Q E h⟩, b⟩
section
variable {X : Cx} {k j : Nat} {C : Addr} {f : Str} {ps : List Str} {sp : Sp} {e : Expr} {pos : Pos} {ta : TE}
end
end TP

namespace MR
open PySem PySem.Spec PyProof.Rows L2 TP
section
variable {K : PySem.W.Frag} {Γ : Nat → Addr} {xa : XT} {W : WX} {w w' w0 : Wd} {te to ti tp ti2 : TE} {me mo mk mp mk2 : ME} {ml : MA} {tb : TS} {ms : MS}
structure SimPr (K : PySem.W.Frag) (Γ : Nat → Addr) (xa : XT) (W : WX) (ks : List Str) (trs : List (TE × TE)) (ml : MA) : Prop where
  len : ∀ (δ : Env) (S : Sto) (ds : List D) (S' : Sto), ml δ S = .ok ds S' → ds.length = ks.length
  run : ∀ (w0 w : Wd) (σ : L2.St) (δ : Env) (Q : List (V × V) → Hp → Prop), Ok K Γ w → Ev w0 w → EnvOk K Γ xa w0 w σ δ → Post K Γ (ml δ w.S) w (fun ds w' => ∀ vs, Reps K Γ w' ds vs → Q ((ks.map V.str).zip vs) w'.H) (XW K Γ W σ) → tPairs trs σ w.H Q
end
end MR

namespace MR
open PySem PySem.Spec PyProof.Rows L2 TP
variable {K : PySem.W.Frag} {Γ : Nat → Addr} {w w0 w1 w' : Wd} {xa : XT} {W : WX} {te tk : TE} {me mk : ME}
end MR

namespace TP
open PySem PySem.Spec PyProof.Rows GenW L2
structure Gst where
  F : List Addr
  Cn : List V → Heap → Prop
  mv : ∀ ys h h', (∀ b ∈ F, ∀ o, h.get? b = some o → h'.get? b = some o) → Cn ys h → Cn ys h'
structure Nap (S : Gst) (v : Value) (s s' : Shared) : Prop where
  os : s'.os = s.os
  bare : AllBare s'.gens
  keep : ∀ b o, b ∉ S.F → s.heap.get? b = some o → s'.heap.get? b = some o
  there : ∀ b ∈ S.F, ∃ o, s'.heap.get? b = some o ∧ ∀ v, o.data ≠ .cell v
  con : ∀ ys x, RelV x v → S.Cn ys s.heap → S.Cn (ys ++ [x]) s'.heap
def GJ (X : Cx) (S : Gst) (ip : List (Addr × Obj)) (ys : List V) (σ : L2.St) (H : Hp) (s : Shared) : Prop :=
  S.Cn ys s.heap ∧ ∃ pf : List (Addr × Obj), (∀ b ∈ S.F, ∃ o, (b, o) ∈ pf) ∧ (∀ p ∈ pf, p.1 ∈ S.F) ∧ Inv X (pf ++ ip) σ H s
section
variable {X : Cx} {S : Gst} {ip ip' pf : List (Addr × Obj)} {ys : List V} {σ σ' : L2.St} {H H' : Hp} {s s' : Shared}
theorem GJ.next (hc : S.Cn ys s.heap) (h1 : ∀ b ∈ S.F, ∃ o, (b, o) ∈ pf) (h2 : ∀ p ∈ pf, p.1 ∈ S.F) (I : Inv X (pf ++ ip) σ H s) (I' : Inv X (pf ++ ip') σ' H' s') : GJ X S ip' ys σ' H' s' := by
  refine ⟨S.mv ys _ _ (fun b hb o e => ?_) hc, pf, h1, h2, I'⟩
  obtain ⟨o1, m⟩ := h1 b hb
  have e1 := (I.pin (b, o1) (List.mem_append_right _ (List.mem_append_left _ m))).1
  have e2 := (I'.pin (b, o1) (List.mem_append_right _ (List.mem_append_left _ m))).1
  rw [show s.heap.get? b = some o1 from e1] at e
  cases e
  exact e2
theorem GJ.own (h : GJ X S ip ys σ H s) : ∀ b ∈ S.F, H b = none ∧ b ≠ X.env.locals ∧ b ∉ X.fs ∧ ∃ o, s.heap.get? b = some o ∧ ∀ v, o.data ≠ .cell v := fun b hb => by
  obtain ⟨_, pf, h1, _, I⟩ := h
  obtain ⟨o, m⟩ := h1 b hb
  obtain ⟨q0, q1, q2, q3, q4⟩ := I.pin (b, o) (List.mem_append_right _ (List.mem_append_left _ m))
  exact ⟨q1, q2, q3, o, q0, q4⟩
theorem GJ.inv (h : GJ X S ip ys σ H s) : Inv X ip σ H s := by
  obtain ⟨_, pf, _, _, I⟩ := h
  exact I.pins_of fun p hp => I.pin p (List.mem_append_right _ (List.mem_append_right _ hp))
structure GCode (X : Cx) (S : Gst) (ip : List (Addr × Obj)) (A : Around) (c : Code) (fs : List Frame) (gd : Bool → Bool) : Prop where
  nox : ∀ e s, ¬ X.xe e s
  pn : ∀ p ∈ X.pn, p.1 ∉ S.F
  ip : ∀ p ∈ ip, p.1 ∉ S.F
  apart : ∀ b ∈ S.F, X.s_0.heap.objs.size ≤ b ∧ ∀ x c, X.env.cells.lookup x = some c → c ≠ b
  over : A.over c fs = X.A
  split : splitAtGen fs = none
  guard : fs.any Frame.guarded = false
  gd : gd false = false
theorem GJ.woken {v : Value} {x : V} (hpn : ∀ p ∈ X.pn, p.1 ∉ S.F) (hip : ∀ p ∈ ip, p.1 ∉ S.F) (hA : ∀ b ∈ S.F, X.s_0.heap.objs.size ≤ b ∧ ∀ x c, X.env.cells.lookup x = some c → c ≠ b)
    (h : GJ X S ip ys σ H s) (r : RelV x v) (z : Nap S v s s') : GJ X S ip (ys ++ [x]) σ H s' := by
  have own := h.own
  have I := h.inv
  have nF : ∀ b u, H b = some u → b ∉ S.F := fun b u e hb => by rw [(own b hb).1] at e; cases e
  have J : Inv X ip σ H s' := by
    refine I.call' (ch := S.F) z.os ⟨fun b o e _ _ hx => z.keep b o hx e, fun b o e _ _ hx => ⟨o.slots, z.keep b o hx e⟩, fun _ _ _ n _ => n, fun b o e hx => ⟨o, z.keep b o hx e⟩, fun _ _ e => e, fun _ _ _ e => e, fun b ps e => ⟨#[], by rw [e]; simp⟩⟩ (fun b u q => ?_) z.bare fun b hb => ?_
    · refine (I.hok b u q).stay (fun c v hc y => z.keep c v ?_ y) (fun _ y => y) fun _ _ y => y
      rcases hc with y | y
      · rw [y]; exact nF b u q
      · exact nF c _ y
    · refine ⟨.inr (hA b hb).1, (own b hb).2.1, (hA b hb).2, fun p hp e => ?_⟩
      rcases List.mem_append.mp hp with hp | hp
      · exact hpn p hp (e ▸ hb)
      · exact hip p hp (e ▸ hb)
  refine ⟨z.con ys x r h.1, pinsAt S.F s'.heap, fun b hb => ?_, fun p hp => (of_pinsAt hp).1, J.pins_of fun p hp => ?_⟩
  · obtain ⟨o, e, _⟩ := z.there b hb
    exact ⟨o, mem_pinsAt hb e⟩
  · rcases List.mem_append.mp hp with hp | hp
    · obtain ⟨hb, e⟩ := of_pinsAt hp
      obtain ⟨q1, q2, q3, _⟩ := own p.1 hb
      obtain ⟨o, e', d⟩ := z.there p.1 hb
      rw [e] at e'; cases e'
      exact ⟨e, q1, q2, q3, d⟩
    · exact J.pin p (List.mem_append_right _ hp)
end
def GPr (X : Cx) (S : Gst) : Protocol := fun n _ v s kap =>
  ∃ ys x ip σ H, n + 1 + ys.length = sizeLine ∧ RelV x v ∧ GJ X S ip ys σ H s ∧ ∀ s', Nap S v s s' → kap (.send .none) s'
def GFin (X : Cx) (S : Gst) (Q : List V → VK) : GenEnd := fun n _ r s => match r with
  | .ok (.ret u) => ∃ ys v ip σ H, n + ys.length = sizeLine ∧ GJ X S ip ys σ H s ∧ RelV v u ∧ Q ys v H
  | _ => False
def GEndP (X : Cx) (S : Gst) (ip : List (Addr × Obj)) (D : GEnds) (ys : List V) (f : Flow) (s : Shared) : Prop :=
  match f with
  | .next => ∃ σ H, GJ X S ip ys σ H s ∧ D.nx ys σ H
  | .brk => ∃ σ H, GJ X S ip ys σ H s ∧ D.bk ys σ H
  | .cont => ∃ σ H, GJ X S ip ys σ H s ∧ D.ct ys σ H
  | .ret u => ∃ v σ H, GJ X S ip ys σ H s ∧ RelV v u ∧ D.rt ys v H
def GNext (X : Cx) (S : Gst) (ip : List (Addr × Obj)) (A : Around) (R : GenEnd) (c : Code) (fs : List Frame) (K : Flow → Sem PySem.Fin) (D : GEnds) : Prop :=
  ∀ (n : Nat) (ys : List V) (s₀ s : Shared) (f : Flow), n + ys.length = sizeLine → GEndP X S ip D ys f s → Seg (model X.prog X.w) A R (GPr X S) n s₀ c (K f) fs s
structure GSt (X : Cx) (st : Stmt) (t : TGn) : Prop where
  run : ∀ (A : Around) (S : Gst) (ip : List (Addr × Obj)) (R : GenEnd) (n : Nat) (ys : List V) (s₀ : Shared) (c : Code) (fs : List Frame) (K : Flow → Sem PySem.Fin) (J : Value → Sem PySem.Fin) (gd : Bool → Bool) (lv : List Value → List Value) (s : Shared) (σ : L2.St) (H : Hp) (D : GEnds),
    GCode X S ip A c fs gd → n + ys.length = sizeLine → GNext X S ip A R c fs K D → GJ X S ip ys σ H s → t D ys σ H →
    Seg (model X.prog X.w) A R (GPr X S) n s₀ c ((exec st X.env).wrap K J gd lv) fs s
structure GSts (X : Cx) (st : List Stmt) (t : TGn) : Prop where
  run : ∀ (A : Around) (S : Gst) (ip : List (Addr × Obj)) (R : GenEnd) (n : Nat) (ys : List V) (s₀ : Shared) (c : Code) (fs : List Frame) (K : Flow → Sem PySem.Fin) (J : Value → Sem PySem.Fin) (gd : Bool → Bool) (lv : List Value → List Value) (s : Shared) (σ : L2.St) (H : Hp) (D : GEnds),
    GCode X S ip A c fs gd → n + ys.length = sizeLine → GNext X S ip A R c fs K D → GJ X S ip ys σ H s → t D ys σ H →
    Seg (model X.prog X.w) A R (GPr X S) n s₀ c ((execs st X.env).wrap K J gd lv) fs s
section
variable {X : Cx} {st : Stmt} {rest : List Stmt}
theorem endP_of {S : Gst} {pf ip : List (Addr × Obj)} {s0 s : Shared} {σ0 : L2.St} {H0 : Hp} {D : GEnds} {ys : List V} {f : Flow} (hc : S.Cn ys s0.heap) (h1 : ∀ b ∈ S.F, ∃ o, (b, o) ∈ pf) (h2 : ∀ p ∈ pf, p.1 ∈ S.F) (I : Inv X (pf ++ ip) σ0 H0 s0)
    (h : SP X (pf ++ ip) (D.at ys) f s) : GEndP X S ip D ys f s := by
  cases f with
  | next => exact let ⟨σ, H, J, q⟩ := h; ⟨σ, H, .next hc h1 h2 I J, q⟩
  | brk => exact let ⟨σ, H, J, q⟩ := h; ⟨σ, H, .next hc h1 h2 I J, q⟩
  | cont => exact let ⟨σ, H, J, q⟩ := h; ⟨σ, H, .next hc h1 h2 I J, q⟩
  | ret u => exact let ⟨v, σ, H, J, r, q⟩ := h; ⟨v, σ, H, .next hc h1 h2 I J, r, q⟩
theorem gst_plain {t : TS} (h : PS X st t) : GSt X st (tPlain t) := by
  refine ⟨fun A S ip R n ys s₀ c fs K J gd lv s σ H D g hn k ⟨hc, pf, h1, h2, I⟩ ht => seg_wrap ?_⟩
  rw [g.over]
  exact wpAny_mono (h.run _ s σ H (D.at ys) I ht) (fun f s' hs => k n ys s₀ s' f hn (endP_of hc h1 h2 I hs)) fun x s' hx => (g.nox _ _ hx).elim
theorem gsts_nil : GSts X [] tG0 :=
  ⟨fun _ _ _ _ n ys s₀ _ _ _ _ _ _ s σ H _ _ hn k hI ht => seg_execs_nil (k n ys s₀ s .next hn ⟨σ, H, hI, ht⟩)⟩
theorem gsts_cons {t u : TGn} (a : GSt X st t) (b : GSts X rest u) : GSts X (st :: rest) (tGThen t u) := by
  refine ⟨fun A S ip R n ys s₀ c fs K J gd lv s σ H D g hn k hI ht => seg_execs_cons ?_⟩
  refine a.run A S ip R n ys s₀ c fs _ J gd lv s σ H { D with nx := fun ys' σ' H' => u D ys' σ' H' } g hn (fun m zs t₀ t' f hm hs => ?_) hI ht
  match f, hs with
  | .next, ⟨σ', H', I', q⟩ => exact b.run A S ip R m zs t₀ c fs K J gd lv t' σ' H' D g hm k I' q
  | .brk, hs => exact k m zs t₀ t' .brk hm hs
  | .cont, hs => exact k m zs t₀ t' .cont hm hs
  | .ret u, hs => exact k m zs t₀ t' (.ret u) hm hs
theorem gst_yield {e : Expr} {yp pos : Pos} {te : TE} (he : PE X e te) (hco : X.env.scope.isCoroutine = false := by rfl) (hi : interactive X.env = false := by rfl) : GSt X (.Expr (.Yield (some e) yp) pos) (tGYield te) := by
  refine ⟨fun A S ip R n ys s₀ c fs K J gd lv s σ H D g hn k ⟨hc, pf, h1, h2, I⟩ ⟨hlt, ht⟩ => ?_⟩
  obtain ⟨m, rfl⟩ : ∃ m, n = m + 1 := ⟨n - 1, by omega⟩
  refine seg_Expr_Yield g.split g.gd g.guard ?_ hco hi
  rw [g.over]
  refine wpAny_mono (he.run _ s σ H _ I ht) (fun v s1 ⟨x, H1, I1, rv, q⟩ kap hk => ?_) fun x s' hx => (g.nox _ _ hx).elim
  have G := GJ.next hc h1 h2 I I1
  refine ⟨ys, x, ip, σ, H1, hn, rv, G, fun s2 z => hk .none s2 ?_⟩
  exact k m (ys ++ [x]) s2 s2 .next (by rw [List.length_append, List.length_singleton]; omega) ⟨σ, H1, G.woken g.pn g.ip g.apart rv z, q⟩
end
def tGFor (wi : TI) (g : TG) (tb : TGn) : TGn := fun D ys σ H => wi σ H fun J H1 => ∃ W : Nat → Nat → List V → L2.St → Hp → Prop, (∃ m, W 0 m ys σ H1) ∧ ∀ i m ys σ H, W i m ys σ H →
  (J.stop i H ∧ D.nx ys σ H) ∨ (J.go i H ∧ ∃ N : List V → L2.St → Hp → Prop, (∀ ys' σ' H', N ys' σ' H' → ∃ m', m' < m ∧ W (i + 1) m' ys' σ' H') ∧ ∀ x H', J.yld i H x H' → g x σ H' fun σ2 H2 => tb { D with nx := N, ct := N, bk := D.nx } ys σ2 H2)
section
variable {X : Cx} {S : Gst} {ip : List (Addr × Obj)}
theorem GJ.drop {pl : List (Addr × Obj)} {ys : List V} {σ : L2.St} {H : Hp} {s : Shared} (h : GJ X S (ip ++ pl) ys σ H s) : GJ X S ip ys σ H s := by
  obtain ⟨cn, pf, h1, h2, I⟩ := h
  rw [← List.append_assoc] at I
  exact ⟨cn, pf, h1, h2, I.unpinned⟩
theorem seg_forG {tg : Expr} {body : List Stmt} {gg : TG} {tb : TGn} {A : Around} {R : GenEnd} {D : GEnds} {FR : List Frame} {it : Addr} {J0 : It} {fp : List Addr} {tn : Nat → Heap → Prop} {W : Nat → Nat → List V → L2.St → Hp → Prop}
    (hc : X.calm = true) (hg : PG X tg gg) (hb : GSts X body tb) (nox : ∀ e s, ¬ X.xe e s) (hpn : ∀ p ∈ X.pn, p.1 ∉ S.F) (hip : ∀ p ∈ ip, p.1 ∉ S.F) (hap : ∀ b ∈ S.F, X.s_0.heap.objs.size ≤ b ∧ ∀ x c, X.env.cells.lookup x = some c → c ≠ b)
    (hov : A.over (.forLoop tg (.ref it) body [] X.env) FR = X.A) (hsp : splitAtGen FR = none) (hgu : FR.any Frame.guarded = false) (T : Turn X.prog X.w X.K tg J0 fp it tn)
    (fok : ∀ b ∈ fp, b ≠ X.env.locals ∧ b ∉ X.fs ∧ (b ∈ X.ex ∨ X.s_0.heap.objs.size ≤ b) ∧ (∀ x c, X.env.cells.lookup x = some c → c ≠ b) ∧ ∀ p ∈ X.pn ++ ip, p.1 ≠ b) (fpS : ∀ b ∈ fp, b ∉ S.F)
    (turn : ∀ i m ys σ H, W i m ys σ H → (J0.stop i H ∧ D.nx ys σ H) ∨ (J0.go i H ∧ ∃ N : List V → L2.St → Hp → Prop, (∀ ys' σ' H', N ys' σ' H' → ∃ m', m' < m ∧ W (i + 1) m' ys' σ' H') ∧ ∀ x H', J0.yld i H x H' → gg x σ H' fun σ2 H2 => tb { D with nx := N, ct := N, bk := D.nx } ys σ2 H2))
    (leaf : ∀ (c' : Code) (n : Nat) (ys : List V) (s₀ s : Shared) (f : Flow), n + ys.length = sizeLine → GEndP X S ip D ys f s → Seg (model X.prog X.w) A R (GPr X S) n s₀ c' (leafOf (.ok f)) FR s) :
    ∀ (m n : Nat) (ys : List V) (s₀ s : Shared) (σ : L2.St) (H : Hp) (i : Nat), n + ys.length = sizeLine → W i m ys σ H → GJ X S ip ys σ H s → tn i s.heap → (∀ b ∈ fp, H b = none) →
      Seg (model X.prog X.w) A R (GPr X S) n s₀ (.forLoop tg (.ref it) body [] X.env) ((model X.prog X.w).den (.forLoop tg (.ref it) body [] X.env)) FR s := by
  intro m
  induction m using Nat.strongRecOn with
  | ind m ih =>
    intro n ys s₀ s σ H i hn w ⟨cn, pf, h1, h2, I⟩ st nH
    have stat : ∀ {H' : Hp}, (∀ b ∈ fp, H' b = none) → ∀ b ∈ fp, FpOk X (pf ++ ip) H' b := fun {H'} z b hb => by
      obtain ⟨q1, q2, q3, q4, q5⟩ := fok b hb
      refine ⟨z b hb, q1, q2, q3, q4, fun p hp e => ?_⟩
      rcases List.mem_append.mp hp with hp | hp
      · exact q5 p (List.mem_append_left _ hp) e
      · rcases List.mem_append.mp hp with hp | hp
        · exact fpS b hb (e ▸ h2 p hp)
        · exact q5 p (List.mem_append_right _ hp) e
    show Seg _ A R _ n s₀ _ ((forTurn tg (.ref it) body [] X.env).onRaise (fun x => do noteFrame x X.env; theTreesLotGoes x)) FR s
    unfold forTurn
    rw [Sem.onRaise_eq_wrap]
    refine seg_bind_wrap (wpAny_standAt (seg_bind_wrap ?_))
    rw [hov]
    refine wpAny_onRaise ?_
    rcases turn i m ys σ H w with ⟨stop, qn⟩ | ⟨go, N, hN, step⟩
    · refine wpAny_mono (T.done X rfl rfl rfl hc i _ s σ H (fun _ _ => False) I (stat nH) st stop) (fun r s4 ⟨hr, I4⟩ => ?_) fun _ _ z => z.elim
      subst hr
      exact seg_again rfl (leaf _ n ys s₀ s4 .next hn ⟨σ, H, .next cn h1 h2 I I4, qn⟩)
    · refine wpAny_mono (T.item X rfl rfl rfl hc i _ s σ H (fun _ _ => False) I (stat nH) st go) (fun r s4 ⟨u, hr, h4⟩ => ?_) fun _ _ z => z.elim
      subst hr
      dsimp only
      refine seg_bind_wrap ?_
      rw [hov]
      refine wpAny_mono h4 (fun _ s5 ⟨x, H5, I5, r5, y5, st5, n5⟩ => ?_) fun _ _ z => z.elim
      refine seg_bind_wrap ?_
      rw [hov]
      have I5' := I5.pinned (stat n5) (T.obj _ _ st5)
      refine wpAny_mono (hg.run _ s5 σ H5 x u _ I5' r5 (step x H5 y5)) (fun _ s6 ⟨σ6, H6, I6, q6⟩ => ?_) fun e s' z => (nox _ _ z).elim
      rw [Sem.bind_eq_wrap', Sem.wrap_wrap]
      have G6 : GJ X S (ip ++ pinsAt fp s5.heap) ys σ6 H6 s6 := .next cn h1 h2 I (by rw [← List.append_assoc]; exact I6)
      have nip : ∀ p ∈ ip ++ pinsAt fp s5.heap, p.1 ∉ S.F := fun p hp => (List.mem_append.mp hp).elim (hip p) fun z => fpS _ (of_pinsAt z).1
      have back : ∀ {n' : Nat} {ys' : List V} {t₀ t : Shared} {σ7 : L2.St} {H7 : Hp}, n' + ys'.length = sizeLine → GJ X S (ip ++ pinsAt fp s5.heap) ys' σ7 H7 t → N ys' σ7 H7 →
          Seg (model X.prog X.w) A R (GPr X S) n' t₀ (.forLoop tg (.ref it) body [] X.env) (.pure (.again (.forLoop tg (.ref it) body [] X.env))) FR t := fun {n' ys' t₀ t σ7 H7} hn' G7 q7 => by
        obtain ⟨m', hm, w7⟩ := hN ys' σ7 H7 q7
        obtain ⟨cn7, pf7, k1, k2, I7⟩ := id G7
        have pin : ∀ b ∈ fp, ∀ o, s5.heap.get? b = some o → t.heap.get? b = some o ∧ H7 b = none := fun b hb o e =>
          let z := I7.pin (b, o) (List.mem_append_right _ (List.mem_append_right _ (List.mem_append_right _ (mem_pinsAt hb e))))
          ⟨z.1, z.2.1⟩
        refine seg_again rfl (ih m' hm n' ys' t₀ t σ7 H7 (i + 1) hn' w7 G7.drop (T.keep _ _ _ st5 fun b hb o e => (pin b hb o e).1) fun b hb => ?_)
        obtain ⟨o, e, _⟩ := T.obj _ _ st5 b hb
        exact (pin b hb o e).2
      refine hb.run A S (ip ++ pinsAt fp s5.heap) R n ys s₀ _ FR _ _ _ _ s6 σ6 H6 { D with nx := N, ct := N, bk := D.nx } ⟨nox, hpn, nip, hap, hov, hsp, hgu, rfl⟩ hn (fun n' ys' t₀ t f hn' hf => ?_) G6 q6
      match f, hf with
      | .next, ⟨σ7, H7, G7, q7⟩ => exact back hn' G7 q7
      | .cont, ⟨σ7, H7, G7, q7⟩ => exact back hn' G7 q7
      | .brk, ⟨σ7, H7, G7, q7⟩ => exact leaf _ n' ys' t₀ t .next hn' ⟨σ7, H7, G7.drop, q7⟩
      | .ret v, ⟨x7, σ7, H7, G7, r7, q7⟩ => exact leaf _ n' ys' t₀ t (.ret v) hn' ⟨x7, σ7, H7, G7.drop, r7, q7⟩
theorem gst_for {tg iter : Expr} {body : List Stmt} {pos : Pos} {wi : TI} {gg : TG} {tb : TGn} (hc : X.calm = true) (hi : PI X tg iter wi) (hg : PG X tg gg) (hb : GSts X body tb) (hs : ∀ x, foldedSetIterable iter X.env x = pure x := by intro _; rfl) :
    GSt X (.For tg iter body [] pos) (tGFor wi gg tb) := by
  refine ⟨fun A S ip R n ys s₀ c fs K J gd lv s σ H D g hn k ⟨cn, pf, h1, h2, I⟩ ht => ?_⟩
  show Seg _ A R _ n s₀ c (.at pos fun _ => (eval iter X.env >>= fun x0 => foldedSetIterable iter X.env x0 >>= fun x => standAt iter.pos >>= fun _ => holding [x] (pyIter x) >>= fun it => runOwn (.forLoop tg it body [] X.env) X.env).wrap K J gd lv) fs s
  refine seg_at (seg_bind_wrap ?_)
  rw [g.over]
  refine wpAny_mono (hi.run _ s σ H _ I ht) (fun v s1 h3 => ?_) fun x s' hx => (g.nox _ _ hx).elim
  rw [hs v]
  refine seg_bind_wrap (wpAny_pure (seg_bind_wrap (wpAny_standAt (seg_bind_wrap (wpAny_holding ?_)))))
  rw [g.over]
  refine wpAny_mono h3 (fun itv s2 h4 => ?_) fun x s' hx => (g.nox _ _ hx).elim
  obtain ⟨it, fp, tn, J0, H2, rfl, I2, T, st2, f2, W, ⟨m0, w0⟩, turn⟩ := h4
  refine seg_call fun p => ?_
  refine seg_forG (ip := ip) (D := D) hc hg hb g.nox g.pn g.ip g.apart ((over_loop rfl rfl).trans g.over) ?_ ?_ T (fun b hb => ?_) (fun b hb z => ?_) turn (fun c' n' ys' t₀ t f hn' hf => seg_leaf (.ok f) (k n' ys' t₀ t f hn' hf)) m0 n ys s₀ s2 σ H2 0 hn w0 (.next cn h1 h2 I I2) st2 fun b hb => (f2 b hb).1
  · show (splitAtGen fs).map _ = none
    rw [g.split]; rfl
  · show (gd false || fs.any Frame.guarded) = false
    rw [g.gd, g.guard]; rfl
  · obtain ⟨_, q1, q2, q3, q4, q5⟩ := f2 b hb
    exact ⟨q1, q2, q3, q4, fun p hp => q5 p ((List.mem_append.mp hp).elim (List.mem_append_left _) fun z => List.mem_append_right _ (List.mem_append_right _ z))⟩
  · obtain ⟨o, m⟩ := h1 b z
    exact (f2 b hb).2.2.2.2.2 (b, o) (List.mem_append_right _ (List.mem_append_left _ m)) rfl
end
end TP

namespace TP
open PySem PySem.Spec PyProof.Rows GenW L2
def cxG (P : Program) (w : World) (K : PySem.W.Frag) (mg : Str → Option Value) (base : Heap) (N : List Str) (qual : Str) (scope : Scope) (f : Addr) (cd : Value) (A : Around) (outer : List Env) (s : Shared) (H : Hp) (pn : List (Addr × Obj)) : Cx :=
  { cxOf (L2.CX P w) P w K mg base N qual scope f cd A outer s H (fun _ _ _ => False) with pn := pn, xe := fun _ _ => False }
abbrev SpI := List V → Hp → (List V → Hp → Prop) → Prop
def GDone (P : Program) (w : World) (outer : List Env) (H : Hp) (s : Shared) (S : Gst) (Q : List V → Hp → Prop) (s1 : Shared) : Prop :=
  ∃ H' ys, s1.os = s.os ∧ AllBare s1.gens ∧ Un (frs outer) [] H H' s.heap s1.heap ∧ HOk P w H' s1.heap ∧ (∀ b ∈ S.F, H' b = none) ∧ S.Cn ys s1.heap ∧ (∀ b ∈ S.F, ∃ o, s1.heap.get? b = some o ∧ ∀ v, o.data ≠ .cell v) ∧ ys.length ≤ sizeLine ∧ Q ys H'
def GStop (P : Program) (w : World) (outer : List Env) (H : Hp) (s : Shared) (S : Gst) (Q : List V → Hp → Prop) : GenEnd := fun _ _ r s1 =>
  ((r = .ok (.ret .none) ∨ r = .ok .next) ∧ GDone P w outer H s S Q s1) ∨ ∃ e, r = .error e ∧ False
def GItem (s : Shared) (S : Gst) (a : Addr) (g : Nat) : Protocol := fun n _ v s1 kap =>
  s1.os = s.os ∧ AllBare s1.gens ∧ s1.heap.NoLimit ∧ s1.heap.IsGen a g ∧ (∃ ys x, n + 1 + ys.length = sizeLine ∧ RelV x v ∧ S.Cn ys s1.heap) ∧ (∀ b ∈ S.F, ∃ o, s1.heap.get? b = some o ∧ ∀ v, o.data ≠ .cell v) ∧ ∀ s', Nap S v s1 s' → kap (.send .none) s'
def Asleep (P : Program) (w : World) (k : Nat) (outer : List Env) (H : Hp) (s : Shared) (Q : List V → Hp → Prop) (u : Value) (s' : Shared) : Prop :=
  ∃ (a : Addr) (g : Nat) (c : Code), u = .ref a ∧ s.heap.objs.size ≤ a ∧ a < s'.heap.objs.size ∧ s'.heap.IsGen a g ∧ s'.gens[g]? = some (.fresh c) ∧ s'.os = s.os ∧ AllBare s'.gens ∧ s'.heap.NoLimit ∧ (∀ b o, s.heap.get? b = some o → s'.heap.get? b = some o) ∧
    ∀ (A : Around) (S : Gst) (s2 : Shared), Room k A → A.frames = some outer → (∀ b ∈ S.F, s'.heap.objs.size ≤ b) → (∀ b o, s'.heap.get? b = some o → s2.heap.get? b = some o) → S.Cn [] s2.heap → (∀ b ∈ S.F, ∃ o, s2.heap.get? b = some o ∧ ∀ v, o.data ≠ .cell v) → s2.os = s.os → AllBare s2.gens →
      Seg (model P w) A (GStop P w outer H s S Q) (GItem s S a g) sizeLine s2 c ((model P w).den c) [] s2
structure GFnI (P : Program) (w : World) (K : PySem.W.Frag) (mg : Str → Option Value) (base : Heap) (k : Nat) (f : Addr) (fd : FuncData) (ps : List Str) (sp : SpI) : Prop where
  len : ∀ vs H Q, sp vs H Q → vs.length = ps.length
  run : ∀ (A : Around) (outer : List Env) (s : Shared) (H : Hp) (args : Args) (us : List Value) (vs : List V) (Q : List V → Hp → Prop), Room k A → Env0 P w K mg base A outer s H → BindsTo s fd args (ps.zip us) → Vals vs us → sp vs H Q →
    codeAny (model P w) A (.call (.ref f) args) (fun r s' => match r with | .ok (.ret u) => Asleep P w k outer H s Q u s' | _ => False) s
theorem GFnI.mono {P : Program} {w : World} {K : PySem.W.Frag} {mg : Str → Option Value} {base : Heap} {j k : Nat} {f : Addr} {fd : FuncData} {ps : List Str} {sp : SpI} (F : GFnI P w K mg base j f fd ps sp) (h : j ≤ k) : GFnI P w K mg base k f fd ps sp :=
  ⟨F.len, fun A outer s H args us vs Q hr e0 hb r hs => codeAny_mono (F.run A outer s H args us vs Q (hr.mono h) e0 hb r hs) fun r s' q => by
    match r, q with
    | .ok (.ret u), ⟨a, g, c, h1, h2, h3, h4, h5, h6, h7, h8, h9, wake⟩ => exact ⟨a, g, c, h1, h2, h3, h4, h5, h6, h7, h8, h9, fun A S s2 hr2 => wake A S s2 (hr2.mono h)⟩⟩
theorem gfn_body {P : Program} {w : World} {K : PySem.W.Frag} {mg : Str → Option Value} {base : Heap} {k : Nat} {f : Addr} {name qual : Str} {params : Arguments} {body : List Stmt} {scope : Scope} {dV kV doc pm cdv ct oc : Value} {an od : Option Addr}
    {osl : Array (Option Value)} {N ps : List Str} {sp : SpI} (lk : K.lookup f = some ⟨oc, od, .func (PySem.W.fnOf name qual params body scope dV kV doc pm an cdv ct), osl⟩) (hcd : PySem.W.codeIn K cdv qual = true) (G : GScope N ps scope)
    (len : ∀ vs H Q, sp vs H Q → vs.length = ps.length)
    (hbody : ∀ (A : Around) (outer : List Env) (s : Shared) (H : Hp) (vs : List V) (Q : List V → Hp → Prop) (pn : List (Addr × Obj)), Room k (A.deeper (envOfC qual scope s.heap.objs.size f cdv)) → sp vs H Q →
      ∃ t, GSts (cxG P w K mg base N qual scope f cdv A outer s H pn) body t ∧ t { nx := fun ys _ H' => Q ys H', rt := fun ys v H' => v = .non ∧ Q ys H' } [] (start N vs) H) :
    GFnI P w K mg base (k + 1) f (PySem.W.fnOf name qual params body scope dV kV doc pm an cdv ct) ps sp := by
  refine ⟨len, fun A outer s H args us vs Q hr e0 hb r hsp => ?_⟩
  have keep : ∀ b o, base.get? b = some o → s.heap.get? b = some o := fun b o e => (e0.bs b o e).1
  have KX : K.In s.heap := e0.mod.kin.keeps keep
  refine codeAny_call_generator hr.depth (KX _ _ lk) rfl G.co G.gen rfl (PySem.W.codeRec_of KX hcd) (hb _ _ _ _ (wpAny_newFunctionEnv_cells G.kind (fun y hy => ?_) fun env he s1 x => ?_))
  · exact (G.par y.1 (List.of_mem_zip hy).1).imp id fun q => ⟨q, PySem.W.cellsFrom_some _ _ _ (.inl q)⟩
  subst he
  have lim1 : s1.heap.NoLimit := (e0.mod.nolimit.keeps keep).keeps x.toInCall.keep
  refine ⟨lim1, ?_⟩
  have I0 := inv_startG (E := fun _ _ _ => False) G hr.hd e0 (len _ _ _ hsp) r x
  obtain ⟨h1, tk, es1, hk1⟩ := x.done
  have os1 : s1.os = s.os := by rw [es1]
  have gen1 : s1.gens = s.gens := by rw [es1]
  have lt1 : s.heap.objs.size < s1.heap.objs.size := x.toInCall.ns.lt
  -- the generator's object
  have main : ∀ (go : Obj) (nm qn : Value) (tk2 : Nat), go.cls = .type "generator" → go.data = .fields #[.int s1.gens.size 0, nm, qn] → go.slots = #[] → (∀ h : Heap, (h.push go).get? h.objs.size = some go) →
      Asleep P w (k + 1) outer H s Q (.ref s1.heap.objs.size) { s1 with gens := s1.gens.push (.fresh (.func body (envOfC qual scope s.heap.objs.size f cdv))), toks := tk2, heap := s1.heap.push go } := by
    intro go nm qn tk2 c1 c2 c3 c4
    have isg : ∀ h : Heap, h.get? s1.heap.objs.size = some go → h.IsGen s1.heap.objs.size s1.gens.size := fun h e => ⟨go, nm, qn, e, c1, c2, c3⟩
    refine ⟨s1.heap.objs.size, s1.gens.size, _, rfl, Nat.le_of_lt lt1, ?_, isg _ (c4 _), Array.getElem?_push_size .., os1, ?_, lim1.keeps fun b o e => Heap.get?_push_of_some _ e, fun b o e => Heap.get?_push_of_some _ (x.toInCall.keep b o e), ?_⟩
    · show _ < (s1.heap.push _).objs.size
      rw [Heap.size_push]; exact Nat.lt_succ_self _
    · exact AllBare.push (by rw [gen1]; exact e0.bare) rfl
    intro Aw S s2 hrw hfr hS hk2 hcn hth hos hba
    have e0w : Env0 P w K mg base Aw outer s H := ⟨hfr, e0.mod, e0.bs, e0.bsz, e0.funs, e0.frf, e0.hok, e0.bare⟩
    obtain ⟨t, ht, hq⟩ := hbody Aw outer s H vs Q [(s1.heap.objs.size, go)] (hrw.deeper _) hsp
    have I1 := inv_startG (E := fun _ _ _ => False) G hrw.hd e0w (len _ _ _ hsp) r x
    have kp2 : ∀ b o, s1.heap.get? b = some o → s2.heap.get? b = some o := fun b o e => hk2 b o (Heap.get?_push_of_some _ e)
    have I2 := I1.call' (s' := s2) (ch := []) (hos.trans os1.symm) (Un.kept kp2) (I1.hok.kept kp2) hba fun b z => by simp at z
    have hS1 : ∀ b ∈ S.F, s1.heap.objs.size < b := fun b hb => by
      have q := hS b hb
      have q' : (s1.heap.push go).objs.size ≤ b := q
      rw [Heap.size_push] at q'
      exact q'
    have young : ∀ b, s1.heap.objs.size ≤ b → H b = none ∧ b ≠ s.heap.objs.size ∧ b ∉ frs outer ∧ s.heap.objs.size ≤ b ∧ ∀ y c, (cellsFrom (s.heap.objs.size + 1) scope.names []).lookup y = some c → c ≠ b := fun b hb => by
      refine ⟨I1.hok.fresh hb, Nat.ne_of_gt (Nat.lt_of_lt_of_le lt1 hb), I1.nofs hb, Nat.le_trans (Nat.le_of_lt lt1) hb, fun y c e z => ?_⟩
      obtain ⟨v, ob, ho, _⟩ := I1.cell y c e
      have q := Heap.lt_size ho
      rw [z] at q
      exact absurd (Nat.lt_of_lt_of_le q hb) (Nat.lt_irrefl _)
    have goN : s1.heap.objs.size ∉ S.F := fun z => Nat.lt_irrefl _ (hS1 _ z)
    have hgo : s2.heap.get? s1.heap.objs.size = some go := hk2 _ _ (c4 _)
    have hG : GJ (cxG P w K mg base N qual scope f cdv Aw outer s H [(s1.heap.objs.size, go)]) S [] [] (start N vs) H s2 := by
      refine ⟨hcn, pinsAt S.F s2.heap, fun b hb => ?_, fun p hp => (of_pinsAt hp).1, ?_⟩
      · obtain ⟨o, e, _⟩ := hth b hb
        exact ⟨o, mem_pinsAt hb e⟩
      rw [List.append_nil]
      refine ⟨⟨I2.ok.mod, I2.ok.kind, I2.ok.glob, I2.ok.blt, I2.ok.above, I2.ok.inj, I2.ok.has, I2.ok.cab, I2.ok.hd, I2.ok.frames, I2.ok.stk, I2.ok.exf, I2.ok.bs, I2.ok.bsz, I2.ok.noex, I2.ok.exfs, I2.ok.funs, I2.ok.frf⟩, I2.os, I2.bare, I2.base, I2.loc, I2.cell, I2.free, I2.freeC, fun p hp => ?_, I2.hok, I2.len⟩
      rcases List.mem_append.mp hp with hp | hp
      · rw [List.mem_singleton.mp hp]
        obtain ⟨y1, y2, y3, _⟩ := young _ (Nat.le_refl _)
        exact ⟨hgo, y1, y2, y3, fun v q => by rw [c2] at q; cases q⟩
      · obtain ⟨hb, e⟩ := of_pinsAt hp
        obtain ⟨y1, y2, y3, _⟩ := young p.1 (Nat.le_of_lt (hS1 _ hb))
        obtain ⟨o, e', d⟩ := hth p.1 hb
        rw [e] at e'; cases e'
        exact ⟨e, y1, y2, y3, d⟩
    have gen : ∀ {ip : List (Addr × Obj)} {ys : List V} {s' : Shared} {σ' : L2.St} {H' : Hp}, GJ (cxG P w K mg base N qual scope f cdv Aw outer s H [(s1.heap.objs.size, go)]) S ip ys σ' H' s' → s'.heap.IsGen s1.heap.objs.size s1.gens.size := fun {ip ys s' σ' H'} h =>
      isg _ (h.inv.pin (s1.heap.objs.size, go) (List.mem_append_left _ (List.mem_singleton.mpr rfl))).1
    have stop : ∀ {m : Nat} {ip : List (Addr × Obj)} {ys : List V} {s' : Shared} {σ' : L2.St} {H' : Hp}, m + ys.length = sizeLine → GJ (cxG P w K mg base N qual scope f cdv Aw outer s H [(s1.heap.objs.size, go)]) S ip ys σ' H' s' → Q ys H' → GDone P w outer H s S Q s' := fun {m ip ys s' σ' H'} hm h q =>
      ⟨H', ys, h.inv.os, h.inv.bare, h.inv.base, h.inv.hok, fun b hb => (h.own b hb).1, h.1, fun b hb => (h.own b hb).2.2.2, by omega, q⟩
    refine seg_func ?_
    refine seg_imp (R := GFin (cxG P w K mg base N qual scope f cdv Aw outer s H [(s1.heap.objs.size, go)]) S (fun ys v H' => v = .non ∧ Q ys H')) (Y := GPr (cxG P w K mg base N qual scope f cdv Aw outer s H [(s1.heap.objs.size, go)]) S) (fun n s₀ r s1' hR => ?_) (fun n s₀ v s1' kap kap' hkk hY => ?_) sizeLine ?_
    · match r, hR with
      | .ok (.ret u), ⟨ys, v, ip, σ', H', hn, h, rv, ev, q⟩ =>
        subst ev
        have eu : u = Value.none := rv
        subst eu
        exact .inl ⟨.inl rfl, stop hn h q⟩
    · obtain ⟨ys, y, ip, σ', H', hn, rv, h, h3⟩ := hY
      exact ⟨h.inv.os, h.inv.bare, h.inv.nolimit, gen h, ⟨ys, y, hn, rv, h.1⟩, fun b hb => (h.own b hb).2.2.2, fun s' z => hkk _ _ (h3 s' z)⟩
    · refine ht.run Aw S [] _ sizeLine [] s2 _ [] _ _ id id s2 (start N vs) H _ ⟨fun _ _ z => z, fun p hp z => goN (by rw [List.mem_singleton.mp hp] at z; exact z), fun p hp => (by simp at hp), fun b hb => ?_, over_func, rfl, rfl, rfl⟩ (Nat.add_zero _) (fun n ys s₀ s' fl hn hs => ?_) hG hq
      · obtain ⟨_, _, _, y4, y5⟩ := young b (Nat.le_of_lt (hS1 _ hb))
        exact ⟨y4, y5⟩
      · match fl, hs with
        | .next, ⟨σ', H', h, q⟩ => exact seg_end (.ok (.ret .none)) ⟨ys, .non, [], σ', H', hn, h, rfl, rfl, q⟩
        | .ret u, ⟨v, σ', H', h, rv, q⟩ => exact seg_end (.ok (.ret u)) ⟨ys, v, [], σ', H', hn, h, rv, q⟩
        | .brk, ⟨_, _, _, q⟩ => exact q.elim
        | .cont, ⟨_, _, _, q⟩ => exact q.elim
  exact main _ _ _ _ rfl rfl rfl fun h => Heap.get?_push_size _ rfl
end TP

namespace TP
open PySem PySem.Spec PyProof.Rows GenW L2
structure GMth (P : Program) (w : World) (K : PySem.W.Frag) (mg : Str → Option Value) (base : Heap) (k : Nat) (C : Addr) (m : Str) (ps : List Str) (sp : SpI) : Prop where
  ex : ∃ (f : Addr) (fd : FuncData), Meth K C m f ∧ GFnI P w K mg base k f fd ps sp ∧ Binds K fd ps []
structure GFun (P : Program) (w : World) (K : PySem.W.Frag) (mg : Str → Option Value) (base : Heap) (k : Nat) (x : Str) (ps : List Str) (sp : SpI) : Prop where
  ex : ∃ (f : Addr) (fd : FuncData), mg x = some (.ref f) ∧ PySem.W.keepIn K (.ref f) = true ∧ GFnI P w K mg base k f fd ps sp ∧ Binds K fd ps []
section
variable {P : Program} {w : World} {K : PySem.W.Frag} {mg : Str → Option Value} {base : Heap} {C : Addr}
theorem gfn_fun {x qual : Str} {st : Stmt} {N ps : List Str} {k : Nat} {sp : SpI} {f : Addr} {fd : FuncData} (F : Fun K x qual st f fd) (S : GScope N ps (defScope st)) (len : ∀ vs H Q, sp vs H Q → vs.length = ps.length)
    (hd : ∀ (cdv : Value) (A : Around) (outer : List Env) (s : Shared) (H : Hp) (vs : List V) (Q : List V → Hp → Prop) (pn : List (Addr × Obj)), Room k (A.deeper (envOfC qual (defScope st) s.heap.objs.size f cdv)) → sp vs H Q →
      ∃ t, GSts (cxG P w K mg base N qual (defScope st) f cdv A outer s H pn) (defBody st) t ∧ t { nx := fun ys _ H' => Q ys H', rt := fun ys v H' => v = .non ∧ Q ys H' } [] (start N vs) H) : GFnI P w K mg base (k + 1) f fd ps sp := by
  obtain ⟨oc, od, kV, doc, pm, an, cdv, ct, osl, rfl, lk, hcd⟩ := F.ex
  exact gfn_body lk hcd S len fun A outer s H vs Q pn hr h => hd cdv A outer s H vs Q pn hr h
theorem FunI.okG {x : Str} {st : Stmt} {N ps : List Str} {k : Nat} {sp : SpI} (F : FunI K mg x st ps) (S : GScope N ps (defScope st)) (len : ∀ vs H Q, sp vs H Q → vs.length = ps.length) {t : TGn}
    (hd : ∀ (f : Addr) (cdv : Value) (A : Around) (outer : List Env) (s : Shared) (H : Hp) (pn : List (Addr × Obj)), Room k (A.deeper (envOfC x (defScope st) s.heap.objs.size f cdv)) → GSts (cxG P w K mg base N x (defScope st) f cdv A outer s H pn) (defBody st) t)
    (hb : ∀ (H : Hp) (vs : List V) (Q : List V → Hp → Prop), sp vs H Q → t { nx := fun ys _ H' => Q ys H', rt := fun ys v H' => v = .non ∧ Q ys H' } [] (start N vs) H) : GFun P w K mg base (k + 1) x ps sp := by
  obtain ⟨f, fd, hm, F, b⟩ := F.ex
  exact ⟨f, fd, hm, F.kp, gfn_fun F S len fun cdv A outer s H vs Q pn hr h => ⟨t, hd f cdv A outer s H pn hr, hb H vs Q h⟩, b⟩
theorem MunI.okG {m qual : Str} {st : Stmt} {N ps : List Str} {k : Nat} {sp : SpI} (F : MunI K C m qual st ps) (S : GScope N ps (defScope st)) (len : ∀ vs H Q, sp vs H Q → vs.length = ps.length) {t : TGn}
    (hd : ∀ (f : Addr) (cdv : Value) (A : Around) (outer : List Env) (s : Shared) (H : Hp) (pn : List (Addr × Obj)), Room k (A.deeper (envOfC qual (defScope st) s.heap.objs.size f cdv)) → GSts (cxG P w K mg base N qual (defScope st) f cdv A outer s H pn) (defBody st) t)
    (hb : ∀ (H : Hp) (vs : List V) (Q : List V → Hp → Prop), sp vs H Q → t { nx := fun ys _ H' => Q ys H', rt := fun ys v H' => v = .non ∧ Q ys H' } [] (start N vs) H) : GMth P w K mg base (k + 1) C m ps sp := by
  obtain ⟨f, fd, hm, F, b, _⟩ := F.ex
  exact ⟨f, fd, hm, gfn_fun F S len fun cdv A outer s H vs Q pn hr h => ⟨t, hd f cdv A outer s H pn hr, hb H vs Q h⟩, b⟩
end
structure PGenI (X : Cx) (k : Nat) (e : Expr) (tg : TGen) : Prop where
  run : ∀ (pins : List (Addr × Obj)) (s : Shared) (σ : L2.St) (H : Hp) (cont : List V → Hp → Prop), Inv X pins σ H s → tg σ H cont → wpAny (model X.prog X.w) X.A (eval e X.env)
    (fun u s' => ∃ H1 sc, Inv X pins σ H1 sc ∧ Asleep X.prog X.w k X.stack H1 sc cont u s') X.xe s
section
variable {X : Cx} {k j : Nat} {C : Addr} {ps : List Str} {sp : SpI} {x m : Str} {p pos apos : Pos} {o e : Expr} {es : List Expr} {ta : TE} {t : TA}
theorem run_gfnI {f : Addr} {fd : FuncData} {pins : List (Addr × Obj)} {σ : L2.St} {H : Hp} {s : Shared} {us : List Value} {vs : List V} {cont : List V → Hp → Prop} {E1 : Value → Shared → Prop} (F : GFnI X.prog X.w X.K X.mg X.base k f fd ps sp) (hr : Room k X.A) (hb : Binds X.K fd ps [])
    (I : Inv X pins σ H s) (r : Vals vs us) (h : sp vs H cont) : wpAny (model X.prog X.w) X.A (call (.ref f) us) (fun u s' => ∃ H1 sc, Inv X pins σ H1 sc ∧ Asleep X.prog X.w k X.stack H1 sc cont u s') E1 s := by
  have b := hb s us I.kIn (by rw [List.append_nil, ← r.length]; exact F.len _ _ _ h)
  rw [List.append_nil] at b
  refine wpAny_call (codeAny_mono (F.run X.A X.stack s H ⟨us, []⟩ us vs cont hr I.env0 b r h) fun r s' hq => ?_)
  match r, hq with
  | .ok (.ret u), hq => exact ⟨H, s, I, hq⟩
def tCallI (sp : SpI) (t : TA) : TGen := fun σ H cont => t σ H fun vs H1 => sp vs H1 cont
theorem pgi_call0 (I : GFun X.prog X.w X.K X.mg X.base k x ps sp) (hr : Room j X.A) (hk : k ≤ j) (hg : Gl X x := by rfl) (hdb : (x == ("__debug__" : Str)) = false := by decide) :
    PGenI X j (.Call (.Name x p) [] [] pos) (tCallI sp tNil) := by
  obtain ⟨f, fd, hm, kp, F, b⟩ := I.ex
  refine ⟨fun pins s σ H cont I h => wpAny_Call_Name_kw (ld_glob I hg hm ?_ hdb)⟩
  exact PySem.W.callWith_K0 I.kIn kp (run_gfnI (us := []) (F.mono hk) hr b I .nil h)
end
def lcGst (D L : Addr) : Gst where
  F := [D, L]
  Cn := fun ys h => (∃ acc c, Vals ys acc.toList ∧ h.get? D = some (lstObj acc c)) ∧ ∃ m, h.Ns L m
  mv := fun ys h h' k q => by
    obtain ⟨⟨acc, c, r, e⟩, m, n⟩ := q
    exact ⟨⟨acc, c, r, k D (by simp) _ e⟩, m, n.at fun o e => k L (by simp) o e⟩
theorem ns_obj {h : Heap} {a : Addr} {m : Str → Option Value} (n : h.Ns a m) : ∃ o, h.get? a = some o ∧ ∀ v, o.data ≠ .cell v := by
  obtain ⟨o, es, ep, e, d, _⟩ := n
  exact ⟨o, e, fun v z => by rw [d] at z; cases z⟩
section
variable {X : Cx} {k : Nat} {x : Str} {px pe pos : Pos} {iter : Expr} {scope : Scope} {own : List (Str × Nat)} {tg : TGen}
theorem lcG_core {pins : List (Addr × Obj)} {s : Shared} {σ : L2.St} {H : Hp} {Q : VK} {pos' : Pos} {use : Option (Value → Sem Unit)} {Qf : Value → Shared → Prop} (hi : PGenI X k iter tg) (ok : BlkOk X.N X.env.scope scope own) (hx : scope.names.lookup x = some .local) (hr : Room (k + 1) X.A) (hs : ∀ v, foldedSetIterable iter X.env v = pure v) (hdb : (x == ("__debug__" : Str)) = false)
    (I : Inv X pins σ H s) (h : tListG tg σ H Q) (hRR : ∀ D C s' m H', Inv X pins σ H' s' → Q (.ref D) H' → s'.heap.Ns C m → FpOk X pins H' C → compPost (model X.prog X.w) X.A X.xe use Qf (.ref D) C (.ok .next) s') :
    wpAny (model X.prog X.w) X.A (comprehension (.ListComp (.Name x pe) [⟨.Name x px, iter, [], 0⟩] scope pos) scope X.env pos' (newList []) false (eval iter X.env) use) Qf X.xe s := by
  have hfree : ∀ y ∈ scope.names, y.2 = .free → ∃ c, X.env.cells.lookup y.1 = some c := fun y hy e => (ok.free y hy e).elim (fun q => I.ok.has _ (.inl q)) fun q => I.ok.has _ (.inr q)
  refine wpAny_comprehension_free (use := use) rfl hs (closure_ok hfree) ok.kind (fun y hy e => by rw [ok.uniq y hy, e]) (thn (hi.run pins s σ H _ I h) fun u s1 ⟨H1, sc, I1, hG⟩ => ?_)
  obtain ⟨a, g, c, rfl, ha1, ha2, hg, hgs, hos, hb, hl, hkp, wake⟩ := hG
  refine wpAny_pyIter_gen hg (wpAny_newObj_type (newEnv_comp ?_) (by show 0 ≤ sizeLine; decide))
  generalize eD : s1.heap.objs.size = D
  generalize e2 : s1.heap.push { cls := .type "list", data := .seq ([] : List Value).toArray } = h2
  have s2z : h2.objs.size = D + 1 := by rw [← e2, Heap.size_push, eD]
  generalize eL : h2.objs.size = L
  have hDL : D ≠ L := by omega
  show codeAny _ _ (.compStart (.ListComp (.Name x pe) [⟨.Name x px, iter, [], 0⟩] scope pos) 0 (.ref a) (.ref D) (compEnvC scope (cellsFrom (L + 1) scope.names (cloFrom X.env.cells scope.names [])) L X.env)) (compPost (model X.prog X.w) X.A X.xe use _ (.ref D) L) { s1 with heap := pushCells (h2.push { cls := .type "dict", data := .dict #[] }) scope.names }
  generalize ece : compEnvC scope (cellsFrom (L + 1) scope.names (cloFrom X.env.cells scope.names [])) L X.env = ce
  have cL : ce.locals = L := by rw [← ece]; rfl
  have cK : ce.scope.kind = .function := by rw [← ece]; exact ok.kind
  have cX : ce.kindOf x = some .local := by
    rw [← ece]
    exact lookup_relS_keep (sc := X.env.scope) (by decide) hx
  have cP : (ce.scope.kind == .class || (ce.scope.kind == .module && ce.locals != ce.globals)) = false := by rw [cK]; rfl
  generalize eh4 : pushCells (h2.push { cls := .type "dict", data := .dict #[] }) scope.names = h4
  have k12 : ∀ b o, s1.heap.get? b = some o → h2.get? b = some o := fun b o e => by rw [← e2]; exact Heap.get?_push_of_some _ e
  have k24 : ∀ b o, h2.get? b = some o → h4.get? b = some o := fun b o e => by rw [← eh4]; exact pushCells_keeps _ _ _ _ (Heap.get?_push_of_some _ e)
  have oD : h4.get? D = some (lstObj #[] 0) := k24 _ _ (by rw [← e2, ← eD]; exact Heap.get?_push_size _ rfl)
  have nL : h4.Ns L fun _ => none := by rw [← eh4, ← eL]; exact (Heap.Ns.new ..).keeps fun b o e => pushCells_keeps _ _ _ _ e
  have aD : a ≠ D := by rw [← eD]; exact Nat.ne_of_lt ha2
  have aL : a ≠ L := by
    have q : a < D := by rw [← eD]; exact ha2
    have q2 : D < L := by omega
    exact Nat.ne_of_lt (Nat.lt_trans q q2)
  have hcl : cStatics < s1.heap.objs.size := let ⟨_, hn, _⟩ := hl; hn.lt
  have hcl' : cStatics < D := by rw [← eD]; exact hcl
  have cD : cStatics ≠ D := Nat.ne_of_lt hcl'
  have cL' : cStatics ≠ L := by
    have q : D < L := by omega
    exact Nat.ne_of_lt (Nat.lt_trans hcl' q)
  have mD : D ∈ (lcGst D L).F := List.mem_cons_self
  have mL : L ∈ (lcGst D L).F := List.mem_cons_of_mem _ List.mem_cons_self
  have notF : ∀ {b}, b ∉ (lcGst D L).F → b ≠ D ∧ b ≠ L := fun {b} z => ⟨fun e => z (e ▸ mD), fun e => z (e ▸ mL)⟩
  have inF : ∀ {b}, b ∈ (lcGst D L).F → b = D ∨ b = L := fun {b} z => by
    have z' : b ∈ [D, L] := z
    simpa using z'
  have dsz : sc.heap.objs.size ≤ D := by rw [← eD]; exact Nat.le_trans ha1 (Nat.le_of_lt ha2)
  have loop : codeAny (model X.prog X.w) X.A (.compLoop (.ListComp (.Name x pe) [⟨.Name x px, iter, [], 0⟩] scope pos) 0 (.ref a) (.ref D) ce) (compPost (model X.prog X.w) X.A X.xe use Qf (.ref D) L) { s1 with heap := h4 } := by
    refine compLoop_any (fun n s' => s'.heap.IsGen a g ∧ s'.heap.NoLimit ∧ ∃ gs, s'.gens[g]? = some gs ∧ gs.Goes (model X.prog X.w) X.A.in1 (GStop X.prog X.w X.stack H1 sc (lcGst D L) (fun out H2 => ∀ p, H2 p = none → Q (.ref p) (upd H2 p (.lst out)))) (GItem sc (lcGst D L) a g) n (.send .none) (s'.setGen g .running))
      ?_ sizeLine ⟨hg.keeps fun b o e => k24 _ _ (k12 _ _ e), hl.keeps fun b o e => k24 _ _ (k12 _ _ e), _, hgs, rfl, ?_⟩
    · rintro n s3 ⟨hg3, hl3, gs, hgs3, hgo⟩
      have hgl : g < s3.gens.size := (Array.getElem?_eq_some_iff.mp hgs3).1
      refine wpAny_gsz (n := g + 1) hgl (next_genG (A := X.A) (F := fun _ _ s1 => GDone X.prog X.w X.stack H1 sc (lcGst D L) (fun out H2 => ∀ p, H2 p = none → Q (.ref p) (upd H2 p (.lst out))) s1) (Er := fun _ _ => False) hr.hd hl3 (by have := hr.dp; omega) hg3 hgs3 hgo (fun v s4 gs' hbare hv hsz => ?_) (fun s4 hp h' hk hsz => ?_) fun _ _ z => z.elim)
      · obtain ⟨os4, hb4, hl4, hg4, ⟨ys, y, hn, rv, ⟨acc, cc, rva, eacc⟩, m, hns⟩, hth, hk⟩ := hv
        have hacc : acc.size = ys.length := by have q := rva.length; simp at q; omega
        refine wpAny_of_eq (rfl : letOwnedTupleGo (.Name x px) (.ref a) v = pure ()) ?_
        refine wpAny_assign_Name (wpAny_storeName_local cX (m := m) (by rw [cL]; exact hns) (fun h5 hn5 sb5 => ?_) cP)
        rw [cL] at hn5 sb5
        refine wpAny_tests_nil ?_
        rw [if_pos rfl]
        refine wpAny_Name (wpAny_loadName_local cK cX (by rw [cL]; exact hn5) (v := v) (by simp) ?_) hdb
        have eacc5 : h5.get? D = some (lstObj acc cc) := (sb5.2 D hDL).trans eacc
        refine append_at (its := acc) (n := cc) eacc5 (fun h6 sb6 e6 => ?_) (by omega)
        have keep6 : ∀ b o, b ∉ (lcGst D L).F → s4.heap.get? b = some o → h6.get? b = some o := fun b o hbF e => (sb6.2 b (notF hbF).1).trans ((sb5.2 b (notF hbF).2).trans e)
        have ns6 : h6.Ns L (fun z => if z = x then some v else m z) := hn5.sameBut sb6 (Ne.symm hDL)
        have gz : g < s4.gens.size := by
          have q : (s4.setGen g gs').gens.size = s4.gens.size := setGen_size _ _ _
          have q2 : g + 1 ≤ (s4.setGen g gs').gens.size := hsz
          omega
        have nap : Nap (lcGst D L) v s4 ({ ({ (s4.setGen g gs') with heap := h5, toks := (s4.setGen g gs').toks + 1 } : Shared) with heap := h6 }.setGen g .running) := by
          refine ⟨rfl, allBare_setGen (s := { s4.setGen g gs' with heap := h6, toks := (s4.setGen g gs').toks + 1 }) (allBare_setGen hb4 hbare) rfl, keep6, fun b hb => ?_, fun ys' y' r' ⟨⟨acc', cc', rva', eacc'⟩, _⟩ => ⟨⟨acc.push v, cc + 1, ?_, e6⟩, _, ns6⟩⟩
          · rcases inF hb with rfl | rfl
            · exact ⟨_, e6, fun v z => by cases z⟩
            · exact ns_obj ns6
          · rw [eacc] at eacc'
            cases eacc'
            rw [Array.toList_push]
            exact rva'.append (.cons r' .nil)
        have go := hk _ nap
        cases n with
        | zero => exact go.elim
        | succ n =>
          refine ⟨n, Nat.lt_succ_self n, ?_, ?_, gs', setGen_at gz, go⟩
          · obtain ⟨o, nm, qn, ho, r⟩ := hg4
            exact ⟨o, nm, qn, keep6 a o (fun z => (inF z).elim aD aL) ho, r⟩
          · obtain ⟨mc, hns4, hnn⟩ := hl4
            exact ⟨mc, hns4.at' fun o e => keep6 _ o (fun z => (inF z).elim cD cL') e, hnn⟩
      · obtain ⟨H', ys, os4, hb4, un, hok, hF, ⟨⟨acc, cc, rva, eacc⟩, m, hns⟩, hth, hle, hQ⟩ := hp
        have J := I1.drained (s' := { s4.setGen g .finished with heap := h' }) (S := D) (ex := []) dsz hle (hk D _ eacc) rva ExOk.nil os4 (allBare_setGen hb4 rfl) (un.trans (Un.kept hk)) (hok.kept hk) (hF D mD)
        have f := I1.fpOk (b := L) (H' := upd H' D (.lst ys)) (by omega) (by rw [upd_ne (Ne.symm hDL)]; exact hF L mL)
        exact hRR D L _ m _ J (hQ D (hF D mD)) (hns.keeps hk) f
    · refine wake X.A.in1 (lcGst D L) _ hr.in1 (by rw [← I1.ok.frames]) (fun b hb => ?_) (fun b o e => k24 _ _ (k12 _ _ e)) ⟨⟨#[], 0, .nil, oD⟩, _, nL⟩ (fun b hb => ?_) hos (allBare_setGen (s := { s1 with heap := h4 }) hb rfl)
      · rcases inF hb with rfl | rfl <;> omega
      · rcases inF hb with rfl | rfl
        · exact ⟨_, oD, fun v z => by cases z⟩
        · exact ns_obj nL
  exact codeAny_compStart_list loop (wpAny_pyIter_gen (hg.keeps fun b o e => k24 _ _ (k12 _ _ e)) loop)
theorem pe_lcG (hi : PGenI X k iter tg) (ok : BlkOk X.N X.env.scope scope own) (hx : scope.names.lookup x = some .local) (hr : Room (k + 1) X.A) (hs : ∀ v, foldedSetIterable iter X.env v = pure v := by intro _; rfl) (hdb : (x == ("__debug__" : Str)) = false := by decide) :
    PE X (.ListComp (.Name x pe) [⟨.Name x px, iter, [], 0⟩] scope pos) (tListG tg) := by
  refine ⟨fun pins s σ H Q I h => ?_⟩
  rw [eval_ListComp]
  refine lcG_core hi ok hx hr hs hdb I h fun D C s' m H' I' q hn f => ⟨m, hn, fun h'' sb => ?_⟩
  obtain ⟨f0, f1, f2, f3, f4, f5⟩ := f
  exact ⟨.ref D, H', I'.turned (t' := s'.toks) (fun b o hb e => (sb.2 b hb).trans e) f0 f1 f3 f4 f5, rfl, q⟩
theorem ps_setLcG {i : Nat} {y : Str} {py spos : Pos} (hN : X.N.Nodup) (hy : X.N[i]? = some y) (hyl : X.env.scope.names.lookup y = some .local)
    (hsw : swapsWith (.ListComp (.Name x pe) [⟨.Name x px, iter, [], 0⟩] scope pos) (some (.Name y py)) spos.line X.env = pure true) (hi : PGenI X k iter tg) (ok : BlkOk X.N X.env.scope scope own) (hx : scope.names.lookup x = some .local) (hr : Room (k + 1) X.A)
    (hs : ∀ v, foldedSetIterable iter X.env v = pure v := by intro _; rfl) (hdb : (x == ("__debug__" : Str)) = false := by decide) :
    PS X (.Assign [.Name y py] (.ListComp (.Name x pe) [⟨.Name x px, iter, [], 0⟩] scope pos) spos) (tAsg (tListG tg) (gName i)) := by
  refine ⟨fun pins s σ H Dn I h => ?_⟩
  rw [exec_Assign_Name_used _ _ _ _ hsw]
  refine wpAny_bind (wpAny_standAt (wpAny_bind ?_))
  show wpAny _ X.A (do let _ ← comprehension (.ListComp (.Name x pe) [⟨.Name x px, iter, [], 0⟩] scope pos) scope X.env (firstIterPos [⟨.Name x px, iter, [], 0⟩] pos) (newList []) false (eval iter X.env) (some (assign (.Name y py) X.env))) _ _ s
  have h : tListG tg σ H (fun x H1 => gName i x σ H1 Dn.nx) := h
  refine wpAny_bind (thn (lcG_core (Qf := fun _ s' => SP X pins Dn .next s') hi ok hx hr hs hdb I h fun D C s' m H' I' q hn f => ?_) fun _ s' hq => wpAny_pure (wpAny_pure hq))
  refine wpAny_assign_Name (store_ok2 (v := V.ref D) I' hN hy (.inl hyl) rfl (fun s2 I2 ⟨a, sb, ha⟩ => ?_) (.inr hyl))
  obtain ⟨f0, f1, f2, f3, f4, f5⟩ := f
  have hCa : C ≠ a := by
    rcases ha with z | z
    · rw [z]; exact f1
    · exact fun e => f4 y a z e.symm
  exact ⟨m, hn.sameBut sb hCa, fun h3 sb3 => ⟨_, H', I2.turned (t' := s2.toks) (fun b o hb e => (sb3.2 b hb).trans e) f0 f1 f3 f4 f5, q⟩⟩
end
end TP

namespace MR
open PySem PySem.Spec PyProof.Rows L2 TP
inductive GFl where
  | nx (δ : Env) (Y : List D) | rt (d : D) (Y : List D) | bk (δ : Env) (Y : List D) | ct (δ : Env) (Y : List D)
abbrev MGn := Env → List D → Sto → Out GFl
section
variable (K : PySem.W.Frag) (Γ : Nat → Addr) (xa : XT)
def PostG (o : Out GFl) (w0 w : Wd) (Dn : GEnds) : Prop := match o with
  | .ok (.nx δ Y) S => ∀ w' σ ys, w'.S = S → Ok K Γ w' → Ev w0 w' → Gr w w' → EnvOk K Γ xa w0 w' σ δ → Reps K Γ w' Y ys → Dn.nx ys σ w'.H
  | .ok (.rt d Y) S => ∀ w' v ys, w'.S = S → Ok K Γ w' → Ev w0 w' → Gr w w' → Rep K Γ w' d v → Reps K Γ w' Y ys → Dn.rt ys v w'.H
  | .ok (.bk δ Y) S => ∀ w' σ ys, w'.S = S → Ok K Γ w' → Ev w0 w' → Gr w w' → EnvOk K Γ xa w0 w' σ δ → Reps K Γ w' Y ys → Dn.bk ys σ w'.H
  | .ok (.ct δ Y) S => ∀ w' σ ys, w'.S = S → Ok K Γ w' → Ev w0 w' → Gr w w' → EnvOk K Γ xa w0 w' σ δ → Reps K Γ w' Y ys → Dn.ct ys σ w'.H
  | _ => False
structure SimG (tg : TGn) (mg : MGn) : Prop where
  run : ∀ (w0 w : Wd) (σ : L2.St) (δ : Env) (Dn : GEnds) (Y : List D) (ys : List V), Ok K Γ w → Ev w0 w → EnvOk K Γ xa w0 w σ δ → Reps K Γ w Y ys → PostG K Γ xa (mg δ Y w.S) w0 w Dn → tg Dn ys σ w.H
end
def bndY {α : Type} (o : Out α) (f : α → Sto → Out GFl) : Out GFl := match o with
  | .ok a S => f a S
  | _ => .bad
section
variable {K : PySem.W.Frag} {Γ : Nat → Addr} {xa : XT} {te ta tb : TE} {me ma mb : ME} {w w' w0 w1 : Wd} {t u : TT} {mt mu : MT} {ts us : TS} {ms mus : MS} {Dn : GEnds} {tl : TA} {ml : MA} {wi : TI} {mi : MA} {ga gb : TGn} {na nb : MGn}
theorem PostG.gr {o : Out GFl} (h : PostG K Γ xa o w0 w Dn) (g : Gr w w') : PostG K Γ xa o w0 w' Dn := by
  cases o with
  | ok f S => cases f <;> exact fun w1 σ ys hs ho he hg => h w1 σ ys hs ho he (g.trans hg)
  | ex => exact h
  | bad => exact h
theorem PostG.then {α : Type} {o : Out α} {σ : L2.St} {f : α → Sto → Out GFl} {ok : α → Wd → Prop} (h : PostG K Γ xa (bndY o f) w0 w Dn)
    (g : ∀ a w', Ok K Γ w' → Ev w w' → PostG K Γ xa (f a w'.S) w0 w' Dn → ok a w') : Post K Γ o w ok (XW K Γ noW σ) := by
  cases o with
  | ok a S => exact fun w1 hs ho he => g a w1 ho he (by subst hs; exact PostG.gr h he.gr)
  | ex c ns ds S => exact False.elim h
  | bad => exact h
def mGPlain (ms : MS) : MGn := fun δ Y S => match ms δ S with
  | .ok (.nx δ) S => .ok (.nx δ Y) S
  | .ok (.rt d) S => .ok (.rt d Y) S
  | .ok (.bk δ) S => .ok (.bk δ Y) S
  | .ok (.ct δ) S => .ok (.ct δ Y) S
  | _ => .bad
theorem sim_gplain (h : SimS K Γ xa noW ts ms) : SimG K Γ xa (tPlain ts) (mGPlain ms) := ⟨fun w0 w σ δ Dn Y ys o e n r p => by
  refine h.run w0 w σ δ (Dn.at ys) o e n ?_
  unfold mGPlain at p
  cases z : ms δ w.S with
  | ok f S =>
    rw [z] at p
    cases f with
    | nx δ' => exact fun w' σ' hs ho he hg hn => p w' σ' ys hs ho he hg hn (Reps.gr r hg)
    | rt d => exact fun w' v hs ho he hg rv => p w' v ys hs ho he hg rv (Reps.gr r hg)
    | bk δ' => exact fun w' σ' hs ho he hg hn => p w' σ' ys hs ho he hg hn (Reps.gr r hg)
    | ct δ' => exact fun w' σ' hs ho he hg hn => p w' σ' ys hs ho he hg hn (Reps.gr r hg)
    | ex => exact False.elim p
  | ex => rw [z] at p; exact False.elim p
  | bad => rw [z] at p; exact False.elim p⟩
def mYNil : MGn := fun δ Y S => .ok (.nx δ Y) S
theorem sim_ynil : SimG K Γ xa tG0 mYNil := ⟨fun w0 w σ δ Dn Y ys o e n r p => p w σ ys rfl o e (Gr.refl w) n r⟩
def mGThen (a b : MGn) : MGn := fun δ Y S => match a δ Y S with
  | .ok (.nx δ Y) S => b δ Y S
  | o => o
theorem sim_gthen (ha : SimG K Γ xa ga na) (hb : SimG K Γ xa gb nb) : SimG K Γ xa (tGThen ga gb) (mGThen na nb) := ⟨fun w0 w σ δ Dn Y ys o e n r p => by
  refine ha.run w0 w σ δ _ Y ys o e n r ?_
  unfold mGThen at p
  cases z : na δ Y w.S with
  | ok f S =>
    rw [z] at p
    cases f with
    | nx δ' Y' => exact fun w' σ' ys' hs ho he hg hn hr => hb.run w0 w' σ' δ' Dn Y' ys' ho he hn hr (by rw [hs]; exact PostG.gr p hg)
    | rt d Y' => exact p
    | bk δ' Y' => exact p
    | ct δ' Y' => exact p
  | ex => rw [z] at p; exact False.elim p
  | bad => rw [z] at p; exact False.elim p⟩
def mGYield (me : ME) : MGn := fun δ Y S => if Y.length < 1000000 then bndY (me δ S) fun d S => .ok (.nx δ (Y ++ [d])) S else .bad
theorem sim_gyield (he : SimE K Γ xa noW te me) : SimG K Γ xa (tGYield te) (mGYield me) := ⟨fun w0 w σ δ Dn Y ys o e n r p => by
  unfold mGYield at p
  split at p
  · rename_i hl
    refine ⟨?_, ?_⟩
    · rw [← reps_len r]
      exact Nat.lt_of_lt_of_le hl (by decide)
    · exact he.run w0 w σ δ _ o e n (p.then fun d w1 o1 e1 p1 v rv => p1 w1 σ (ys ++ [v]) rfl o1 (e.trans e1) (Gr.refl w1) (n.ev e1) (reps_app (Reps.ev r e1) (reps_cons rv reps_nil)))
  · exact False.elim p⟩
def mGLoop (mg : MG) (ms : MGn) : List D → Env → List D → Sto → Out GFl
  | [], δ, Y, S => .ok (.nx δ Y) S
  | d :: ds, δ, Y, S => match mg d δ with
    | none => .bad
    | some δ1 => match ms δ1 Y S with
      | .ok (.nx δ2 Y2) S2 => mGLoop mg ms ds δ2 Y2 S2
      | .ok (.ct δ2 Y2) S2 => mGLoop mg ms ds δ2 Y2 S2
      | .ok (.bk δ2 Y2) S2 => .ok (.nx δ2 Y2) S2
      | o => o
def mGFor (mi : MA) (mg : MG) (ms : MGn) : MGn := fun δ Y S => bndY (mi δ S) fun ds S => mGLoop mg ms ds δ Y S
variable {vs : List Nat} {tg : TG} {mg : MG}
theorem sim_gfor (hi : SimI K Γ xa Gr noW wi mi) (hg : SimN K Γ xa vs tg mg) (hb : SimG K Γ xa ga na) : SimG K Γ xa (tGFor wi tg ga) (mGFor mi mg na) := ⟨fun w0 w σ δ Dn Y ys o e n r p =>
  hi.run w0 w σ δ _ o e n (p.then fun ds w1 o1 e1 p1 J it => by
    refine ⟨fun i m zs σ H => m = ds.length - i ∧ i ≤ ds.length ∧ ∃ w' δ' Z, w'.H = H ∧ Ok K Γ w' ∧ Ev w0 w' ∧ Gr w1 w' ∧ EnvOk K Γ xa w0 w' σ δ' ∧ Reps K Γ w' Z zs ∧ PostG K Γ xa (mGLoop mg na (ds.drop i) δ' Z w'.S) w0 w' Dn,
      ⟨_, rfl, Nat.zero_le _, w1, δ, Y, rfl, o1, e.trans e1, Gr.refl _, n.ev e1, Reps.ev r e1, p1⟩, ?_⟩
    rintro i m zs σ' H ⟨rfl, hi, w', δ', Z, rfl, o', e', g', n', r', p'⟩
    rcases Nat.lt_or_ge i ds.length with hlt | hge
    · refine .inr ⟨it.go w' i o' g' hlt, _, fun _ _ _ h => h, fun x H' y => ?_⟩
      obtain ⟨w2, d, rfl, hs2, o2, e2, hd, rx⟩ := it.yld w' i x H' o' g' hlt y
      have hdr : ds.drop i = d :: ds.drop (i + 1) := by
        rw [List.drop_eq_getElem_cons hlt]
        exact congrArg (· :: _) (Option.some.inj ((List.getElem?_eq_getElem hlt).symm.trans hd))
      rw [hdr] at p'
      unfold mGLoop at p'
      refine hg.run w0 w2 σ' δ' d x _ o2 (n'.ev e2) rx ?_
      cases zg : mg d δ' with
      | none => rw [zg] at p'; exact p'
      | some δ1 =>
        rw [zg] at p'
        intro σ1 n1 _ _
        refine hb.run w0 w2 σ1 δ1 _ Z zs o2 (e'.trans e2) n1 (Reps.ev r' e2) ?_
        have p2 := PostG.gr p' e2.gr
        rw [← hs2] at p2
        dsimp only at p2
        have m1 : ds.length - (i + 1) < ds.length - i := by omega
        have on : ∀ δ2 Y2 S2, PostG K Γ xa (mGLoop mg na (ds.drop (i + 1)) δ2 Y2 S2) w0 w2 Dn → ∀ w3 σ3 zs3, w3.S = S2 → Ok K Γ w3 → Ev w0 w3 → Gr w2 w3 → EnvOk K Γ xa w0 w3 σ3 δ2 → Reps K Γ w3 Y2 zs3 →
            ∃ m', m' < ds.length - i ∧ (m' = ds.length - (i + 1) ∧ i + 1 ≤ ds.length ∧ ∃ w' δ' Z, w'.H = w3.H ∧ Ok K Γ w' ∧ Ev w0 w' ∧ Gr w1 w' ∧ EnvOk K Γ xa w0 w' σ3 δ' ∧ Reps K Γ w' Z zs3 ∧ PostG K Γ xa (mGLoop mg na (ds.drop (i + 1)) δ' Z w'.S) w0 w' Dn) :=
          fun δ2 Y2 S2 pp w3 σ3 zs3 hs ho he hgr hn hr => ⟨_, m1, rfl, hlt, w3, δ2, Y2, rfl, ho, he, g'.trans (e2.gr.trans hgr), hn, hr, by rw [hs]; exact PostG.gr pp hgr⟩
        cases zm : na δ1 Z w2.S with
        | ok f S2 =>
          rw [zm] at p2
          cases f with
          | nx δ2 Y2 => exact on δ2 Y2 S2 p2
          | ct δ2 Y2 => exact on δ2 Y2 S2 p2
          | bk δ2 Y2 => exact p2
          | rt d2 Y2 => exact p2
        | ex => rw [zm] at p2; exact p2
        | bad => rw [zm] at p2; exact p2
    · have hi' : i = ds.length := by omega
      subst hi'
      rw [List.drop_length] at p'
      exact .inl ⟨it.stop w' o' g', p' w' σ' zs rfl o' e' (Gr.refl w') n' r'⟩)⟩
abbrev MFY := List D → Sto → Out (List D)
def mRunY (N : Nat) (mg : MGn) : MFY := fun ds S => match mg (startD N ds) [] S with
  | .ok (.nx _ Y) S => .ok Y S
  | .ok (.rt .non Y) S => .ok Y S
  | _ => .bad
def spY (K : PySem.W.Frag) (Γ : Nat → Addr) (n : Nat) (m : MFY) : SpI := fun vs H cont => ∃ (w : Wd) (ds : List D), w.H = H ∧ Ok K Γ w ∧ Reps K Γ w ds vs ∧ ds.length = n ∧ Post K Γ (m ds w.S) w (fun Y w' => ∀ ys, Reps K Γ w' Y ys → cont ys w'.H) (fun _ _ _ _ => False)
variable {n : Nat} {m : MFY}
theorem spY_len {vs : List V} {H : Hp} {cont : List V → Hp → Prop} (h : spY K Γ n m vs H cont) : vs.length = n := by
  obtain ⟨w, ds, _, _, h3, h4, _⟩ := h
  rw [← reps_len h3]; exact h4
theorem spY_run {N : List Str} {vs : List V} {H : Hp} {cont : List V → Hp → Prop} (hb : SimG K Γ xa ga na) (h : spY K Γ n (mRunY N.length na) vs H cont) : ga { nx := fun ys _ H' => cont ys H', rt := fun ys v H' => v = .non ∧ cont ys H' } [] (start N vs) H := by
  obtain ⟨w, ds, rfl, o, r, hn, p⟩ := h
  refine hb.run w w _ _ _ [] [] o (Ev.refl w) (startD_ok r) reps_nil ?_
  unfold mRunY at p
  cases z : na (startD N.length ds) [] w.S with
  | ex => rw [z] at p; exact False.elim p
  | bad => rw [z] at p; exact False.elim p
  | ok f S =>
    rw [z] at p
    cases f with
    | nx δ Y => exact fun w' σ ys hs ho he hg hn hr => p w' hs ho he ys hr
    | rt d Y =>
      cases d with
      | non => exact fun w' v ys hs ho he hg rv hr => ⟨rep_non rv, p w' hs ho he ys hr⟩
      | _ => exact False.elim p
    | bk => exact False.elim p
    | ct => exact False.elim p
structure SimGE (K : PySem.W.Frag) (Γ : Nat → Addr) (xa : XT) (tg : TGen) (my : MA) : Prop where
  run : ∀ (w0 w : Wd) (σ : L2.St) (δ : Env) (cont : List V → Hp → Prop), Ok K Γ w → Ev w0 w → EnvOk K Γ xa w0 w σ δ → Post K Γ (my δ w.S) w (fun Y w' => ∀ ys, Reps K Γ w' Y ys → cont ys w'.H) (fun _ _ _ _ => False) → tg σ w.H cont
def mCallY (m : MFY) (ml : MA) : MA := fun δ S => bnd (noX (ml δ S)) fun ds S => m ds S
theorem sim_callY {W : WX} (h : SimA K Γ xa W n tl ml) : SimGE K Γ xa (tCallI (spY K Γ n m) tl) (mCallY m ml) := ⟨fun w0 w σ δ cont o e nn p =>
  h.run w0 w σ δ _ o e nn ((post_len (Post.noX (p.then (ok' := fun ds w1 => Ok K Γ w1 ∧ Post K Γ (m ds w1.S) w1 (fun Y w' => ∀ ys, Reps K Γ w' Y ys → cont ys w'.H) (fun _ _ _ _ => False)) fun ds w1 o1 e1 p1 => ⟨o1, p1⟩))).mono (fun ds w1 o1 e1 q vs rs => by
    obtain ⟨⟨S, hS⟩, _, p1⟩ := q
    exact ⟨w1, ds, rfl, o1, rs, h.len _ _ _ _ hS, p1⟩) fun _ _ _ _ _ _ x => x)⟩
def mLcY (my : MA) : ME := fun δ S => match my δ S with
  | .ok Y S => if Y.length ≤ 1000000 then .ok (.lst Y) S else .bad
  | _ => .bad
theorem sim_lcY {W : WX} {tg : TGen} {my : MA} (h : SimGE K Γ xa tg my) : SimF K Γ xa W (tListG tg) (mLcY my) := ⟨fun w0 w σ δ Q o e n p => by
  refine h.run w0 w σ δ _ o e n ?_
  unfold mLcY at p
  cases z : my δ w.S with
  | ok Y S =>
    rw [z] at p
    dsimp only at p
    split at p
    · rename_i hl
      refine fun w1 hs o1 e1 ys r pp hp => ?_
      have hl' : ys.length ≤ sizeLine := by
        rw [← reps_len r]; exact Nat.le_trans hl (by decide)
      have ev := ev_put (o := .lst ys) (Ev.refl w1) hp
      exact p (wPut w1 pp (.lst ys)) hs (ok_put o1 (r_none o1 hp) (not_live o1 hp)) (e1.trans ev) _ (own_back e1 (own_new o1 hp ⟨ys, upd_same, hl', Reps.ev r ev⟩))
    · exact False.elim p
  | ex => rw [z] at p; exact False.elim p
  | bad => rw [z] at p; exact False.elim p⟩
end
end MR

namespace TP
open PySem PySem.Spec PyProof.Rows L2
open Sem (wp)
end TP

namespace MR
open PySem PySem.Spec PyProof.Rows L2 TP
section
variable {K : PySem.W.Frag} {Γ : Nat → Addr} {xa : XT} {W : WX} {w : Wd} {tl : TA} {ml : MA}
end
end MR

namespace TP
open PySem PySem.Spec PyProof.Rows L2
end TP

namespace MR
open PySem PySem.Spec PyProof.Rows L2 TP
section
variable {K : PySem.W.Frag} {Γ : Nat → Addr}
end
end MR

namespace TP
open PySem PySem.Spec PyProof.Rows L2
section
variable {X : Cx} {k j : Nat} {C : Addr} {sp : Sp} {W : WX} {m : Str} {pos apos : Pos} {o : Expr} {ta : TE}
end
end TP

namespace MR
open PySem PySem.Spec PyProof.Rows L2 TP
section
variable {K : PySem.W.Frag} {Γ : Nat → Addr} {xa : XT} {W : WX} {w : Wd} {te : TE} {me : ME}
def mExtend (i : Nat) (me : ME) : MS := fun δ S => match δ[i]? with
  | some (.own fb (.lst ds)) => bndS (me δ S) δ fun d S => match d with
    | .lst es => if ds.length + es.length ≤ 16777216 then .ok (.nx (δ.set i (.own fb (.lst (ds ++ es))))) S else .bad
    | _ => .bad
  | _ => .bad
theorem sim_extend {i : Nat} (h : SimF K Γ xa W te me) : SimS K Γ xa W (tDrop (tBM K "list" rExtend (tVar i) (tCons te tNil))) (mExtend i me) := ⟨fun w0 w σ δ Dn o e n p => by
  unfold mExtend at p
  split at p
  · rename_i fb ds hd
    obtain ⟨a, hx, oa0⟩ := n.own hd
    obtain ⟨vs0, h20, _, _⟩ := oa0.at_
    refine ⟨_, hx, tyV_list (SqL.of h20), ?_⟩
    refine h.run w0 w σ δ _ o e n (p.then e n fun d w1 o1 e1 p1 b ob => ?_)
    show rExtend (.ref a) [.ref b] w1.H fun _ H1 => Dn.nx σ H1
    have oa := oa0.ev e1
    obtain ⟨vs, h2, h3, h4⟩ := oa.at_
    split at p1
    · rename_i es
      obtain ⟨zs, g2, g3, g4⟩ := ob.at_
      split at p1
      · rename_i hl
        have hl' : vs.length + zs.length ≤ sizeLine := by rw [← reps_len h4, ← reps_len g4]; exact hl
        refine ⟨a, b, vs, zs, rfl, rfl, h2, g2, hl', ?_⟩
        have at' : At K Γ (wPut w1 a (.lst (vs ++ zs))) (.lst (ds ++ es)) a := ⟨vs ++ zs, upd_same, by rw [List.length_append]; exact hl', reps_app h4 g4⟩
        exact p1 (wPut w1 a (.lst (vs ++ zs))) σ rfl (ok_put o1 oa.r oa.nl) (ev_put (e.trans e1) oa.new) ⟨fun _ _ z => z, List.prefix_rfl⟩ ((n.ev e1).put hd hx oa at')
      · exact False.elim p1
    · exact False.elim p1
  · exact False.elim p⟩
end
end MR

namespace MR
open PySem PySem.Spec PyProof.Rows L2 TP
section
variable {K : PySem.W.Frag} {Γ : Nat → Addr} {w : Wd}
end
end MR

namespace MR
open PySem PySem.Spec PyProof.Rows L2 TP
section
variable {K : PySem.W.Frag} {Γ : Nat → Addr} {xa : XT} {W : WX} {te : TE} {me : ME} {vs : List Nat} {n : Nat} {tgs : TGs} {mgs : MGs}
end
end MR

namespace MR
open PySem PySem.Spec PyProof.Rows L2 TP
section
variable {K : PySem.W.Frag} {Γ : Nat → Addr} {xa : XT} {W : WX} {to : TE} {mo : ME}
end
end MR

namespace TP
open PySem PySem.Spec PyProof.Rows L2
inductive HdsB (X : Cx) : List ExceptHandler → List (Value × Option Nat × (Addr → Value → Option Addr → TS)) → Prop
  | nil : HdsB X [] []
  | cons {x n : Str} {c : Value} {i : Nat} {ts : Addr → Value → Option Addr → TS} {b₀ : Stmt} {suite : List Stmt} {np pos' : Pos} {hds : List ExceptHandler} {l : List (Value × Option Nat × (Addr → Value → Option Addr → TS))} (hi : X.N[i]? = some n) (hln : X.env.kindOf n = some .local) (hc : Names X x c)
      (hsu : ∀ (a : Addr) (oe : Obj) (cls : Value) (d : Option Addr) (pn : List (Addr × Obj)), Zc cls d oe → (∃ vs, oe.data = .fields vs) → PSs (X.suite a ((a, oe) :: pn)) (b₀ :: suite) (ts a cls d)) (r : HdsB X hds l) :
      HdsB X (.ExceptHandler (some (.Name x np)) (some n) (b₀ :: suite) pos' :: hds) ((c, some i, ts) :: l)
  | cons0 {x : Str} {c : Value} {ts : Addr → Value → Option Addr → TS} {b₀ : Stmt} {suite : List Stmt} {np pos' : Pos} {hds : List ExceptHandler} {l : List (Value × Option Nat × (Addr → Value → Option Addr → TS))} (hc : Names X x c)
      (hsu : ∀ (a : Addr) (oe : Obj) (cls : Value) (d : Option Addr) (pn : List (Addr × Obj)), Zc cls d oe → (∃ vs, oe.data = .fields vs) → PSs (X.suite a ((a, oe) :: pn)) (b₀ :: suite) (ts a cls d)) (r : HdsB X hds l) :
      HdsB X (.ExceptHandler (some (.Name x np)) none (b₀ :: suite) pos' :: hds) ((c, none, ts) :: l)
section
variable {X : Cx} {body : List Stmt} {h₀ : ExceptHandler} {hds : List ExceptHandler} {l : List (Value × Option Nat × (Addr → Value → Option Addr → TS))} {pos : Pos} {tb : WX → TS} {Wout : WX}
end
end TP

namespace TP
open PySem PySem.Spec PyProof.Rows L2
def iniBody0 (txt : Str) (n3 : Nat) (p0 p1 p2 p3 p4 p5 : Pos) : List Stmt :=
  [.Expr (.Call (.Attribute (.Call (.Name "super" p0) [] [] p1) "__init__" p2) [.Constant (.str txt) n3 p3] [] p4) p5]
def iniScope0 : Scope := { kind := .function, names := [(PySem.Str.ofString "self", .local), (PySem.Str.ofString "__class__", .free), (PySem.Str.ofString "super", .globalImplicit)], isGenerator := false, isCoroutine := false, more := [] }
structure IniTxt0 (P : Program) (K : PySem.W.Frag) (mg : Str → Option Value) (C fI : Addr) (qual : Str) (fd : FuncData) : Prop where
  oex : OexC K C
  sup : mg "super" = none
  opq : PySem.W.nsIn K cStatics "thirdparty.any" = some none
  along : PySem.W.ks_superIn K C C "__init__" = some (some vin)
  mine : PySem.W.mroIn K C (.ref C) = some true
  isV : PySem.W.mroIn K C (.type "ValueError") = some true
  top : (P.main.scope.names.lookup ("super" : Str)).isSome = false
  code : ∃ (oc : Value) (od : Option Addr) (params : Arguments) (kV doc pm : Value) (an : Option Addr) (cda : Addr) (ct : Value) (cc : Addr) (osl : Array (Option Value)) (ar : Arg) (ccl : Value) (cdd : Option Addr) (vs : Array Value) (ccs : Array (Option Value)) (file : Str) (tf : Tok) (cl : Value) (cld : Option Addr) (csl : Array (Option Value))
      (txt : Str) (n3 : Nat) (p0 p1 p2 p3 p4 p5 : Pos),
    fd = PySem.W.ksFn "__init__" qual params (iniBody0 txt n3 p0 p1 p2 p3 p4 p5) iniScope0 .none kV doc pm an (.ref cda) ct cc ∧ K.lookup fI = some ⟨oc, od, .func fd, osl⟩ ∧ PySem.W.codeIn K (.ref cda) qual = true ∧
    (params.posonlyargs ++ params.args).head? = some ar ∧ ar.arg = "self" ∧ K.lookup cda = some ⟨ccl, cdd, .fields vs, ccs⟩ ∧ vs[2]? = some (.str file tf) ∧ ((P.main.file : Str) == file) = true ∧ K.lookup cc = some ⟨cl, cld, .cell (some (.ref C)), csl⟩ ∧
    iniScope0.names.lookup ("super" : Str) = some .globalImplicit ∧ iniScope0.names.lookup ("__class__" : Str) = some .free ∧ iniScope0.names.lookup ("self" : Str) = some .local ∧ (p2.endLine == p4.line) = true
structure ErrI0 (P : Program) (K : PySem.W.Frag) (mg : Str → Option Value) (x : Str) (C : Addr) : Prop where
  at_ : mg x = some (.ref C)
  xf : XfC K C
  is_ : ExcC K C
  ex : ∃ (fI : Addr) (fd : FuncData) (qual : Str), IniTxt0 P K mg C fI qual fd ∧ PySem.W.findIn K (.ref C) "__init__" = some (some (.ref fI)) ∧ PySem.W.typeIn K (.ref fI) = some (.type "function") ∧ Binds K fd ["self"] []
end TP

namespace MR
open PySem PySem.Spec PyProof.Rows L2 TP
section
variable {K : PySem.W.Frag} {Γ : Nat → Addr} {xa : XT} {W : WX}
end
end MR

namespace SrtO
open PySem PyProof.Rows Srt
theorem ltc_asym : ∀ a b : List Nat, Spec.ltCps a b = true → Spec.ltCps b a = false
  | [], [], h => rfl
  | [], _ :: _, h => rfl
  | _ :: _, [], h => Bool.noConfusion (show false = true from h)
  | a :: r, b :: t, h0 => by
    have h : (decide (a < b) || (a == b && Spec.ltCps r t)) = true := h0
    clear h0
    show (decide (b < a) || (b == a && Spec.ltCps t r)) = false
    rw [Bool.or_eq_true, decide_eq_true_eq, Bool.and_eq_true, beq_iff_eq] at h
    rw [Bool.or_eq_false_iff, decide_eq_false_iff_not, Bool.and_eq_false_iff, beq_eq_false_iff_ne]
    rcases h with h1 | ⟨h1, h2⟩
    · exact ⟨by omega, .inl (by omega)⟩
    · exact ⟨by omega, .inr (ltc_asym r t h2)⟩
theorem ltc_tr : ∀ x y z : List Nat, Spec.ltCps y x = false → Spec.ltCps z y = false → Spec.ltCps z x = false
  | [], [], z, _, h2 => h2
  | [], _ :: _, [], _, _ => rfl
  | [], _ :: _, _ :: _, _, _ => rfl
  | _ :: _, [], z, h1, _ => Bool.noConfusion (show true = false from h1)
  | _ :: _, _ :: _, [], _, h2 => Bool.noConfusion (show true = false from h2)
  | a :: r, b :: t, c :: u, h1, h2 => by
    have h1 : (decide (b < a) || (b == a && Spec.ltCps t r)) = false := h1
    have h2 : (decide (c < b) || (c == b && Spec.ltCps u t)) = false := h2
    show (decide (c < a) || (c == a && Spec.ltCps u r)) = false
    rw [Bool.or_eq_false_iff, decide_eq_false_iff_not, Bool.and_eq_false_iff, beq_eq_false_iff_ne] at h1 h2 ⊢
    refine ⟨by omega, ?_⟩
    by_cases e : c = a
    · subst e
      have e2 : b = c := by omega
      subst e2
      refine .inr (ltc_tr r t u (h1.2.resolve_left fun h => h rfl) (h2.2.resolve_left fun h => h rfl))
    · exact .inl e
theorem ltc_eq : ∀ a b : List Nat, Spec.ltCps a b = false → Spec.ltCps b a = false → a = b
  | [], [], _, _ => rfl
  | [], _ :: _, h, _ => Bool.noConfusion (show true = false from h)
  | _ :: _, [], _, h => Bool.noConfusion (show true = false from h)
  | a :: r, b :: t, h1, h2 => by
    have h1 : (decide (a < b) || (a == b && Spec.ltCps r t)) = false := h1
    have h2 : (decide (b < a) || (b == a && Spec.ltCps t r)) = false := h2
    rw [Bool.or_eq_false_iff, decide_eq_false_iff_not, Bool.and_eq_false_iff, beq_eq_false_iff_ne] at h1 h2
    have e : a = b := by omega
    subst e
    rw [ltc_eq r t (h1.2.resolve_left fun h => h rfl) (h2.2.resolve_left fun h => h rfl)]
def tv : Value → PySem.Str
  | .str s _ => s
  | _ => ""
def ltTv (v u : Value) : Bool := Spec.ltCps (tv v).cps.toList (tv u).cps.toList
theorem swo_txt : Swo ltTv := ⟨fun x y h => ltc_asym _ _ h, fun x y z h1 h2 => ltc_tr _ _ _ h1 h2⟩
section
variable {prog : Program} {w : World} {A : Around} {E : Value → Shared → Prop} {s : Shared}
theorem txts_mem : ∀ {vs : List Value} {ss : List PySem.Str}, StrsAre vs ss → ∀ v ∈ vs, ∃ i t, v = Value.str i t
  | _, _, .nil, v, h => absurd h (by simp)
  | _, _, .cons n t r, v, h => by
    rcases List.mem_cons.mp h with e | h
    · exact ⟨n, t, e⟩
    · exact txts_mem r v h
theorem txts_tv : ∀ {vs : List Value}, (∀ v ∈ vs, ∃ i t, v = Value.str i t) → StrsAre vs (vs.map tv)
  | [], _ => .nil
  | v :: vs, h => by
    obtain ⟨i, t, e⟩ := h v List.mem_cons_self
    subst e
    exact .cons i t (txts_tv fun u hu => h u (List.mem_cons_of_mem _ hu))
theorem tv_txts : ∀ {vs : List Value} {ss : List PySem.Str}, StrsAre vs ss → vs.map tv = ss
  | _, _, .nil => rfl
  | _, _, .cons n t r => congrArg (n :: ·) (tv_txts r)
theorem txt_cmp {vs : List Value} {ss : List PySem.Str} (hI : StrsAre vs ss) : Cmp prog w A s oneType' (fun p => p.1 ∈ vs) (lt2 ltTv) := by
  intro p q hm hm'
  obtain ⟨a, t, e⟩ := txts_mem hI _ hm
  obtain ⟨b, u, e'⟩ := txts_mem hI _ hm'
  show wpAny (model prog w) A (keyLt' oneType' p.1 q.1) (fun r s' => s' = s ∧ r = ltTv p.1 q.1) (fun _ _ => False) s
  rw [e, e', keyLt'_oneType]
  exact oneLt_str ⟨rfl, lt_meets a b⟩
theorem txts_sortable {a : Addr} {vs : List Value} {ss : List PySem.Str} (hI : StrsAre vs ss) (h2 : 2 ≤ vs.length) : SortableO prog w A s a vs ltTv := by
  intro h' _
  refine ⟨oneType', fun Q E hq => ?_, txt_cmp hI⟩
  match vs, hI, h2 with
  | v1 :: v2 :: rest, hI, _ =>
    rw [keyKind_strs hI]
    exact wpAny_pure hq
  | [], _, h => exact absurd h (by decide)
  | [v], _, h => exact absurd h (by simp)
theorem txts_out {vs out : List Value} {ss : List PySem.Str} (hI : StrsAre vs ss) (hs : Srtd ltTv out) (hb : Stb ltTv out vs) : StrsAre out (out.map tv) ∧ (out.map tv).Perm ss ∧ (out.map tv).Pairwise (fun a b => Spec.ltCps b.cps.toList a.cps.toList = false) := by
  refine ⟨txts_tv fun v hv => txts_mem hI v (hb.perm.mem_iff.mp hv), ?_, ?_⟩
  · have q := hb.perm.map tv
    rw [tv_txts hI] at q
    exact q
  · exact List.pairwise_map.mpr (hs.imp fun {x y} h => h)
end
end SrtO
namespace L2
open PySem PySem.Spec PyProof.Rows
def rSortedTx (K : PySem.W.Frag) : List V → Hp → VK → Prop := fun vs H Q => ∃ (a : Addr) (xs : List Str), vs = [V.ref a] ∧ SqL K H a (xs.map V.str) ∧
  ∀ (ys : List Str) (p : Addr), ys.Perm xs → ys.Pairwise (fun a b => ltCps b.cps.toList a.cps.toList = false) → H p = none → Q (.ref p) (upd H p (.lst (ys.map V.str)))
section
variable {X : Cx}
theorem cr_sortedTx : CallR X (.builtin "sorted") (rSortedTx X.K) := by
  intro pins s σ H vs us Q I r h
  obtain ⟨a, xs, rfl, hs, q⟩ := h
  obtain ⟨its, rv, hl, hz⟩ := I.list hs
  rw [Vals.ref1 r]
  have hi := rv.strs
  refine SrtO.sorted_ord SrtO.swo_txt hl.isList (by rw [← rv.length]; exact hz) (fun h2 h₁ a' _ _ => SrtO.txts_sortable hi h2) fun out h1 h2 => ?_
  obtain ⟨k1, k2, k3⟩ := SrtO.txts_out hi h1 h2
  obtain ⟨ep, he'⟩ := PyProof.Rows.sortedAll_at s.heap its out.toArray
  have hlen : ((out.map SrtO.tv).map V.str).length ≤ sizeLine := by
    rw [List.length_map, k2.length_eq]
    rw [List.length_map] at hz
    exact hz
  exact ⟨.ref _, upd H (s.heap.objs.size + 1) (.lst ((out.map SrtO.tv).map V.str)), I.laid (t' := s.toks) (fun _ _ => PyProof.Rows.sortedAll_old) (Nat.le_succ _) ⟨hlen, out, ep, vals_of_strs k1, he'⟩, rfl, q _ _ k2 k3 (I.hok.fresh (Nat.le_succ _))⟩
def rLtS : V → V → Hp → VK → Prop := fun x y H Q => ∃ i j, x = .str i ∧ y = .str j ∧ Q (.bl (decide (i.cps.toList < j.cps.toList))) H
theorem op_ltS : OpR X (compareOp .Lt) rLtS := op_lt_str
def rStrS : List V → Hp → VK → Prop := fun xs H Q => ∃ a, xs = [.str a] ∧ Q (.str a) H
theorem cr_strS : CallR X (.type "str") rStrS := SkE.call_str_str
end
end L2

namespace TP
open PySem PySem.Spec PyProof.Rows L2
inductive HeldL (X : Cx) (j : Nat) : List (Addr × Sp) → Prop
  | nil : HeldL X j []
  | cons {x : Str} {k : Nat} {ps : List Str} {f : Addr} {sp : Sp} {l : List (Addr × Sp)} (hm : X.mg x = some (.ref f)) (I : FnZ X.prog X.w X.K X.mg X.base k x ps sp) (hk : k ≤ j) (r : HeldL X j l) : HeldL X j ((f, sp) :: l)
def tCallV (i : Nat) (fs : List (Addr × Sp)) (W : WX) (t : TA) : TE := fun σ H Q => ∃ f sp, (f, sp) ∈ fs ∧ σ[i]? = some (some (.ref f)) ∧ t σ H fun vs H1 => sp vs H1 Q (WE W σ)
section
variable {X : Cx} {j i : Nat} {fs : List (Addr × Sp)} {W : WX} {x : Str} {p pos : Pos} {e : Expr} {es : List Expr} {t : TA}
theorem HeldL.get {f : Addr} {sp : Sp} (h : HeldL X j fs) (hm : (f, sp) ∈ fs) : ∃ (fd : FuncData) (ps : List Str) (k : Nat), k ≤ j ∧ PySem.W.keepIn X.K (.ref f) = true ∧ FnOk X.prog X.w X.K X.mg X.base (L2.CX X.prog X.w) k f fd ps sp ∧ Binds X.K fd ps [] := by
  induction h with
  | nil => cases hm
  | cons hg I hk r ih =>
    rcases List.mem_cons.mp hm with e | e
    · cases e
      obtain ⟨f', fd, h1, kp, F, b⟩ := I.ex
      rw [hg] at h1
      cases h1
      exact ⟨fd, _, _, hk, kp, F, b⟩
    · exact ih e
theorem pe_callV (A : HeldL X j fs) (hr : Room j X.A) (hN : X.N[i]? = some x) (hv : Vis X.env.scope x) (tk : Takes X W) (ha : PA X (e :: es) t)
    (hdb : (x == ("__debug__" : Str)) = false := by decide) (hcd : (x == ("__classdict__" : Str)) = false := by decide)
    (he : starEach (e :: es) X.env = (false, eval e X.env) :: starEach es X.env := by rfl) (hpl : (backTo pos (starEach es X.env)).any (·.1) = false := by rfl) : PE X (.Call (.Name x p) (e :: es) [] pos) (tCallV i fs W t) := by
  refine ⟨fun pins s σ H Q I h => ?_⟩
  obtain ⟨f, sp, hm, hs, ht⟩ := h
  obtain ⟨fd, ps, k, hk, kp, F, b⟩ := A.get hm
  refine wpAny_Call_Name_kw (thn ((pe_var (pos := p) hN hv hdb hcd).run pins s σ H (fun v H1 => v = .ref f ∧ H1 = H) I ⟨.ref f, hs, rfl, rfl⟩) fun u s1 ⟨v, H1, I1, r1, q1⟩ => ?_)
  obtain ⟨rfl, rfl⟩ := q1
  cases r1
  refine PySem.W.callWith_K (h₀ := X.base) I.ok.mod.kin kp (thn (ha.run pos pins s1 σ _ _ I1 ht) fun us s2 ⟨vs, H2, I2, r, q⟩ => ⟨I2.kIn, ?_⟩) he hpl
  exact run_fnS (E := WE W) F (hr.mono hk) b (passAt tk σ) I2 r q
end
end TP

namespace MR
open PySem PySem.Spec PyProof.Rows L2 TP
section
variable {K : PySem.W.Frag} {Γ : Nat → Addr} {xa : XT} {W : WX} {tl : TA} {ml : MA}
def txOf : List D → Option (List Str)
  | [] => some []
  | .str s :: ds => (txOf ds).map (s :: ·)
  | _ => none
theorem txs_reps {w : Wd} : ∀ {ds : List D} {ss : List Str} {vs : List V}, txOf ds = some ss → Reps K Γ w ds vs → vs = ss.map V.str
  | [], ss, vs, h, r => by
    cases h
    have e : vs = [] := by simpa only [Reps, RepsC] using r
    rw [e]; rfl
  | .str s :: ds, ss, vs, h, r => by
    obtain ⟨v, us, rfl, r1, r2⟩ := reps_inv r
    have h : (txOf ds).map (s :: ·) = some ss := h
    obtain ⟨t, h1, rfl⟩ := Option.map_eq_some_iff.mp h
    rw [txs_reps h1 r2, rep_str r1]; rfl
  | .non :: _, _, _, h, _ | .bl _ :: _, _, _, h, _ | .int _ :: _, _, _, h, _ | .byt _ :: _, _, _, h, _ | .ty _ :: _, _, _, h, _ | .cls _ :: _, _, _, h, _ | .tup _ :: _, _, _, h, _ | .lst _ :: _, _, _, h, _ | .dic _ _ :: _, _, _, h, _ | .obj _ _ _ :: _, _, _, h, _ | .ref _ :: _, _, _, h, _ | .scr _ :: _, _, _, h, _ => by cases h
theorem reps_txs {w : Wd} : ∀ ss : List Str, Reps K Γ w (ss.map D.str) (ss.map V.str)
  | [] => reps_nil
  | s :: ss => reps_cons (by simp only [Rep, RepC]) (reps_txs ss)
def insS (x : Str) : List Str → List Str
  | [] => [x]
  | y :: ys => if ltCps y.cps.toList x.cps.toList then y :: insS x ys else x :: y :: ys
def sortS : List Str → List Str
  | [] => []
  | x :: xs => insS x (sortS xs)
def leS (a b : Str) : Prop := ltCps b.cps.toList a.cps.toList = false
theorem insS_perm (x : Str) : ∀ ys : List Str, (insS x ys).Perm (x :: ys)
  | [] => .refl _
  | y :: ys => by
    unfold insS
    split
    · exact ((insS_perm x ys).cons y).trans (.swap x y ys)
    · exact .refl _
theorem sortS_perm : ∀ l : List Str, (sortS l).Perm l
  | [] => .refl _
  | x :: xs => (insS_perm x _).trans ((sortS_perm xs).cons x)
theorem leS_tr {a b c : Str} (h1 : leS a b) (h2 : leS b c) : leS a c := SrtO.ltc_tr _ _ _ h1 h2
theorem insS_sorted (x : Str) : ∀ ys : List Str, ys.Pairwise leS → (insS x ys).Pairwise leS
  | [], _ => List.pairwise_singleton _ _
  | y :: ys, h => by
    have h' := List.pairwise_cons.mp h
    unfold insS
    split
    · rename_i q
      refine List.pairwise_cons.mpr ⟨fun z hz => ?_, insS_sorted x ys h'.2⟩
      rcases List.mem_cons.mp ((insS_perm x ys).mem_iff.mp hz) with e | e
      · subst e; exact SrtO.ltc_asym _ _ q
      · exact h'.1 z e
    · rename_i q
      have q : leS x y := by simpa [leS] using q
      refine List.pairwise_cons.mpr ⟨fun z hz => ?_, h⟩
      rcases List.mem_cons.mp hz with e | e
      · subst e; exact q
      · exact leS_tr q (h'.1 z e)
theorem sortS_sorted : ∀ l : List Str, (sortS l).Pairwise leS
  | [] => .nil
  | x :: xs => insS_sorted x _ (sortS_sorted xs)
theorem str_ext {a b : Str} (h : a.cps.toList = b.cps.toList) : a = b := by
  cases a; cases b
  congr 1
  exact Array.toList_inj.mp h
def fSortedT : MF := fun ds S => match ds with
  | [d] => match (listOf S d).bind txOf with
    | some ss => if ss.length ≤ 100000 then .ok (.lst ((sortS ss).map D.str)) S else .bad
    | none => .bad
  | _ => .bad
theorem cf_sortedT : CallF K Γ (rSortedTx K) fSortedT := ⟨fun w ds vs Q ex o r p => by
  unfold fSortedT at p
  split at p
  · rename_i d
    obtain ⟨v, rfl, r1⟩ := pks1 r
    split at p
    · rename_i ss h
      split at p
      · rename_i hl
        obtain ⟨xs, h1, h2⟩ := Option.bind_eq_some_iff.mp h
        obtain ⟨a, vs, rfl, a1, a2, a3⟩ := listOf_ok o r1 h1
        rw [txs_reps h2 a3] at a1
        refine ⟨a, ss, rfl, a1, fun ys q hp hs hq => ?_⟩
        have e : ys = sortS ss := List.Perm.eq_of_pairwise (le := leS) (fun a b _ _ h1 h2 => str_ext (SrtO.ltc_eq _ _ h2 h1)) hs (sortS_sorted ss) (hp.trans (sortS_perm ss).symm)
        subst e
        obtain ⟨k1, k2⟩ := new_lst o (reps_txs (sortS ss)) (by rw [List.length_map, (sortS_perm ss).length_eq]; exact Nat.le_trans hl (by decide)) hq p
        exact k1 _ k2
      · exact False.elim p
    · exact False.elim p
  · exact False.elim p⟩
def opLtS : D → D → Sto → Out D := fun d e S => match d, e with
  | .str i, .str j => .ok (.bl (ltCps i.cps.toList j.cps.toList)) S
  | _, _ => .bad
theorem om_ltS : OpM K Γ rLtS opLtS := ⟨fun w d e x y Q ex o hx hy p => by
  unfold opLtS at p
  split at p
  · rename_i i j
    refine ⟨i, j, pk_str hx, pk_str hy, ?_⟩
    rw [lt_meets]
    exact Post.now p o _ (by simp only [Rep, RepC])
  · exact False.elim p⟩
def fStrS : MF := fun ds S => match ds with
  | [.str s] => .ok (.str s) S
  | _ => .bad
theorem cm_strS : CallM K Γ rStrS fStrS := ⟨fun w ds vs Q ex o r p => by
  unfold fStrS at p
  split at p
  · rename_i s
    obtain ⟨v, rfl, r1⟩ := pks1 r
    refine ⟨s, by rw [pk_str r1], Post.now p o _ (by simp only [Rep, RepC])⟩
  · exact False.elim p⟩
def mCallV (i n : Nat) (tab : List (Nat × MF)) (ml : MA) : ME := fun δ S => match δ[i]? with
  | some (.val (.cls c)) => match tab.lookup c with
    | some m => bnd (ml δ S) fun ds S => m ds S
    | none => .bad
  | _ => .bad
theorem lookupA {α : Type} {tab : List (Nat × α)} {c : Nat} {b : α} (h : tab.lookup c = some b) : (c, b) ∈ tab := by
  induction tab with
  | nil => cases h
  | cons p r ih =>
    obtain ⟨k, x⟩ := p
    rw [List.lookup_cons] at h
    cases q : c == k with
    | true => rw [q] at h; cases h; rw [beq_iff_eq.mp q]; exact List.mem_cons_self
    | false => rw [q] at h; exact List.mem_cons_of_mem _ (ih h)
theorem sim_callV {i n : Nat} {tab : List (Nat × MF)} {fs : List (Addr × Sp)} (hf : fs = tab.map fun p => (Γ p.1, spM K Γ n p.2)) (h : SimA K Γ xa W n tl ml) : SimE K Γ xa W (tCallV i fs W tl) (mCallV i n tab ml) := ⟨fun w0 w σ δ Q o e nn p => by
  unfold mCallV at p
  split at p
  · rename_i c hd
    split at p
    · rename_i m hm
      obtain ⟨v, hv, r⟩ := nn.val hd
      have hr : v = .ref (Γ c) := by simpa only [Rep, RepC] using r
      refine ⟨Γ c, spM K Γ n m, by rw [hf]; exact List.mem_map.mpr ⟨(c, m), lookupA hm, rfl⟩, by rw [hv, hr], ?_⟩
      exact (sim_call (n := n) (m := m) h).run w0 w σ δ Q o e nn p
    · exact False.elim p
  · exact False.elim p⟩
end
end MR

namespace TP
open PySem PySem.Spec PyProof.Rows L2
def iLT (K : PySem.W.Frag) (tl : TE) : TI := fun σ H R => tl σ H fun x H1 => ∃ a, x = .ref a ∧ (((∃ xs, SqL K H1 a xs) ∧ R (Itl K a) H1) ∨ ((∃ xs, SqT K H1 a xs) ∧ R (Itt K a) H1))
theorem pi_lt {X : Cx} {tg l : Expr} {tl : TE} (hl : PE X l tl) : PI X tg l (iLT X.K tl) := by
  refine ⟨fun pins s σ H R I h => ?_⟩
  refine thn (hl.run pins s σ H _ I h) fun v s1 ⟨x, H1, I1, r1, q1⟩ => ?_
  obtain ⟨a, e, q1⟩ := q1
  subst e
  cases r1
  rcases q1 with ⟨⟨xs, hq⟩, q⟩ | ⟨⟨xs, hq⟩, q⟩
  · obtain ⟨its, rv, p, hz⟩ := I1.list hq
    refine wpAny_pyIter_list p.isList ?_
    refine ⟨s1.heap.objs.size, [s1.heap.objs.size], _, _, H1, rfl, I1.kept (t' := s1.toks) fun b o e => Heap.get?_push_of_some _ e, turn_list a _, ⟨_, Heap.get?_push_size _ rfl, rfl, rfl⟩, fun b hb => ?_, q⟩
    have e : b = s1.heap.objs.size := by simpa using hb
    subst e
    exact I1.fpOk (Nat.le_refl _) (I1.hok.fresh (Nat.le_refl _))
  · obtain ⟨its, rv, p, hz⟩ := I1.tuple hq
    refine wpAny_pyIter_tuple (show s1.heap.IsTuple a its.toArray from p) ?_
    refine ⟨s1.heap.objs.size, [s1.heap.objs.size], _, _, H1, rfl, I1.kept (t' := s1.toks) fun b o e => Heap.get?_push_of_some _ e, turn_tuple a _, ⟨_, Heap.get?_push_size _ rfl, rfl, rfl⟩, fun b hb => ?_, q⟩
    have e : b = s1.heap.objs.size := by simpa using hb
    subst e
    exact I1.fpOk (Nat.le_refl _) (I1.hok.fresh (Nat.le_refl _))
end TP

namespace MR
open PySem PySem.Spec PyProof.Rows L2 TP
section
variable {K : PySem.W.Frag} {Γ : Nat → Addr} {xa : XT} {W : WX} {te : TE} {me : ME}
def mGFix (i : Nat) (mg : MGn) : MGn := fun δ Y S => match δ[i]? with
  | some (.own _ d) => mg (δ.set i (.val d)) Y S
  | _ => mg δ Y S
theorem sim_gfix {i : Nat} {tg : TGn} {mg : MGn} (h : SimG K Γ xa tg mg) : SimG K Γ xa tg (mGFix i mg) := ⟨fun w0 w σ δ Dn Y ys o e n r p => by
  unfold mGFix at p
  split at p
  · rename_i fb d hd
    obtain ⟨a, h1, oa⟩ := n.own hd
    obtain ⟨w2, s2, hh, o2, e2, g2, r2, hρ, hR⟩ := own_rep (w := w0) o e oa
    have n2 : EnvOk K Γ xa w0 w2 σ (δ.set i (.val d)) := by
      have hi := (List.getElem?_eq_some_iff.mp hd).1
      have evw : ∀ {s : Slot} {x : Option V} {j : Nat}, j ≠ i → σ[j]? = some x → δ[j]? = some s → SlotOk K Γ xa w0 w2 x s := fun {s x j} ne hx hs => by
        have q := n.ok j x s hx hs
        cases s with
        | no => trivial
        | val d' => obtain ⟨v, q1, q2⟩ := q; exact ⟨v, q1, Rep.gr q2 g2⟩
        | own fb' d' =>
          obtain ⟨b, q1, q2, q3⟩ := q
          have nb : b ≠ a := fun z => ne (n.sep j i fb' fb d' d a hs hd (by rw [hx, q1, z]) h1)
          refine ⟨b, q1, ⟨q2.new, by rw [hR b nb]; exact q2.r, fun l => q2.nl ?_, at_mv q2.at_ (fun u hu => by rw [hh]; exact hu) g2.rr g2.pre⟩, q3⟩
          obtain ⟨m, x, l1, l2⟩ := l
          exact ⟨m, x, by rw [← s2]; exact l1, by rw [← hρ]; exact l2⟩
        | exn c ns ds => obtain ⟨h1, h2, h3⟩ := q; exact ⟨h1, h2, h3.imp (fun ⟨dd, vs, h3, h4, h5, h6⟩ => ⟨dd, vs, h3, g2.rr _ _ h4, h5, Reps.gr h6 g2⟩) id⟩
      refine ⟨by rw [List.length_set]; exact n.len, fun j x s hx hs => ?_, fun j k fa fb d' e' b q1 q2 q3 q4 => ?_⟩
      · rw [List.getElem?_set] at hs
        by_cases q : i = j
        · subst q
          rw [if_pos rfl, if_pos hi] at hs
          cases hs
          rw [h1] at hx
          cases hx
          exact ⟨_, rfl, r2⟩
        · rw [if_neg q] at hs
          exact evw (fun z => q z.symm) hx hs
      · rw [List.getElem?_set] at q1 q2
        by_cases z1 : i = j
        · rw [if_pos z1] at q1; split at q1 <;> cases q1
        · by_cases z2 : i = k
          · rw [if_pos z2] at q2; split at q2 <;> cases q2
          · rw [if_neg z1] at q1
            rw [if_neg z2] at q2
            exact n.sep j k fa fb d' e' b q1 q2 q3 q4
    have := h.run w0 w2 σ _ Dn Y ys o2 e2 n2 (Reps.gr r g2) (by rw [s2]; exact PostG.gr p g2)
    rw [hh] at this
    exact this
  · exact h.run w0 w σ δ Dn Y ys o e n r p⟩
def mILT (me : ME) : MA := fun δ S => bnd (me δ S) fun d S => match d with
  | .lst ds => .ok ds S
  | .tup ds => .ok ds S
  | _ => .bad
theorem sim_ilt (h : SimE K Γ xa W te me) : SimI K Γ xa Gr W (iLT K te) (mILT me) := ⟨fun w0 w σ δ R o e n p =>
  h.run w0 w σ δ _ o e n (p.then fun d w1 o1 e1 p1 v r1 => by
    split at p1
    · simp only [Rep, RepC] at r1
      obtain ⟨a, vs, h1, h2, h3, h4⟩ := r1
      exact ⟨a, h1, .inl ⟨⟨vs, SqL.of (o1.same _ _ h2)⟩, Post.now p1 o1 _ (items_list h3 (fun w2 o2 g2 => ⟨SqL.of (o2.same _ _ (g2.rr _ _ h2)), Reps.gr h4 g2⟩) (Gr.refl _) o1)⟩⟩
    · simp only [Rep, RepC] at r1
      obtain ⟨a, vs, h1, h2, h3, h4⟩ := r1
      exact ⟨a, h1, .inr ⟨⟨vs, sqT_mono o1.same h2⟩, Post.now p1 o1 _ (items_tup h3 (fun w2 o2 g2 => ⟨sqT_mono o2.same (sqT_mono g2.rr h2), Reps.gr h4 g2⟩) (Gr.refl _) o1)⟩⟩
    · exact False.elim p1)⟩
end
end MR

namespace MR
open PySem PySem.Spec L2 TP
abbrev XQ := Nat → List Str → List D → Sto → Prop
abbrev noXQ : XQ := fun _ _ _ _ => False
def Rn {α : Type} (o : Out α) (Q : α → Sto → Prop) (X : XQ) : Prop := match o with
  | .ok a S => Q a S
  | .ex c ns ds S => X c ns ds S
  | .bad => False
structure EndP where
  nx : Env → Sto → Prop
  rt : D → Sto → Prop
  bk : Env → Sto → Prop := fun _ _ => False
  ct : Env → Sto → Prop := fun _ _ => False
  ex : Nat → List Str → List D → Env → Sto → Prop := fun _ _ _ _ _ => False
def RunS (o : Out Fl) (P : EndP) : Prop := match o with
  | .ok (.nx δ) S => P.nx δ S
  | .ok (.rt d) S => P.rt d S
  | .ok (.bk δ) S => P.bk δ S
  | .ok (.ct δ) S => P.ct δ S
  | .ok (.ex c ns ds δ) S => P.ex c ns ds δ S
  | _ => False
section
variable {α β : Type} {S S1 : Sto} {δ : Env} {Q : D → Sto → Prop} {X : XQ} {P : EndP} {d e x y : D} {i j : Int} {me ma mb mc mo mk : ME} {mt mu : MT} {ml : MA} {ms mus : MS} {QA : List D → Sto → Prop} {QB : Bool → Sto → Prop} {m : MF}
theorem run_eq {o : Out α} {a : α} {Q : α → Sto → Prop} (h : o = .ok a S) (q : Q a S) : Rn o Q X := by rw [h]; exact q
theorem run_ok {o : Out α} {Q : α → Sto → Prop} (h : Rn o Q noXQ) : ∃ a S, o = .ok a S ∧ Q a S := by
  cases o with
  | ok a S => exact ⟨a, S, rfl, h⟩
  | ex => exact False.elim h
  | bad => exact False.elim h
theorem rn_eq {α : Type} {o : Out α} {a : α} {S : Sto} (h : Rn o (fun d S' => d = a ∧ S' = S) noXQ) : o = .ok a S := by
  obtain ⟨d, S', e, rfl, rfl⟩ := run_ok h
  exact e
theorem run_mono {o : Out α} {Q Q' : α → Sto → Prop} {X X' : XQ} (h : Rn o Q X) (f : ∀ a S, Q a S → Q' a S) (g : ∀ c ns ds S, X c ns ds S → X' c ns ds S) : Rn o Q' X' := by
  cases o with
  | ok a S => exact f _ _ h
  | ex => exact g _ _ _ _ h
  | bad => exact h
theorem run_bnd' {o : Out α} {f : α → Sto → Out β} {Q : β → Sto → Prop} (h : Rn o (fun a S => Rn (f a S) Q X) X) : Rn (bnd o f) Q X := by
  cases o with
  | ok a S => exact h
  | ex => exact h
  | bad => exact h
theorem runS_bnd {o : Out α} {f : α → Sto → Out Fl} (h : Rn o (fun a S => RunS (f a S) P) fun c ns ds S => P.ex c ns ds δ S) : RunS (bndS o δ f) P := by
  cases o with
  | ok a S => exact h
  | ex => exact h
  | bad => exact h
theorem g_c (q : Q d S) : Rn (mC d δ S) Q X := q
theorem g_var {i : Nat} (h : δ[i]? = some (.val d)) (q : Q d S) : Rn (mVar i δ S) Q X := by unfold mVar; rw [h]; exact q
theorem g_peekO {i : Nat} {b : Bool} (h : δ[i]? = some (.own b d)) (q : Q d S) : Rn (mPeek i δ S) Q X := by unfold mPeek; rw [h]; exact q
theorem g_peekV {i : Nat} (h : δ[i]? = some (.val d)) (q : Q d S) : Rn (mPeek i δ S) Q X := by unfold mPeek; rw [h]; exact q
theorem g_op {op : D → D → Sto → Out D} (q : Rn (ma δ S) (fun x S => Rn (mb δ S) (fun y S => Rn (op x y S) Q X) X) X) : Rn (mOp op ma mb δ S) Q X := run_bnd' (run_mono q (fun _ _ h => run_bnd' h) fun _ _ _ _ z => z)
theorem g_un {op : D → Sto → Out D} (q : Rn (ma δ S) (fun x S => Rn (op x S) Q X) X) : Rn (mUn op ma δ S) Q X := run_bnd' q
theorem g_nil (q : QA [] S) : Rn (mNil δ S) QA X := q
theorem g_cons (q : Rn (me δ S) (fun x S => Rn (ml δ S) (fun xs S => QA (x :: xs) S) X) X) : Rn (mCons me ml δ S) QA X := run_bnd' (run_mono q (fun _ _ h => run_bnd' h) fun _ _ _ _ z => z)
theorem g_tup (q : Rn (ml δ S) (fun ds S => Q (.tup ds) S) X) : Rn (mTup ml δ S) Q X := run_bnd' q
theorem g_lst (q : Rn (ml δ S) (fun ds S => Q (.lst ds) S) X) : Rn (mLst ml δ S) Q X := run_bnd' q
theorem g_cb {f : MF} (q : Rn (ml δ S) (fun ds S => Rn (f ds S) Q X) X) : Rn (mCB f ml δ S) Q X := run_bnd' q
theorem g_call {n : Nat} (q : Rn (ml δ S) (fun ds S => Rn (m ds S) Q X) X) : Rn (mCall n m ml δ S) Q X := run_bnd' q
theorem g_test (q : Rn (me δ S) (fun d S => ∃ b, d = .bl b ∧ QB b S) X) : Rn (mTest me δ S) QB X := run_bnd' (run_mono q (fun d S ⟨b, e, h⟩ => by subst e; exact h) fun _ _ _ _ z => z)
theorem g_tru (q : Rn (me δ S) (fun d S => ∃ b, truD S d = some b ∧ QB b S) X) : Rn (mTru me δ S) QB X := run_bnd' (run_mono q (fun d S ⟨b, e, h⟩ => by rw [e]; exact h) fun _ _ _ _ z => z)
theorem g_bl {QB : Bool → Prop} {b : Bool} (q : QB b) : ∃ c, D.bl b = .bl c ∧ QB c := ⟨b, rfl, q⟩
theorem g_yes (q : QB true S) : Rn (mYes δ S) QB X := q
theorem g_and (q : Rn (mt δ S) (fun b S => if b = true then Rn (mu δ S) QB X else QB false S) X) : Rn (mAnd mt mu δ S) QB X := run_bnd' (run_mono q (fun b S h => by cases b <;> first | exact h | (simpa using h) | (exact (by simpa using h : _))) fun _ _ _ _ z => z)
theorem g_or (q : Rn (mt δ S) (fun b S => if b = true then QB true S else Rn (mu δ S) QB X) X) : Rn (mOr mt mu δ S) QB X := run_bnd' (run_mono q (fun b S h => by cases b <;> first | exact h | (simpa using h) | (exact (by simpa using h : _))) fun _ _ _ _ z => z)
theorem g_not (q : Rn (mt δ S) (fun b S => QB (!b) S) X) : Rn (mNot mt δ S) QB X := run_bnd' q
theorem g_andV (q : Rn (ma δ S) (fun d S => ∃ b, d = .bl b ∧ if b = true then Rn (mb δ S) Q X else Q (.bl false) S) X) : Rn (mAndV ma mb δ S) Q X := run_bnd' (run_mono q (fun d S ⟨b, e, h⟩ => by subst e; cases b <;> first | exact h | (simpa using h)) fun _ _ _ _ z => z)
theorem g_orV (q : Rn (ma δ S) (fun d S => ∃ b, d = .bl b ∧ if b = true then Q (.bl true) S else Rn (mb δ S) Q X) X) : Rn (mOrV ma mb δ S) Q X := run_bnd' (run_mono q (fun d S ⟨b, e, h⟩ => by subst e; cases b <;> first | exact h | (simpa using h)) fun _ _ _ _ z => z)
theorem g_notV (q : Rn (ma δ S) (fun d S => ∃ b, d = .bl b ∧ Q (.bl (!b)) S) X) : Rn (mNotV ma δ S) Q X := run_bnd' (run_mono q (fun d S ⟨b, e, h⟩ => by subst e; exact h) fun _ _ _ _ z => z)
theorem g_if (q : Rn (mt δ S) (fun b S => if b = true then Rn (ma δ S) Q X else Rn (mb δ S) Q X) X) : Rn (mIf mt ma mb δ S) Q X := run_bnd' (run_mono q (fun b S h => by cases b <;> first | exact h | (simpa using h) | (exact (by simpa using h : _))) fun _ _ _ _ z => z)
theorem g_chain {op op' : D → D → Sto → Out D} (q : Rn (ma δ S) (fun x S => Rn (mb δ S) (fun y S => Rn (op x y S) (fun z S => ∃ k, z = .bl k ∧ if k = true then Rn (mc δ S) (fun u S => Rn (op' y u S) Q X) X else Q (.bl false) S) X) X) X) : Rn (mChain op op' ma mb mc δ S) Q X := by
  refine run_bnd' (run_mono q (fun x S h => run_bnd' (run_mono h (fun y S h => run_bnd' (run_mono h ?_ fun _ _ _ _ z => z)) fun _ _ _ _ z => z)) fun _ _ _ _ z => z)
  rintro z S ⟨k, rfl, h⟩
  cases k with
  | false => exact h
  | true => exact run_bnd' h
theorem g_T {A B : Prop} (q : A) : if true = true then A else B := q
theorem g_F {A B : Prop} (q : B) : if false = true then A else B := by simpa using q
theorem g_nF {A B : Prop} (q : A) : if (!false) = true then A else B := q
theorem g_nT {A B : Prop} (q : B) : if (!true) = true then A else B := by simpa using q
theorem g_less (q : Q (.bl (decide (i < j))) S) : Rn (opLess (.int i) (.int j) S) Q X := q
theorem g_leq (q : Q (.bl (decide (i ≤ j))) S) : Rn (opLeq (.int i) (.int j) S) Q X := q
theorem g_more (q : Q (.bl (decide (j < i))) S) : Rn (opMore (.int i) (.int j) S) Q X := q
theorem g_geq (q : Q (.bl (decide (j ≤ i))) S) : Rn (opGeq (.int i) (.int j) S) Q X := q
theorem g_minus (q : Q (.int (i - j)) S) : Rn (opMinus (.int i) (.int j) S) Q X := q
theorem g_plusI (q : Q (.int (i + j)) S) : Rn (opPlus (.int i) (.int j) S) Q X := q
theorem g_rest (h : 0 < j) (q : Q (.int (i % j)) S) : Rn (opRest (.int i) (.int j) S) Q X := by
  show Rn (if decide (0 < j) = true then _ else _) Q X
  rw [if_pos (decide_eq_true h)]; exact q
theorem g_quot (h : 0 < j) (h2 : j < 18446744073709551616) (q : Q (.int (i / j)) S) : Rn (opQuot (.int i) (.int j) S) Q X := by
  show Rn (if (decide (0 < j) && decide (j < 18446744073709551616)) = true then _ else _) Q X
  rw [if_pos (by rw [decide_eq_true h, decide_eq_true h2]; rfl)]; exact q
theorem g_times (h : mulOk i j = true) (q : Q (.int (i * j)) S) : Rn (opTimes (.int i) (.int j) S) Q X := by
  show Rn (if mulOk i j = true then _ else _) Q X
  rw [if_pos h]; exact q
theorem mul_r (h : -18446744073709551616 < j) (h2 : j < 18446744073709551616) : mulOk i j = true := by unfold mulOk; rw [decide_eq_true h, decide_eq_true h2]; simp
theorem g_eqI (q : Q (.bl (decide (i = j))) S) : Rn (opEq false (.int i) (.int j) S) Q X := by
  show Q (.bl (xor false (decide (i = j)))) S
  rw [Bool.false_xor]; exact q
theorem g_neI (q : Q (.bl (!decide (i = j))) S) : Rn (opEq true (.int i) (.int j) S) Q X := by
  show Q (.bl (xor true (decide (i = j)))) S
  rw [Bool.true_xor]; exact q
theorem g_eqB {a b : Bool} (q : Q (.bl (a == b)) S) : Rn (opEq false (.bl a) (.bl b) S) Q X := by
  show Q (.bl (xor false (a == b))) S
  rw [Bool.false_xor]; exact q
theorem g_neB {a b : Bool} (q : Q (.bl (!(a == b))) S) : Rn (opEq true (.bl a) (.bl b) S) Q X := by
  show Q (.bl (xor true (a == b))) S
  rw [Bool.true_xor]; exact q
theorem g_eqS {a b : Str} (q : Q (.bl (decide (a = b))) S) : Rn (opEq false (.str a) (.str b) S) Q X := by
  show Q (.bl (xor false (decide (a = b)))) S
  rw [Bool.false_xor]; exact q
theorem g_neS {a b : Str} (q : Q (.bl (!decide (a = b))) S) : Rn (opEq true (.str a) (.str b) S) Q X := by
  show Q (.bl (xor true (decide (a = b)))) S
  rw [Bool.true_xor]; exact q
theorem g_eqD {neg : Bool} (h : okN 9 d = true) (h2 : okN 9 e = true) (hf : flatD d = false) (q : Q (.bl (xor neg (eqD d e))) S) : Rn (opEq neg d e S) Q X := by
  have z : opEq neg d e S = .ok (.bl (xor neg (eqD d e))) S := by
    unfold opEq
    split
    · cases hf
    · cases hf
    · unfold okN at h; cases h
    · cases hf
    · rw [h, h2]; rfl
  rw [z]; exact q
theorem g_isN (q : Q (.bl (isNon d)) S) : Rn (opIs d .non S) Q X := q
theorem g_isntN (q : Q (.bl (!isNon d)) S) : Rn (opIsnt d .non S) Q X := q
theorem g_ix {ds : List D} (h : listOf S d = some ds) (h2 : atI ds i = some e) (q : Q e S) : Rn (opIx d (.int i) S) Q X := by
  unfold opIx; simp only [h, h2]; exact q
theorem g_in {neg : Bool} {ds : List D} (h : seqOf S d = some ds) (h1 : flatD x = true) (h2 : ds.all flatD = true) (q : Q (.bl (xor neg (ds.any fun d => eqF d x))) S) : Rn (opIn neg x d S) Q X := by
  unfold opIn; simp only [h, h1, h2]; exact q
theorem g_int (q : Q (.int i) S) : Rn (fInt [.int i] S) Q X := q
theorem g_len {ds : List D} (h : flatD d = false) (hb : ∀ b, d ≠ .byt b) (h2 : seqOf S d = some ds) (q : Q (.int ds.length) S) : Rn (fLen [d] S) Q X := by
  have z : fLen [d] S = .ok (.int ds.length) S := by
    unfold fLen
    split
    · rename_i hx; cases hx; cases h
    · rename_i hx; cases hx; exact absurd rfl (hb _)
    · rename_i hx; cases hx; rw [h2]
    · rename_i hx; exact absurd rfl (hx d)
  rw [z]; exact q
theorem g_lenL {ds : List D} (q : Q (.int ds.length) S) : Rn (fLen [.lst ds] S) Q X := q
theorem g_lenT {ds : List D} (q : Q (.int ds.length) S) : Rn (fLen [.tup ds] S) Q X := q
theorem g_tupleL {ds : List D} (q : Q (.tup ds) S) : Rn (fTuple [.lst ds] S) Q X := q
theorem g_tupleT {ds : List D} (q : Q (.tup ds) S) : Rn (fTuple [.tup ds] S) Q X := q
theorem g_all {bs : List Bool} (h : (listOf S d).bind blsOf = some bs) (q : Q (.bl (bs.all id)) S) : Rn (fAll [d] S) Q X := by unfold fAll; simp only [h]; exact q
theorem blsOf_map : ∀ bs : List Bool, blsOf (bs.map D.bl) = some bs
  | [] => rfl
  | b :: bs => by show (blsOf (bs.map D.bl)).map (b :: ·) = _; rw [blsOf_map bs]; rfl
theorem g_catL {xs ys : List D} (h : xs.length + ys.length ≤ 16777216) (q : Q (.lst (xs ++ ys)) S) : Rn (opPlus (.lst xs) (.lst ys) S) Q X := by
  show Rn (if xs.length + ys.length ≤ 16777216 then _ else _) Q X
  rw [if_pos h]; exact q
theorem g_getF {c : Nat} {f : Str} (q : Rn (ma δ S) (fun d S => ∃ ns ds x, objOf S d = some (c, ns, ds) ∧ (ns.zip ds).lookup f = some x ∧ Q x S) X) : Rn (mGetF c f ma δ S) Q X :=
  run_bnd' (run_mono q (fun d S ⟨ns, ds, x, h1, h2, h3⟩ => by rw [h1]; dsimp only; rw [if_pos rfl, h2]; exact h3) fun _ _ _ _ z => z)
theorem g_meth {c n : Nat} {f : Str} (q : Rn (ma δ S) (fun d S => ∃ ns ds, objOf S d = some (c, ns, ds) ∧ (ns.zip ds).lookup f = none ∧ Rn (ml δ S) (fun as S => Rn (m (d :: as) S) Q X) X) X) : Rn (mMeth c f n m ma ml δ S) Q X :=
  run_bnd' (run_mono q (fun d S ⟨ns, ds, h1, h2, h3⟩ => by rw [h1]; dsimp only; rw [if_pos ⟨rfl, h2⟩]; exact run_bnd' h3) fun _ _ _ _ z => z)
theorem g_cmpO {N c : Nat} {neg : Bool} (q : Rn (ma δ S) (fun x S => Rn (mb δ S) (fun y S => isObj S c x = true ∧ c < N ∧ (∃ k, kindD S y = some k ∧ ∀ c', k = .c c' → c' < N) ∧ Rn (m [x, y] S) (fun r S => ∃ b, r = .bl b ∧ Q (.bl (xor neg b)) S) X) X) X) : Rn (mCmpO N c neg m ma mb δ S) Q X :=
  run_bnd' (run_mono q (fun x S h => run_bnd' (run_mono h (fun y S ⟨h1, h2, ⟨k, h3, h4⟩, h5⟩ => by
    rw [h1, decide_eq_true h2]
    simp only [Bool.and_self, if_true]
    rw [h3]
    have fin : Rn (bnd (m [x, y] S) (negB neg)) Q X := run_bnd' (run_mono h5 (fun r S ⟨b, e, q⟩ => by subst e; exact q) fun _ _ _ _ z => z)
    cases k with
    | t n => exact fin
    | c c' => dsimp only; rw [if_pos (h4 c' rfl)]; exact fin) fun _ _ _ _ z => z)) fun _ _ _ _ z => z)
theorem g_binO {c : Nat} (q : Rn (ma δ S) (fun x S => Rn (mb δ S) (fun y S => isObj S c x = true ∧ isObj S c y = true ∧ Rn (m [x, y] S) Q X) X) X) : Rn (mBinO c m ma mb δ S) Q X :=
  run_bnd' (run_mono q (fun x S h => run_bnd' (run_mono h (fun y S ⟨h1, h2, h3⟩ => by rw [h1, h2]; exact h3) fun _ _ _ _ z => z)) fun _ _ _ _ z => z)
theorem g_binI {c : Nat} (q : Rn (ma δ S) (fun x S => Rn (mb δ S) (fun y S => isObj S c x = true ∧ (∃ i, y = .int i) ∧ Rn (m [x, y] S) Q X) X) X) : Rn (mBinI c m ma mb δ S) Q X :=
  run_bnd' (run_mono q (fun x S h => run_bnd' (run_mono h (fun y S ⟨h1, ⟨i, e⟩, h3⟩ => by subst e; dsimp only; rw [h1]; exact h3) fun _ _ _ _ z => z)) fun _ _ _ _ z => z)
theorem g_binR {c : Nat} (q : Rn (ma δ S) (fun x S => Rn (mb δ S) (fun y S => isObj S c y = true ∧ (∃ i, x = .int i) ∧ Rn (m [y, x] S) Q X) X) X) : Rn (mBinR c m ma mb δ S) Q X :=
  run_bnd' (run_mono q (fun x S h => run_bnd' (run_mono h (fun y S ⟨h1, ⟨i, e⟩, h3⟩ => by subst e; dsimp only; rw [h1]; exact h3) fun _ _ _ _ z => z)) fun _ _ _ _ z => z)
theorem g_lenZ {c : Nat} (q : Rn (ml δ S) (fun ds S => ∃ x, ds = [x] ∧ isObj S c x = true ∧ Rn (m [x] S) (fun r S => ∃ i : Int, r = .int i ∧ (0 ≤ i ∧ i < 9223372036854775808) ∧ Q (.int i) S) X) X) : Rn (mLenZ c m ml δ S) Q X :=
  run_bnd' (run_mono q (fun ds S ⟨x, e, h1, h3⟩ => by subst e; dsimp only; rw [h1]; exact run_bnd' (run_mono h3 (fun r S ⟨i, e, h, q⟩ => by subst e; dsimp only; rw [if_pos h]; exact q) fun _ _ _ _ z => z)) fun _ _ _ _ z => z)
theorem g_inZ {c : Nat} {neg : Bool} (q : Rn (ma δ S) (fun x S => Rn (mb δ S) (fun y S => isObj S c y = true ∧ Rn (m [y, x] S) (fun r S => ∃ b, r = .bl b ∧ Q (.bl (xor neg b)) S) X) X) X) : Rn (mInZ c neg m ma mb δ S) Q X :=
  run_bnd' (run_mono q (fun x S h => run_bnd' (run_mono h (fun y S ⟨h1, h5⟩ => by rw [h1]; exact run_bnd' (run_mono h5 (fun r S ⟨b, e, q⟩ => by subst e; exact q) fun _ _ _ _ z => z)) fun _ _ _ _ z => z)) fun _ _ _ _ z => z)
theorem g_newV {c k : Nat} {mI : MI} (q : Rn (ml δ S) (fun ds S => k ≤ ds.length ∧ ds.length ≤ 16777216 ∧ Rn (mI (ds.take k ++ [.tup (ds.drop k)]) S) (fun p S => Q (.obj c p.1 p.2) S) X) X) : Rn (mNewV c k mI ml δ S) Q X :=
  run_bnd' (run_mono q (fun ds S ⟨h1, h2, h3⟩ => by rw [if_pos ⟨h1, h2⟩]; exact run_bnd' h3) fun _ _ _ _ z => z)
theorem g_new {c : Nat} {mI : MI} {dds : List D} (q : Rn (ml δ S) (fun ds S => Rn (mI (ds ++ dds) S) (fun p S => Q (.obj c p.1 p.2) S) X) X) : Rn (mNew c mI ml dds δ S) Q X :=
  run_bnd' (run_mono q (fun ds S h3 => run_bnd' h3) fun _ _ _ _ z => z)
theorem g_starT (q : Rn (me δ S) (fun d S => ∃ xs, (d = .tup xs ∨ d = .lst xs) ∧ Rn (ml δ S) (fun ys S => QA (xs ++ ys) S) X) X) : Rn (mStar me ml δ S) QA X :=
  run_bnd' (run_mono q (fun d S ⟨xs, e, h⟩ => by
    rcases e with e | e
    · subst e; exact run_bnd' h
    · subst e; exact run_bnd' h) fun _ _ _ _ z => z)
theorem g_sortSet (q : Rn (me δ S) (fun d S => ∃ ns, (listOf S d).bind intsOf = some ns ∧ ns.length < 63 ∧ Q (.lst ((sortU ns).map D.int)) S) X) : Rn (mSortSet me δ S) Q X :=
  run_bnd' (run_mono q (fun d S ⟨ns, h1, h2, h3⟩ => by rw [h1]; dsimp only; rw [if_pos h2]; exact h3) fun _ _ _ _ z => z)
theorem g_cell (q : Rn (me δ S) (fun d S => Q (.ref S.length) (S ++ [some d])) X) : Rn (mCell me δ S) Q X := run_bnd' q
theorem g_iList (q : Rn (me δ S) (fun d S => ∃ ds, (d = .lst ds ∨ ∃ is, d = .scr is ∧ ds = is.map D.int) ∧ QA ds S) X) : Rn (mIList me δ S) QA X :=
  run_bnd' (run_mono q (fun d S ⟨ds, e, h⟩ => by
    rcases e with e | ⟨is, e, e2⟩
    · subst e; exact h
    · subst e; subst e2; exact h) fun _ _ _ _ z => z)
theorem g_iTup (q : Rn (me δ S) (fun d S => ∃ ds, d = .tup ds ∧ QA ds S) X) : Rn (mITup me δ S) QA X := run_bnd' (run_mono q (fun d S ⟨ds, e, h⟩ => by subst e; exact h) fun _ _ _ _ z => z)
theorem g_rng1 (q : Rn (ml δ S) (fun ds S => ∃ j : Int, ds = [.int j] ∧ 0 ≤ j ∧ j ≤ 16777216 ∧ QA (rngD 0 j.toNat) S) X) : Rn (mIRng1 ml δ S) QA X :=
  run_bnd' (run_mono q (fun d S ⟨j, e, h0, h1, h⟩ => by subst e; dsimp only; rw [if_pos ⟨h1, by omega⟩]; exact h) fun _ _ _ _ z => z)
theorem g_rng2 (q : Rn (ml δ S) (fun ds S => ∃ i j : Int, ds = [.int i, .int j] ∧ -1000 ≤ i ∧ i ≤ 1000000 ∧ -1000 ≤ j ∧ j ≤ 1000000 ∧ QA (rngD i (j - i).toNat) S) X) : Rn (mIRng2 ml δ S) QA X :=
  run_bnd' (run_mono q (fun d S ⟨i, j, e, h0, h1, h2, h3, h⟩ => by subst e; dsimp only; rw [if_pos ⟨⟨by omega, by omega⟩, ⟨by omega, by omega⟩, by omega⟩]; exact h) fun _ _ _ _ z => z)
theorem g_lc {mi : MA} {mg : MG} {vs : List Nat} (q : Rn (mi δ S) (fun ds S => Rn (mLcL mg mt me (mwipe δ vs) ds S) (fun ys S => Q (.lst ys) S) X) X) : Rn (mLc mi mg mt me vs δ S) Q X := run_bnd' (run_mono q (fun _ _ h => run_bnd' h) fun _ _ _ _ z => z)
theorem s_next (q : P.nx δ S) : RunS (mNext δ S) P := q
theorem s_seq (q : RunS (ms δ S) { P with nx := fun δ S => RunS (mus δ S) P }) : RunS (mSeq ms mus δ S) P := by
  unfold mSeq onNx
  cases z : ms δ S with
  | ok f S' => rw [z] at q; cases f <;> exact q
  | ex => rw [z] at q; exact q
  | bad => rw [z] at q; exact q
theorem s_asgN {i : Nat} (q : Rn (me δ S) (fun d S => P.nx (δ.set i (.val d)) S) fun c ns ds S => P.ex c ns ds δ S) : RunS (mAsg me (mGName i) δ S) P := runS_bnd (run_mono q (fun d S h => h) fun _ _ _ _ z => z)
theorem s_asgO {i : Nat} (q : Rn (me δ S) (fun d S => P.nx (δ.set i (.own false d)) S) fun c ns ds S => P.ex c ns ds δ S) : RunS (mAsgO me i δ S) P := runS_bnd q
theorem s_asgC {i : Nat} (q : Rn (me δ S) (fun d S => P.nx (δ.set i (.val (.ref S.length))) (S ++ [some d])) fun c ns ds S => P.ex c ns ds δ S) : RunS (mAsgC me i δ S) P := runS_bnd q
theorem s_ret (q : Rn (me δ S) (fun d S => P.rt d S) fun c ns ds S => P.ex c ns ds δ S) : RunS (mRet me δ S) P := runS_bnd q
theorem s_drop (q : Rn (me δ S) (fun _ S => P.nx δ S) fun c ns ds S => P.ex c ns ds δ S) : RunS (mDrop me δ S) P := runS_bnd q
theorem s_ifS (q : Rn (mt δ S) (fun b S => if b = true then RunS (ms δ S) P else RunS (mus δ S) P) fun c ns ds S => P.ex c ns ds δ S) : RunS (mIfS mt ms mus δ S) P := runS_bnd (run_mono q (fun b S h => by cases b <;> first | exact h | (simpa using h) | (exact (by simpa using h : _))) fun _ _ _ _ z => z)
theorem s_fixO {i : Nat} {b : Bool} (h : δ[i]? = some (.own b d)) (q : RunS (ms (δ.set i (.val d)) S) P) : RunS (mFix i ms δ S) P := by unfold mFix; rw [h]; exact q
theorem s_fixV {i : Nat} (h : δ[i]? = some (.val d)) (q : RunS (ms δ S) P) : RunS (mFix i ms δ S) P := by unfold mFix; rw [h]; exact q
theorem s_append {i : Nat} {b : Bool} {ds : List D} (h : δ[i]? = some (.own b (.lst ds))) (q : Rn (me δ S) (fun d S => ds.length < 16777216 ∧ P.nx (δ.set i (.own b (.lst (ds ++ [d])))) S) fun c ns ds S => P.ex c ns ds δ S) : RunS (mAppend i me δ S) P := by
  unfold mAppend; rw [h]
  exact runS_bnd (run_mono q (fun d S ⟨hl, h⟩ => by rw [if_pos hl]; exact h) fun _ _ _ _ z => z)
theorem s_aug {i : Nat} {f : Int → Int → Int} {x : Int} (h : δ[i]? = some (.val (.int x))) (q : Rn (me δ S) (fun d S => ∃ y, d = .int y ∧ P.nx (δ.set i (.val (.int (f x y)))) S) fun c ns ds S => P.ex c ns ds δ S) : RunS (mAug i f me δ S) P := by
  unfold mAug; rw [h]
  exact runS_bnd (run_mono q (fun d S ⟨y, e, h⟩ => by subst e; exact h) fun _ _ _ _ z => z)
theorem s_setI {i : Nat} {b : Bool} {ds : List D} (h : δ[i]? = some (.own b (.lst ds))) (q : Rn (me δ S) (fun d S => Rn (mk δ S) (fun k S => ∃ (kk : Int) (j : Nat), k = .int kk ∧ ixN ds.length kk = some j ∧ P.nx (δ.set i (.own b (.lst (ds.set j d)))) S) fun c ns ds S => P.ex c ns ds δ S) fun c ns ds S => P.ex c ns ds δ S) : RunS (mSetI i me mk δ S) P := by
  unfold mSetI; rw [h]
  exact runS_bnd (run_mono q (fun d S h => runS_bnd (run_mono h (fun k S ⟨kk, j, e, h1, h2⟩ => by subst e; dsimp only; rw [h1]; exact h2) fun _ _ _ _ z => z)) fun _ _ _ _ z => z)
theorem s_setFO {i c : Nat} {f : Str} {b : Bool} {ns : List Str} {ds : List D} {mv : ME} (h : δ[i]? = some (.own b (.obj c ns ds))) (hl : ns.length < 1000) (q : Rn (mv δ S) (fun d S => P.nx (δ.set i (.own b (.obj c (putN f ns) (putX f d ns ds)))) S) fun c ns ds S => P.ex c ns ds δ S) : RunS (mSetFO i c f mv δ S) P := by
  unfold mSetFO; rw [h]
  exact runS_bnd (run_mono q (fun d S h => by rw [if_pos ⟨rfl, hl⟩]; exact h) fun _ _ _ _ z => z)
theorem s_raise {c : Nat} {f : Str} (q : Rn (ml δ S) (fun ds S => P.ex c [f] ds δ S) fun c ns ds S => P.ex c ns ds δ S) : RunS (mRaise c f ml δ S) P := runS_bnd q
theorem s_for {mi : MA} {mg : MG} (q : Rn (mi δ S) (fun ds S => RunS (mLoop mg ms ds δ S) P) fun c ns ds S => P.ex c ns ds δ S) : RunS (mFor mi mg ms δ S) P := runS_bnd q
theorem s_loop {mg : MG} (I : List D → Env → Sto → Prop) (hs : ∀ d ds δ S, I (d :: ds) δ S → ∃ δ1, mg d δ = some δ1 ∧ RunS (ms δ1 S) { P with nx := I ds, ct := I ds, bk := P.nx }) (he : ∀ δ S, I [] δ S → P.nx δ S) :
    ∀ (ds : List D) (δ : Env) (S : Sto), I ds δ S → RunS (mLoop mg ms ds δ S) P
  | [], δ, S, h => he δ S h
  | d :: ds, δ, S, h => by
    obtain ⟨δ1, h1, h2⟩ := hs d ds δ S h
    unfold mLoop
    rw [h1]
    dsimp only
    cases z : ms δ1 S with
    | ok f S' =>
      rw [z] at h2
      cases f with
      | nx δ2 => exact s_loop I hs he ds δ2 S' h2
      | ct δ2 => exact s_loop I hs he ds δ2 S' h2
      | bk δ2 => exact h2
      | rt v => exact h2
      | ex => exact h2
    | ex => rw [z] at h2; exact h2
    | bad => rw [z] at h2; exact h2
theorem s_loopR {mg : MG} {lo : Int} {n : Nat} (I : Nat → Env → Sto → Prop) (h0 : I 0 δ S) (hs : ∀ k, k < n → ∀ δ S, I k δ S → ∃ δ1, mg (.int (lo + k)) δ = some δ1 ∧ RunS (ms δ1 S) { P with nx := I (k + 1), ct := I (k + 1), bk := P.nx }) (he : ∀ δ S, I n δ S → P.nx δ S) :
    RunS (mLoop mg ms (rngD lo n) δ S) P := by
  refine s_loop (fun ds δ S => ∃ k, k ≤ n ∧ ds = (rngD lo n).drop k ∧ I k δ S) ?_ ?_ _ _ _ ⟨0, Nat.zero_le _, rfl, h0⟩
  · rintro d ds δ S ⟨k, hk, e, h⟩
    have el : (rngD lo n).length = n := by simp [rngD]
    have hlt : k < n := by
      rcases Nat.lt_or_ge k n with z | z
      · exact z
      · rw [List.drop_of_length_le (by omega)] at e; cases e
    rw [List.drop_eq_getElem_cons (by omega)] at e
    obtain ⟨e1, e2⟩ := List.cons.inj e
    have ed : d = .int (lo + k) := by rw [e1]; simp [rngD]
    subst ed
    obtain ⟨δ1, h1, h2⟩ := hs k hlt δ S h
    refine ⟨δ1, h1, ?_⟩
    have imp : ∀ δ S, I (k + 1) δ S → ∃ j, j ≤ n ∧ ds = (rngD lo n).drop j ∧ I j δ S := fun δ S z => ⟨k + 1, hlt, e2, z⟩
    cases zz : ms δ1 S with
    | ok f S' => rw [zz] at h2; cases f <;> first | exact imp _ _ h2 | exact h2
    | ex => rw [zz] at h2; exact h2
    | bad => rw [zz] at h2; exact h2
  · rintro δ S ⟨k, hk, e, h⟩
    have el : (rngD lo n).length = n := by simp [rngD]
    have : k = n := by
      rcases Nat.lt_or_ge k n with z | z
      · rw [List.drop_eq_getElem_cons (by omega)] at e; cases e
      · omega
    subst this
    exact he δ S h
theorem s_run {N : Nat} {ds : List D} (q : RunS (ms (startD N ds) S) { nx := fun _ S => Q .non S, rt := Q, ex := fun c ns es _ S => X c ns es S }) : Rn (mRun N ms ds S) Q X := by
  unfold mRun fin
  cases z : ms (startD N ds) S with
  | ok f S' => rw [z] at q; cases f <;> exact q
  | ex => rw [z] at q; exact q
  | bad => rw [z] at q; exact q
theorem lcl_pure {mg : MG} {c : D → Bool} {f : D → D} : ∀ {ds : List D}, (∀ d ∈ ds, ∃ δ1, mg d δ = some δ1 ∧ mt δ1 S = .ok (c d) S ∧ (c d = true → me δ1 S = .ok (f d) S)) → mLcL mg mt me δ ds S = .ok ((ds.filter c).map f) S
  | [], _ => rfl
  | d :: ds, h => by
    obtain ⟨δ1, h1, h2, h3⟩ := h d List.mem_cons_self
    have ih := lcl_pure (ds := ds) fun x hx => h x (List.mem_cons_of_mem _ hx)
    unfold mLcL
    rw [h1]
    dsimp only
    rw [h2]
    dsimp only [noX, bnd]
    cases z : c d with
    | true => rw [if_pos rfl, h3 z]; dsimp only [noX, bnd]; rw [ih]; simp [z]
    | false => rw [if_neg (by simp), ih]; simp [z]
end
theorem s_setC {S : Sto} {δ : Env} {P : EndP} {me mo mk : ME} {m : Nat} {ds : List D} (q : Rn (me δ S) (fun d S => Rn (mo δ S) (fun x S => Rn (mk δ S) (fun k S => ∃ (kk : Int) (j : Nat), x = .ref m ∧ k = .int kk ∧ S[m]? = some (some (.lst ds)) ∧ ixN ds.length kk = some j ∧ P.nx δ (S.set m (some (.lst (ds.set j d)))))
    fun c ns ds S => P.ex c ns ds δ S) fun c ns ds S => P.ex c ns ds δ S) fun c ns ds S => P.ex c ns ds δ S) : RunS (mSetC me mo mk δ S) P :=
  runS_bnd (run_mono q (fun d S h => runS_bnd (run_mono h (fun x S h => runS_bnd (run_mono h (fun k S ⟨kk, j, e1, e2, h1, h2, h3⟩ => by
    subst e1; subst e2; dsimp only; rw [h1]; dsimp only; rw [h2]; exact h3) fun _ _ _ _ z => z)) fun _ _ _ _ z => z)) fun _ _ _ _ z => z)
def cutI (xs : List Int) : List Int := (xs.drop (HT.sIx xs.length 0 none)).take (HT.sIx xs.length xs.length (some 63) - HT.sIx xs.length 0 none)
def PotS (S T : Sto) : Prop := ∃ (cs : List Int) (pl sd : Int), S = some (.lst (cs.map D.int)) :: some (.lst [.ref 0, .int pl, .int sd]) :: T ∧ 0 ≤ pl
end MR

namespace MR
open PySem PySem.Spec L2 TP
section
variable {S S1 : Sto} {δ : Env} {Q : D → Sto → Prop} {X : XQ} {P : EndP} {d e x y : D} {me ma mb mc : ME} {mt : MT} {ml : MA} {ms : MS} {QA : List D → Sto → Prop} {m : MF}
theorem g_enum (q : Rn (ml δ S) (fun ds S => ∃ es, ds = [.lst es] ∧ QA (enumD es) S) X) : Rn (mIEnum ml δ S) QA X :=
  run_bnd' (run_mono q (fun ds S ⟨es, e, h⟩ => by subst e; exact h) fun _ _ _ _ z => z)
theorem g_eqL {c : Nat} (q : Rn (ma δ S) (fun x S => Rn (mb δ S) (fun y S => ∃ xs ys, x = .lst xs ∧ y = .lst ys ∧ EqAll c m S xs ys ∧ Q (.bl true) S) X) X) : Rn (mEqL c m ma mb δ S) Q X :=
  run_bnd' (run_mono q (fun x S h => run_bnd' (run_mono h (fun y S ⟨xs, ys, e1, e2, h1, h2⟩ => by subst e1; subst e2; dsimp only; rw [if_pos h1]; exact h2) fun _ _ _ _ z => z)) fun _ _ _ _ z => z)
end
end MR

namespace MR
open PySem PySem.Spec L2 TP
section
variable {S S1 : Sto} {δ δ1 : Env} {Q : D → Sto → Prop} {X : XQ} {P : EndP} {d e x y : D} {me ma mb mc : ME} {mt : MT} {ml mk : MA} {ms mh : MS} {QA : List D → Sto → Prop} {m : MF}
end
end MR

namespace MR
open PySem PySem.Spec L2 TP
section
variable {S : Sto} {δ : Env} {P : EndP} {me ma mb mo mk : ME} {mt : MT} {ms : MS} {mg : MG} {ml : MA} {m : MF} {Q : D → Sto → Prop} {X : XQ} {mi : MN} {nx : Nxt} {QN : Nxt → Sto → Prop}
end
end MR

namespace MR
open PySem PySem.Spec L2 TP
section
variable {S : Sto} {δ : Env} {P : EndP} {me ma mb mo mk : ME} {m : MF} {Q : D → Sto → Prop} {X : XQ} {d e x y : D} {neg : Bool}
theorem g_lc2 {mi mi1 : MA} {mg mg1 : MG} {mt mt1 : MT} {vs vs1 : List Nat} (q : Rn (mi δ S) (fun ds S => ds.length ≤ 4000 ∧ Rn (mLc2L mg mt mi1 mg1 mt1 me vs1 (mwipe δ vs) ds S) (fun ys S => Q (.lst ys) S) X) X) : Rn (mLc2 mi mg mt mi1 mg1 mt1 me vs vs1 δ S) Q X :=
  run_bnd' (run_mono q (fun ds S h => by rw [if_pos h.1]; exact run_bnd' h.2) fun _ _ _ _ z => z)
theorem lc2_pure {mi1 : MA} {mg mg1 : MG} {mt mt1 : MT} {vs1 : List Nat} {es : List D} {f : D → D → D} (he : es.length ≤ 4000) : ∀ {ds : List D}, (∀ d ∈ ds, ∃ δ1, mg d δ = some δ1 ∧ mt δ1 S = .ok true S ∧ mi1 δ1 S = .ok es S ∧ δ1.all notOwn = true ∧ ∀ e ∈ es, ∃ δ2, mg1 e (mwipe δ1 vs1) = some δ2 ∧ mt1 δ2 S = .ok true S ∧ me δ2 S = .ok (f d e) S) →
    mLc2L mg mt mi1 mg1 mt1 me vs1 δ ds S = .ok (ds.flatMap fun d => es.map (f d)) S
  | [], _ => rfl
  | d :: ds, h => by
    obtain ⟨δ1, h1, h2, h3, h4, h5⟩ := h d List.mem_cons_self
    have ih := lc2_pure (mi1 := mi1) (mg := mg) (mg1 := mg1) (mt := mt) (mt1 := mt1) (vs1 := vs1) (f := f) he (ds := ds) fun x hx => h x (List.mem_cons_of_mem _ hx)
    unfold mLc2L
    rw [h1]
    dsimp only
    rw [h2]
    dsimp only [noX, bnd]
    rw [if_pos rfl, h3]
    dsimp only [noX, bnd]
    rw [if_pos ⟨he, h4⟩, lcl_pure (c := fun _ => true) (f := f d) fun e hd => by
      obtain ⟨δ2, k1, k2, k3⟩ := h5 e hd
      exact ⟨δ2, k1, k2, fun _ => k3⟩]
    dsimp only [bnd]
    rw [ih, List.filter_eq_self.mpr fun _ _ => rfl]
    rfl
end
end MR

namespace MR
open PySem PySem.Spec L2 TP
section
variable {S : Sto} {δ : Env} {me ma mb : ME} {ml mk : MA} {m : MF} {Q : D → Sto → Prop} {X : XQ} {QA : List D → Sto → Prop}
end
end MR

namespace Law
open PySem PySem.Spec PyProof.Rows L2 TP
def topS (i : Nat) : Stmt := PySem.Challenge.pw_trustedpages_k15_lists_of_all_orders.main.body.getD i (.Pass ⟨0, 0, 0, 0⟩)
structure Txt (P : Program) (w : World) (K : PySem.W.Frag) (mg : Str → Option Value) (a_WRITER_WORDS : Addr) (a_CLEANER_WORDS : Addr) (a_READER_WORDS : Addr) (a_is_writer : Addr) (a_is_cleaner : Addr) (a_is_reader : Addr) : Prop where
  n_len : mg "len" = none
  n_isinstance : mg "isinstance" = none
  n_int : mg "int" = none
  n_bool : mg "bool" = none
  n_range : mg "range" = none
  n_list : mg "list" = none
  n_tuple : mg "tuple" = none
  n_str : mg "str" = none
  n_set : mg "set" = none
  n_all : mg "all" = none
  n_zip : mg "zip" = none
  n_sorted : mg "sorted" = none
  g_WRITER_WORDS : mg "WRITER_WORDS" = some (.ref a_WRITER_WORDS)
  g_CLEANER_WORDS : mg "CLEANER_WORDS" = some (.ref a_CLEANER_WORDS)
  g_READER_WORDS : mg "READER_WORDS" = some (.ref a_READER_WORDS)
  g_is_writer : mg "is_writer" = some (.ref a_is_writer)
  g_is_cleaner : mg "is_cleaner" = some (.ref a_is_cleaner)
  g_is_reader : mg "is_reader" = some (.ref a_is_reader)
section
variable {P : Program} {w : World} {K : PySem.W.Frag} {mg : Str → Option Value} {base : Heap} {a_WRITER_WORDS a_CLEANER_WORDS a_READER_WORDS a_is_writer a_is_cleaner a_is_reader : Addr}
abbrev s_words_of : Stmt := (topS 4)
abbrev N_words_of : List Str := ["value", "known", "found", "word"]
theorem sc_words_of : FnScope N_words_of ["value", "known"] (defScope s_words_of) := ⟨rfl, rfl, rfl, by decide +kernel, rfl, by decide +kernel, by decide +kernel⟩
def t_words_of (K : PySem.W.Frag) (W : WX) : TS :=
    (tSeq (tIfS (tNot (tB (tCB (rIsi K) (tCons (tVar 0) (tCons (tC (.ty "str")) tNil))))) (tRet (tC .non)) tNext)
    (tSeq (tAsg (tM1 rSplit (tVar 0) (tC (.str " "))) (gName 2))
    (tSeq (tIfS (tOr (tTest (tOp (rUnlike K) (tLenSetS K (tVar 2)) (tCB (TP.rLen K) (tCons (tVar 2) tNil)))) (tNot (tB (tCB (rAll K) (tCons (tLc (iList K (tVar 2)) (gName 3) tYes (tOp (rIn K false) (tVar 3) (tVar 1)) [3]) tNil))))) (tRet (tC .non)) tNext)
    (tRet (tVar 2)))))
theorem d_words_of (T : Txt P w K mg a_WRITER_WORDS a_CLEANER_WORDS a_READER_WORDS a_is_writer a_is_cleaner a_is_reader) (f : Addr) (cdv : Value) (A : Around) (outer : List Env) (s : Shared) (H : Hp) (E : XK) (hr : TP.Room 0 (A.deeper (envOfC "words_of" (defScope s_words_of) s.heap.objs.size f cdv))) :
    PSs (cxOf (L2.CX P w) P w K mg base N_words_of "words_of" (defScope s_words_of) f cdv A outer s H E) (defBody s_words_of) (t_words_of K (wOut E)) :=
  have nd := sc_words_of.nd
  have tk : Takes (cxOf (L2.CX P w) P w K mg base N_words_of "words_of" (defScope s_words_of) f cdv A outer s H E) (wOut E) := takes_of rfl rfl rfl rfl
  have po : PassesOwn (model P w) (cxOf (L2.CX P w) P w K mg base N_words_of "words_of" (defScope s_words_of) f cdv A outer s H E).A (cxOf (L2.CX P w) P w K mg base N_words_of "words_of" (defScope s_words_of) f cdv A outer s H E).env (cxOf (L2.CX P w) P w K mg base N_words_of "words_of" (defScope s_words_of) f cdv A outer s H E).xe := passes_of rfl
  (pss_cons (ps_if (pt_not (pt_val (pe_callB call_isi (by rfl) T.n_isinstance (by decide +kernel) (pa_cons (pv 0) (pa_cons (pe_bltn (by rfl) T.n_str boot_str rfl) pa_nil))))) (pss_one (ps_ret pe_non)) pss_nil)
    (pss_cons (ps_asg (pe_split (pv 0) pe_str) (pg_name (i := 2) nd rfl (Or.inl rfl)))
    (pss_cons (ps_if (PW.pt (pw_or (pt_cmpR (op_unlike hr.units) (pe_lenSetS rfl (by rfl) T.n_len (by rfl) T.n_set (pv 2)) (pe_callB TP.cr_len (by rfl) T.n_len (by decide +kernel) (pa_cons (pv 2) pa_nil)) (nomark _)) (pw_or1 (pt_not (pt_val (pe_callB (cr_all rfl) (by rfl) T.n_all (by decide +kernel) (pa_cons (pe_lc (own := [("word", 3)]) (g := (gName 3)) (tt := tYes) rfl nd (pi_list (pv 2)) (blkOk_by (own := [("word", 3)]) (N := N_words_of) (sc := defScope s_words_of) (by decide +kernel)) (fun _ _ _ _ _ => (pg_name (i := 3) nd rfl (Or.inl rfl))) (fun _ _ _ _ _ => pts_nil) (fun _ _ _ _ _ => (pe_cmpR op_in_seq (pv 3) (pv 1) (by rfl)))) pa_nil))))))) (pss_one (ps_ret pe_non)) pss_nil)
    (pss_one (ps_ret (pv 2))))))
abbrev s_all_there : Stmt := (topS 5)
abbrev N_all_there : List Str := ["found", "needed", "word"]
theorem sc_all_there : FnScope N_all_there ["found", "needed"] (defScope s_all_there) := ⟨rfl, rfl, rfl, by decide +kernel, rfl, by decide +kernel, by decide +kernel⟩
def t_all_there (K : PySem.W.Frag) (W : WX) : TS :=
    (tRet (tCB (rAll K) (tCons (tLc (iTup K (tVar 1)) (gName 2) tYes (tOp (rIn K false) (tVar 2) (tVar 0)) [2]) tNil)))
theorem d_all_there (T : Txt P w K mg a_WRITER_WORDS a_CLEANER_WORDS a_READER_WORDS a_is_writer a_is_cleaner a_is_reader) (f : Addr) (cdv : Value) (A : Around) (outer : List Env) (s : Shared) (H : Hp) (E : XK) (hr : TP.Room 0 (A.deeper (envOfC "all_there" (defScope s_all_there) s.heap.objs.size f cdv))) :
    PSs (cxOf (L2.CX P w) P w K mg base N_all_there "all_there" (defScope s_all_there) f cdv A outer s H E) (defBody s_all_there) (t_all_there K (wOut E)) :=
  have nd := sc_all_there.nd
  have tk : Takes (cxOf (L2.CX P w) P w K mg base N_all_there "all_there" (defScope s_all_there) f cdv A outer s H E) (wOut E) := takes_of rfl rfl rfl rfl
  have po : PassesOwn (model P w) (cxOf (L2.CX P w) P w K mg base N_all_there "all_there" (defScope s_all_there) f cdv A outer s H E).A (cxOf (L2.CX P w) P w K mg base N_all_there "all_there" (defScope s_all_there) f cdv A outer s H E).env (cxOf (L2.CX P w) P w K mg base N_all_there "all_there" (defScope s_all_there) f cdv A outer s H E).xe := passes_of rfl
  (pss_one (ps_ret (pe_callB (cr_all rfl) (by rfl) T.n_all (by decide +kernel) (pa_cons (pe_lc (own := [("word", 2)]) (g := (gName 2)) (tt := tYes) rfl nd (pi_tup (pv 1)) (blkOk_by (own := [("word", 2)]) (N := N_all_there) (sc := defScope s_all_there) (by decide +kernel)) (fun _ _ _ _ _ => (pg_name (i := 2) nd rfl (Or.inl rfl))) (fun _ _ _ _ _ => pts_nil) (fun _ _ _ _ _ => (pe_cmpR op_in_seq (pv 2) (pv 0) (by rfl)))) pa_nil))))
abbrev s_is_ahead : Stmt := (topS 6)
abbrev N_is_ahead : List Str := ["found", "one", "other"]
theorem sc_is_ahead : FnScope N_is_ahead ["found", "one", "other"] (defScope s_is_ahead) := ⟨rfl, rfl, rfl, by decide +kernel, rfl, by decide +kernel, by decide +kernel⟩
def t_is_ahead (K : PySem.W.Frag) (W : WX) : TS :=
    (tRet (tOrV (tOp (rIn K true) (tVar 1) (tVar 0)) (tOrV (tOp (rIn K true) (tVar 2) (tVar 0)) (tOp rLess (tBM K "list" (rIndex K) (tVar 0) (tCons (tVar 1) tNil)) (tBM K "list" (rIndex K) (tVar 0) (tCons (tVar 2) tNil))))))
theorem d_is_ahead (T : Txt P w K mg a_WRITER_WORDS a_CLEANER_WORDS a_READER_WORDS a_is_writer a_is_cleaner a_is_reader) (f : Addr) (cdv : Value) (A : Around) (outer : List Env) (s : Shared) (H : Hp) (E : XK) (hr : TP.Room 0 (A.deeper (envOfC "is_ahead" (defScope s_is_ahead) s.heap.objs.size f cdv))) :
    PSs (cxOf (L2.CX P w) P w K mg base N_is_ahead "is_ahead" (defScope s_is_ahead) f cdv A outer s H E) (defBody s_is_ahead) (t_is_ahead K (wOut E)) :=
  have nd := sc_is_ahead.nd
  have tk : Takes (cxOf (L2.CX P w) P w K mg base N_is_ahead "is_ahead" (defScope s_is_ahead) f cdv A outer s H E) (wOut E) := takes_of rfl rfl rfl rfl
  have po : PassesOwn (model P w) (cxOf (L2.CX P w) P w K mg base N_is_ahead "is_ahead" (defScope s_is_ahead) f cdv A outer s H E).A (cxOf (L2.CX P w) P w K mg base N_is_ahead "is_ahead" (defScope s_is_ahead) f cdv A outer s H E).env (cxOf (L2.CX P w) P w K mg base N_is_ahead "is_ahead" (defScope s_is_ahead) f cdv A outer s H E).xe := passes_of rfl
  (pss_one (ps_ret (pe_or (pe_cmpR op_notIn_seq (pv 1) (pv 0) (by rfl)) (pe_or (pe_cmpR op_notIn_seq (pv 2) (pv 0) (by rfl)) (pe_one (pe_cmpR op_less (pe_bm PySem.F.plainAttrs_list PySem.F.slot_list_index PySem.F.type_list_index mt_index (pv 0) (pa_cons (pv 1) pa_nil)) (pe_bm PySem.F.plainAttrs_list PySem.F.slot_list_index PySem.F.type_list_index mt_index (pv 0) (pa_cons (pv 2) pa_nil)) (nomark _)))))))
abbrev s_is_locked_well : Stmt := (topS 7)
abbrev N_is_locked_well : List Str := ["found"]
theorem sc_is_locked_well : FnScope N_is_locked_well ["found"] (defScope s_is_locked_well) := ⟨rfl, rfl, rfl, by decide +kernel, rfl, by decide +kernel, by decide +kernel⟩
def t_is_locked_well (K : PySem.W.Frag) (sp_is_ahead : Sp) (W : WX) : TS :=
    (tRet (tAndV (tOp (rSame K) (tOp (rIn K false) (tC (.str "lock")) (tVar 0)) (tOp (rIn K false) (tC (.str "unlock")) (tVar 0))) (tCallZ sp_is_ahead W (tCons (tVar 0) (tCons (tC (.str "lock")) (tCons (tC (.str "unlock")) tNil))))))
theorem d_is_locked_well {sp_is_ahead : Sp} (T : Txt P w K mg a_WRITER_WORDS a_CLEANER_WORDS a_READER_WORDS a_is_writer a_is_cleaner a_is_reader) (I_is_ahead : FnZ P w K mg base 1 "is_ahead" ["found", "one", "other"] sp_is_ahead) (f : Addr) (cdv : Value) (A : Around) (outer : List Env) (s : Shared) (H : Hp) (E : XK) (hr : TP.Room 1 (A.deeper (envOfC "is_locked_well" (defScope s_is_locked_well) s.heap.objs.size f cdv))) :
    PSs (cxOf (L2.CX P w) P w K mg base N_is_locked_well "is_locked_well" (defScope s_is_locked_well) f cdv A outer s H E) (defBody s_is_locked_well) (t_is_locked_well K sp_is_ahead (wOut E)) :=
  have nd := sc_is_locked_well.nd
  have tk : Takes (cxOf (L2.CX P w) P w K mg base N_is_locked_well "is_locked_well" (defScope s_is_locked_well) f cdv A outer s H E) (wOut E) := takes_of rfl rfl rfl rfl
  have po : PassesOwn (model P w) (cxOf (L2.CX P w) P w K mg base N_is_locked_well "is_locked_well" (defScope s_is_locked_well) f cdv A outer s H E).A (cxOf (L2.CX P w) P w K mg base N_is_locked_well "is_locked_well" (defScope s_is_locked_well) f cdv A outer s H E).env (cxOf (L2.CX P w) P w K mg base N_is_locked_well "is_locked_well" (defScope s_is_locked_well) f cdv A outer s H E).xe := passes_of rfl
  (pss_one (ps_ret (pe_and (pe_cmpR (op_same hr.units) (pe_cmpR op_in_seq pe_str (pv 0) (by rfl)) (pe_cmpR op_in_seq pe_str (pv 0) (by rfl)) (nomark _)) (pe_one (pe_callZ I_is_ahead hr (by decide) tk (pa_cons (pv 0) (pa_cons pe_str (pa_cons pe_str pa_nil))))))))
abbrev s_is_writer : Stmt := (topS 8)
abbrev N_is_writer : List Str := ["value", "found"]
theorem sc_is_writer : FnScope N_is_writer ["value"] (defScope s_is_writer) := ⟨rfl, rfl, rfl, by decide +kernel, rfl, by decide +kernel, by decide +kernel⟩
def t_is_writer (K : PySem.W.Frag) (a_WRITER_WORDS : Addr) (sp_words_of : Sp) (sp_all_there : Sp) (sp_is_ahead : Sp) (sp_is_locked_well : Sp) (W : WX) : TS :=
    (tSeq (tAsg (tCallZ sp_words_of W (tCons (tVar 0) (tCons (tC (.ref a_WRITER_WORDS)) tNil))) (gName 1))
    (tSeq (tIfS (tOr (tTest (tOp rIsNo (tVar 1) (tC .non))) (tNot (tB (tCallZ sp_all_there W (tCons (tVar 1) (tCons (tTup (tCons (tC (.str "change")) (tCons (tC (.str "enter")) (tCons (tC (.str "commit")) tNil)))) tNil)))))) (tRet (tC (.bl false))) tNext)
    (tRet (tAndV (tCallZ sp_is_ahead W (tCons (tVar 1) (tCons (tC (.str "change")) (tCons (tC (.str "enter")) tNil)))) (tAndV (tCallZ sp_is_ahead W (tCons (tVar 1) (tCons (tC (.str "change")) (tCons (tC (.str "commit")) tNil)))) (tCallZ sp_is_locked_well W (tCons (tVar 1) tNil)))))))
theorem d_is_writer {sp_words_of : Sp} {sp_all_there : Sp} {sp_is_ahead : Sp} {sp_is_locked_well : Sp} (T : Txt P w K mg a_WRITER_WORDS a_CLEANER_WORDS a_READER_WORDS a_is_writer a_is_cleaner a_is_reader) (I_words_of : FnZ P w K mg base 1 "words_of" ["value", "known"] sp_words_of) (I_all_there : FnZ P w K mg base 1 "all_there" ["found", "needed"] sp_all_there) (I_is_ahead : FnZ P w K mg base 1 "is_ahead" ["found", "one", "other"] sp_is_ahead) (I_is_locked_well : FnZ P w K mg base 2 "is_locked_well" ["found"] sp_is_locked_well) (f : Addr) (cdv : Value) (A : Around) (outer : List Env) (s : Shared) (H : Hp) (E : XK) (hr : TP.Room 2 (A.deeper (envOfC "is_writer" (defScope s_is_writer) s.heap.objs.size f cdv))) :
    PSs (cxOf (L2.CX P w) P w K mg base N_is_writer "is_writer" (defScope s_is_writer) f cdv A outer s H E) (defBody s_is_writer) (t_is_writer K a_WRITER_WORDS sp_words_of sp_all_there sp_is_ahead sp_is_locked_well (wOut E)) :=
  have nd := sc_is_writer.nd
  have tk : Takes (cxOf (L2.CX P w) P w K mg base N_is_writer "is_writer" (defScope s_is_writer) f cdv A outer s H E) (wOut E) := takes_of rfl rfl rfl rfl
  have po : PassesOwn (model P w) (cxOf (L2.CX P w) P w K mg base N_is_writer "is_writer" (defScope s_is_writer) f cdv A outer s H E).A (cxOf (L2.CX P w) P w K mg base N_is_writer "is_writer" (defScope s_is_writer) f cdv A outer s H E).env (cxOf (L2.CX P w) P w K mg base N_is_writer "is_writer" (defScope s_is_writer) f cdv A outer s H E).xe := passes_of rfl
  (pss_cons (ps_asg (pe_callZ I_words_of hr (by decide) tk (pa_cons (pv 0) (pa_cons (pe_globA T.g_WRITER_WORDS) pa_nil))) (pg_name (i := 1) nd rfl (Or.inl rfl)))
    (pss_cons (ps_if (PW.pt (pw_or (pt_cmpR op_isno (pv 1) pe_non (nomark _)) (pw_or1 (pt_not (pt_val (pe_callZ I_all_there hr (by decide) tk (pa_cons (pv 1) (pa_cons (pe_tup (pa_cons pe_str (pa_cons pe_str (pa_cons pe_str pa_nil)))) pa_nil)))))))) (pss_one (ps_ret pe_bl)) pss_nil)
    (pss_one (ps_ret (pe_and (pe_callZ I_is_ahead hr (by decide) tk (pa_cons (pv 1) (pa_cons pe_str (pa_cons pe_str pa_nil)))) (pe_and (pe_callZ I_is_ahead hr (by decide) tk (pa_cons (pv 1) (pa_cons pe_str (pa_cons pe_str pa_nil)))) (pe_one (pe_callZ I_is_locked_well hr (by decide) tk (pa_cons (pv 1) pa_nil)))))))))
abbrev s_is_cleaner : Stmt := (topS 9)
abbrev N_is_cleaner : List Str := ["value", "found"]
theorem sc_is_cleaner : FnScope N_is_cleaner ["value"] (defScope s_is_cleaner) := ⟨rfl, rfl, rfl, by decide +kernel, rfl, by decide +kernel, by decide +kernel⟩
def t_is_cleaner (K : PySem.W.Frag) (a_CLEANER_WORDS : Addr) (sp_words_of : Sp) (sp_all_there : Sp) (sp_is_ahead : Sp) (sp_is_locked_well : Sp) (W : WX) : TS :=
    (tSeq (tAsg (tCallZ sp_words_of W (tCons (tVar 0) (tCons (tC (.ref a_CLEANER_WORDS)) tNil))) (gName 1))
    (tSeq (tIfS (tOr (tTest (tOp rIsNo (tVar 1) (tC .non))) (tOr (tNot (tB (tCallZ sp_all_there W (tCons (tVar 1) (tCons (tTup (tCons (tC (.str "look")) (tCons (tC (.str "set")) tNil))) tNil))))) (tNot (tB (tCallZ sp_is_locked_well W (tCons (tVar 1) tNil)))))) (tRet (tC (.bl false))) tNext)
    (tRet (tAndV (tCallZ sp_is_ahead W (tCons (tVar 1) (tCons (tC (.str "look")) (tCons (tC (.str "set")) tNil)))) (tAndV (tCallZ sp_is_ahead W (tCons (tVar 1) (tCons (tC (.str "remove")) (tCons (tC (.str "look")) tNil)))) (tCallZ sp_is_ahead W (tCons (tVar 1) (tCons (tC (.str "set")) (tCons (tC (.str "again")) tNil)))))))))
theorem d_is_cleaner {sp_words_of : Sp} {sp_all_there : Sp} {sp_is_ahead : Sp} {sp_is_locked_well : Sp} (T : Txt P w K mg a_WRITER_WORDS a_CLEANER_WORDS a_READER_WORDS a_is_writer a_is_cleaner a_is_reader) (I_words_of : FnZ P w K mg base 1 "words_of" ["value", "known"] sp_words_of) (I_all_there : FnZ P w K mg base 1 "all_there" ["found", "needed"] sp_all_there) (I_is_ahead : FnZ P w K mg base 1 "is_ahead" ["found", "one", "other"] sp_is_ahead) (I_is_locked_well : FnZ P w K mg base 2 "is_locked_well" ["found"] sp_is_locked_well) (f : Addr) (cdv : Value) (A : Around) (outer : List Env) (s : Shared) (H : Hp) (E : XK) (hr : TP.Room 2 (A.deeper (envOfC "is_cleaner" (defScope s_is_cleaner) s.heap.objs.size f cdv))) :
    PSs (cxOf (L2.CX P w) P w K mg base N_is_cleaner "is_cleaner" (defScope s_is_cleaner) f cdv A outer s H E) (defBody s_is_cleaner) (t_is_cleaner K a_CLEANER_WORDS sp_words_of sp_all_there sp_is_ahead sp_is_locked_well (wOut E)) :=
  have nd := sc_is_cleaner.nd
  have tk : Takes (cxOf (L2.CX P w) P w K mg base N_is_cleaner "is_cleaner" (defScope s_is_cleaner) f cdv A outer s H E) (wOut E) := takes_of rfl rfl rfl rfl
  have po : PassesOwn (model P w) (cxOf (L2.CX P w) P w K mg base N_is_cleaner "is_cleaner" (defScope s_is_cleaner) f cdv A outer s H E).A (cxOf (L2.CX P w) P w K mg base N_is_cleaner "is_cleaner" (defScope s_is_cleaner) f cdv A outer s H E).env (cxOf (L2.CX P w) P w K mg base N_is_cleaner "is_cleaner" (defScope s_is_cleaner) f cdv A outer s H E).xe := passes_of rfl
  (pss_cons (ps_asg (pe_callZ I_words_of hr (by decide) tk (pa_cons (pv 0) (pa_cons (pe_globA T.g_CLEANER_WORDS) pa_nil))) (pg_name (i := 1) nd rfl (Or.inl rfl)))
    (pss_cons (ps_if (PW.pt (pw_or (pt_cmpR op_isno (pv 1) pe_non (nomark _)) (pw_or (pt_not (pt_val (pe_callZ I_all_there hr (by decide) tk (pa_cons (pv 1) (pa_cons (pe_tup (pa_cons pe_str (pa_cons pe_str pa_nil))) pa_nil))))) (pw_or1 (pt_not (pt_val (pe_callZ I_is_locked_well hr (by decide) tk (pa_cons (pv 1) pa_nil)))))))) (pss_one (ps_ret pe_bl)) pss_nil)
    (pss_one (ps_ret (pe_and (pe_callZ I_is_ahead hr (by decide) tk (pa_cons (pv 1) (pa_cons pe_str (pa_cons pe_str pa_nil)))) (pe_and (pe_callZ I_is_ahead hr (by decide) tk (pa_cons (pv 1) (pa_cons pe_str (pa_cons pe_str pa_nil)))) (pe_one (pe_callZ I_is_ahead hr (by decide) tk (pa_cons (pv 1) (pa_cons pe_str (pa_cons pe_str pa_nil)))))))))))
abbrev s_is_reader : Stmt := (topS 10)
abbrev N_is_reader : List Str := ["value", "found"]
theorem sc_is_reader : FnScope N_is_reader ["value"] (defScope s_is_reader) := ⟨rfl, rfl, rfl, by decide +kernel, rfl, by decide +kernel, by decide +kernel⟩
def t_is_reader (K : PySem.W.Frag) (a_READER_WORDS : Addr) (sp_words_of : Sp) (sp_all_there : Sp) (sp_is_ahead : Sp) (W : WX) : TS :=
    (tSeq (tAsg (tCallZ sp_words_of W (tCons (tVar 0) (tCons (tC (.ref a_READER_WORDS)) tNil))) (gName 1))
    (tSeq (tIfS (tOr (tTest (tOp rIsNo (tVar 1) (tC .non))) (tOr (tNot (tB (tCallZ sp_all_there W (tCons (tVar 1) (tCons (tTup (tCons (tC (.str "entry")) (tCons (tC (.str "mark")) (tCons (tC (.str "page")) tNil)))) tNil))))) (tTest (tOp (rUnlike K) (tOp (rIx K) (tVar 1) (tUn rNeg (tC (.int 1)))) (tC (.str "page")))))) (tRet (tC (.bl false))) tNext)
    (tSeq (tIfS (tOr (tTest (tOp (rUnlike K) (tOp (rIn K false) (tC (.str "take")) (tVar 1)) (tOp (rIn K false) (tC (.str "tell")) (tVar 1)))) (tTest (tOp (rSame K) (tOp (rIn K false) (tC (.str "hold")) (tVar 1)) (tOp (rIn K false) (tC (.str "take")) (tVar 1))))) (tRet (tC (.bl false))) tNext)
    (tRet (tCallZ sp_is_ahead W (tCons (tVar 1) (tCons (tC (.str "take")) (tCons (tC (.str "tell")) tNil))))))))
theorem d_is_reader {sp_words_of : Sp} {sp_all_there : Sp} {sp_is_ahead : Sp} (T : Txt P w K mg a_WRITER_WORDS a_CLEANER_WORDS a_READER_WORDS a_is_writer a_is_cleaner a_is_reader) (I_words_of : FnZ P w K mg base 1 "words_of" ["value", "known"] sp_words_of) (I_all_there : FnZ P w K mg base 1 "all_there" ["found", "needed"] sp_all_there) (I_is_ahead : FnZ P w K mg base 1 "is_ahead" ["found", "one", "other"] sp_is_ahead) (f : Addr) (cdv : Value) (A : Around) (outer : List Env) (s : Shared) (H : Hp) (E : XK) (hr : TP.Room 1 (A.deeper (envOfC "is_reader" (defScope s_is_reader) s.heap.objs.size f cdv))) :
    PSs (cxOf (L2.CX P w) P w K mg base N_is_reader "is_reader" (defScope s_is_reader) f cdv A outer s H E) (defBody s_is_reader) (t_is_reader K a_READER_WORDS sp_words_of sp_all_there sp_is_ahead (wOut E)) :=
  have nd := sc_is_reader.nd
  have tk : Takes (cxOf (L2.CX P w) P w K mg base N_is_reader "is_reader" (defScope s_is_reader) f cdv A outer s H E) (wOut E) := takes_of rfl rfl rfl rfl
  have po : PassesOwn (model P w) (cxOf (L2.CX P w) P w K mg base N_is_reader "is_reader" (defScope s_is_reader) f cdv A outer s H E).A (cxOf (L2.CX P w) P w K mg base N_is_reader "is_reader" (defScope s_is_reader) f cdv A outer s H E).env (cxOf (L2.CX P w) P w K mg base N_is_reader "is_reader" (defScope s_is_reader) f cdv A outer s H E).xe := passes_of rfl
  (pss_cons (ps_asg (pe_callZ I_words_of hr (by decide) tk (pa_cons (pv 0) (pa_cons (pe_globA T.g_READER_WORDS) pa_nil))) (pg_name (i := 1) nd rfl (Or.inl rfl)))
    (pss_cons (ps_if (PW.pt (pw_or (pt_cmpR op_isno (pv 1) pe_non (nomark _)) (pw_or (pt_not (pt_val (pe_callZ I_all_there hr (by decide) tk (pa_cons (pv 1) (pa_cons (pe_tup (pa_cons pe_str (pa_cons pe_str (pa_cons pe_str pa_nil)))) pa_nil))))) (pw_or1 (pt_cmpR (op_unlike hr.units) (pe_ix ix_seq (pv 1) (pe_un un_minus pe_int) (fun _ _ => rfl)) pe_str (nomark _)))))) (pss_one (ps_ret pe_bl)) pss_nil)
    (pss_cons (ps_if (PW.pt (pw_or (pt_cmpR (op_unlike hr.units) (pe_cmpR op_in_seq pe_str (pv 1) (by rfl)) (pe_cmpR op_in_seq pe_str (pv 1) (by rfl)) (nomark _)) (pw_or1 (pt_cmpR (op_same hr.units) (pe_cmpR op_in_seq pe_str (pv 1) (by rfl)) (pe_cmpR op_in_seq pe_str (pv 1) (by rfl)) (nomark _))))) (pss_one (ps_ret pe_bl)) pss_nil)
    (pss_one (ps_ret (pe_callZ I_is_ahead hr (by decide) tk (pa_cons (pv 1) (pa_cons pe_str (pa_cons pe_str pa_nil)))))))))
abbrev s_mixed : Stmt := (topS 11)
abbrev N_mixed : List Str := ["words", "rest", "rows", "word", "row", "at"]
theorem sc_mixed : FnScope N_mixed ["words", "rest"] (defScope s_mixed) := ⟨rfl, rfl, rfl, by decide +kernel, rfl, by decide +kernel, by decide +kernel⟩
def t_mixed (K : PySem.W.Frag) (W : WX) : TS :=
    (tSeq (tAsg (tLst (tCons (tCB (rTupleOf K) (tCons (tVar 0) tNil)) tNil)) (gName 2))
    (tSeq (tFor (iTup K (tVar 1)) (gName 3) (tAsg (tLc2 (iList K (tVar 2)) (gName 4) tYes (iRng1 (tCons (tOp rPlus (tCB (TP.rLen K) (tCons (tVar 4) tNil)) (tC (.int 1))) tNil)) (gName 5) tYes (tTup (StX.tStar K (tSl (rSlA K) (tVar 4) tNoPart (tPart (tVar 5))) (tCons (tVar 3) (StX.tStar K (tSl (rSlA K) (tVar 4) (tPart (tVar 5)) tNoPart) tNil)))) [4, 5] [5]) (gName 2)))
    (tRet (tVar 2))))
theorem d_mixed (T : Txt P w K mg a_WRITER_WORDS a_CLEANER_WORDS a_READER_WORDS a_is_writer a_is_cleaner a_is_reader) (f : Addr) (cdv : Value) (A : Around) (outer : List Env) (s : Shared) (H : Hp) (E : XK) (hr : TP.Room 0 (A.deeper (envOfC "mixed" (defScope s_mixed) s.heap.objs.size f cdv))) :
    PSs (cxOf (L2.CX P w) P w K mg base N_mixed "mixed" (defScope s_mixed) f cdv A outer s H E) (defBody s_mixed) (t_mixed K (wOut E)) :=
  have nd := sc_mixed.nd
  have tk : Takes (cxOf (L2.CX P w) P w K mg base N_mixed "mixed" (defScope s_mixed) f cdv A outer s H E) (wOut E) := takes_of rfl rfl rfl rfl
  have po : PassesOwn (model P w) (cxOf (L2.CX P w) P w K mg base N_mixed "mixed" (defScope s_mixed) f cdv A outer s H E).A (cxOf (L2.CX P w) P w K mg base N_mixed "mixed" (defScope s_mixed) f cdv A outer s H E).env (cxOf (L2.CX P w) P w K mg base N_mixed "mixed" (defScope s_mixed) f cdv A outer s H E).xe := passes_of rfl
  (pss_cons (ps_asg (pe_lst (pa_cons (pe_callTy cr_tuple (by rfl) T.n_tuple (by decide +kernel) (pa_cons (pv 0) pa_nil)) pa_nil)) (pg_name (i := 2) nd rfl (Or.inl rfl)))
    (pss_cons (ps_for po rfl (pi_tup (pv 1)) (pg_name (i := 3) nd rfl (Or.inr rfl)) (pss_one (ps_setLc2 (i := 2) (own := [("row", 4), ("at", 5)]) (vs1 := [5]) (g := (gName 4)) (tt := tYes) (g1 := (gName 5)) (tt1 := tYes) rfl nd rfl rfl (sw_true rfl rfl rfl (by decide +kernel)) (pi_list (pv 2)) (blkOk_by (own := [("row", 4), ("at", 5)]) (N := N_mixed) (sc := defScope s_mixed) (by decide +kernel)) (by decide) (fun _ _ _ _ _ => (pg_name (i := 4) nd rfl (Or.inl rfl))) (fun _ _ _ _ _ => pts_nil) (fun _ _ _ _ _ => (pi_range1 (by rfl) T.n_range (pa_cons (pe_op op_plus (pe_callB TP.cr_len (by rfl) T.n_len (by decide +kernel) (pa_cons (pv 4) pa_nil)) pe_int) pa_nil))) (fun _ _ _ _ _ => (pg_name (i := 5) nd rfl (Or.inl rfl))) (fun _ _ _ _ _ => pts_nil) (fun _ _ _ _ _ => (pe_tup (StX.pa_star (pe_slice sl_tupA (pv 4) po_none (po_some (pv 5))) (pa_cons (pv 3) (StX.pa_star (pe_slice sl_tupA (pv 4) (po_some (pv 5)) po_none) pa_nil))))))))
    (pss_one (ps_ret (pv 2)))))
abbrev s_listed : Stmt := (topS 12)
abbrev N_listed : List Str := ["needed", "free", "is_order", "found", "some", "rows", "text", "row"]
theorem sc_listed : FnScope N_listed ["needed", "free", "is_order"] (defScope s_listed) := ⟨rfl, rfl, rfl, by decide +kernel, rfl, by decide +kernel, by decide +kernel⟩
def t_listed (K : PySem.W.Frag) (a_is_cleaner : Addr) (a_is_reader : Addr) (a_is_writer : Addr) (sp_is_writer : Sp) (sp_is_cleaner : Sp) (sp_is_reader : Sp) (sp_mixed : Sp) (W : WX) : TS :=
    (tSeq (tAsg (tLst tNil) (gName 3))
    (tSeq (tFor (iLT K (tVar 1)) (gName 4) (tSeq (tAsg (tCallZ sp_mixed W (tCons (tSl (rSlA K) (tVar 0) tNoPart (tPart (tC (.int 1)))) (tCons (tTup (StX.tStar K (tSl (rSlA K) (tVar 0) (tPart (tC (.int 1))) tNoPart) (StX.tStar K (tVar 4) tNil))) tNil))) (gName 5))
    (tDrop (tBM K "list" rExtend (tVar 3) (tCons (tLc (iList K (tLc (iList K (tVar 5)) (gName 7) tYes (tM1 (rJoin K) (tC (.str " ")) (tVar 7)) [7])) (gName 6) (tTru K (tCallV 2 [(a_is_writer, sp_is_writer), (a_is_cleaner, sp_is_cleaner), (a_is_reader, sp_is_reader)] noW (tCons (tVar 6) tNil))) (tVar 6) [6]) tNil)))))
    (tRet (tCB (rSortedTx K) (tCons (tLc (iList K (tVar 3)) (gName 6) tYes (tCB rStrS (tCons (tVar 6) tNil)) [6]) tNil)))))
theorem d_listed {sp_is_writer : Sp} {sp_is_cleaner : Sp} {sp_is_reader : Sp} {sp_mixed : Sp} (T : Txt P w K mg a_WRITER_WORDS a_CLEANER_WORDS a_READER_WORDS a_is_writer a_is_cleaner a_is_reader) (I_is_writer : FnZ P w K mg base 3 "is_writer" ["value"] sp_is_writer) (I_is_cleaner : FnZ P w K mg base 3 "is_cleaner" ["value"] sp_is_cleaner) (I_is_reader : FnZ P w K mg base 2 "is_reader" ["value"] sp_is_reader) (I_mixed : FnZ P w K mg base 1 "mixed" ["words", "rest"] sp_mixed) (f : Addr) (cdv : Value) (A : Around) (outer : List Env) (s : Shared) (H : Hp) (E : XK) (hr : TP.Room 3 (A.deeper (envOfC "listed" (defScope s_listed) s.heap.objs.size f cdv))) :
    PSs (cxOf (L2.CX P w) P w K mg base N_listed "listed" (defScope s_listed) f cdv A outer s H E) (defBody s_listed) (t_listed K a_is_cleaner a_is_reader a_is_writer sp_is_writer sp_is_cleaner sp_is_reader sp_mixed (wOut E)) :=
  have nd := sc_listed.nd
  have tk : Takes (cxOf (L2.CX P w) P w K mg base N_listed "listed" (defScope s_listed) f cdv A outer s H E) (wOut E) := takes_of rfl rfl rfl rfl
  have po : PassesOwn (model P w) (cxOf (L2.CX P w) P w K mg base N_listed "listed" (defScope s_listed) f cdv A outer s H E).A (cxOf (L2.CX P w) P w K mg base N_listed "listed" (defScope s_listed) f cdv A outer s H E).env (cxOf (L2.CX P w) P w K mg base N_listed "listed" (defScope s_listed) f cdv A outer s H E).xe := passes_of rfl
  (pss_cons (ps_asg (pe_lst pa_nil) (pg_name (i := 3) nd rfl (Or.inl rfl)))
    (pss_cons (ps_for po rfl (pi_lt (pv 1)) (pg_name (i := 4) nd rfl (Or.inl rfl)) (pss_cons (ps_asg (pe_callZ I_mixed hr (by decide) tk (pa_cons (pe_slice sl_tupA (pv 0) po_none (po_some pe_int)) (pa_cons (pe_tup (StX.pa_star (pe_slice sl_tupA (pv 0) (po_some pe_int) po_none) (StX.pa_star (pv 4) pa_nil))) pa_nil))) (pg_name (i := 5) nd rfl (Or.inl rfl)))
    (pss_one (ps_expr (pe_bm PySem.F.plainAttrs_list PySem.F.slot_list_extend PySem.F.type_list_extend mt_extend (pv 3) (pa_cons (pe_lc (own := [("text", 6)]) (g := (gName 6)) (tt := (tTru K (tCallV 2 [(a_is_writer, sp_is_writer), (a_is_cleaner, sp_is_cleaner), (a_is_reader, sp_is_reader)] noW (tCons (tVar 6) tNil)))) rfl nd (pi_list (pe_lc (own := [("row", 7)]) (g := (gName 7)) (tt := tYes) rfl nd (pi_list (pv 5)) (blkOk_by (own := [("row", 7)]) (N := N_listed) (sc := defScope s_listed) (by decide +kernel)) (fun _ _ _ _ _ => (pg_name (i := 7) nd rfl (Or.inl rfl))) (fun _ _ _ _ _ => pts_nil) (fun _ _ _ _ _ => (pe_join pe_str (pv 7))))) (blkOk_by (own := [("text", 6)]) (N := N_listed) (sc := defScope s_listed) (by decide +kernel)) (fun _ _ _ _ _ => (pg_name (i := 6) nd rfl (Or.inl rfl))) (fun _ _ _ _ _ => (pts_one (pt_truth (pe_callV (i := 2) (fs := [(a_is_writer, sp_is_writer), (a_is_cleaner, sp_is_cleaner), (a_is_reader, sp_is_reader)]) (.cons T.g_is_writer I_is_writer (by decide) (.cons T.g_is_cleaner I_is_cleaner (by decide) (.cons T.g_is_reader I_is_reader (by decide) .nil))) hr rfl (by first | exact Or.inl rfl | exact Or.inr (Or.inl rfl) | exact Or.inr (Or.inr rfl)) takes0 (pa_cons (pv 6) pa_nil)) (by intro _; rfl)))) (fun _ _ _ _ _ => (pv 6))) pa_nil))))))
    (pss_one (ps_ret (pe_callB cr_sortedTx (by rfl) T.n_sorted (by decide +kernel) (pa_cons (pe_lc (own := [("text", 6)]) (g := (gName 6)) (tt := tYes) rfl nd (pi_list (pv 3)) (blkOk_by (own := [("text", 6)]) (N := N_listed) (sc := defScope s_listed) (by decide +kernel)) (fun _ _ _ _ _ => (pg_name (i := 6) nd rfl (Or.inl rfl))) (fun _ _ _ _ _ => pts_nil) (fun _ _ _ _ _ => (pe_callTy cr_strS (by rfl) T.n_str (by decide +kernel) (pa_cons (pv 6) pa_nil)))) pa_nil))))))
abbrev s_writer_orders : Stmt := (topS 13)
abbrev N_writer_orders : List Str := ["free", "text"]
theorem sc_writer_orders : GScope N_writer_orders [] (defScope s_writer_orders) := ⟨rfl, rfl, rfl, by decide +kernel, rfl, by decide +kernel, by decide +kernel⟩
def t_writer_orders (K : PySem.W.Frag) (a_WRITER_WORDS : Addr) (a_is_writer : Addr) (sp_listed : Sp) : TGn :=
    (tGThen (tPlain (tAsg (tTup (tCons (tTup tNil) (tCons (tTup (tCons (tC (.str "clear")) tNil)) (tCons (tTup (tCons (tC (.str "lock")) (tCons (tC (.str "unlock")) tNil))) (tCons (tTup (tCons (tC (.str "clear")) (tCons (tC (.str "lock")) (tCons (tC (.str "unlock")) tNil)))) tNil))))) (gName 0)))
    (tGThen (tGFor (iList K (tCallZ sp_listed noW (tCons (tSl (rSlA K) (tC (.ref a_WRITER_WORDS)) tNoPart (tPart (tC (.int 3)))) (tCons (tVar 0) (tCons (tC (.ref a_is_writer)) tNil))))) (gName 1) (tGThen (tGYield (tVar 1))
    tG0))
    tG0))
theorem d_writer_orders {sp_listed : Sp} (T : Txt P w K mg a_WRITER_WORDS a_CLEANER_WORDS a_READER_WORDS a_is_writer a_is_cleaner a_is_reader) (I_listed : FnZ P w K mg base 4 "listed" ["needed", "free", "is_order"] sp_listed) (f : Addr) (cdv : Value) (A : Around) (outer : List Env) (s : Shared) (H : Hp) (pn : List (Addr × Obj)) (hr : TP.Room 4 (A.deeper (envOfC "writer_orders" (defScope s_writer_orders) s.heap.objs.size f cdv))) :
    GSts (cxG P w K mg base N_writer_orders "writer_orders" (defScope s_writer_orders) f cdv A outer s H pn) (defBody s_writer_orders) (t_writer_orders K a_WRITER_WORDS a_is_writer sp_listed) :=
  have nd := sc_writer_orders.nd
  (gsts_cons (gst_plain (ps_asg (pe_tup (pa_cons (pe_tup pa_nil) (pa_cons (pe_tup (pa_cons pe_str pa_nil)) (pa_cons (pe_tup (pa_cons pe_str (pa_cons pe_str pa_nil))) (pa_cons (pe_tup (pa_cons pe_str (pa_cons pe_str (pa_cons pe_str pa_nil)))) pa_nil))))) (pg_name (i := 0) nd rfl (Or.inl rfl))))
    (gsts_cons (gst_for rfl (pi_list (pe_callZ I_listed hr (by decide) takes0 (pa_cons (pe_slice sl_tupA (pe_globA T.g_WRITER_WORDS) po_none (po_some pe_int)) (pa_cons (pv 0) (pa_cons (pe_globA T.g_is_writer) pa_nil))))) (pg_name (i := 1) nd rfl (Or.inl rfl)) (gsts_cons (gst_yield (pv 1))
    gsts_nil))
    gsts_nil))
abbrev s_cleaner_orders : Stmt := (topS 14)
abbrev N_cleaner_orders : List Str := ["free", "some", "text"]
theorem sc_cleaner_orders : GScope N_cleaner_orders [] (defScope s_cleaner_orders) := ⟨rfl, rfl, rfl, by decide +kernel, rfl, by decide +kernel, by decide +kernel⟩
def t_cleaner_orders (K : PySem.W.Frag) (a_CLEANER_WORDS : Addr) (a_is_cleaner : Addr) (sp_listed : Sp) : TGn :=
    (tGThen (tPlain (tAsg (tLst tNil) (gName 0)))
    (tGThen (tPlain (tFor (iTup K (tTup (tCons (tTup tNil) (tCons (tTup (tCons (tC (.str "remove")) tNil)) (tCons (tTup (tCons (tC (.str "again")) tNil)) (tCons (tTup (tCons (tC (.str "remove")) (tCons (tC (.str "again")) tNil))) tNil)))))) (gName 1) (tDrop (tBM K "list" rExtend (tVar 0) (tCons (tLst (tCons (tVar 1) (tCons (tTup (StX.tStar K (tVar 1) (tCons (tC (.str "lock")) (tCons (tC (.str "unlock")) tNil)))) tNil))) tNil)))))
    (tGThen (tGFor (iList K (tCallZ sp_listed noW (tCons (tSl (rSlA K) (tC (.ref a_CLEANER_WORDS)) tNoPart (tPart (tC (.int 2)))) (tCons (tVar 0) (tCons (tC (.ref a_is_cleaner)) tNil))))) (gName 2) (tGThen (tGYield (tVar 2))
    tG0))
    tG0)))
theorem d_cleaner_orders {sp_listed : Sp} (T : Txt P w K mg a_WRITER_WORDS a_CLEANER_WORDS a_READER_WORDS a_is_writer a_is_cleaner a_is_reader) (I_listed : FnZ P w K mg base 4 "listed" ["needed", "free", "is_order"] sp_listed) (f : Addr) (cdv : Value) (A : Around) (outer : List Env) (s : Shared) (H : Hp) (pn : List (Addr × Obj)) (hr : TP.Room 4 (A.deeper (envOfC "cleaner_orders" (defScope s_cleaner_orders) s.heap.objs.size f cdv))) :
    GSts (cxG P w K mg base N_cleaner_orders "cleaner_orders" (defScope s_cleaner_orders) f cdv A outer s H pn) (defBody s_cleaner_orders) (t_cleaner_orders K a_CLEANER_WORDS a_is_cleaner sp_listed) :=
  have nd := sc_cleaner_orders.nd
  (gsts_cons (gst_plain (ps_asg (pe_lst pa_nil) (pg_name (i := 0) nd rfl (Or.inl rfl))))
    (gsts_cons (gst_plain (ps_for PassesOwn.never rfl (pi_tup (pe_tup (pa_cons (pe_tup pa_nil) (pa_cons (pe_tup (pa_cons pe_str pa_nil)) (pa_cons (pe_tup (pa_cons pe_str pa_nil)) (pa_cons (pe_tup (pa_cons pe_str (pa_cons pe_str pa_nil))) pa_nil)))))) (pg_name (i := 1) nd rfl (Or.inl rfl)) (pss_one (ps_expr (pe_bm PySem.F.plainAttrs_list PySem.F.slot_list_extend PySem.F.type_list_extend mt_extend (pv 0) (pa_cons (pe_lst (pa_cons (pv 1) (pa_cons (pe_tup (StX.pa_star (pv 1) (pa_cons pe_str (pa_cons pe_str pa_nil)))) pa_nil))) pa_nil))))))
    (gsts_cons (gst_for rfl (pi_list (pe_callZ I_listed hr (by decide) takes0 (pa_cons (pe_slice sl_tupA (pe_globA T.g_CLEANER_WORDS) po_none (po_some pe_int)) (pa_cons (pv 0) (pa_cons (pe_globA T.g_is_cleaner) pa_nil))))) (pg_name (i := 2) nd rfl (Or.inl rfl)) (gsts_cons (gst_yield (pv 2))
    gsts_nil))
    gsts_nil)))
abbrev s_reader_orders : Stmt := (topS 15)
abbrev N_reader_orders : List Str := ["text"]
theorem sc_reader_orders : GScope N_reader_orders [] (defScope s_reader_orders) := ⟨rfl, rfl, rfl, by decide +kernel, rfl, by decide +kernel, by decide +kernel⟩
def t_reader_orders (K : PySem.W.Frag) (a_READER_WORDS : Addr) (a_is_reader : Addr) (sp_listed : Sp) : TGn :=
    (tGThen (tGFor (iList K (tCallZ sp_listed noW (tCons (tSl (rSlA K) (tC (.ref a_READER_WORDS)) tNoPart (tPart (tC (.int 3)))) (tCons (tTup (tCons (tTup (tCons (tC (.str "hold")) tNil)) (tCons (tTup (tCons (tC (.str "take")) (tCons (tC (.str "tell")) tNil))) tNil))) (tCons (tC (.ref a_is_reader)) tNil))))) (gName 0) (tGThen (tGYield (tVar 0))
    tG0))
    tG0)
theorem d_reader_orders {sp_listed : Sp} (T : Txt P w K mg a_WRITER_WORDS a_CLEANER_WORDS a_READER_WORDS a_is_writer a_is_cleaner a_is_reader) (I_listed : FnZ P w K mg base 4 "listed" ["needed", "free", "is_order"] sp_listed) (f : Addr) (cdv : Value) (A : Around) (outer : List Env) (s : Shared) (H : Hp) (pn : List (Addr × Obj)) (hr : TP.Room 4 (A.deeper (envOfC "reader_orders" (defScope s_reader_orders) s.heap.objs.size f cdv))) :
    GSts (cxG P w K mg base N_reader_orders "reader_orders" (defScope s_reader_orders) f cdv A outer s H pn) (defBody s_reader_orders) (t_reader_orders K a_READER_WORDS a_is_reader sp_listed) :=
  have nd := sc_reader_orders.nd
  (gsts_cons (gst_for rfl (pi_list (pe_callZ I_listed hr (by decide) takes0 (pa_cons (pe_slice sl_tupA (pe_globA T.g_READER_WORDS) po_none (po_some pe_int)) (pa_cons (pe_tup (pa_cons (pe_tup (pa_cons pe_str pa_nil)) (pa_cons (pe_tup (pa_cons pe_str (pa_cons pe_str pa_nil))) pa_nil))) (pa_cons (pe_globA T.g_is_reader) pa_nil))))) (pg_name (i := 0) nd rfl (Or.inl rfl)) (gsts_cons (gst_yield (pv 0))
    gsts_nil))
    gsts_nil)
abbrev s__law_pot : Stmt := (topS 17)
abbrev N__law_pot : List Str := ["script", "cell"]
theorem sc__law_pot : FnScope N__law_pot ["script"] (defScope s__law_pot) := ⟨rfl, rfl, rfl, by decide +kernel, rfl, by decide +kernel, by decide +kernel⟩
def t__law_pot (K : PySem.W.Frag) (W : WX) : TS :=
    (tRet (tLst (tCons (tLc (iList K (tSl (rSlL K) (tVar 0) tNoPart (tPart (tC (.int 63))))) (gName 1) tYes (tCB rInt1 (tCons (tVar 1) tNil)) [1]) (tCons (tC (.int 0)) (tCons (tC (.int 7)) tNil)))))
theorem d__law_pot (T : Txt P w K mg a_WRITER_WORDS a_CLEANER_WORDS a_READER_WORDS a_is_writer a_is_cleaner a_is_reader) (f : Addr) (cdv : Value) (A : Around) (outer : List Env) (s : Shared) (H : Hp) (E : XK) (hr : TP.Room 0 (A.deeper (envOfC "_law_pot" (defScope s__law_pot) s.heap.objs.size f cdv))) :
    PSs (cxOf (L2.CX P w) P w K mg base N__law_pot "_law_pot" (defScope s__law_pot) f cdv A outer s H E) (defBody s__law_pot) (t__law_pot K (wOut E)) :=
  have nd := sc__law_pot.nd
  have tk : Takes (cxOf (L2.CX P w) P w K mg base N__law_pot "_law_pot" (defScope s__law_pot) f cdv A outer s H E) (wOut E) := takes_of rfl rfl rfl rfl
  have po : PassesOwn (model P w) (cxOf (L2.CX P w) P w K mg base N__law_pot "_law_pot" (defScope s__law_pot) f cdv A outer s H E).A (cxOf (L2.CX P w) P w K mg base N__law_pot "_law_pot" (defScope s__law_pot) f cdv A outer s H E).env (cxOf (L2.CX P w) P w K mg base N__law_pot "_law_pot" (defScope s__law_pot) f cdv A outer s H E).xe := passes_of rfl
  (pss_one (ps_ret (pe_lst (pa_cons (pe_lc (own := [("cell", 1)]) (g := (gName 1)) (tt := tYes) rfl nd (pi_list (pe_slice sl_list (pv 0) po_none (po_some pe_int))) (blkOk_by (own := [("cell", 1)]) (N := N__law_pot) (sc := defScope s__law_pot) (by decide +kernel)) (fun _ _ _ _ _ => (pg_name (i := 1) nd rfl (Or.inl rfl))) (fun _ _ _ _ _ => pts_nil) (fun _ _ _ _ _ => (pe_callTy cr_int1 (by rfl) T.n_int (by decide +kernel) (pa_cons (pv 1) pa_nil)))) (pa_cons pe_int (pa_cons pe_int pa_nil))))))
abbrev s__law_draw : Stmt := (topS 18)
abbrev N__law_draw : List Str := ["pot", "many", "cells", "at", "cell"]
theorem sc__law_draw : FnScope N__law_draw ["pot", "many"] (defScope s__law_draw) := ⟨rfl, rfl, rfl, by decide +kernel, rfl, by decide +kernel, by decide +kernel⟩
def t__law_draw (K : PySem.W.Frag) (W : WX) : TS :=
    (tSeq (tAsg (tOp (rIx K) (tVar 0) (tC (.int 0))) (gName 2))
    (tSeq (tAsg (tOp (rIx K) (tVar 0) (tC (.int 1))) (gName 3))
    (tSeq (tAsg (tC (.int 0)) (gName 4))
    (tSeq (tIfS (tTest (tOp rLess (tVar 3) (tCB (TP.rLen K) (tCons (tVar 2) tNil)))) (tSeq (tAsg (tOp (rIx K) (tVar 2) (tVar 3)) (gName 4))
    (tSeq (tIfS (tTest (tOp rGeq (tVar 4) (tOp rPow (tC (.int 10)) (tC (.int 18))))) (tSeq (tAsg (tOp rQuot (tVar 4) (tVar 1)) (gSub (tVar 2) (tVar 3) rSetL))
    (tRet (tOp rRest (tCB rInt1 (tCons (tVar 4) tNil)) (tVar 1)))) tNext)
    (tAsg (tOp rPlus (tVar 3) (tC (.int 1))) (gSub (tVar 0) (tC (.int 1)) rSetL)))) tNext)
    (tSeq (tAsg (tOp rRest (tCB rInt1 (tCons (tOp rPlus (tOp rPlus (tOp rTimes (tOp (rIx K) (tVar 0) (tC (.int 2))) (tC (.int 48271))) (tOp rTimes (tVar 4) (tC (.int 69621)))) (tC (.int 11))) tNil)) (tC (.int 2147483647))) (gSub (tVar 0) (tC (.int 2)) rSetL))
    (tRet (tOp rRest (tCB rInt1 (tCons (tOp rPlus (tOp rQuot (tOp rTimes (tOp (rIx K) (tVar 0) (tC (.int 2))) (tC (.int 16807))) (tC (.int 128))) (tOp (rIx K) (tVar 0) (tC (.int 2)))) tNil)) (tVar 1))))))))
theorem d__law_draw (T : Txt P w K mg a_WRITER_WORDS a_CLEANER_WORDS a_READER_WORDS a_is_writer a_is_cleaner a_is_reader) (f : Addr) (cdv : Value) (A : Around) (outer : List Env) (s : Shared) (H : Hp) (E : XK) (hr : TP.Room 0 (A.deeper (envOfC "_law_draw" (defScope s__law_draw) s.heap.objs.size f cdv))) :
    PSs (cxOf (L2.CX P w) P w K mg base N__law_draw "_law_draw" (defScope s__law_draw) f cdv A outer s H E) (defBody s__law_draw) (t__law_draw K (wOut E)) :=
  have nd := sc__law_draw.nd
  have tk : Takes (cxOf (L2.CX P w) P w K mg base N__law_draw "_law_draw" (defScope s__law_draw) f cdv A outer s H E) (wOut E) := takes_of rfl rfl rfl rfl
  have po : PassesOwn (model P w) (cxOf (L2.CX P w) P w K mg base N__law_draw "_law_draw" (defScope s__law_draw) f cdv A outer s H E).A (cxOf (L2.CX P w) P w K mg base N__law_draw "_law_draw" (defScope s__law_draw) f cdv A outer s H E).env (cxOf (L2.CX P w) P w K mg base N__law_draw "_law_draw" (defScope s__law_draw) f cdv A outer s H E).xe := passes_of rfl
  (pss_cons (ps_asg (pe_ix ix_seq (pv 0) pe_int (fun _ _ => rfl)) (pg_name (i := 2) nd rfl (Or.inl rfl)))
    (pss_cons (ps_asg (pe_ix ix_seq (pv 0) pe_int (fun _ _ => rfl)) (pg_name (i := 3) nd rfl (Or.inl rfl)))
    (pss_cons (ps_asg pe_int (pg_name (i := 4) nd rfl (Or.inl rfl)))
    (pss_cons (ps_if (pt_cmpR op_less (pv 3) (pe_callB TP.cr_len (by rfl) T.n_len (by decide +kernel) (pa_cons (pv 2) pa_nil)) (nomark _)) (pss_cons (ps_asg (pe_ix ix_seq (pv 2) (pv 3) (fun _ _ => rfl)) (pg_name (i := 4) nd rfl (Or.inl rfl)))
    (pss_cons (ps_if (pt_cmpR op_geq (pv 4) (pe_op op_power pe_int pe_int) (nomark _)) (pss_cons (ps_asg (pe_op op_quot (pv 4) (pv 1)) (pg_sub (pv 2) (pv 3) set_list))
    (pss_one (ps_ret (pe_op op_rest (pe_callTy cr_int1 (by rfl) T.n_int (by decide +kernel) (pa_cons (pv 4) pa_nil)) (pv 1))))) pss_nil)
    (pss_one (ps_asg (pe_op op_plus (pv 3) pe_int) (pg_sub (pv 0) pe_int set_list))))) pss_nil)
    (pss_cons (ps_asg (pe_op op_rest (pe_callTy cr_int1 (by rfl) T.n_int (by decide +kernel) (pa_cons (pe_op op_plus (pe_op op_plus (pe_op op_times (pe_ix ix_seq (pv 0) pe_int (fun _ _ => rfl)) pe_int) (pe_op op_times (pv 4) pe_int)) pe_int) pa_nil)) pe_int) (pg_sub (pv 0) pe_int set_list))
    (pss_one (ps_ret (pe_op op_rest (pe_callTy cr_int1 (by rfl) T.n_int (by decide +kernel) (pa_cons (pe_op op_plus (pe_op op_quot (pe_op op_times (pe_ix ix_seq (pv 0) pe_int (fun _ _ => rfl)) pe_int) pe_int) (pe_ix ix_seq (pv 0) pe_int (fun _ _ => rfl))) pa_nil)) (pv 1)))))))))
abbrev s__law_put_in : Stmt := (topS 19)
abbrev N__law_put_in : List Str := ["pot", "order", "word", "least", "at"]
theorem sc__law_put_in : FnScope N__law_put_in ["pot", "order", "word", "least"] (defScope s__law_put_in) := ⟨rfl, rfl, rfl, by decide +kernel, rfl, by decide +kernel, by decide +kernel⟩
def t__law_put_in (K : PySem.W.Frag) (sp__law_draw : Sp) (W : WX) : TS :=
    (tSeq (tAsg (tOp rPlus (tVar 3) (tCallZ sp__law_draw W (tCons (tVar 0) (tCons (tOp rMinus (tOp rPlus (tCB (TP.rLen K) (tCons (tVar 1) tNil)) (tC (.int 1))) (tVar 3)) tNil)))) (gName 4))
    (tRet (tOp rPlus (tOp rPlus (tSl (rSlL K) (tVar 1) tNoPart (tPart (tVar 4))) (tLst (tCons (tVar 2) tNil))) (tSl (rSlL K) (tVar 1) (tPart (tVar 4)) tNoPart))))
theorem d__law_put_in {sp__law_draw : Sp} (T : Txt P w K mg a_WRITER_WORDS a_CLEANER_WORDS a_READER_WORDS a_is_writer a_is_cleaner a_is_reader) (I__law_draw : FnZ P w K mg base 1 "_law_draw" ["pot", "many"] sp__law_draw) (f : Addr) (cdv : Value) (A : Around) (outer : List Env) (s : Shared) (H : Hp) (E : XK) (hr : TP.Room 1 (A.deeper (envOfC "_law_put_in" (defScope s__law_put_in) s.heap.objs.size f cdv))) :
    PSs (cxOf (L2.CX P w) P w K mg base N__law_put_in "_law_put_in" (defScope s__law_put_in) f cdv A outer s H E) (defBody s__law_put_in) (t__law_put_in K sp__law_draw (wOut E)) :=
  have nd := sc__law_put_in.nd
  have tk : Takes (cxOf (L2.CX P w) P w K mg base N__law_put_in "_law_put_in" (defScope s__law_put_in) f cdv A outer s H E) (wOut E) := takes_of rfl rfl rfl rfl
  have po : PassesOwn (model P w) (cxOf (L2.CX P w) P w K mg base N__law_put_in "_law_put_in" (defScope s__law_put_in) f cdv A outer s H E).A (cxOf (L2.CX P w) P w K mg base N__law_put_in "_law_put_in" (defScope s__law_put_in) f cdv A outer s H E).env (cxOf (L2.CX P w) P w K mg base N__law_put_in "_law_put_in" (defScope s__law_put_in) f cdv A outer s H E).xe := passes_of rfl
  (pss_cons (ps_asg (pe_op op_plus (pv 3) (pe_callZ I__law_draw hr (by decide) tk (pa_cons (pv 0) (pa_cons (pe_op op_minus (pe_op op_plus (pe_callB TP.cr_len (by rfl) T.n_len (by decide +kernel) (pa_cons (pv 1) pa_nil)) pe_int) (pv 3)) pa_nil)))) (pg_name (i := 4) nd rfl (Or.inl rfl)))
    (pss_one (ps_ret (pe_op op_plus (pe_op op_plus (pe_slice sl_list (pv 1) po_none (po_some (pv 4))) (pe_lst (pa_cons (pv 2) pa_nil))) (pe_slice sl_list (pv 1) (po_some (pv 4)) po_none)))))
abbrev s__law_locked : Stmt := (topS 20)
abbrev N__law_locked : List Str := ["pot", "order", "at"]
theorem sc__law_locked : FnScope N__law_locked ["pot", "order"] (defScope s__law_locked) := ⟨rfl, rfl, rfl, by decide +kernel, rfl, by decide +kernel, by decide +kernel⟩
def t__law_locked (K : PySem.W.Frag) (sp__law_draw : Sp) (sp__law_put_in : Sp) (W : WX) : TS :=
    (tSeq (tIfS (tTest (tOp (rSame K) (tCallZ sp__law_draw W (tCons (tVar 0) (tCons (tC (.int 4)) tNil))) (tC (.int 0)))) (tRet (tVar 1)) tNext)
    (tSeq (tAsg (tCallZ sp__law_put_in W (tCons (tVar 0) (tCons (tVar 1) (tCons (tC (.str "unlock")) (tCons (tC (.int 0)) tNil))))) (gName 1))
    (tSeq (tAsg (tCallZ sp__law_draw W (tCons (tVar 0) (tCons (tOp rPlus (tBM K "list" (rIndex K) (tVar 1) (tCons (tC (.str "unlock")) tNil)) (tC (.int 1))) tNil))) (gName 2))
    (tRet (tOp rPlus (tOp rPlus (tSl (rSlL K) (tVar 1) tNoPart (tPart (tVar 2))) (tLst (tCons (tC (.str "lock")) tNil))) (tSl (rSlL K) (tVar 1) (tPart (tVar 2)) tNoPart))))))
theorem d__law_locked {sp__law_draw : Sp} {sp__law_put_in : Sp} (T : Txt P w K mg a_WRITER_WORDS a_CLEANER_WORDS a_READER_WORDS a_is_writer a_is_cleaner a_is_reader) (I__law_draw : FnZ P w K mg base 1 "_law_draw" ["pot", "many"] sp__law_draw) (I__law_put_in : FnZ P w K mg base 2 "_law_put_in" ["pot", "order", "word", "least"] sp__law_put_in) (f : Addr) (cdv : Value) (A : Around) (outer : List Env) (s : Shared) (H : Hp) (E : XK) (hr : TP.Room 2 (A.deeper (envOfC "_law_locked" (defScope s__law_locked) s.heap.objs.size f cdv))) :
    PSs (cxOf (L2.CX P w) P w K mg base N__law_locked "_law_locked" (defScope s__law_locked) f cdv A outer s H E) (defBody s__law_locked) (t__law_locked K sp__law_draw sp__law_put_in (wOut E)) :=
  have nd := sc__law_locked.nd
  have tk : Takes (cxOf (L2.CX P w) P w K mg base N__law_locked "_law_locked" (defScope s__law_locked) f cdv A outer s H E) (wOut E) := takes_of rfl rfl rfl rfl
  have po : PassesOwn (model P w) (cxOf (L2.CX P w) P w K mg base N__law_locked "_law_locked" (defScope s__law_locked) f cdv A outer s H E).A (cxOf (L2.CX P w) P w K mg base N__law_locked "_law_locked" (defScope s__law_locked) f cdv A outer s H E).env (cxOf (L2.CX P w) P w K mg base N__law_locked "_law_locked" (defScope s__law_locked) f cdv A outer s H E).xe := passes_of rfl
  (pss_cons (ps_if (pt_cmpR (op_same hr.units) (pe_callZ I__law_draw hr (by decide) tk (pa_cons (pv 0) (pa_cons pe_int pa_nil))) pe_int (nomark _)) (pss_one (ps_ret (pv 1))) pss_nil)
    (pss_cons (ps_asg (pe_callZ I__law_put_in hr (by decide) tk (pa_cons (pv 0) (pa_cons (pv 1) (pa_cons pe_str (pa_cons pe_int pa_nil))))) (pg_name (i := 1) nd rfl (Or.inl rfl)))
    (pss_cons (ps_asg (pe_callZ I__law_draw hr (by decide) tk (pa_cons (pv 0) (pa_cons (pe_op op_plus (pe_bm PySem.F.plainAttrs_list PySem.F.slot_list_index PySem.F.type_list_index mt_index (pv 1) (pa_cons pe_str pa_nil)) pe_int) pa_nil))) (pg_name (i := 2) nd rfl (Or.inl rfl)))
    (pss_one (ps_ret (pe_op op_plus (pe_op op_plus (pe_slice sl_list (pv 1) po_none (po_some (pv 2))) (pe_lst (pa_cons pe_str pa_nil))) (pe_slice sl_list (pv 1) (po_some (pv 2)) po_none)))))))
abbrev s__law_writer_words : Stmt := (topS 21)
abbrev N__law_writer_words : List Str := ["pot", "order"]
theorem sc__law_writer_words : FnScope N__law_writer_words ["pot"] (defScope s__law_writer_words) := ⟨rfl, rfl, rfl, by decide +kernel, rfl, by decide +kernel, by decide +kernel⟩
def t__law_writer_words (K : PySem.W.Frag) (sp__law_draw : Sp) (sp__law_put_in : Sp) (sp__law_locked : Sp) (W : WX) : TS :=
    (tSeq (tAsg (tCallZ sp__law_put_in W (tCons (tVar 0) (tCons (tLst (tCons (tC (.str "change")) tNil)) (tCons (tC (.str "enter")) (tCons (tC (.int 1)) tNil))))) (gName 1))
    (tSeq (tAsg (tCallZ sp__law_put_in W (tCons (tVar 0) (tCons (tVar 1) (tCons (tC (.str "commit")) (tCons (tC (.int 1)) tNil))))) (gName 1))
    (tSeq (tIfS (tTest (tOp rMore (tCallZ sp__law_draw W (tCons (tVar 0) (tCons (tC (.int 4)) tNil))) (tC (.int 0)))) (tAsg (tCallZ sp__law_put_in W (tCons (tVar 0) (tCons (tVar 1) (tCons (tC (.str "clear")) (tCons (tC (.int 0)) tNil))))) (gName 1)) tNext)
    (tRet (tCallZ sp__law_locked W (tCons (tVar 0) (tCons (tVar 1) tNil)))))))
theorem d__law_writer_words {sp__law_draw : Sp} {sp__law_put_in : Sp} {sp__law_locked : Sp} (T : Txt P w K mg a_WRITER_WORDS a_CLEANER_WORDS a_READER_WORDS a_is_writer a_is_cleaner a_is_reader) (I__law_draw : FnZ P w K mg base 1 "_law_draw" ["pot", "many"] sp__law_draw) (I__law_put_in : FnZ P w K mg base 2 "_law_put_in" ["pot", "order", "word", "least"] sp__law_put_in) (I__law_locked : FnZ P w K mg base 3 "_law_locked" ["pot", "order"] sp__law_locked) (f : Addr) (cdv : Value) (A : Around) (outer : List Env) (s : Shared) (H : Hp) (E : XK) (hr : TP.Room 3 (A.deeper (envOfC "_law_writer_words" (defScope s__law_writer_words) s.heap.objs.size f cdv))) :
    PSs (cxOf (L2.CX P w) P w K mg base N__law_writer_words "_law_writer_words" (defScope s__law_writer_words) f cdv A outer s H E) (defBody s__law_writer_words) (t__law_writer_words K sp__law_draw sp__law_put_in sp__law_locked (wOut E)) :=
  have nd := sc__law_writer_words.nd
  have tk : Takes (cxOf (L2.CX P w) P w K mg base N__law_writer_words "_law_writer_words" (defScope s__law_writer_words) f cdv A outer s H E) (wOut E) := takes_of rfl rfl rfl rfl
  have po : PassesOwn (model P w) (cxOf (L2.CX P w) P w K mg base N__law_writer_words "_law_writer_words" (defScope s__law_writer_words) f cdv A outer s H E).A (cxOf (L2.CX P w) P w K mg base N__law_writer_words "_law_writer_words" (defScope s__law_writer_words) f cdv A outer s H E).env (cxOf (L2.CX P w) P w K mg base N__law_writer_words "_law_writer_words" (defScope s__law_writer_words) f cdv A outer s H E).xe := passes_of rfl
  (pss_cons (ps_asg (pe_callZ I__law_put_in hr (by decide) tk (pa_cons (pv 0) (pa_cons (pe_lst (pa_cons pe_str pa_nil)) (pa_cons pe_str (pa_cons pe_int pa_nil))))) (pg_name (i := 1) nd rfl (Or.inl rfl)))
    (pss_cons (ps_asg (pe_callZ I__law_put_in hr (by decide) tk (pa_cons (pv 0) (pa_cons (pv 1) (pa_cons pe_str (pa_cons pe_int pa_nil))))) (pg_name (i := 1) nd rfl (Or.inl rfl)))
    (pss_cons (ps_if (pt_cmpR op_more (pe_callZ I__law_draw hr (by decide) tk (pa_cons (pv 0) (pa_cons pe_int pa_nil))) pe_int (nomark _)) (pss_one (ps_asg (pe_callZ I__law_put_in hr (by decide) tk (pa_cons (pv 0) (pa_cons (pv 1) (pa_cons pe_str (pa_cons pe_int pa_nil))))) (pg_name (i := 1) nd rfl (Or.inl rfl)))) pss_nil)
    (pss_one (ps_ret (pe_callZ I__law_locked hr (by decide) tk (pa_cons (pv 0) (pa_cons (pv 1) pa_nil))))))))
abbrev s__law_cleaner_words : Stmt := (topS 22)
abbrev N__law_cleaner_words : List Str := ["pot", "order"]
theorem sc__law_cleaner_words : FnScope N__law_cleaner_words ["pot"] (defScope s__law_cleaner_words) := ⟨rfl, rfl, rfl, by decide +kernel, rfl, by decide +kernel, by decide +kernel⟩
def t__law_cleaner_words (K : PySem.W.Frag) (sp__law_draw : Sp) (sp__law_locked : Sp) (W : WX) : TS :=
    (tSeq (tAsg (tLst (tCons (tC (.str "look")) (tCons (tC (.str "set")) tNil))) (gName 1))
    (tSeq (tIfS (tTest (tOp (rSame K) (tCallZ sp__law_draw W (tCons (tVar 0) (tCons (tC (.int 2)) tNil))) (tC (.int 1)))) (tAsg (tOp rPlus (tLst (tCons (tC (.str "remove")) tNil)) (tVar 1)) (gName 1)) tNext)
    (tSeq (tIfS (tTest (tOp (rSame K) (tCallZ sp__law_draw W (tCons (tVar 0) (tCons (tC (.int 3)) tNil))) (tC (.int 0)))) (tAsg (tOp rPlus (tVar 1) (tLst (tCons (tC (.str "again")) tNil))) (gName 1)) tNext)
    (tRet (tCallZ sp__law_locked W (tCons (tVar 0) (tCons (tVar 1) tNil)))))))
theorem d__law_cleaner_words {sp__law_draw : Sp} {sp__law_locked : Sp} (T : Txt P w K mg a_WRITER_WORDS a_CLEANER_WORDS a_READER_WORDS a_is_writer a_is_cleaner a_is_reader) (I__law_draw : FnZ P w K mg base 1 "_law_draw" ["pot", "many"] sp__law_draw) (I__law_locked : FnZ P w K mg base 3 "_law_locked" ["pot", "order"] sp__law_locked) (f : Addr) (cdv : Value) (A : Around) (outer : List Env) (s : Shared) (H : Hp) (E : XK) (hr : TP.Room 3 (A.deeper (envOfC "_law_cleaner_words" (defScope s__law_cleaner_words) s.heap.objs.size f cdv))) :
    PSs (cxOf (L2.CX P w) P w K mg base N__law_cleaner_words "_law_cleaner_words" (defScope s__law_cleaner_words) f cdv A outer s H E) (defBody s__law_cleaner_words) (t__law_cleaner_words K sp__law_draw sp__law_locked (wOut E)) :=
  have nd := sc__law_cleaner_words.nd
  have tk : Takes (cxOf (L2.CX P w) P w K mg base N__law_cleaner_words "_law_cleaner_words" (defScope s__law_cleaner_words) f cdv A outer s H E) (wOut E) := takes_of rfl rfl rfl rfl
  have po : PassesOwn (model P w) (cxOf (L2.CX P w) P w K mg base N__law_cleaner_words "_law_cleaner_words" (defScope s__law_cleaner_words) f cdv A outer s H E).A (cxOf (L2.CX P w) P w K mg base N__law_cleaner_words "_law_cleaner_words" (defScope s__law_cleaner_words) f cdv A outer s H E).env (cxOf (L2.CX P w) P w K mg base N__law_cleaner_words "_law_cleaner_words" (defScope s__law_cleaner_words) f cdv A outer s H E).xe := passes_of rfl
  (pss_cons (ps_asg (pe_lst (pa_cons pe_str (pa_cons pe_str pa_nil))) (pg_name (i := 1) nd rfl (Or.inl rfl)))
    (pss_cons (ps_if (pt_cmpR (op_same hr.units) (pe_callZ I__law_draw hr (by decide) tk (pa_cons (pv 0) (pa_cons pe_int pa_nil))) pe_int (nomark _)) (pss_one (ps_asg (pe_op op_plus (pe_lst (pa_cons pe_str pa_nil)) (pv 1)) (pg_name (i := 1) nd rfl (Or.inl rfl)))) pss_nil)
    (pss_cons (ps_if (pt_cmpR (op_same hr.units) (pe_callZ I__law_draw hr (by decide) tk (pa_cons (pv 0) (pa_cons pe_int pa_nil))) pe_int (nomark _)) (pss_one (ps_asg (pe_op op_plus (pv 1) (pe_lst (pa_cons pe_str pa_nil))) (pg_name (i := 1) nd rfl (Or.inl rfl)))) pss_nil)
    (pss_one (ps_ret (pe_callZ I__law_locked hr (by decide) tk (pa_cons (pv 0) (pa_cons (pv 1) pa_nil))))))))
abbrev s__law_reader_words : Stmt := (topS 23)
abbrev N__law_reader_words : List Str := ["pot", "order"]
theorem sc__law_reader_words : FnScope N__law_reader_words ["pot"] (defScope s__law_reader_words) := ⟨rfl, rfl, rfl, by decide +kernel, rfl, by decide +kernel, by decide +kernel⟩
def t__law_reader_words (K : PySem.W.Frag) (sp__law_draw : Sp) (sp__law_put_in : Sp) (W : WX) : TS :=
    (tSeq (tAsg (tCallZ sp__law_put_in W (tCons (tVar 0) (tCons (tLst (tCons (tC (.str "entry")) tNil)) (tCons (tC (.str "mark")) (tCons (tC (.int 0)) tNil))))) (gName 1))
    (tSeq (tIfS (tTest (tOp rMore (tCallZ sp__law_draw W (tCons (tVar 0) (tCons (tC (.int 3)) tNil))) (tC (.int 0)))) (tRet (tOp rPlus (tCallZ sp__law_put_in W (tCons (tVar 0) (tCons (tVar 1) (tCons (tC (.str "hold")) (tCons (tC (.int 0)) tNil))))) (tLst (tCons (tC (.str "page")) tNil)))) tNext)
    (tSeq (tAsg (tCallZ sp__law_put_in W (tCons (tVar 0) (tCons (tVar 1) (tCons (tC (.str "take")) (tCons (tC (.int 0)) tNil))))) (gName 1))
    (tRet (tOp rPlus (tCallZ sp__law_put_in W (tCons (tVar 0) (tCons (tVar 1) (tCons (tC (.str "tell")) (tCons (tOp rPlus (tBM K "list" (rIndex K) (tVar 1) (tCons (tC (.str "take")) tNil)) (tC (.int 1))) tNil))))) (tLst (tCons (tC (.str "page")) tNil)))))))
theorem d__law_reader_words {sp__law_draw : Sp} {sp__law_put_in : Sp} (T : Txt P w K mg a_WRITER_WORDS a_CLEANER_WORDS a_READER_WORDS a_is_writer a_is_cleaner a_is_reader) (I__law_draw : FnZ P w K mg base 1 "_law_draw" ["pot", "many"] sp__law_draw) (I__law_put_in : FnZ P w K mg base 2 "_law_put_in" ["pot", "order", "word", "least"] sp__law_put_in) (f : Addr) (cdv : Value) (A : Around) (outer : List Env) (s : Shared) (H : Hp) (E : XK) (hr : TP.Room 2 (A.deeper (envOfC "_law_reader_words" (defScope s__law_reader_words) s.heap.objs.size f cdv))) :
    PSs (cxOf (L2.CX P w) P w K mg base N__law_reader_words "_law_reader_words" (defScope s__law_reader_words) f cdv A outer s H E) (defBody s__law_reader_words) (t__law_reader_words K sp__law_draw sp__law_put_in (wOut E)) :=
  have nd := sc__law_reader_words.nd
  have tk : Takes (cxOf (L2.CX P w) P w K mg base N__law_reader_words "_law_reader_words" (defScope s__law_reader_words) f cdv A outer s H E) (wOut E) := takes_of rfl rfl rfl rfl
  have po : PassesOwn (model P w) (cxOf (L2.CX P w) P w K mg base N__law_reader_words "_law_reader_words" (defScope s__law_reader_words) f cdv A outer s H E).A (cxOf (L2.CX P w) P w K mg base N__law_reader_words "_law_reader_words" (defScope s__law_reader_words) f cdv A outer s H E).env (cxOf (L2.CX P w) P w K mg base N__law_reader_words "_law_reader_words" (defScope s__law_reader_words) f cdv A outer s H E).xe := passes_of rfl
  (pss_cons (ps_asg (pe_callZ I__law_put_in hr (by decide) tk (pa_cons (pv 0) (pa_cons (pe_lst (pa_cons pe_str pa_nil)) (pa_cons pe_str (pa_cons pe_int pa_nil))))) (pg_name (i := 1) nd rfl (Or.inl rfl)))
    (pss_cons (ps_if (pt_cmpR op_more (pe_callZ I__law_draw hr (by decide) tk (pa_cons (pv 0) (pa_cons pe_int pa_nil))) pe_int (nomark _)) (pss_one (ps_ret (pe_op op_plus (pe_callZ I__law_put_in hr (by decide) tk (pa_cons (pv 0) (pa_cons (pv 1) (pa_cons pe_str (pa_cons pe_int pa_nil))))) (pe_lst (pa_cons pe_str pa_nil))))) pss_nil)
    (pss_cons (ps_asg (pe_callZ I__law_put_in hr (by decide) tk (pa_cons (pv 0) (pa_cons (pv 1) (pa_cons pe_str (pa_cons pe_int pa_nil))))) (pg_name (i := 1) nd rfl (Or.inl rfl)))
    (pss_one (ps_ret (pe_op op_plus (pe_callZ I__law_put_in hr (by decide) tk (pa_cons (pv 0) (pa_cons (pv 1) (pa_cons pe_str (pa_cons (pe_op op_plus (pe_bm PySem.F.plainAttrs_list PySem.F.slot_list_index PySem.F.type_list_index mt_index (pv 1) (pa_cons pe_str pa_nil)) pe_int) pa_nil))))) (pe_lst (pa_cons pe_str pa_nil))))))))
abbrev s__law_ahead : Stmt := (topS 24)
abbrev N__law_ahead : List Str := ["order", "one", "other"]
theorem sc__law_ahead : FnScope N__law_ahead ["order", "one", "other"] (defScope s__law_ahead) := ⟨rfl, rfl, rfl, by decide +kernel, rfl, by decide +kernel, by decide +kernel⟩
def t__law_ahead (K : PySem.W.Frag) (W : WX) : TS :=
    (tRet (tOrV (tOp (rIn K true) (tVar 1) (tVar 0)) (tOrV (tOp (rIn K true) (tVar 2) (tVar 0)) (tOp rLess (tBM K "list" (rIndex K) (tVar 0) (tCons (tVar 1) tNil)) (tBM K "list" (rIndex K) (tVar 0) (tCons (tVar 2) tNil))))))
theorem d__law_ahead (T : Txt P w K mg a_WRITER_WORDS a_CLEANER_WORDS a_READER_WORDS a_is_writer a_is_cleaner a_is_reader) (f : Addr) (cdv : Value) (A : Around) (outer : List Env) (s : Shared) (H : Hp) (E : XK) (hr : TP.Room 0 (A.deeper (envOfC "_law_ahead" (defScope s__law_ahead) s.heap.objs.size f cdv))) :
    PSs (cxOf (L2.CX P w) P w K mg base N__law_ahead "_law_ahead" (defScope s__law_ahead) f cdv A outer s H E) (defBody s__law_ahead) (t__law_ahead K (wOut E)) :=
  have nd := sc__law_ahead.nd
  have tk : Takes (cxOf (L2.CX P w) P w K mg base N__law_ahead "_law_ahead" (defScope s__law_ahead) f cdv A outer s H E) (wOut E) := takes_of rfl rfl rfl rfl
  have po : PassesOwn (model P w) (cxOf (L2.CX P w) P w K mg base N__law_ahead "_law_ahead" (defScope s__law_ahead) f cdv A outer s H E).A (cxOf (L2.CX P w) P w K mg base N__law_ahead "_law_ahead" (defScope s__law_ahead) f cdv A outer s H E).env (cxOf (L2.CX P w) P w K mg base N__law_ahead "_law_ahead" (defScope s__law_ahead) f cdv A outer s H E).xe := passes_of rfl
  (pss_one (ps_ret (pe_or (pe_cmpR op_notIn_seq (pv 1) (pv 0) (by rfl)) (pe_or (pe_cmpR op_notIn_seq (pv 2) (pv 0) (by rfl)) (pe_one (pe_cmpR op_less (pe_bm PySem.F.plainAttrs_list PySem.F.slot_list_index PySem.F.type_list_index mt_index (pv 0) (pa_cons (pv 1) pa_nil)) (pe_bm PySem.F.plainAttrs_list PySem.F.slot_list_index PySem.F.type_list_index mt_index (pv 0) (pa_cons (pv 2) pa_nil)) (nomark _)))))))
abbrev s__law_fits : Stmt := (topS 25)
abbrev N__law_fits : List Str := ["text", "needed", "free", "order", "word", "other"]
theorem sc__law_fits : FnScope N__law_fits ["text", "needed", "free"] (defScope s__law_fits) := ⟨rfl, rfl, rfl, by decide +kernel, rfl, by decide +kernel, by decide +kernel⟩
def t__law_fits (K : PySem.W.Frag) (sp__law_ahead : Sp) (W : WX) : TS :=
    (tSeq (tAsg (tM1 rSplit (tVar 0) (tC (.str " "))) (gName 3))
    (tSeq (tFor (iList K (tVar 3)) (gName 4) (tIfS (tOr (tTest (tOp (rIn K true) (tVar 4) (tOp rPlus (tVar 1) (tVar 2)))) (tTest (tOp (rUnlike K) (tCB (TP.rLen K) (tCons (tLc (iList K (tVar 3)) (gName 5) (tTest (tOp (rSame K) (tVar 5) (tVar 4))) (tVar 5) [5]) tNil)) (tC (.int 1))))) (tRet (tC (.bl false))) tNext))
    (tSeq (tIfS (tTest (tOp (rUnlike K) (tLc (iList K (tVar 1)) (gName 4) (tTest (tOp (rIn K true) (tVar 4) (tVar 3))) (tVar 4) [4]) (tLst tNil))) (tRet (tC (.bl false))) tNext)
    (tRet (tAndV (tOp (rSame K) (tOp (rIn K false) (tC (.str "lock")) (tVar 3)) (tOp (rIn K false) (tC (.str "unlock")) (tVar 3))) (tCallZ sp__law_ahead W (tCons (tVar 3) (tCons (tC (.str "lock")) (tCons (tC (.str "unlock")) tNil)))))))))
theorem d__law_fits {sp__law_ahead : Sp} (T : Txt P w K mg a_WRITER_WORDS a_CLEANER_WORDS a_READER_WORDS a_is_writer a_is_cleaner a_is_reader) (I__law_ahead : FnZ P w K mg base 1 "_law_ahead" ["order", "one", "other"] sp__law_ahead) (f : Addr) (cdv : Value) (A : Around) (outer : List Env) (s : Shared) (H : Hp) (E : XK) (hr : TP.Room 1 (A.deeper (envOfC "_law_fits" (defScope s__law_fits) s.heap.objs.size f cdv))) :
    PSs (cxOf (L2.CX P w) P w K mg base N__law_fits "_law_fits" (defScope s__law_fits) f cdv A outer s H E) (defBody s__law_fits) (t__law_fits K sp__law_ahead (wOut E)) :=
  have nd := sc__law_fits.nd
  have tk : Takes (cxOf (L2.CX P w) P w K mg base N__law_fits "_law_fits" (defScope s__law_fits) f cdv A outer s H E) (wOut E) := takes_of rfl rfl rfl rfl
  have po : PassesOwn (model P w) (cxOf (L2.CX P w) P w K mg base N__law_fits "_law_fits" (defScope s__law_fits) f cdv A outer s H E).A (cxOf (L2.CX P w) P w K mg base N__law_fits "_law_fits" (defScope s__law_fits) f cdv A outer s H E).env (cxOf (L2.CX P w) P w K mg base N__law_fits "_law_fits" (defScope s__law_fits) f cdv A outer s H E).xe := passes_of rfl
  (pss_cons (ps_asg (pe_split (pv 0) pe_str) (pg_name (i := 3) nd rfl (Or.inr rfl)))
    (pss_cons (ps_for po rfl (pi_list (pv 3)) (pg_name (i := 4) nd rfl (Or.inr rfl)) (pss_one (ps_if (PW.pt (pw_or (pt_cmpR op_notIn_seq (pv 4) (pe_op op_plus (pv 1) (pv 2)) (by rfl)) (pw_or1 (pt_cmpR (op_unlike hr.units) (pe_callB TP.cr_len (by rfl) T.n_len (by decide +kernel) (pa_cons (pe_lc (own := [("other", 5)]) (g := (gName 5)) (tt := (tTest (tOp (rSame K) (tVar 5) (tVar 4)))) rfl nd (pi_list (pv 3)) (blkOk_by (own := [("other", 5)]) (N := N__law_fits) (sc := defScope s__law_fits) (by decide +kernel)) (fun _ _ _ _ _ => (pg_name (i := 5) nd rfl (Or.inl rfl))) (fun _ _ _ _ _ => (pts_one (pt_cmpR (op_same hr.units) (pv 5) (pv 4) (nomark _)))) (fun _ _ _ _ _ => (pv 5))) pa_nil)) pe_int (nomark _))))) (pss_one (ps_ret pe_bl)) pss_nil)))
    (pss_cons (ps_if (pt_cmpR (op_unlike hr.units) (pe_lc (own := [("word", 4)]) (g := (gName 4)) (tt := (tTest (tOp (rIn K true) (tVar 4) (tVar 3)))) rfl nd (pi_list (pv 1)) (blkOk_by (own := [("word", 4)]) (N := N__law_fits) (sc := defScope s__law_fits) (by decide +kernel)) (fun _ _ _ _ _ => (pg_name (i := 4) nd rfl (Or.inl rfl))) (fun _ _ _ _ _ => (pts_one (pt_cmpR op_notIn_seq (pv 4) (pv 3) (by rfl)))) (fun _ _ _ _ _ => (pv 4))) (pe_lst pa_nil) (nomark _)) (pss_one (ps_ret pe_bl)) pss_nil)
    (pss_one (ps_ret (pe_and (pe_cmpR (op_same hr.units) (pe_cmpR op_in_seq pe_str (pv 3) (by rfl)) (pe_cmpR op_in_seq pe_str (pv 3) (by rfl)) (nomark _)) (pe_one (pe_callZ I__law_ahead hr (by decide) tk (pa_cons (pv 3) (pa_cons pe_str (pa_cons pe_str pa_nil)))))))))))
abbrev s__law_is_writer : Stmt := (topS 26)
abbrev N__law_is_writer : List Str := ["text", "order"]
theorem sc__law_is_writer : FnScope N__law_is_writer ["text"] (defScope s__law_is_writer) := ⟨rfl, rfl, rfl, by decide +kernel, rfl, by decide +kernel, by decide +kernel⟩
def t__law_is_writer (K : PySem.W.Frag) (sp__law_ahead : Sp) (sp__law_fits : Sp) (W : WX) : TS :=
    (tSeq (tIfS (tNot (tB (tCallZ sp__law_fits W (tCons (tVar 0) (tCons (tLst (tCons (tC (.str "change")) (tCons (tC (.str "enter")) (tCons (tC (.str "commit")) tNil)))) (tCons (tLst (tCons (tC (.str "clear")) (tCons (tC (.str "lock")) (tCons (tC (.str "unlock")) tNil)))) tNil)))))) (tRet (tC (.bl false))) tNext)
    (tSeq (tAsg (tM1 rSplit (tVar 0) (tC (.str " "))) (gName 1))
    (tRet (tAndV (tCallZ sp__law_ahead W (tCons (tVar 1) (tCons (tC (.str "change")) (tCons (tC (.str "enter")) tNil)))) (tCallZ sp__law_ahead W (tCons (tVar 1) (tCons (tC (.str "change")) (tCons (tC (.str "commit")) tNil))))))))
theorem d__law_is_writer {sp__law_ahead : Sp} {sp__law_fits : Sp} (T : Txt P w K mg a_WRITER_WORDS a_CLEANER_WORDS a_READER_WORDS a_is_writer a_is_cleaner a_is_reader) (I__law_ahead : FnZ P w K mg base 1 "_law_ahead" ["order", "one", "other"] sp__law_ahead) (I__law_fits : FnZ P w K mg base 2 "_law_fits" ["text", "needed", "free"] sp__law_fits) (f : Addr) (cdv : Value) (A : Around) (outer : List Env) (s : Shared) (H : Hp) (E : XK) (hr : TP.Room 2 (A.deeper (envOfC "_law_is_writer" (defScope s__law_is_writer) s.heap.objs.size f cdv))) :
    PSs (cxOf (L2.CX P w) P w K mg base N__law_is_writer "_law_is_writer" (defScope s__law_is_writer) f cdv A outer s H E) (defBody s__law_is_writer) (t__law_is_writer K sp__law_ahead sp__law_fits (wOut E)) :=
  have nd := sc__law_is_writer.nd
  have tk : Takes (cxOf (L2.CX P w) P w K mg base N__law_is_writer "_law_is_writer" (defScope s__law_is_writer) f cdv A outer s H E) (wOut E) := takes_of rfl rfl rfl rfl
  have po : PassesOwn (model P w) (cxOf (L2.CX P w) P w K mg base N__law_is_writer "_law_is_writer" (defScope s__law_is_writer) f cdv A outer s H E).A (cxOf (L2.CX P w) P w K mg base N__law_is_writer "_law_is_writer" (defScope s__law_is_writer) f cdv A outer s H E).env (cxOf (L2.CX P w) P w K mg base N__law_is_writer "_law_is_writer" (defScope s__law_is_writer) f cdv A outer s H E).xe := passes_of rfl
  (pss_cons (ps_if (pt_not (pt_val (pe_callZ I__law_fits hr (by decide) tk (pa_cons (pv 0) (pa_cons (pe_lst (pa_cons pe_str (pa_cons pe_str (pa_cons pe_str pa_nil)))) (pa_cons (pe_lst (pa_cons pe_str (pa_cons pe_str (pa_cons pe_str pa_nil)))) pa_nil)))))) (pss_one (ps_ret pe_bl)) pss_nil)
    (pss_cons (ps_asg (pe_split (pv 0) pe_str) (pg_name (i := 1) nd rfl (Or.inl rfl)))
    (pss_one (ps_ret (pe_and (pe_callZ I__law_ahead hr (by decide) tk (pa_cons (pv 1) (pa_cons pe_str (pa_cons pe_str pa_nil)))) (pe_one (pe_callZ I__law_ahead hr (by decide) tk (pa_cons (pv 1) (pa_cons pe_str (pa_cons pe_str pa_nil))))))))))
abbrev s__law_is_cleaner : Stmt := (topS 27)
abbrev N__law_is_cleaner : List Str := ["text", "order"]
theorem sc__law_is_cleaner : FnScope N__law_is_cleaner ["text"] (defScope s__law_is_cleaner) := ⟨rfl, rfl, rfl, by decide +kernel, rfl, by decide +kernel, by decide +kernel⟩
def t__law_is_cleaner (K : PySem.W.Frag) (sp__law_ahead : Sp) (sp__law_fits : Sp) (W : WX) : TS :=
    (tSeq (tIfS (tNot (tB (tCallZ sp__law_fits W (tCons (tVar 0) (tCons (tLst (tCons (tC (.str "look")) (tCons (tC (.str "set")) tNil))) (tCons (tLst (tCons (tC (.str "remove")) (tCons (tC (.str "again")) (tCons (tC (.str "lock")) (tCons (tC (.str "unlock")) tNil))))) tNil)))))) (tRet (tC (.bl false))) tNext)
    (tSeq (tAsg (tM1 rSplit (tVar 0) (tC (.str " "))) (gName 1))
    (tSeq (tIfS (tOr (tNot (tB (tCallZ sp__law_ahead W (tCons (tVar 1) (tCons (tC (.str "look")) (tCons (tC (.str "set")) tNil)))))) (tNot (tB (tCallZ sp__law_ahead W (tCons (tVar 1) (tCons (tC (.str "remove")) (tCons (tC (.str "look")) tNil))))))) (tRet (tC (.bl false))) tNext)
    (tRet (tCallZ sp__law_ahead W (tCons (tVar 1) (tCons (tC (.str "set")) (tCons (tC (.str "again")) tNil))))))))
theorem d__law_is_cleaner {sp__law_ahead : Sp} {sp__law_fits : Sp} (T : Txt P w K mg a_WRITER_WORDS a_CLEANER_WORDS a_READER_WORDS a_is_writer a_is_cleaner a_is_reader) (I__law_ahead : FnZ P w K mg base 1 "_law_ahead" ["order", "one", "other"] sp__law_ahead) (I__law_fits : FnZ P w K mg base 2 "_law_fits" ["text", "needed", "free"] sp__law_fits) (f : Addr) (cdv : Value) (A : Around) (outer : List Env) (s : Shared) (H : Hp) (E : XK) (hr : TP.Room 2 (A.deeper (envOfC "_law_is_cleaner" (defScope s__law_is_cleaner) s.heap.objs.size f cdv))) :
    PSs (cxOf (L2.CX P w) P w K mg base N__law_is_cleaner "_law_is_cleaner" (defScope s__law_is_cleaner) f cdv A outer s H E) (defBody s__law_is_cleaner) (t__law_is_cleaner K sp__law_ahead sp__law_fits (wOut E)) :=
  have nd := sc__law_is_cleaner.nd
  have tk : Takes (cxOf (L2.CX P w) P w K mg base N__law_is_cleaner "_law_is_cleaner" (defScope s__law_is_cleaner) f cdv A outer s H E) (wOut E) := takes_of rfl rfl rfl rfl
  have po : PassesOwn (model P w) (cxOf (L2.CX P w) P w K mg base N__law_is_cleaner "_law_is_cleaner" (defScope s__law_is_cleaner) f cdv A outer s H E).A (cxOf (L2.CX P w) P w K mg base N__law_is_cleaner "_law_is_cleaner" (defScope s__law_is_cleaner) f cdv A outer s H E).env (cxOf (L2.CX P w) P w K mg base N__law_is_cleaner "_law_is_cleaner" (defScope s__law_is_cleaner) f cdv A outer s H E).xe := passes_of rfl
  (pss_cons (ps_if (pt_not (pt_val (pe_callZ I__law_fits hr (by decide) tk (pa_cons (pv 0) (pa_cons (pe_lst (pa_cons pe_str (pa_cons pe_str pa_nil))) (pa_cons (pe_lst (pa_cons pe_str (pa_cons pe_str (pa_cons pe_str (pa_cons pe_str pa_nil))))) pa_nil)))))) (pss_one (ps_ret pe_bl)) pss_nil)
    (pss_cons (ps_asg (pe_split (pv 0) pe_str) (pg_name (i := 1) nd rfl (Or.inl rfl)))
    (pss_cons (ps_if (PW.pt (pw_or (pt_not (pt_val (pe_callZ I__law_ahead hr (by decide) tk (pa_cons (pv 1) (pa_cons pe_str (pa_cons pe_str pa_nil)))))) (pw_or1 (pt_not (pt_val (pe_callZ I__law_ahead hr (by decide) tk (pa_cons (pv 1) (pa_cons pe_str (pa_cons pe_str pa_nil))))))))) (pss_one (ps_ret pe_bl)) pss_nil)
    (pss_one (ps_ret (pe_callZ I__law_ahead hr (by decide) tk (pa_cons (pv 1) (pa_cons pe_str (pa_cons pe_str pa_nil)))))))))
abbrev s__law_is_reader : Stmt := (topS 28)
abbrev N__law_is_reader : List Str := ["text", "order"]
theorem sc__law_is_reader : FnScope N__law_is_reader ["text"] (defScope s__law_is_reader) := ⟨rfl, rfl, rfl, by decide +kernel, rfl, by decide +kernel, by decide +kernel⟩
def t__law_is_reader (K : PySem.W.Frag) (sp__law_ahead : Sp) (sp__law_fits : Sp) (W : WX) : TS :=
    (tSeq (tIfS (tNot (tB (tCallZ sp__law_fits W (tCons (tVar 0) (tCons (tLst (tCons (tC (.str "entry")) (tCons (tC (.str "mark")) (tCons (tC (.str "page")) tNil)))) (tCons (tLst (tCons (tC (.str "hold")) (tCons (tC (.str "take")) (tCons (tC (.str "tell")) tNil)))) tNil)))))) (tRet (tC (.bl false))) tNext)
    (tSeq (tAsg (tM1 rSplit (tVar 0) (tC (.str " "))) (gName 1))
    (tSeq (tIfS (tOr (tTest (tOp (rSame K) (tOp (rIn K false) (tC (.str "hold")) (tVar 1)) (tOp (rIn K false) (tC (.str "take")) (tVar 1)))) (tTest (tOp (rUnlike K) (tOp (rIn K false) (tC (.str "take")) (tVar 1)) (tOp (rIn K false) (tC (.str "tell")) (tVar 1))))) (tRet (tC (.bl false))) tNext)
    (tRet (tAndV (tOp (rSame K) (tOp (rIx K) (tVar 1) (tUn rNeg (tC (.int 1)))) (tC (.str "page"))) (tCallZ sp__law_ahead W (tCons (tVar 1) (tCons (tC (.str "take")) (tCons (tC (.str "tell")) tNil)))))))))
theorem d__law_is_reader {sp__law_ahead : Sp} {sp__law_fits : Sp} (T : Txt P w K mg a_WRITER_WORDS a_CLEANER_WORDS a_READER_WORDS a_is_writer a_is_cleaner a_is_reader) (I__law_ahead : FnZ P w K mg base 1 "_law_ahead" ["order", "one", "other"] sp__law_ahead) (I__law_fits : FnZ P w K mg base 2 "_law_fits" ["text", "needed", "free"] sp__law_fits) (f : Addr) (cdv : Value) (A : Around) (outer : List Env) (s : Shared) (H : Hp) (E : XK) (hr : TP.Room 2 (A.deeper (envOfC "_law_is_reader" (defScope s__law_is_reader) s.heap.objs.size f cdv))) :
    PSs (cxOf (L2.CX P w) P w K mg base N__law_is_reader "_law_is_reader" (defScope s__law_is_reader) f cdv A outer s H E) (defBody s__law_is_reader) (t__law_is_reader K sp__law_ahead sp__law_fits (wOut E)) :=
  have nd := sc__law_is_reader.nd
  have tk : Takes (cxOf (L2.CX P w) P w K mg base N__law_is_reader "_law_is_reader" (defScope s__law_is_reader) f cdv A outer s H E) (wOut E) := takes_of rfl rfl rfl rfl
  have po : PassesOwn (model P w) (cxOf (L2.CX P w) P w K mg base N__law_is_reader "_law_is_reader" (defScope s__law_is_reader) f cdv A outer s H E).A (cxOf (L2.CX P w) P w K mg base N__law_is_reader "_law_is_reader" (defScope s__law_is_reader) f cdv A outer s H E).env (cxOf (L2.CX P w) P w K mg base N__law_is_reader "_law_is_reader" (defScope s__law_is_reader) f cdv A outer s H E).xe := passes_of rfl
  (pss_cons (ps_if (pt_not (pt_val (pe_callZ I__law_fits hr (by decide) tk (pa_cons (pv 0) (pa_cons (pe_lst (pa_cons pe_str (pa_cons pe_str (pa_cons pe_str pa_nil)))) (pa_cons (pe_lst (pa_cons pe_str (pa_cons pe_str (pa_cons pe_str pa_nil)))) pa_nil)))))) (pss_one (ps_ret pe_bl)) pss_nil)
    (pss_cons (ps_asg (pe_split (pv 0) pe_str) (pg_name (i := 1) nd rfl (Or.inl rfl)))
    (pss_cons (ps_if (PW.pt (pw_or (pt_cmpR (op_same hr.units) (pe_cmpR op_in_seq pe_str (pv 1) (by rfl)) (pe_cmpR op_in_seq pe_str (pv 1) (by rfl)) (nomark _)) (pw_or1 (pt_cmpR (op_unlike hr.units) (pe_cmpR op_in_seq pe_str (pv 1) (by rfl)) (pe_cmpR op_in_seq pe_str (pv 1) (by rfl)) (nomark _))))) (pss_one (ps_ret pe_bl)) pss_nil)
    (pss_one (ps_ret (pe_and (pe_cmpR (op_same hr.units) (pe_ix ix_seq (pv 1) (pe_un un_minus pe_int) (fun _ _ => rfl)) pe_str (nomark _)) (pe_one (pe_callZ I__law_ahead hr (by decide) tk (pa_cons (pv 1) (pa_cons pe_str (pa_cons pe_str pa_nil)))))))))))
abbrev s__law_spoilt : Stmt := (topS 29)
abbrev N__law_spoilt : List Str := ["pot", "order", "strange", "k", "word", "at", "mate", "kept"]
theorem sc__law_spoilt : FnScope N__law_spoilt ["pot", "order"] (defScope s__law_spoilt) := ⟨rfl, rfl, rfl, by decide +kernel, rfl, by decide +kernel, by decide +kernel⟩
def t__law_spoilt (K : PySem.W.Frag) (sp__law_draw : Sp) (W : WX) : TS :=
    (tSeq (tAsg (tLst (tCons (tC (.str "clear")) (tCons (tC (.str "lock")) (tCons (tC (.str "unlock")) (tCons (tC (.str "again")) (tCons (tC (.str "remove")) (tCons (tC (.str "hold")) (tCons (tC (.str "tell")) (tCons (tC (.str "")) (tCons (tC (.str "Lock")) (tCons (tC (.str "page")) (tCons (tC (.str "enter")) (tCons (tC (.str "set")) tNil))))))))))))) (gName 2))
    (tSeq (tFor (iRng1 (tCons (tCallZ sp__law_draw W (tCons (tVar 0) (tCons (tC (.int 4)) tNil))) tNil)) (gName 3) (tSeq (tAsg (tCallZ sp__law_draw W (tCons (tVar 0) (tCons (tC (.int 4)) tNil))) (gName 4))
    (tSeq (tAsg (tCallZ sp__law_draw W (tCons (tVar 0) (tCons (tOp rPlus (tCB (TP.rLen K) (tCons (tVar 1) tNil)) (tC (.int 1))) tNil))) (gName 5))
    (tSeq (tAsg (tCallZ sp__law_draw W (tCons (tVar 0) (tCons (tOp rPlus (tCB (TP.rLen K) (tCons (tVar 1) tNil)) (tC (.int 1))) tNil))) (gName 6))
    (tIfS (tTest (tOp (rSame K) (tVar 4) (tC (.int 0)))) (tAsg (tOp rPlus (tOp rPlus (tSl (rSlL K) (tVar 1) tNoPart (tPart (tVar 5))) (tLst (tCons (tOp (rIx K) (tVar 2) (tCallZ sp__law_draw W (tCons (tVar 0) (tCons (tC (.int 12)) tNil)))) tNil))) (tSl (rSlL K) (tVar 1) (tPart (tVar 5)) tNoPart)) (gName 1)) (tIfS (tTest (tOp (rSame K) (tVar 4) (tC (.int 1)))) (tAsg (tOp rPlus (tSl (rSlL K) (tVar 1) tNoPart (tPart (tVar 5))) (tSl (rSlL K) (tVar 1) (tPart (tOp rPlus (tVar 5) (tC (.int 1)))) tNoPart)) (gName 1)) (tIfS (tAnd (tTest (tOp rLess (tVar 5) (tCB (TP.rLen K) (tCons (tVar 1) tNil)))) (tTest (tOp rLess (tVar 6) (tCB (TP.rLen K) (tCons (tVar 1) tNil))))) (tSeq (tAsg (tOp (rIx K) (tVar 1) (tVar 5)) (gName 7))
    (tSeq (tAsg (tOp rPlus (tOp rPlus (tSl (rSlL K) (tVar 1) tNoPart (tPart (tVar 5))) (tLst (tCons (tOp (rIx K) (tVar 1) (tVar 6)) tNil))) (tSl (rSlL K) (tVar 1) (tPart (tOp rPlus (tVar 5) (tC (.int 1)))) tNoPart)) (gName 1))
    (tAsg (tOp rPlus (tOp rPlus (tSl (rSlL K) (tVar 1) tNoPart (tPart (tVar 6))) (tLst (tCons (tVar 7) tNil))) (tSl (rSlL K) (tVar 1) (tPart (tOp rPlus (tVar 6) (tC (.int 1)))) tNoPart)) (gName 1)))) tNext)))))))
    (tRet (tVar 1))))
theorem d__law_spoilt {sp__law_draw : Sp} (T : Txt P w K mg a_WRITER_WORDS a_CLEANER_WORDS a_READER_WORDS a_is_writer a_is_cleaner a_is_reader) (I__law_draw : FnZ P w K mg base 1 "_law_draw" ["pot", "many"] sp__law_draw) (f : Addr) (cdv : Value) (A : Around) (outer : List Env) (s : Shared) (H : Hp) (E : XK) (hr : TP.Room 1 (A.deeper (envOfC "_law_spoilt" (defScope s__law_spoilt) s.heap.objs.size f cdv))) :
    PSs (cxOf (L2.CX P w) P w K mg base N__law_spoilt "_law_spoilt" (defScope s__law_spoilt) f cdv A outer s H E) (defBody s__law_spoilt) (t__law_spoilt K sp__law_draw (wOut E)) :=
  have nd := sc__law_spoilt.nd
  have tk : Takes (cxOf (L2.CX P w) P w K mg base N__law_spoilt "_law_spoilt" (defScope s__law_spoilt) f cdv A outer s H E) (wOut E) := takes_of rfl rfl rfl rfl
  have po : PassesOwn (model P w) (cxOf (L2.CX P w) P w K mg base N__law_spoilt "_law_spoilt" (defScope s__law_spoilt) f cdv A outer s H E).A (cxOf (L2.CX P w) P w K mg base N__law_spoilt "_law_spoilt" (defScope s__law_spoilt) f cdv A outer s H E).env (cxOf (L2.CX P w) P w K mg base N__law_spoilt "_law_spoilt" (defScope s__law_spoilt) f cdv A outer s H E).xe := passes_of rfl
  (pss_cons (ps_asg (pe_lst (pa_cons pe_str (pa_cons pe_str (pa_cons pe_str (pa_cons pe_str (pa_cons pe_str (pa_cons pe_str (pa_cons pe_str (pa_cons pe_str (pa_cons pe_str (pa_cons pe_str (pa_cons pe_str (pa_cons pe_str pa_nil))))))))))))) (pg_name (i := 2) nd rfl (Or.inl rfl)))
    (pss_cons (ps_for po rfl (pi_range1 (by rfl) T.n_range (pa_cons (pe_callZ I__law_draw hr (by decide) tk (pa_cons (pv 0) (pa_cons pe_int pa_nil))) pa_nil)) (pg_name (i := 3) nd rfl (Or.inl rfl)) (pss_cons (ps_asg (pe_callZ I__law_draw hr (by decide) tk (pa_cons (pv 0) (pa_cons pe_int pa_nil))) (pg_name (i := 4) nd rfl (Or.inl rfl)))
    (pss_cons (ps_asg (pe_callZ I__law_draw hr (by decide) tk (pa_cons (pv 0) (pa_cons (pe_op op_plus (pe_callB TP.cr_len (by rfl) T.n_len (by decide +kernel) (pa_cons (pv 1) pa_nil)) pe_int) pa_nil))) (pg_name (i := 5) nd rfl (Or.inl rfl)))
    (pss_cons (ps_asg (pe_callZ I__law_draw hr (by decide) tk (pa_cons (pv 0) (pa_cons (pe_op op_plus (pe_callB TP.cr_len (by rfl) T.n_len (by decide +kernel) (pa_cons (pv 1) pa_nil)) pe_int) pa_nil))) (pg_name (i := 6) nd rfl (Or.inl rfl)))
    (pss_one (ps_if (pt_cmpR (op_same hr.units) (pv 4) pe_int (nomark _)) (pss_one (ps_asg (pe_op op_plus (pe_op op_plus (pe_slice sl_list (pv 1) po_none (po_some (pv 5))) (pe_lst (pa_cons (pe_ix ix_seq (pv 2) (pe_callZ I__law_draw hr (by decide) tk (pa_cons (pv 0) (pa_cons pe_int pa_nil))) (fun _ _ => rfl)) pa_nil))) (pe_slice sl_list (pv 1) (po_some (pv 5)) po_none)) (pg_name (i := 1) nd rfl (Or.inl rfl)))) (pss_one (ps_if (pt_cmpR (op_same hr.units) (pv 4) pe_int (nomark _)) (pss_one (ps_asg (pe_op op_plus (pe_slice sl_list (pv 1) po_none (po_some (pv 5))) (pe_slice sl_list (pv 1) (po_some (pe_op op_plus (pv 5) pe_int)) po_none)) (pg_name (i := 1) nd rfl (Or.inl rfl)))) (pss_one (ps_if (PW.pt (pw_and (pt_cmpR op_less (pv 5) (pe_callB TP.cr_len (by rfl) T.n_len (by decide +kernel) (pa_cons (pv 1) pa_nil)) (nomark _)) (pw_and1 (pt_cmpR op_less (pv 6) (pe_callB TP.cr_len (by rfl) T.n_len (by decide +kernel) (pa_cons (pv 1) pa_nil)) (nomark _))))) (pss_cons (ps_asg (pe_ix ix_seq (pv 1) (pv 5) (fun _ _ => rfl)) (pg_name (i := 7) nd rfl (Or.inl rfl)))
    (pss_cons (ps_asg (pe_op op_plus (pe_op op_plus (pe_slice sl_list (pv 1) po_none (po_some (pv 5))) (pe_lst (pa_cons (pe_ix ix_seq (pv 1) (pv 6) (fun _ _ => rfl)) pa_nil))) (pe_slice sl_list (pv 1) (po_some (pe_op op_plus (pv 5) pe_int)) po_none)) (pg_name (i := 1) nd rfl (Or.inl rfl)))
    (pss_one (ps_asg (pe_op op_plus (pe_op op_plus (pe_slice sl_list (pv 1) po_none (po_some (pv 6))) (pe_lst (pa_cons (pv 7) pa_nil))) (pe_slice sl_list (pv 1) (po_some (pe_op op_plus (pv 6) pe_int)) po_none)) (pg_name (i := 1) nd rfl (Or.inl rfl)))))) pss_nil))))))))))
    (pss_one (ps_ret (pv 1)))))
abbrev s__law_ascends : Stmt := (topS 30)
abbrev N__law_ascends : List Str := ["texts", "k"]
theorem sc__law_ascends : FnScope N__law_ascends ["texts"] (defScope s__law_ascends) := ⟨rfl, rfl, rfl, by decide +kernel, rfl, by decide +kernel, by decide +kernel⟩
def t__law_ascends (K : PySem.W.Frag) (W : WX) : TS :=
    (tRet (tOp (rSame K) (tLc (iRng2 (tCons (tC (.int 1)) (tCons (tCB (TP.rLen K) (tCons (tVar 0) tNil)) tNil))) (gName 1) (tNot (tTest (tOp rLtS (tOp (rIx K) (tVar 0) (tOp rMinus (tVar 1) (tC (.int 1)))) (tOp (rIx K) (tVar 0) (tVar 1))))) (tVar 1) [1]) (tLst tNil)))
theorem d__law_ascends (T : Txt P w K mg a_WRITER_WORDS a_CLEANER_WORDS a_READER_WORDS a_is_writer a_is_cleaner a_is_reader) (f : Addr) (cdv : Value) (A : Around) (outer : List Env) (s : Shared) (H : Hp) (E : XK) (hr : TP.Room 0 (A.deeper (envOfC "_law_ascends" (defScope s__law_ascends) s.heap.objs.size f cdv))) :
    PSs (cxOf (L2.CX P w) P w K mg base N__law_ascends "_law_ascends" (defScope s__law_ascends) f cdv A outer s H E) (defBody s__law_ascends) (t__law_ascends K (wOut E)) :=
  have nd := sc__law_ascends.nd
  have tk : Takes (cxOf (L2.CX P w) P w K mg base N__law_ascends "_law_ascends" (defScope s__law_ascends) f cdv A outer s H E) (wOut E) := takes_of rfl rfl rfl rfl
  have po : PassesOwn (model P w) (cxOf (L2.CX P w) P w K mg base N__law_ascends "_law_ascends" (defScope s__law_ascends) f cdv A outer s H E).A (cxOf (L2.CX P w) P w K mg base N__law_ascends "_law_ascends" (defScope s__law_ascends) f cdv A outer s H E).env (cxOf (L2.CX P w) P w K mg base N__law_ascends "_law_ascends" (defScope s__law_ascends) f cdv A outer s H E).xe := passes_of rfl
  (pss_one (ps_ret (pe_cmpR (op_same hr.units) (pe_lc (own := [("k", 1)]) (g := (gName 1)) (tt := (tNot (tTest (tOp rLtS (tOp (rIx K) (tVar 0) (tOp rMinus (tVar 1) (tC (.int 1)))) (tOp (rIx K) (tVar 0) (tVar 1)))))) rfl nd (pi_range2 (by rfl) T.n_range (pa_cons pe_int (pa_cons (pe_callB TP.cr_len (by rfl) T.n_len (by decide +kernel) (pa_cons (pv 0) pa_nil)) pa_nil))) (blkOk_by (own := [("k", 1)]) (N := N__law_ascends) (sc := defScope s__law_ascends) (by decide +kernel)) (fun _ _ _ _ _ => (pg_name (i := 1) nd rfl (Or.inl rfl))) (fun _ _ _ _ _ => (pts_one (pt_not (pt_cmpR op_ltS (pe_ix ix_seq (pv 0) (pe_op op_minus (pv 1) pe_int) (fun _ _ => rfl)) (pe_ix ix_seq (pv 0) (pv 1) (fun _ _ => rfl)) (nomark _))))) (fun _ _ _ _ _ => (pv 1))) (pe_lst pa_nil) (nomark _))))
abbrev s_law : Stmt := (topS 31)
abbrev N_law : List Str := ["script", "pot", "writers", "cleaners", "readers", "k", "order", "text"]
theorem sc_law : FnScope N_law ["script"] (defScope s_law) := ⟨rfl, rfl, rfl, by decide +kernel, rfl, by decide +kernel, by decide +kernel⟩
def t_law (K : PySem.W.Frag) (sp_is_writer : Sp) (sp_is_cleaner : Sp) (sp_is_reader : Sp) (sp_writer_orders : SpI) (sp_cleaner_orders : SpI) (sp_reader_orders : SpI) (sp__law_pot : Sp) (sp__law_writer_words : Sp) (sp__law_cleaner_words : Sp) (sp__law_reader_words : Sp) (sp__law_is_writer : Sp) (sp__law_is_cleaner : Sp) (sp__law_is_reader : Sp) (sp__law_spoilt : Sp) (sp__law_ascends : Sp) (W : WX) : TS :=
    (tSeq (tAsg (tCallZ sp__law_pot W (tCons (tVar 0) tNil)) (gName 1))
    (tSeq (tAsg (tListG (tCallI sp_writer_orders tNil)) (gName 2))
    (tSeq (tAsg (tListG (tCallI sp_cleaner_orders tNil)) (gName 3))
    (tSeq (tAsg (tListG (tCallI sp_reader_orders tNil)) (gName 4))
    (tSeq (tIfS (tTest (tOp (rUnlike K) (tLst (tCons (tCB (TP.rLen K) (tCons (tVar 2) tNil)) (tCons (tCB (TP.rLen K) (tCons (tVar 3) tNil)) (tCons (tCB (TP.rLen K) (tCons (tVar 4) tNil)) tNil)))) (tLst (tCons (tC (.int 150)) (tCons (tC (.int 45)) (tCons (tC (.int 18)) tNil)))))) (tRet (tC (.bl false))) tNext)
    (tSeq (tIfS (tOr (tNot (tB (tCallZ sp__law_ascends W (tCons (tVar 2) tNil)))) (tOr (tNot (tB (tCallZ sp__law_ascends W (tCons (tVar 3) tNil)))) (tNot (tB (tCallZ sp__law_ascends W (tCons (tVar 4) tNil)))))) (tRet (tC (.bl false))) tNext)
    (tSeq (tIfS (tTest (tOp (rUnlike K) (tLc (iList K (tVar 2)) (gName 7) (tOr (tNot (tB (tCallZ sp__law_is_writer noW (tCons (tVar 7) tNil)))) (tNot (tB (tCallZ sp_is_writer noW (tCons (tVar 7) tNil))))) (tVar 7) [7]) (tLst tNil))) (tRet (tC (.bl false))) tNext)
    (tSeq (tIfS (tTest (tOp (rUnlike K) (tLc (iList K (tVar 3)) (gName 7) (tOr (tNot (tB (tCallZ sp__law_is_cleaner noW (tCons (tVar 7) tNil)))) (tNot (tB (tCallZ sp_is_cleaner noW (tCons (tVar 7) tNil))))) (tVar 7) [7]) (tLst tNil))) (tRet (tC (.bl false))) tNext)
    (tSeq (tIfS (tTest (tOp (rUnlike K) (tLc (iList K (tVar 4)) (gName 7) (tOr (tNot (tB (tCallZ sp__law_is_reader noW (tCons (tVar 7) tNil)))) (tNot (tB (tCallZ sp_is_reader noW (tCons (tVar 7) tNil))))) (tVar 7) [7]) (tLst tNil))) (tRet (tC (.bl false))) tNext)
    (tSeq (tFor (iRng1 (tCons (tC (.int 5)) tNil)) (gName 5) (tSeq (tAsg (tCallZ sp__law_writer_words W (tCons (tVar 1) tNil)) (gName 6))
    (tSeq (tAsg (tM1 (rJoin K) (tC (.str " ")) (tCallZ sp__law_spoilt W (tCons (tVar 1) (tCons (tVar 6) tNil)))) (gName 7))
    (tSeq (tIfS (tOr (tTest (tOp (rIn K true) (tM1 (rJoin K) (tC (.str " ")) (tVar 6)) (tVar 2))) (tTest (tOp (rUnlike K) (tOp (rIn K false) (tVar 7) (tVar 2)) (tCallZ sp__law_is_writer W (tCons (tVar 7) tNil))))) (tRet (tC (.bl false))) tNext)
    (tSeq (tAsg (tCallZ sp__law_cleaner_words W (tCons (tVar 1) tNil)) (gName 6))
    (tSeq (tAsg (tM1 (rJoin K) (tC (.str " ")) (tCallZ sp__law_spoilt W (tCons (tVar 1) (tCons (tVar 6) tNil)))) (gName 7))
    (tSeq (tIfS (tOr (tTest (tOp (rIn K true) (tM1 (rJoin K) (tC (.str " ")) (tVar 6)) (tVar 3))) (tTest (tOp (rUnlike K) (tOp (rIn K false) (tVar 7) (tVar 3)) (tCallZ sp__law_is_cleaner W (tCons (tVar 7) tNil))))) (tRet (tC (.bl false))) tNext)
    (tSeq (tAsg (tCallZ sp__law_reader_words W (tCons (tVar 1) tNil)) (gName 6))
    (tSeq (tAsg (tM1 (rJoin K) (tC (.str " ")) (tCallZ sp__law_spoilt W (tCons (tVar 1) (tCons (tVar 6) tNil)))) (gName 7))
    (tIfS (tOr (tTest (tOp (rIn K true) (tM1 (rJoin K) (tC (.str " ")) (tVar 6)) (tVar 4))) (tTest (tOp (rUnlike K) (tOp (rIn K false) (tVar 7) (tVar 4)) (tCallZ sp__law_is_reader W (tCons (tVar 7) tNil))))) (tRet (tC (.bl false))) tNext))))))))))
    (tRet (tOp (rSame K) (tListG (tCallI sp_writer_orders tNil)) (tVar 2)))))))))))))
theorem d_law {sp_is_writer : Sp} {sp_is_cleaner : Sp} {sp_is_reader : Sp} {sp_writer_orders : SpI} {sp_cleaner_orders : SpI} {sp_reader_orders : SpI} {sp__law_pot : Sp} {sp__law_writer_words : Sp} {sp__law_cleaner_words : Sp} {sp__law_reader_words : Sp} {sp__law_is_writer : Sp} {sp__law_is_cleaner : Sp} {sp__law_is_reader : Sp} {sp__law_spoilt : Sp} {sp__law_ascends : Sp} (T : Txt P w K mg a_WRITER_WORDS a_CLEANER_WORDS a_READER_WORDS a_is_writer a_is_cleaner a_is_reader) (I_is_writer : FnZ P w K mg base 3 "is_writer" ["value"] sp_is_writer) (I_is_cleaner : FnZ P w K mg base 3 "is_cleaner" ["value"] sp_is_cleaner) (I_is_reader : FnZ P w K mg base 2 "is_reader" ["value"] sp_is_reader) (I_writer_orders : GFun P w K mg base 5 "writer_orders" [] sp_writer_orders) (I_cleaner_orders : GFun P w K mg base 5 "cleaner_orders" [] sp_cleaner_orders) (I_reader_orders : GFun P w K mg base 5 "reader_orders" [] sp_reader_orders) (I__law_pot : FnZ P w K mg base 1 "_law_pot" ["script"] sp__law_pot) (I__law_writer_words : FnZ P w K mg base 4 "_law_writer_words" ["pot"] sp__law_writer_words) (I__law_cleaner_words : FnZ P w K mg base 4 "_law_cleaner_words" ["pot"] sp__law_cleaner_words) (I__law_reader_words : FnZ P w K mg base 3 "_law_reader_words" ["pot"] sp__law_reader_words) (I__law_is_writer : FnZ P w K mg base 3 "_law_is_writer" ["text"] sp__law_is_writer) (I__law_is_cleaner : FnZ P w K mg base 3 "_law_is_cleaner" ["text"] sp__law_is_cleaner) (I__law_is_reader : FnZ P w K mg base 3 "_law_is_reader" ["text"] sp__law_is_reader) (I__law_spoilt : FnZ P w K mg base 2 "_law_spoilt" ["pot", "order"] sp__law_spoilt) (I__law_ascends : FnZ P w K mg base 1 "_law_ascends" ["texts"] sp__law_ascends) (f : Addr) (cdv : Value) (A : Around) (outer : List Env) (s : Shared) (H : Hp) (E : XK) (hr : TP.Room 6 (A.deeper (envOfC "law" (defScope s_law) s.heap.objs.size f cdv))) :
    PSs (cxOf (L2.CX P w) P w K mg base N_law "law" (defScope s_law) f cdv A outer s H E) (defBody s_law) (t_law K sp_is_writer sp_is_cleaner sp_is_reader sp_writer_orders sp_cleaner_orders sp_reader_orders sp__law_pot sp__law_writer_words sp__law_cleaner_words sp__law_reader_words sp__law_is_writer sp__law_is_cleaner sp__law_is_reader sp__law_spoilt sp__law_ascends (wOut E)) :=
  have nd := sc_law.nd
  have tk : Takes (cxOf (L2.CX P w) P w K mg base N_law "law" (defScope s_law) f cdv A outer s H E) (wOut E) := takes_of rfl rfl rfl rfl
  have po : PassesOwn (model P w) (cxOf (L2.CX P w) P w K mg base N_law "law" (defScope s_law) f cdv A outer s H E).A (cxOf (L2.CX P w) P w K mg base N_law "law" (defScope s_law) f cdv A outer s H E).env (cxOf (L2.CX P w) P w K mg base N_law "law" (defScope s_law) f cdv A outer s H E).xe := passes_of rfl
  (pss_cons (ps_asg (pe_callZ I__law_pot hr (by decide) tk (pa_cons (pv 0) pa_nil)) (pg_name (i := 1) nd rfl (Or.inl rfl)))
    (pss_cons (ps_setLcG (i := 2) (k := 5) (own := [("text", 7)]) nd rfl rfl (sw_true rfl rfl rfl (by decide +kernel)) (pgi_call0 I_writer_orders (hr.mono (by decide)) (Nat.le_refl _)) (blkOk_by (own := [("text", 7)]) (N := N_law) (sc := defScope s_law) (by decide +kernel)) (by rfl) (hr.mono (by decide)))
    (pss_cons (ps_setLcG (i := 3) (k := 5) (own := [("text", 7)]) nd rfl rfl (sw_true rfl rfl rfl (by decide +kernel)) (pgi_call0 I_cleaner_orders (hr.mono (by decide)) (Nat.le_refl _)) (blkOk_by (own := [("text", 7)]) (N := N_law) (sc := defScope s_law) (by decide +kernel)) (by rfl) (hr.mono (by decide)))
    (pss_cons (ps_setLcG (i := 4) (k := 5) (own := [("text", 7)]) nd rfl rfl (sw_true rfl rfl rfl (by decide +kernel)) (pgi_call0 I_reader_orders (hr.mono (by decide)) (Nat.le_refl _)) (blkOk_by (own := [("text", 7)]) (N := N_law) (sc := defScope s_law) (by decide +kernel)) (by rfl) (hr.mono (by decide)))
    (pss_cons (ps_if (pt_cmpR (op_unlike hr.units) (pe_lst (pa_cons (pe_callB TP.cr_len (by rfl) T.n_len (by decide +kernel) (pa_cons (pv 2) pa_nil)) (pa_cons (pe_callB TP.cr_len (by rfl) T.n_len (by decide +kernel) (pa_cons (pv 3) pa_nil)) (pa_cons (pe_callB TP.cr_len (by rfl) T.n_len (by decide +kernel) (pa_cons (pv 4) pa_nil)) pa_nil)))) (pe_lst (pa_cons pe_int (pa_cons pe_int (pa_cons pe_int pa_nil)))) (nomark _)) (pss_one (ps_ret pe_bl)) pss_nil)
    (pss_cons (ps_if (PW.pt (pw_or (pt_not (pt_val (pe_callZ I__law_ascends hr (by decide) tk (pa_cons (pv 2) pa_nil)))) (pw_or (pt_not (pt_val (pe_callZ I__law_ascends hr (by decide) tk (pa_cons (pv 3) pa_nil)))) (pw_or1 (pt_not (pt_val (pe_callZ I__law_ascends hr (by decide) tk (pa_cons (pv 4) pa_nil)))))))) (pss_one (ps_ret pe_bl)) pss_nil)
    (pss_cons (ps_if (pt_cmpR (op_unlike hr.units) (pe_lc (own := [("text", 7)]) (g := (gName 7)) (tt := (tOr (tNot (tB (tCallZ sp__law_is_writer noW (tCons (tVar 7) tNil)))) (tNot (tB (tCallZ sp_is_writer noW (tCons (tVar 7) tNil)))))) rfl nd (pi_list (pv 2)) (blkOk_by (own := [("text", 7)]) (N := N_law) (sc := defScope s_law) (by decide +kernel)) (fun _ _ _ _ _ => (pg_name (i := 7) nd rfl (Or.inl rfl))) (fun _ _ _ _ _ => (pts_one (PW.pt (pw_or (pt_not (pt_val (pe_callZ I__law_is_writer hr (by decide) takes0 (pa_cons (pv 7) pa_nil)))) (pw_or1 (pt_not (pt_val (pe_callZ I_is_writer hr (by decide) takes0 (pa_cons (pv 7) pa_nil))))))))) (fun _ _ _ _ _ => (pv 7))) (pe_lst pa_nil) (nomark _)) (pss_one (ps_ret pe_bl)) pss_nil)
    (pss_cons (ps_if (pt_cmpR (op_unlike hr.units) (pe_lc (own := [("text", 7)]) (g := (gName 7)) (tt := (tOr (tNot (tB (tCallZ sp__law_is_cleaner noW (tCons (tVar 7) tNil)))) (tNot (tB (tCallZ sp_is_cleaner noW (tCons (tVar 7) tNil)))))) rfl nd (pi_list (pv 3)) (blkOk_by (own := [("text", 7)]) (N := N_law) (sc := defScope s_law) (by decide +kernel)) (fun _ _ _ _ _ => (pg_name (i := 7) nd rfl (Or.inl rfl))) (fun _ _ _ _ _ => (pts_one (PW.pt (pw_or (pt_not (pt_val (pe_callZ I__law_is_cleaner hr (by decide) takes0 (pa_cons (pv 7) pa_nil)))) (pw_or1 (pt_not (pt_val (pe_callZ I_is_cleaner hr (by decide) takes0 (pa_cons (pv 7) pa_nil))))))))) (fun _ _ _ _ _ => (pv 7))) (pe_lst pa_nil) (nomark _)) (pss_one (ps_ret pe_bl)) pss_nil)
    (pss_cons (ps_if (pt_cmpR (op_unlike hr.units) (pe_lc (own := [("text", 7)]) (g := (gName 7)) (tt := (tOr (tNot (tB (tCallZ sp__law_is_reader noW (tCons (tVar 7) tNil)))) (tNot (tB (tCallZ sp_is_reader noW (tCons (tVar 7) tNil)))))) rfl nd (pi_list (pv 4)) (blkOk_by (own := [("text", 7)]) (N := N_law) (sc := defScope s_law) (by decide +kernel)) (fun _ _ _ _ _ => (pg_name (i := 7) nd rfl (Or.inl rfl))) (fun _ _ _ _ _ => (pts_one (PW.pt (pw_or (pt_not (pt_val (pe_callZ I__law_is_reader hr (by decide) takes0 (pa_cons (pv 7) pa_nil)))) (pw_or1 (pt_not (pt_val (pe_callZ I_is_reader hr (by decide) takes0 (pa_cons (pv 7) pa_nil))))))))) (fun _ _ _ _ _ => (pv 7))) (pe_lst pa_nil) (nomark _)) (pss_one (ps_ret pe_bl)) pss_nil)
    (pss_cons (ps_for po rfl (pi_range1 (by rfl) T.n_range (pa_cons pe_int pa_nil)) (pg_name (i := 5) nd rfl (Or.inl rfl)) (pss_cons (ps_asg (pe_callZ I__law_writer_words hr (by decide) tk (pa_cons (pv 1) pa_nil)) (pg_name (i := 6) nd rfl (Or.inl rfl)))
    (pss_cons (ps_asg (pe_join pe_str (pe_callZ I__law_spoilt hr (by decide) tk (pa_cons (pv 1) (pa_cons (pv 6) pa_nil)))) (pg_name (i := 7) nd rfl (Or.inl rfl)))
    (pss_cons (ps_if (PW.pt (pw_or (pt_cmpR op_notIn_seq (pe_join pe_str (pv 6)) (pv 2) (by rfl)) (pw_or1 (pt_cmpR (op_unlike hr.units) (pe_cmpR op_in_seq (pv 7) (pv 2) (by rfl)) (pe_callZ I__law_is_writer hr (by decide) tk (pa_cons (pv 7) pa_nil)) (nomark _))))) (pss_one (ps_ret pe_bl)) pss_nil)
    (pss_cons (ps_asg (pe_callZ I__law_cleaner_words hr (by decide) tk (pa_cons (pv 1) pa_nil)) (pg_name (i := 6) nd rfl (Or.inl rfl)))
    (pss_cons (ps_asg (pe_join pe_str (pe_callZ I__law_spoilt hr (by decide) tk (pa_cons (pv 1) (pa_cons (pv 6) pa_nil)))) (pg_name (i := 7) nd rfl (Or.inl rfl)))
    (pss_cons (ps_if (PW.pt (pw_or (pt_cmpR op_notIn_seq (pe_join pe_str (pv 6)) (pv 3) (by rfl)) (pw_or1 (pt_cmpR (op_unlike hr.units) (pe_cmpR op_in_seq (pv 7) (pv 3) (by rfl)) (pe_callZ I__law_is_cleaner hr (by decide) tk (pa_cons (pv 7) pa_nil)) (nomark _))))) (pss_one (ps_ret pe_bl)) pss_nil)
    (pss_cons (ps_asg (pe_callZ I__law_reader_words hr (by decide) tk (pa_cons (pv 1) pa_nil)) (pg_name (i := 6) nd rfl (Or.inl rfl)))
    (pss_cons (ps_asg (pe_join pe_str (pe_callZ I__law_spoilt hr (by decide) tk (pa_cons (pv 1) (pa_cons (pv 6) pa_nil)))) (pg_name (i := 7) nd rfl (Or.inl rfl)))
    (pss_one (ps_if (PW.pt (pw_or (pt_cmpR op_notIn_seq (pe_join pe_str (pv 6)) (pv 4) (by rfl)) (pw_or1 (pt_cmpR (op_unlike hr.units) (pe_cmpR op_in_seq (pv 7) (pv 4) (by rfl)) (pe_callZ I__law_is_reader hr (by decide) tk (pa_cons (pv 7) pa_nil)) (nomark _))))) (pss_one (ps_ret pe_bl)) pss_nil)))))))))))
    (pss_one (ps_ret (pe_cmpR (op_same hr.units) (pe_lcG (k := 5) (own := [("text", 7)]) (pgi_call0 I_writer_orders (hr.mono (by decide)) (Nat.le_refl _)) (blkOk_by (own := [("text", 7)]) (N := N_law) (sc := defScope s_law) (by decide +kernel)) (by rfl) (hr.mono (by decide))) (pv 2) (nomark _))))))))))))))
end
end Law

namespace Law
open PySem PySem.Spec PyProof.Rows L2 TP MR
noncomputable section
variable {K : PySem.W.Frag} {a_WRITER_WORDS a_CLEANER_WORDS a_READER_WORDS a_is_writer a_is_cleaner a_is_reader : Addr}
abbrev Gam (a_is_writer a_is_cleaner a_is_reader : Addr) : Nat → Addr := fun c => match c with
  | 0 => a_is_writer
  | 1 => a_is_cleaner
  | 2 => a_is_reader
  | _ => 0
def k_READER_WORDS : D := .tup [.str "entry", .str "mark", .str "page", .str "hold", .str "take", .str "tell"]
def k_CLEANER_WORDS : D := .tup [.str "look", .str "set", .str "remove", .str "again", .str "lock", .str "unlock"]
def k_WRITER_WORDS : D := .tup [.str "change", .str "enter", .str "commit", .str "clear", .str "lock", .str "unlock"]
structure Cxt (K : PySem.W.Frag) (a_WRITER_WORDS : Addr) (a_CLEANER_WORDS : Addr) (a_READER_WORDS : Addr) (a_is_writer : Addr) (a_is_cleaner : Addr) (a_is_reader : Addr) : Prop where
  F : ClsG K (Gam a_is_writer a_is_cleaner a_is_reader) 0
  k_WRITER_WORDS : ∀ {xa : XT} {W : WX}, SimE K (Gam a_is_writer a_is_cleaner a_is_reader) xa W (tC (.ref a_WRITER_WORDS)) (mC k_WRITER_WORDS)
  k_CLEANER_WORDS : ∀ {xa : XT} {W : WX}, SimE K (Gam a_is_writer a_is_cleaner a_is_reader) xa W (tC (.ref a_CLEANER_WORDS)) (mC k_CLEANER_WORDS)
  k_READER_WORDS : ∀ {xa : XT} {W : WX}, SimE K (Gam a_is_writer a_is_cleaner a_is_reader) xa W (tC (.ref a_READER_WORDS)) (mC k_READER_WORDS)
def ms_words_of : MS :=
    (mSeq (mIfS (mNot (mTest (mCB (fIsi 0) (mCons (mVar 0) (mCons (mC (.ty "str")) mNil))))) (mRet (mC .non)) mNext)
    (mSeq (mAsg (mM1 opSplit (mVar 0) (mC (.str " "))) (mGName 2))
    (mSeq (mIfS (mOr (mTest (mSetNe 2)) (mNot (mTest (mCB fAll (mCons (mLc (mIList (mVar 2)) (mGName 3) mYes (mOp (opIn false) (mVar 3) (mVar 1)) [3]) mNil))))) (mRet (mC .non)) mNext)
    (mRet (mVar 2)))))
def m_words_of : MF := mRun 4 ms_words_of
theorem q_words_of (X : Cxt K a_WRITER_WORDS a_CLEANER_WORDS a_READER_WORDS a_is_writer a_is_cleaner a_is_reader) {xa : XT} {E : XK} : SimS K (Gam a_is_writer a_is_cleaner a_is_reader) xa (wOut E) (t_words_of K (wOut E)) ms_words_of := by
  unfold t_words_of ms_words_of
  exact (sim_seq (sim_ifS (sim_not (sim_B (sim_cb (cm_isi X.F.toClsF) (sim_pcons (SimE.p sim_var) (sim_pcons (SimE.p sim_ty) sim_pnil))))) (sim_ret sim_non) sim_next)
    (sim_seq (sim_asg (SimF.e (sim_m1F mf_split sim_var (SimE.p sim_str))) sim_gname)
    (sim_seq (sim_ifS (sim_or (sim_test sim_setNe) (sim_not (sim_B (sim_cb cm_all (sim_pcons (SimF.p (sim_lc (SimI.ev (sim_ilist sim_var)) sim_gname sim_yes (sim_op om_in (SimE.p sim_var) (SimE.p sim_var)))) sim_pnil))))) (sim_ret sim_non) sim_next)
    (sim_ret sim_var))))
def ms_all_there : MS :=
    (mRet (mCB fAll (mCons (mLc (mITup (mVar 1)) (mGName 2) mYes (mOp (opIn false) (mVar 2) (mVar 0)) [2]) mNil)))
def m_all_there : MF := mRun 3 ms_all_there
theorem q_all_there (X : Cxt K a_WRITER_WORDS a_CLEANER_WORDS a_READER_WORDS a_is_writer a_is_cleaner a_is_reader) {xa : XT} {E : XK} : SimS K (Gam a_is_writer a_is_cleaner a_is_reader) xa (wOut E) (t_all_there K (wOut E)) ms_all_there := by
  unfold t_all_there ms_all_there
  exact (sim_ret (sim_cb cm_all (sim_pcons (SimF.p (sim_lc (SimI.ev (sim_itup sim_var)) sim_gname sim_yes (sim_op om_in (SimE.p sim_var) (SimE.p sim_var)))) sim_pnil)))
def ms_is_ahead : MS :=
    (mRet (mOrV (mOp (opIn true) (mVar 1) (mVar 0)) (mOrV (mOp (opIn true) (mVar 2) (mVar 0)) (mOp opLess (mIndex (mVar 0) (mVar 1)) (mIndex (mVar 0) (mVar 2))))))
def m_is_ahead : MF := mRun 3 ms_is_ahead
theorem q_is_ahead (X : Cxt K a_WRITER_WORDS a_CLEANER_WORDS a_READER_WORDS a_is_writer a_is_cleaner a_is_reader) {xa : XT} {E : XK} : SimS K (Gam a_is_writer a_is_cleaner a_is_reader) xa (wOut E) (t_is_ahead K (wOut E)) ms_is_ahead := by
  unfold t_is_ahead ms_is_ahead
  exact (sim_ret (sim_orV (sim_op om_in (SimE.p sim_var) (SimE.p sim_var)) (sim_orV (sim_op om_in (SimE.p sim_var) (SimE.p sim_var)) (sim_op om_less (SimE.p (sim_index (SimE.p sim_var) sim_var)) (SimE.p (sim_index (SimE.p sim_var) sim_var))))))
def ms_is_locked_well : MS :=
    (mRet (mAndV (mOp (opEq false) (mOp (opIn false) (mC (.str "lock")) (mVar 0)) (mOp (opIn false) (mC (.str "unlock")) (mVar 0))) (mCall 3 m_is_ahead (mCons (mVar 0) (mCons (mC (.str "lock")) (mCons (mC (.str "unlock")) mNil))))))
def m_is_locked_well : MF := mRun 1 ms_is_locked_well
theorem q_is_locked_well (X : Cxt K a_WRITER_WORDS a_CLEANER_WORDS a_READER_WORDS a_is_writer a_is_cleaner a_is_reader) {xa : XT} {E : XK} : SimS K (Gam a_is_writer a_is_cleaner a_is_reader) xa (wOut E) (t_is_locked_well K (spM K (Gam a_is_writer a_is_cleaner a_is_reader) 3 m_is_ahead) (wOut E)) ms_is_locked_well := by
  unfold t_is_locked_well ms_is_locked_well
  exact (sim_ret (sim_andV (sim_op om_eq (SimE.p (sim_op om_in (SimE.p sim_str) (SimE.p sim_var))) (SimE.p (sim_op om_in (SimE.p sim_str) (SimE.p sim_var)))) (sim_call (sim_cons sim_var (sim_cons sim_str (sim_cons sim_str sim_nil))))))
def ms_is_writer : MS :=
    (mSeq (mAsg (mCall 2 m_words_of (mCons (mVar 0) (mCons (mC k_WRITER_WORDS) mNil))) (mGName 1))
    (mSeq (mIfS (mOr (mTest (mOp opIs (mVar 1) (mC .non))) (mNot (mTest (mCall 2 m_all_there (mCons (mVar 1) (mCons (mTup (mCons (mC (.str "change")) (mCons (mC (.str "enter")) (mCons (mC (.str "commit")) mNil)))) mNil)))))) (mRet (mC (.bl false))) mNext)
    (mRet (mAndV (mCall 3 m_is_ahead (mCons (mVar 1) (mCons (mC (.str "change")) (mCons (mC (.str "enter")) mNil)))) (mAndV (mCall 3 m_is_ahead (mCons (mVar 1) (mCons (mC (.str "change")) (mCons (mC (.str "commit")) mNil)))) (mCall 1 m_is_locked_well (mCons (mVar 1) mNil)))))))
def m_is_writer : MF := mRun 2 ms_is_writer
theorem q_is_writer (X : Cxt K a_WRITER_WORDS a_CLEANER_WORDS a_READER_WORDS a_is_writer a_is_cleaner a_is_reader) {xa : XT} {E : XK} : SimS K (Gam a_is_writer a_is_cleaner a_is_reader) xa (wOut E) (t_is_writer K a_WRITER_WORDS (spM K (Gam a_is_writer a_is_cleaner a_is_reader) 2 m_words_of) (spM K (Gam a_is_writer a_is_cleaner a_is_reader) 2 m_all_there) (spM K (Gam a_is_writer a_is_cleaner a_is_reader) 3 m_is_ahead) (spM K (Gam a_is_writer a_is_cleaner a_is_reader) 1 m_is_locked_well) (wOut E)) ms_is_writer := by
  unfold t_is_writer ms_is_writer
  exact (sim_seq (sim_asg (sim_call (sim_cons sim_var (sim_cons X.k_WRITER_WORDS sim_nil))) sim_gname)
    (sim_seq (sim_ifS (sim_or (sim_test (sim_op om_is (SimE.p sim_var) (SimE.p sim_non))) (sim_not (sim_B (sim_call (sim_cons sim_var (sim_cons (sim_tup (sim_cons sim_str (sim_cons sim_str (sim_cons sim_str sim_nil)))) sim_nil)))))) (sim_ret sim_bl) sim_next)
    (sim_ret (sim_andV (sim_call (sim_cons sim_var (sim_cons sim_str (sim_cons sim_str sim_nil)))) (sim_andV (sim_call (sim_cons sim_var (sim_cons sim_str (sim_cons sim_str sim_nil)))) (sim_call (sim_cons sim_var sim_nil)))))))
def ms_is_cleaner : MS :=
    (mSeq (mAsg (mCall 2 m_words_of (mCons (mVar 0) (mCons (mC k_CLEANER_WORDS) mNil))) (mGName 1))
    (mSeq (mIfS (mOr (mTest (mOp opIs (mVar 1) (mC .non))) (mOr (mNot (mTest (mCall 2 m_all_there (mCons (mVar 1) (mCons (mTup (mCons (mC (.str "look")) (mCons (mC (.str "set")) mNil))) mNil))))) (mNot (mTest (mCall 1 m_is_locked_well (mCons (mVar 1) mNil)))))) (mRet (mC (.bl false))) mNext)
    (mRet (mAndV (mCall 3 m_is_ahead (mCons (mVar 1) (mCons (mC (.str "look")) (mCons (mC (.str "set")) mNil)))) (mAndV (mCall 3 m_is_ahead (mCons (mVar 1) (mCons (mC (.str "remove")) (mCons (mC (.str "look")) mNil)))) (mCall 3 m_is_ahead (mCons (mVar 1) (mCons (mC (.str "set")) (mCons (mC (.str "again")) mNil)))))))))
def m_is_cleaner : MF := mRun 2 ms_is_cleaner
theorem q_is_cleaner (X : Cxt K a_WRITER_WORDS a_CLEANER_WORDS a_READER_WORDS a_is_writer a_is_cleaner a_is_reader) {xa : XT} {E : XK} : SimS K (Gam a_is_writer a_is_cleaner a_is_reader) xa (wOut E) (t_is_cleaner K a_CLEANER_WORDS (spM K (Gam a_is_writer a_is_cleaner a_is_reader) 2 m_words_of) (spM K (Gam a_is_writer a_is_cleaner a_is_reader) 2 m_all_there) (spM K (Gam a_is_writer a_is_cleaner a_is_reader) 3 m_is_ahead) (spM K (Gam a_is_writer a_is_cleaner a_is_reader) 1 m_is_locked_well) (wOut E)) ms_is_cleaner := by
  unfold t_is_cleaner ms_is_cleaner
  exact (sim_seq (sim_asg (sim_call (sim_cons sim_var (sim_cons X.k_CLEANER_WORDS sim_nil))) sim_gname)
    (sim_seq (sim_ifS (sim_or (sim_test (sim_op om_is (SimE.p sim_var) (SimE.p sim_non))) (sim_or (sim_not (sim_B (sim_call (sim_cons sim_var (sim_cons (sim_tup (sim_cons sim_str (sim_cons sim_str sim_nil))) sim_nil))))) (sim_not (sim_B (sim_call (sim_cons sim_var sim_nil)))))) (sim_ret sim_bl) sim_next)
    (sim_ret (sim_andV (sim_call (sim_cons sim_var (sim_cons sim_str (sim_cons sim_str sim_nil)))) (sim_andV (sim_call (sim_cons sim_var (sim_cons sim_str (sim_cons sim_str sim_nil)))) (sim_call (sim_cons sim_var (sim_cons sim_str (sim_cons sim_str sim_nil)))))))))
def ms_is_reader : MS :=
    (mSeq (mAsg (mCall 2 m_words_of (mCons (mVar 0) (mCons (mC k_READER_WORDS) mNil))) (mGName 1))
    (mSeq (mIfS (mOr (mTest (mOp opIs (mVar 1) (mC .non))) (mOr (mNot (mTest (mCall 2 m_all_there (mCons (mVar 1) (mCons (mTup (mCons (mC (.str "entry")) (mCons (mC (.str "mark")) (mCons (mC (.str "page")) mNil)))) mNil))))) (mTest (mOp (opEq true) (mOp opIx (mVar 1) (mUn unNeg (mC (.int 1)))) (mC (.str "page")))))) (mRet (mC (.bl false))) mNext)
    (mSeq (mIfS (mOr (mTest (mOp (opEq true) (mOp (opIn false) (mC (.str "take")) (mVar 1)) (mOp (opIn false) (mC (.str "tell")) (mVar 1)))) (mTest (mOp (opEq false) (mOp (opIn false) (mC (.str "hold")) (mVar 1)) (mOp (opIn false) (mC (.str "take")) (mVar 1))))) (mRet (mC (.bl false))) mNext)
    (mRet (mCall 3 m_is_ahead (mCons (mVar 1) (mCons (mC (.str "take")) (mCons (mC (.str "tell")) mNil))))))))
def m_is_reader : MF := mRun 2 ms_is_reader
theorem q_is_reader (X : Cxt K a_WRITER_WORDS a_CLEANER_WORDS a_READER_WORDS a_is_writer a_is_cleaner a_is_reader) {xa : XT} {E : XK} : SimS K (Gam a_is_writer a_is_cleaner a_is_reader) xa (wOut E) (t_is_reader K a_READER_WORDS (spM K (Gam a_is_writer a_is_cleaner a_is_reader) 2 m_words_of) (spM K (Gam a_is_writer a_is_cleaner a_is_reader) 2 m_all_there) (spM K (Gam a_is_writer a_is_cleaner a_is_reader) 3 m_is_ahead) (wOut E)) ms_is_reader := by
  unfold t_is_reader ms_is_reader
  exact (sim_seq (sim_asg (sim_call (sim_cons sim_var (sim_cons X.k_READER_WORDS sim_nil))) sim_gname)
    (sim_seq (sim_ifS (sim_or (sim_test (sim_op om_is (SimE.p sim_var) (SimE.p sim_non))) (sim_or (sim_not (sim_B (sim_call (sim_cons sim_var (sim_cons (sim_tup (sim_cons sim_str (sim_cons sim_str (sim_cons sim_str sim_nil)))) sim_nil))))) (sim_test (sim_op om_ne (SimE.p (sim_op om_ix (SimE.p sim_var) (SimE.p (sim_un um_neg (SimE.p sim_int))))) (SimE.p sim_str))))) (sim_ret sim_bl) sim_next)
    (sim_seq (sim_ifS (sim_or (sim_test (sim_op om_ne (SimE.p (sim_op om_in (SimE.p sim_str) (SimE.p sim_var))) (SimE.p (sim_op om_in (SimE.p sim_str) (SimE.p sim_var))))) (sim_test (sim_op om_eq (SimE.p (sim_op om_in (SimE.p sim_str) (SimE.p sim_var))) (SimE.p (sim_op om_in (SimE.p sim_str) (SimE.p sim_var)))))) (sim_ret sim_bl) sim_next)
    (sim_ret (sim_call (sim_cons sim_var (sim_cons sim_str (sim_cons sim_str sim_nil))))))))
def ms_mixed : MS :=
    (mSeq (mAsg (mLst (mCons (mCB fTuple (mCons (mVar 0) mNil)) mNil)) (mGName 2))
    (mSeq (mFor (mITup (mVar 1)) (mGName 3) (mAsg (mLc2 (mIList (mVar 2)) (mGName 4) mYes (mIRng1 (mCons (mOp opPlus (mCB fLen (mCons (mVar 4) mNil)) (mC (.int 1))) mNil)) (mGName 5) mYes (mTupS (mStar (mSl slT (mVar 4) mNoPart (mPart (mVar 5))) (mCons (mVar 3) (mStar (mSl slT (mVar 4) (mPart (mVar 5)) mNoPart) mNil)))) [4, 5] [5]) (mGName 2)))
    (mRet (mVar 2))))
def m_mixed : MF := mRun 6 ms_mixed
theorem q_mixed (X : Cxt K a_WRITER_WORDS a_CLEANER_WORDS a_READER_WORDS a_is_writer a_is_cleaner a_is_reader) {xa : XT} {E : XK} : SimS K (Gam a_is_writer a_is_cleaner a_is_reader) xa (wOut E) (t_mixed K (wOut E)) ms_mixed := by
  unfold t_mixed ms_mixed
  exact (sim_seq (sim_asg (SimF.e (sim_lst (sim_cons (sim_cb cm_tuple (sim_pcons (SimE.p sim_var) sim_pnil)) sim_nil))) sim_gname)
    (sim_seq (sim_for (sim_itup sim_var) sim_gname (sim_asg (SimF.e (sim_lc2 (SimI.ev (sim_ilist sim_var)) sim_gname sim_yes (sim_irng1 (sim_cons (sim_op om_plus (SimE.p (sim_cb cm_len (sim_pcons (SimE.p sim_var) sim_pnil))) (SimE.p sim_int)) sim_nil)) sim_gname sim_yes (sim_tupS (sim_star (sim_sl sm_tup (SimE.p sim_var) sim_nopart (sim_part sim_var)) (sim_scons sim_var (sim_star (sim_sl sm_tup (SimE.p sim_var) (sim_part sim_var) sim_nopart) sim_snil)))))) sim_gname))
    (sim_ret sim_var)))
def ms_listed : MS :=
    (mSeq (mAsgO (mLst mNil) 3)
    (mSeq (mFor (mILT (mVar 1)) (mGName 4) (mSeq (mAsg (mCall 2 m_mixed (mCons (mSl slT (mVar 0) mNoPart (mPart (mC (.int 1)))) (mCons (mTupS (mStar (mSl slT (mVar 0) (mPart (mC (.int 1))) mNoPart) (mStar (mVar 4) mNil))) mNil))) (mGName 5))
    (mExtend 3 (mLc (mIList (mLc (mIList (mVar 5)) (mGName 7) mYes (mM1 opJoin (mC (.str " ")) (mVar 7)) [7])) (mGName 6) (mTru (mCallV 2 1 [(0, m_is_writer), (1, m_is_cleaner), (2, m_is_reader)] (mCons (mVar 6) mNil))) (mVar 6) [6]))))
    (mRet (mCB fSortedT (mCons (mLc (mIList (mPeek 3)) (mGName 6) mYes (mCB fStrS (mCons (mVar 6) mNil)) [6]) mNil)))))
def m_listed : MF := mRun 8 ms_listed
theorem q_listed (X : Cxt K a_WRITER_WORDS a_CLEANER_WORDS a_READER_WORDS a_is_writer a_is_cleaner a_is_reader) {xa : XT} {E : XK} : SimS K (Gam a_is_writer a_is_cleaner a_is_reader) xa (wOut E) (t_listed K a_is_cleaner a_is_reader a_is_writer (spM K (Gam a_is_writer a_is_cleaner a_is_reader) 1 m_is_writer) (spM K (Gam a_is_writer a_is_cleaner a_is_reader) 1 m_is_cleaner) (spM K (Gam a_is_writer a_is_cleaner a_is_reader) 1 m_is_reader) (spM K (Gam a_is_writer a_is_cleaner a_is_reader) 2 m_mixed) (wOut E)) ms_listed := by
  unfold t_listed ms_listed
  exact (sim_seq (sim_asgO (sim_lst sim_nil))
    (sim_seq (sim_for (sim_ilt sim_var) sim_gname (sim_seq (sim_asg (sim_call (sim_cons (sim_sl sm_tup (SimE.p sim_var) sim_nopart (sim_part sim_int)) (sim_cons (sim_tupS (sim_star (sim_sl sm_tup (SimE.p sim_var) (sim_part sim_int) sim_nopart) (sim_star sim_var sim_snil))) sim_nil))) sim_gname)
    (sim_extend (sim_lc (SimI.ev (sim_ilist (SimF.e (sim_lc (SimI.ev (sim_ilist sim_var)) sim_gname sim_yes (sim_m1 mm_join sim_str (SimE.p sim_var)))))) sim_gname (sim_tru (SimE.p (sim_callV rfl (sim_cons sim_var sim_nil)))) sim_var))))
    (sim_ret (SimF.e (sim_cbF cf_sortedT (sim_pcons (SimF.p (sim_lc (sim_ilistP sim_peek) sim_gname sim_yes (sim_cb cm_strS (sim_pcons (SimE.p sim_var) sim_pnil)))) sim_pnil))))))
def ms_writer_orders : MGn :=
    (mGThen (mGPlain (mAsg (mTup (mCons (mTup mNil) (mCons (mTup (mCons (mC (.str "clear")) mNil)) (mCons (mTup (mCons (mC (.str "lock")) (mCons (mC (.str "unlock")) mNil))) (mCons (mTup (mCons (mC (.str "clear")) (mCons (mC (.str "lock")) (mCons (mC (.str "unlock")) mNil)))) mNil))))) (mGName 0)))
    (mGThen (mGFor (mIList (mCall 3 m_listed (mCons (mSl slT (mC k_WRITER_WORDS) mNoPart (mPart (mC (.int 3)))) (mCons (mVar 0) (mCons (mC (.cls 0)) mNil))))) (mGName 1) (mGThen (mGYield (mVar 1))
    mYNil))
    mYNil))
def m_writer_orders : MFY := mRunY 2 ms_writer_orders
theorem q_writer_orders (X : Cxt K a_WRITER_WORDS a_CLEANER_WORDS a_READER_WORDS a_is_writer a_is_cleaner a_is_reader) {xa : XT} : SimG K (Gam a_is_writer a_is_cleaner a_is_reader) xa (t_writer_orders K a_WRITER_WORDS a_is_writer (spM K (Gam a_is_writer a_is_cleaner a_is_reader) 3 m_listed)) ms_writer_orders := by
  unfold t_writer_orders ms_writer_orders
  exact (sim_gthen (sim_gplain (sim_asg (sim_tup (sim_cons (sim_tup sim_nil) (sim_cons (sim_tup (sim_cons sim_str sim_nil)) (sim_cons (sim_tup (sim_cons sim_str (sim_cons sim_str sim_nil))) (sim_cons (sim_tup (sim_cons sim_str (sim_cons sim_str (sim_cons sim_str sim_nil)))) sim_nil))))) sim_gname))
    (sim_gthen (sim_gfor (sim_ilist (sim_call (sim_cons (sim_sl sm_tup (SimE.p X.k_WRITER_WORDS) sim_nopart (sim_part sim_int)) (sim_cons sim_var (sim_cons (sim_cls rfl) sim_nil))))) sim_gname (sim_gthen (sim_gyield sim_var)
    sim_ynil))
    sim_ynil))
def ms_cleaner_orders : MGn :=
    (mGThen (mGPlain (mAsgO (mLst mNil) 0))
    (mGThen (mGPlain (mFor (mITup (mTup (mCons (mTup mNil) (mCons (mTup (mCons (mC (.str "remove")) mNil)) (mCons (mTup (mCons (mC (.str "again")) mNil)) (mCons (mTup (mCons (mC (.str "remove")) (mCons (mC (.str "again")) mNil))) mNil)))))) (mGName 1) (mExtend 0 (mLst (mCons (mVar 1) (mCons (mTupS (mStar (mVar 1) (mCons (mC (.str "lock")) (mCons (mC (.str "unlock")) mNil)))) mNil))))))
    (mGThen (mGFix 0 (mGFor (mIList (mCall 3 m_listed (mCons (mSl slT (mC k_CLEANER_WORDS) mNoPart (mPart (mC (.int 2)))) (mCons (mVar 0) (mCons (mC (.cls 1)) mNil))))) (mGName 2) (mGThen (mGYield (mVar 2))
    mYNil)))
    mYNil)))
def m_cleaner_orders : MFY := mRunY 3 ms_cleaner_orders
theorem q_cleaner_orders (X : Cxt K a_WRITER_WORDS a_CLEANER_WORDS a_READER_WORDS a_is_writer a_is_cleaner a_is_reader) {xa : XT} : SimG K (Gam a_is_writer a_is_cleaner a_is_reader) xa (t_cleaner_orders K a_CLEANER_WORDS a_is_cleaner (spM K (Gam a_is_writer a_is_cleaner a_is_reader) 3 m_listed)) ms_cleaner_orders := by
  unfold t_cleaner_orders ms_cleaner_orders
  exact (sim_gthen (sim_gplain (sim_asgO (sim_lst sim_nil)))
    (sim_gthen (sim_gplain (sim_for (sim_itup (sim_tup (sim_cons (sim_tup sim_nil) (sim_cons (sim_tup (sim_cons sim_str sim_nil)) (sim_cons (sim_tup (sim_cons sim_str sim_nil)) (sim_cons (sim_tup (sim_cons sim_str (sim_cons sim_str sim_nil))) sim_nil)))))) sim_gname (sim_extend (sim_lst (sim_cons sim_var (sim_cons (sim_tupS (sim_star sim_var (sim_scons sim_str (sim_scons sim_str sim_snil)))) sim_nil))))))
    (sim_gthen (sim_gfix (i := 0) (sim_gfor (sim_ilist (sim_call (sim_cons (sim_sl sm_tup (SimE.p X.k_CLEANER_WORDS) sim_nopart (sim_part sim_int)) (sim_cons sim_var (sim_cons (sim_cls rfl) sim_nil))))) sim_gname (sim_gthen (sim_gyield sim_var)
    sim_ynil)))
    sim_ynil)))
def ms_reader_orders : MGn :=
    (mGThen (mGFor (mIList (mCall 3 m_listed (mCons (mSl slT (mC k_READER_WORDS) mNoPart (mPart (mC (.int 3)))) (mCons (mTup (mCons (mTup (mCons (mC (.str "hold")) mNil)) (mCons (mTup (mCons (mC (.str "take")) (mCons (mC (.str "tell")) mNil))) mNil))) (mCons (mC (.cls 2)) mNil))))) (mGName 0) (mGThen (mGYield (mVar 0))
    mYNil))
    mYNil)
def m_reader_orders : MFY := mRunY 1 ms_reader_orders
theorem q_reader_orders (X : Cxt K a_WRITER_WORDS a_CLEANER_WORDS a_READER_WORDS a_is_writer a_is_cleaner a_is_reader) {xa : XT} : SimG K (Gam a_is_writer a_is_cleaner a_is_reader) xa (t_reader_orders K a_READER_WORDS a_is_reader (spM K (Gam a_is_writer a_is_cleaner a_is_reader) 3 m_listed)) ms_reader_orders := by
  unfold t_reader_orders ms_reader_orders
  exact (sim_gthen (sim_gfor (sim_ilist (sim_call (sim_cons (sim_sl sm_tup (SimE.p X.k_READER_WORDS) sim_nopart (sim_part sim_int)) (sim_cons (sim_tup (sim_cons (sim_tup (sim_cons sim_str sim_nil)) (sim_cons (sim_tup (sim_cons sim_str (sim_cons sim_str sim_nil))) sim_nil))) (sim_cons (sim_cls rfl) sim_nil))))) sim_gname (sim_gthen (sim_gyield sim_var)
    sim_ynil))
    sim_ynil)
def ms__law_pot : MS :=
    (mRet (mCell (mLst (mCons (mCell (mLc (mIList (mSl slL (mVar 0) mNoPart (mPart (mC (.int 63))))) (mGName 1) mYes (mCB fInt (mCons (mVar 1) mNil)) [1])) (mCons (mC (.int 0)) (mCons (mC (.int 7)) mNil))))))
def m__law_pot : MF := mRun 2 ms__law_pot
theorem q__law_pot (X : Cxt K a_WRITER_WORDS a_CLEANER_WORDS a_READER_WORDS a_is_writer a_is_cleaner a_is_reader) {xa : XT} {E : XK} : SimS K (Gam a_is_writer a_is_cleaner a_is_reader) xa (wOut E) (t__law_pot K (wOut E)) ms__law_pot := by
  unfold t__law_pot ms__law_pot
  exact (sim_ret (sim_cell (sim_lst (sim_cons (sim_cell (sim_lc (SimI.ev (sim_ilist (SimF.e (sim_slF sf_list (SimE.p sim_var) sim_nopart (sim_part sim_int))))) sim_gname sim_yes (sim_cb cm_int (sim_pcons (SimE.p sim_var) sim_pnil)))) (sim_cons sim_int (sim_cons sim_int sim_nil))))))
def ms__law_draw : MS :=
    (mSeq (mAsg (mOp opIx (mVar 0) (mC (.int 0))) (mGName 2))
    (mSeq (mAsg (mOp opIx (mVar 0) (mC (.int 1))) (mGName 3))
    (mSeq (mAsg (mC (.int 0)) (mGName 4))
    (mSeq (mIfS (mTest (mOp opLess (mVar 3) (mCB fLen (mCons (mVar 2) mNil)))) (mSeq (mAsg (mOp opIx (mVar 2) (mVar 3)) (mGName 4))
    (mSeq (mIfS (mTest (mOp opGeq (mVar 4) (mOp opPow (mC (.int 10)) (mC (.int 18))))) (mSeq (mSetC (mOp opQuot (mVar 4) (mVar 1)) (mVar 2) (mVar 3))
    (mRet (mOp opRest (mCB fInt (mCons (mVar 4) mNil)) (mVar 1)))) mNext)
    (mSetC (mOp opPlus (mVar 3) (mC (.int 1))) (mVar 0) (mC (.int 1))))) mNext)
    (mSeq (mSetC (mOp opRest (mCB fInt (mCons (mOp opPlus (mOp opPlus (mOp opTimes (mOp opIx (mVar 0) (mC (.int 2))) (mC (.int 48271))) (mOp opTimes (mVar 4) (mC (.int 69621)))) (mC (.int 11))) mNil)) (mC (.int 2147483647))) (mVar 0) (mC (.int 2)))
    (mRet (mOp opRest (mCB fInt (mCons (mOp opPlus (mOp opQuot (mOp opTimes (mOp opIx (mVar 0) (mC (.int 2))) (mC (.int 16807))) (mC (.int 128))) (mOp opIx (mVar 0) (mC (.int 2)))) mNil)) (mVar 1))))))))
def m__law_draw : MF := mRun 5 ms__law_draw
theorem q__law_draw (X : Cxt K a_WRITER_WORDS a_CLEANER_WORDS a_READER_WORDS a_is_writer a_is_cleaner a_is_reader) {xa : XT} {E : XK} : SimS K (Gam a_is_writer a_is_cleaner a_is_reader) xa (wOut E) (t__law_draw K (wOut E)) ms__law_draw := by
  unfold t__law_draw ms__law_draw
  exact (sim_seq (sim_asg (sim_op om_ix (SimE.p sim_var) (SimE.p sim_int)) sim_gname)
    (sim_seq (sim_asg (sim_op om_ix (SimE.p sim_var) (SimE.p sim_int)) sim_gname)
    (sim_seq (sim_asg sim_int sim_gname)
    (sim_seq (sim_ifS (sim_test (sim_op om_less (SimE.p sim_var) (SimE.p (sim_cb cm_len (sim_pcons (SimE.p sim_var) sim_pnil))))) (sim_seq (sim_asg (sim_op om_ix (SimE.p sim_var) (SimE.p sim_var)) sim_gname)
    (sim_seq (sim_ifS (sim_test (sim_op om_geq (SimE.p sim_var) (SimE.p (sim_op om_pow (SimE.p sim_int) (SimE.p sim_int))))) (sim_seq (sim_setC (sim_op om_quot (SimE.p sim_var) (SimE.p sim_var)) sim_var sim_var)
    (sim_ret (sim_op om_rest (SimE.p (sim_cb cm_int (sim_pcons (SimE.p sim_var) sim_pnil))) (SimE.p sim_var)))) sim_next)
    (sim_setC (sim_op om_plus (SimE.p sim_var) (SimE.p sim_int)) sim_var sim_int))) sim_next)
    (sim_seq (sim_setC (sim_op om_rest (SimE.p (sim_cb cm_int (sim_pcons (SimE.p (sim_op om_plus (SimE.p (sim_op om_plus (SimE.p (sim_op om_times (SimE.p (sim_op om_ix (SimE.p sim_var) (SimE.p sim_int))) (SimE.p sim_int))) (SimE.p (sim_op om_times (SimE.p sim_var) (SimE.p sim_int))))) (SimE.p sim_int))) sim_pnil))) (SimE.p sim_int)) sim_var sim_int)
    (sim_ret (sim_op om_rest (SimE.p (sim_cb cm_int (sim_pcons (SimE.p (sim_op om_plus (SimE.p (sim_op om_quot (SimE.p (sim_op om_times (SimE.p (sim_op om_ix (SimE.p sim_var) (SimE.p sim_int))) (SimE.p sim_int))) (SimE.p sim_int))) (SimE.p (sim_op om_ix (SimE.p sim_var) (SimE.p sim_int))))) sim_pnil))) (SimE.p sim_var))))))))
def ms__law_put_in : MS :=
    (mSeq (mAsg (mOp opPlus (mVar 3) (mCall 2 m__law_draw (mCons (mVar 0) (mCons (mOp opMinus (mOp opPlus (mCB fLen (mCons (mVar 1) mNil)) (mC (.int 1))) (mVar 3)) mNil)))) (mGName 4))
    (mRet (mOp opPlus (mOp opPlus (mSl slL (mVar 1) mNoPart (mPart (mVar 4))) (mLst (mCons (mVar 2) mNil))) (mSl slL (mVar 1) (mPart (mVar 4)) mNoPart))))
def m__law_put_in : MF := mRun 5 ms__law_put_in
theorem q__law_put_in (X : Cxt K a_WRITER_WORDS a_CLEANER_WORDS a_READER_WORDS a_is_writer a_is_cleaner a_is_reader) {xa : XT} {E : XK} : SimS K (Gam a_is_writer a_is_cleaner a_is_reader) xa (wOut E) (t__law_put_in K (spM K (Gam a_is_writer a_is_cleaner a_is_reader) 2 m__law_draw) (wOut E)) ms__law_put_in := by
  unfold t__law_put_in ms__law_put_in
  exact (sim_seq (sim_asg (sim_op om_plus (SimE.p sim_var) (SimE.p (sim_call (sim_cons sim_var (sim_cons (sim_op om_minus (SimE.p (sim_op om_plus (SimE.p (sim_cb cm_len (sim_pcons (SimE.p sim_var) sim_pnil))) (SimE.p sim_int))) (SimE.p sim_var)) sim_nil))))) sim_gname)
    (sim_ret (sim_op om_plus (SimE.p (sim_op om_plus (SimF.p (sim_slF sf_list (SimE.p sim_var) sim_nopart (sim_part sim_var))) (SimF.p (sim_lst (sim_cons sim_var sim_nil))))) (SimF.p (sim_slF sf_list (SimE.p sim_var) (sim_part sim_var) sim_nopart)))))
def ms__law_locked : MS :=
    (mSeq (mIfS (mTest (mOp (opEq false) (mCall 2 m__law_draw (mCons (mVar 0) (mCons (mC (.int 4)) mNil))) (mC (.int 0)))) (mRet (mVar 1)) mNext)
    (mSeq (mAsg (mCall 4 m__law_put_in (mCons (mVar 0) (mCons (mVar 1) (mCons (mC (.str "unlock")) (mCons (mC (.int 0)) mNil))))) (mGName 1))
    (mSeq (mAsg (mCall 2 m__law_draw (mCons (mVar 0) (mCons (mOp opPlus (mIndex (mVar 1) (mC (.str "unlock"))) (mC (.int 1))) mNil))) (mGName 2))
    (mRet (mOp opPlus (mOp opPlus (mSl slL (mVar 1) mNoPart (mPart (mVar 2))) (mLst (mCons (mC (.str "lock")) mNil))) (mSl slL (mVar 1) (mPart (mVar 2)) mNoPart))))))
def m__law_locked : MF := mRun 3 ms__law_locked
theorem q__law_locked (X : Cxt K a_WRITER_WORDS a_CLEANER_WORDS a_READER_WORDS a_is_writer a_is_cleaner a_is_reader) {xa : XT} {E : XK} : SimS K (Gam a_is_writer a_is_cleaner a_is_reader) xa (wOut E) (t__law_locked K (spM K (Gam a_is_writer a_is_cleaner a_is_reader) 2 m__law_draw) (spM K (Gam a_is_writer a_is_cleaner a_is_reader) 4 m__law_put_in) (wOut E)) ms__law_locked := by
  unfold t__law_locked ms__law_locked
  exact (sim_seq (sim_ifS (sim_test (sim_op om_eq (SimE.p (sim_call (sim_cons sim_var (sim_cons sim_int sim_nil)))) (SimE.p sim_int))) (sim_ret sim_var) sim_next)
    (sim_seq (sim_asg (sim_call (sim_cons sim_var (sim_cons sim_var (sim_cons sim_str (sim_cons sim_int sim_nil))))) sim_gname)
    (sim_seq (sim_asg (sim_call (sim_cons sim_var (sim_cons (sim_op om_plus (SimE.p (sim_index (SimE.p sim_var) sim_str)) (SimE.p sim_int)) sim_nil))) sim_gname)
    (sim_ret (sim_op om_plus (SimE.p (sim_op om_plus (SimF.p (sim_slF sf_list (SimE.p sim_var) sim_nopart (sim_part sim_var))) (SimF.p (sim_lst (sim_cons sim_str sim_nil))))) (SimF.p (sim_slF sf_list (SimE.p sim_var) (sim_part sim_var) sim_nopart)))))))
def ms__law_writer_words : MS :=
    (mSeq (mAsg (mCall 4 m__law_put_in (mCons (mVar 0) (mCons (mLst (mCons (mC (.str "change")) mNil)) (mCons (mC (.str "enter")) (mCons (mC (.int 1)) mNil))))) (mGName 1))
    (mSeq (mAsg (mCall 4 m__law_put_in (mCons (mVar 0) (mCons (mVar 1) (mCons (mC (.str "commit")) (mCons (mC (.int 1)) mNil))))) (mGName 1))
    (mSeq (mIfS (mTest (mOp opMore (mCall 2 m__law_draw (mCons (mVar 0) (mCons (mC (.int 4)) mNil))) (mC (.int 0)))) (mAsg (mCall 4 m__law_put_in (mCons (mVar 0) (mCons (mVar 1) (mCons (mC (.str "clear")) (mCons (mC (.int 0)) mNil))))) (mGName 1)) mNext)
    (mRet (mCall 2 m__law_locked (mCons (mVar 0) (mCons (mVar 1) mNil)))))))
def m__law_writer_words : MF := mRun 2 ms__law_writer_words
theorem q__law_writer_words (X : Cxt K a_WRITER_WORDS a_CLEANER_WORDS a_READER_WORDS a_is_writer a_is_cleaner a_is_reader) {xa : XT} {E : XK} : SimS K (Gam a_is_writer a_is_cleaner a_is_reader) xa (wOut E) (t__law_writer_words K (spM K (Gam a_is_writer a_is_cleaner a_is_reader) 2 m__law_draw) (spM K (Gam a_is_writer a_is_cleaner a_is_reader) 4 m__law_put_in) (spM K (Gam a_is_writer a_is_cleaner a_is_reader) 2 m__law_locked) (wOut E)) ms__law_writer_words := by
  unfold t__law_writer_words ms__law_writer_words
  exact (sim_seq (sim_asg (sim_call (sim_cons sim_var (sim_cons (SimF.e (sim_lst (sim_cons sim_str sim_nil))) (sim_cons sim_str (sim_cons sim_int sim_nil))))) sim_gname)
    (sim_seq (sim_asg (sim_call (sim_cons sim_var (sim_cons sim_var (sim_cons sim_str (sim_cons sim_int sim_nil))))) sim_gname)
    (sim_seq (sim_ifS (sim_test (sim_op om_more (SimE.p (sim_call (sim_cons sim_var (sim_cons sim_int sim_nil)))) (SimE.p sim_int))) (sim_asg (sim_call (sim_cons sim_var (sim_cons sim_var (sim_cons sim_str (sim_cons sim_int sim_nil))))) sim_gname) sim_next)
    (sim_ret (sim_call (sim_cons sim_var (sim_cons sim_var sim_nil)))))))
def ms__law_cleaner_words : MS :=
    (mSeq (mAsg (mLst (mCons (mC (.str "look")) (mCons (mC (.str "set")) mNil))) (mGName 1))
    (mSeq (mIfS (mTest (mOp (opEq false) (mCall 2 m__law_draw (mCons (mVar 0) (mCons (mC (.int 2)) mNil))) (mC (.int 1)))) (mAsg (mOp opPlus (mLst (mCons (mC (.str "remove")) mNil)) (mVar 1)) (mGName 1)) mNext)
    (mSeq (mIfS (mTest (mOp (opEq false) (mCall 2 m__law_draw (mCons (mVar 0) (mCons (mC (.int 3)) mNil))) (mC (.int 0)))) (mAsg (mOp opPlus (mVar 1) (mLst (mCons (mC (.str "again")) mNil))) (mGName 1)) mNext)
    (mRet (mCall 2 m__law_locked (mCons (mVar 0) (mCons (mVar 1) mNil)))))))
def m__law_cleaner_words : MF := mRun 2 ms__law_cleaner_words
theorem q__law_cleaner_words (X : Cxt K a_WRITER_WORDS a_CLEANER_WORDS a_READER_WORDS a_is_writer a_is_cleaner a_is_reader) {xa : XT} {E : XK} : SimS K (Gam a_is_writer a_is_cleaner a_is_reader) xa (wOut E) (t__law_cleaner_words K (spM K (Gam a_is_writer a_is_cleaner a_is_reader) 2 m__law_draw) (spM K (Gam a_is_writer a_is_cleaner a_is_reader) 2 m__law_locked) (wOut E)) ms__law_cleaner_words := by
  unfold t__law_cleaner_words ms__law_cleaner_words
  exact (sim_seq (sim_asg (SimF.e (sim_lst (sim_cons sim_str (sim_cons sim_str sim_nil)))) sim_gname)
    (sim_seq (sim_ifS (sim_test (sim_op om_eq (SimE.p (sim_call (sim_cons sim_var (sim_cons sim_int sim_nil)))) (SimE.p sim_int))) (sim_asg (sim_op om_plus (SimF.p (sim_lst (sim_cons sim_str sim_nil))) (SimE.p sim_var)) sim_gname) sim_next)
    (sim_seq (sim_ifS (sim_test (sim_op om_eq (SimE.p (sim_call (sim_cons sim_var (sim_cons sim_int sim_nil)))) (SimE.p sim_int))) (sim_asg (sim_op om_plus (SimE.p sim_var) (SimF.p (sim_lst (sim_cons sim_str sim_nil)))) sim_gname) sim_next)
    (sim_ret (sim_call (sim_cons sim_var (sim_cons sim_var sim_nil)))))))
def ms__law_reader_words : MS :=
    (mSeq (mAsg (mCall 4 m__law_put_in (mCons (mVar 0) (mCons (mLst (mCons (mC (.str "entry")) mNil)) (mCons (mC (.str "mark")) (mCons (mC (.int 0)) mNil))))) (mGName 1))
    (mSeq (mIfS (mTest (mOp opMore (mCall 2 m__law_draw (mCons (mVar 0) (mCons (mC (.int 3)) mNil))) (mC (.int 0)))) (mRet (mOp opPlus (mCall 4 m__law_put_in (mCons (mVar 0) (mCons (mVar 1) (mCons (mC (.str "hold")) (mCons (mC (.int 0)) mNil))))) (mLst (mCons (mC (.str "page")) mNil)))) mNext)
    (mSeq (mAsg (mCall 4 m__law_put_in (mCons (mVar 0) (mCons (mVar 1) (mCons (mC (.str "take")) (mCons (mC (.int 0)) mNil))))) (mGName 1))
    (mRet (mOp opPlus (mCall 4 m__law_put_in (mCons (mVar 0) (mCons (mVar 1) (mCons (mC (.str "tell")) (mCons (mOp opPlus (mIndex (mVar 1) (mC (.str "take"))) (mC (.int 1))) mNil))))) (mLst (mCons (mC (.str "page")) mNil)))))))
def m__law_reader_words : MF := mRun 2 ms__law_reader_words
theorem q__law_reader_words (X : Cxt K a_WRITER_WORDS a_CLEANER_WORDS a_READER_WORDS a_is_writer a_is_cleaner a_is_reader) {xa : XT} {E : XK} : SimS K (Gam a_is_writer a_is_cleaner a_is_reader) xa (wOut E) (t__law_reader_words K (spM K (Gam a_is_writer a_is_cleaner a_is_reader) 2 m__law_draw) (spM K (Gam a_is_writer a_is_cleaner a_is_reader) 4 m__law_put_in) (wOut E)) ms__law_reader_words := by
  unfold t__law_reader_words ms__law_reader_words
  exact (sim_seq (sim_asg (sim_call (sim_cons sim_var (sim_cons (SimF.e (sim_lst (sim_cons sim_str sim_nil))) (sim_cons sim_str (sim_cons sim_int sim_nil))))) sim_gname)
    (sim_seq (sim_ifS (sim_test (sim_op om_more (SimE.p (sim_call (sim_cons sim_var (sim_cons sim_int sim_nil)))) (SimE.p sim_int))) (sim_ret (sim_op om_plus (SimE.p (sim_call (sim_cons sim_var (sim_cons sim_var (sim_cons sim_str (sim_cons sim_int sim_nil)))))) (SimF.p (sim_lst (sim_cons sim_str sim_nil))))) sim_next)
    (sim_seq (sim_asg (sim_call (sim_cons sim_var (sim_cons sim_var (sim_cons sim_str (sim_cons sim_int sim_nil))))) sim_gname)
    (sim_ret (sim_op om_plus (SimE.p (sim_call (sim_cons sim_var (sim_cons sim_var (sim_cons sim_str (sim_cons (sim_op om_plus (SimE.p (sim_index (SimE.p sim_var) sim_str)) (SimE.p sim_int)) sim_nil)))))) (SimF.p (sim_lst (sim_cons sim_str sim_nil))))))))
def ms__law_ahead : MS :=
    (mRet (mOrV (mOp (opIn true) (mVar 1) (mVar 0)) (mOrV (mOp (opIn true) (mVar 2) (mVar 0)) (mOp opLess (mIndex (mVar 0) (mVar 1)) (mIndex (mVar 0) (mVar 2))))))
def m__law_ahead : MF := mRun 3 ms__law_ahead
theorem q__law_ahead (X : Cxt K a_WRITER_WORDS a_CLEANER_WORDS a_READER_WORDS a_is_writer a_is_cleaner a_is_reader) {xa : XT} {E : XK} : SimS K (Gam a_is_writer a_is_cleaner a_is_reader) xa (wOut E) (t__law_ahead K (wOut E)) ms__law_ahead := by
  unfold t__law_ahead ms__law_ahead
  exact (sim_ret (sim_orV (sim_op om_in (SimE.p sim_var) (SimE.p sim_var)) (sim_orV (sim_op om_in (SimE.p sim_var) (SimE.p sim_var)) (sim_op om_less (SimE.p (sim_index (SimE.p sim_var) sim_var)) (SimE.p (sim_index (SimE.p sim_var) sim_var))))))
def ms__law_fits : MS :=
    (mSeq (mAsg (mM1 opSplit (mVar 0) (mC (.str " "))) (mGName 3))
    (mSeq (mFor (mIList (mVar 3)) (mGName 4) (mIfS (mOr (mTest (mOp (opIn true) (mVar 4) (mOp opPlus (mVar 1) (mVar 2)))) (mTest (mOp (opEq true) (mCB fLen (mCons (mLc (mIList (mVar 3)) (mGName 5) (mTest (mOp (opEq false) (mVar 5) (mVar 4))) (mVar 5) [5]) mNil)) (mC (.int 1))))) (mRet (mC (.bl false))) mNext))
    (mSeq (mIfS (mTest (mOp (opEq true) (mLc (mIList (mVar 1)) (mGName 4) (mTest (mOp (opIn true) (mVar 4) (mVar 3))) (mVar 4) [4]) (mLst mNil))) (mRet (mC (.bl false))) mNext)
    (mRet (mAndV (mOp (opEq false) (mOp (opIn false) (mC (.str "lock")) (mVar 3)) (mOp (opIn false) (mC (.str "unlock")) (mVar 3))) (mCall 3 m__law_ahead (mCons (mVar 3) (mCons (mC (.str "lock")) (mCons (mC (.str "unlock")) mNil)))))))))
def m__law_fits : MF := mRun 6 ms__law_fits
theorem q__law_fits (X : Cxt K a_WRITER_WORDS a_CLEANER_WORDS a_READER_WORDS a_is_writer a_is_cleaner a_is_reader) {xa : XT} {E : XK} : SimS K (Gam a_is_writer a_is_cleaner a_is_reader) xa (wOut E) (t__law_fits K (spM K (Gam a_is_writer a_is_cleaner a_is_reader) 3 m__law_ahead) (wOut E)) ms__law_fits := by
  unfold t__law_fits ms__law_fits
  exact (sim_seq (sim_asg (SimF.e (sim_m1F mf_split sim_var (SimE.p sim_str))) sim_gname)
    (sim_seq (sim_for (sim_ilist sim_var) sim_gname (sim_ifS (sim_or (sim_test (sim_op om_in (SimE.p sim_var) (SimE.p (sim_op om_plus (SimE.p sim_var) (SimE.p sim_var))))) (sim_test (sim_op om_ne (SimE.p (sim_cb cm_len (sim_pcons (SimF.p (sim_lc (SimI.ev (sim_ilist sim_var)) sim_gname (sim_test (sim_op om_eq (SimE.p sim_var) (SimE.p sim_var))) sim_var)) sim_pnil))) (SimE.p sim_int)))) (sim_ret sim_bl) sim_next))
    (sim_seq (sim_ifS (sim_test (sim_op om_ne (SimF.p (sim_lc (SimI.ev (sim_ilist sim_var)) sim_gname (sim_test (sim_op om_in (SimE.p sim_var) (SimE.p sim_var))) sim_var)) (SimF.p (sim_lst sim_nil)))) (sim_ret sim_bl) sim_next)
    (sim_ret (sim_andV (sim_op om_eq (SimE.p (sim_op om_in (SimE.p sim_str) (SimE.p sim_var))) (SimE.p (sim_op om_in (SimE.p sim_str) (SimE.p sim_var)))) (sim_call (sim_cons sim_var (sim_cons sim_str (sim_cons sim_str sim_nil)))))))))
def ms__law_is_writer : MS :=
    (mSeq (mIfS (mNot (mTest (mCall 3 m__law_fits (mCons (mVar 0) (mCons (mLst (mCons (mC (.str "change")) (mCons (mC (.str "enter")) (mCons (mC (.str "commit")) mNil)))) (mCons (mLst (mCons (mC (.str "clear")) (mCons (mC (.str "lock")) (mCons (mC (.str "unlock")) mNil)))) mNil)))))) (mRet (mC (.bl false))) mNext)
    (mSeq (mAsg (mM1 opSplit (mVar 0) (mC (.str " "))) (mGName 1))
    (mRet (mAndV (mCall 3 m__law_ahead (mCons (mVar 1) (mCons (mC (.str "change")) (mCons (mC (.str "enter")) mNil)))) (mCall 3 m__law_ahead (mCons (mVar 1) (mCons (mC (.str "change")) (mCons (mC (.str "commit")) mNil))))))))
def m__law_is_writer : MF := mRun 2 ms__law_is_writer
theorem q__law_is_writer (X : Cxt K a_WRITER_WORDS a_CLEANER_WORDS a_READER_WORDS a_is_writer a_is_cleaner a_is_reader) {xa : XT} {E : XK} : SimS K (Gam a_is_writer a_is_cleaner a_is_reader) xa (wOut E) (t__law_is_writer K (spM K (Gam a_is_writer a_is_cleaner a_is_reader) 3 m__law_ahead) (spM K (Gam a_is_writer a_is_cleaner a_is_reader) 3 m__law_fits) (wOut E)) ms__law_is_writer := by
  unfold t__law_is_writer ms__law_is_writer
  exact (sim_seq (sim_ifS (sim_not (sim_B (sim_call (sim_cons sim_var (sim_cons (SimF.e (sim_lst (sim_cons sim_str (sim_cons sim_str (sim_cons sim_str sim_nil))))) (sim_cons (SimF.e (sim_lst (sim_cons sim_str (sim_cons sim_str (sim_cons sim_str sim_nil))))) sim_nil)))))) (sim_ret sim_bl) sim_next)
    (sim_seq (sim_asg (SimF.e (sim_m1F mf_split sim_var (SimE.p sim_str))) sim_gname)
    (sim_ret (sim_andV (sim_call (sim_cons sim_var (sim_cons sim_str (sim_cons sim_str sim_nil)))) (sim_call (sim_cons sim_var (sim_cons sim_str (sim_cons sim_str sim_nil))))))))
def ms__law_is_cleaner : MS :=
    (mSeq (mIfS (mNot (mTest (mCall 3 m__law_fits (mCons (mVar 0) (mCons (mLst (mCons (mC (.str "look")) (mCons (mC (.str "set")) mNil))) (mCons (mLst (mCons (mC (.str "remove")) (mCons (mC (.str "again")) (mCons (mC (.str "lock")) (mCons (mC (.str "unlock")) mNil))))) mNil)))))) (mRet (mC (.bl false))) mNext)
    (mSeq (mAsg (mM1 opSplit (mVar 0) (mC (.str " "))) (mGName 1))
    (mSeq (mIfS (mOr (mNot (mTest (mCall 3 m__law_ahead (mCons (mVar 1) (mCons (mC (.str "look")) (mCons (mC (.str "set")) mNil)))))) (mNot (mTest (mCall 3 m__law_ahead (mCons (mVar 1) (mCons (mC (.str "remove")) (mCons (mC (.str "look")) mNil))))))) (mRet (mC (.bl false))) mNext)
    (mRet (mCall 3 m__law_ahead (mCons (mVar 1) (mCons (mC (.str "set")) (mCons (mC (.str "again")) mNil))))))))
def m__law_is_cleaner : MF := mRun 2 ms__law_is_cleaner
theorem q__law_is_cleaner (X : Cxt K a_WRITER_WORDS a_CLEANER_WORDS a_READER_WORDS a_is_writer a_is_cleaner a_is_reader) {xa : XT} {E : XK} : SimS K (Gam a_is_writer a_is_cleaner a_is_reader) xa (wOut E) (t__law_is_cleaner K (spM K (Gam a_is_writer a_is_cleaner a_is_reader) 3 m__law_ahead) (spM K (Gam a_is_writer a_is_cleaner a_is_reader) 3 m__law_fits) (wOut E)) ms__law_is_cleaner := by
  unfold t__law_is_cleaner ms__law_is_cleaner
  exact (sim_seq (sim_ifS (sim_not (sim_B (sim_call (sim_cons sim_var (sim_cons (SimF.e (sim_lst (sim_cons sim_str (sim_cons sim_str sim_nil)))) (sim_cons (SimF.e (sim_lst (sim_cons sim_str (sim_cons sim_str (sim_cons sim_str (sim_cons sim_str sim_nil)))))) sim_nil)))))) (sim_ret sim_bl) sim_next)
    (sim_seq (sim_asg (SimF.e (sim_m1F mf_split sim_var (SimE.p sim_str))) sim_gname)
    (sim_seq (sim_ifS (sim_or (sim_not (sim_B (sim_call (sim_cons sim_var (sim_cons sim_str (sim_cons sim_str sim_nil)))))) (sim_not (sim_B (sim_call (sim_cons sim_var (sim_cons sim_str (sim_cons sim_str sim_nil))))))) (sim_ret sim_bl) sim_next)
    (sim_ret (sim_call (sim_cons sim_var (sim_cons sim_str (sim_cons sim_str sim_nil))))))))
def ms__law_is_reader : MS :=
    (mSeq (mIfS (mNot (mTest (mCall 3 m__law_fits (mCons (mVar 0) (mCons (mLst (mCons (mC (.str "entry")) (mCons (mC (.str "mark")) (mCons (mC (.str "page")) mNil)))) (mCons (mLst (mCons (mC (.str "hold")) (mCons (mC (.str "take")) (mCons (mC (.str "tell")) mNil)))) mNil)))))) (mRet (mC (.bl false))) mNext)
    (mSeq (mAsg (mM1 opSplit (mVar 0) (mC (.str " "))) (mGName 1))
    (mSeq (mIfS (mOr (mTest (mOp (opEq false) (mOp (opIn false) (mC (.str "hold")) (mVar 1)) (mOp (opIn false) (mC (.str "take")) (mVar 1)))) (mTest (mOp (opEq true) (mOp (opIn false) (mC (.str "take")) (mVar 1)) (mOp (opIn false) (mC (.str "tell")) (mVar 1))))) (mRet (mC (.bl false))) mNext)
    (mRet (mAndV (mOp (opEq false) (mOp opIx (mVar 1) (mUn unNeg (mC (.int 1)))) (mC (.str "page"))) (mCall 3 m__law_ahead (mCons (mVar 1) (mCons (mC (.str "take")) (mCons (mC (.str "tell")) mNil)))))))))
def m__law_is_reader : MF := mRun 2 ms__law_is_reader
theorem q__law_is_reader (X : Cxt K a_WRITER_WORDS a_CLEANER_WORDS a_READER_WORDS a_is_writer a_is_cleaner a_is_reader) {xa : XT} {E : XK} : SimS K (Gam a_is_writer a_is_cleaner a_is_reader) xa (wOut E) (t__law_is_reader K (spM K (Gam a_is_writer a_is_cleaner a_is_reader) 3 m__law_ahead) (spM K (Gam a_is_writer a_is_cleaner a_is_reader) 3 m__law_fits) (wOut E)) ms__law_is_reader := by
  unfold t__law_is_reader ms__law_is_reader
  exact (sim_seq (sim_ifS (sim_not (sim_B (sim_call (sim_cons sim_var (sim_cons (SimF.e (sim_lst (sim_cons sim_str (sim_cons sim_str (sim_cons sim_str sim_nil))))) (sim_cons (SimF.e (sim_lst (sim_cons sim_str (sim_cons sim_str (sim_cons sim_str sim_nil))))) sim_nil)))))) (sim_ret sim_bl) sim_next)
    (sim_seq (sim_asg (SimF.e (sim_m1F mf_split sim_var (SimE.p sim_str))) sim_gname)
    (sim_seq (sim_ifS (sim_or (sim_test (sim_op om_eq (SimE.p (sim_op om_in (SimE.p sim_str) (SimE.p sim_var))) (SimE.p (sim_op om_in (SimE.p sim_str) (SimE.p sim_var))))) (sim_test (sim_op om_ne (SimE.p (sim_op om_in (SimE.p sim_str) (SimE.p sim_var))) (SimE.p (sim_op om_in (SimE.p sim_str) (SimE.p sim_var)))))) (sim_ret sim_bl) sim_next)
    (sim_ret (sim_andV (sim_op om_eq (SimE.p (sim_op om_ix (SimE.p sim_var) (SimE.p (sim_un um_neg (SimE.p sim_int))))) (SimE.p sim_str)) (sim_call (sim_cons sim_var (sim_cons sim_str (sim_cons sim_str sim_nil)))))))))
def ms__law_spoilt : MS :=
    (mSeq (mAsg (mLst (mCons (mC (.str "clear")) (mCons (mC (.str "lock")) (mCons (mC (.str "unlock")) (mCons (mC (.str "again")) (mCons (mC (.str "remove")) (mCons (mC (.str "hold")) (mCons (mC (.str "tell")) (mCons (mC (.str "")) (mCons (mC (.str "Lock")) (mCons (mC (.str "page")) (mCons (mC (.str "enter")) (mCons (mC (.str "set")) mNil))))))))))))) (mGName 2))
    (mSeq (mFor (mIRng1 (mCons (mCall 2 m__law_draw (mCons (mVar 0) (mCons (mC (.int 4)) mNil))) mNil)) (mGName 3) (mSeq (mAsg (mCall 2 m__law_draw (mCons (mVar 0) (mCons (mC (.int 4)) mNil))) (mGName 4))
    (mSeq (mAsg (mCall 2 m__law_draw (mCons (mVar 0) (mCons (mOp opPlus (mCB fLen (mCons (mVar 1) mNil)) (mC (.int 1))) mNil))) (mGName 5))
    (mSeq (mAsg (mCall 2 m__law_draw (mCons (mVar 0) (mCons (mOp opPlus (mCB fLen (mCons (mVar 1) mNil)) (mC (.int 1))) mNil))) (mGName 6))
    (mIfS (mTest (mOp (opEq false) (mVar 4) (mC (.int 0)))) (mAsg (mOp opPlus (mOp opPlus (mSl slL (mVar 1) mNoPart (mPart (mVar 5))) (mLst (mCons (mOp opIx (mVar 2) (mCall 2 m__law_draw (mCons (mVar 0) (mCons (mC (.int 12)) mNil)))) mNil))) (mSl slL (mVar 1) (mPart (mVar 5)) mNoPart)) (mGName 1)) (mIfS (mTest (mOp (opEq false) (mVar 4) (mC (.int 1)))) (mAsg (mOp opPlus (mSl slL (mVar 1) mNoPart (mPart (mVar 5))) (mSl slL (mVar 1) (mPart (mOp opPlus (mVar 5) (mC (.int 1)))) mNoPart)) (mGName 1)) (mIfS (mAnd (mTest (mOp opLess (mVar 5) (mCB fLen (mCons (mVar 1) mNil)))) (mTest (mOp opLess (mVar 6) (mCB fLen (mCons (mVar 1) mNil))))) (mSeq (mAsg (mOp opIx (mVar 1) (mVar 5)) (mGName 7))
    (mSeq (mAsg (mOp opPlus (mOp opPlus (mSl slL (mVar 1) mNoPart (mPart (mVar 5))) (mLst (mCons (mOp opIx (mVar 1) (mVar 6)) mNil))) (mSl slL (mVar 1) (mPart (mOp opPlus (mVar 5) (mC (.int 1)))) mNoPart)) (mGName 1))
    (mAsg (mOp opPlus (mOp opPlus (mSl slL (mVar 1) mNoPart (mPart (mVar 6))) (mLst (mCons (mVar 7) mNil))) (mSl slL (mVar 1) (mPart (mOp opPlus (mVar 6) (mC (.int 1)))) mNoPart)) (mGName 1)))) mNext)))))))
    (mRet (mVar 1))))
def m__law_spoilt : MF := mRun 8 ms__law_spoilt
theorem q__law_spoilt (X : Cxt K a_WRITER_WORDS a_CLEANER_WORDS a_READER_WORDS a_is_writer a_is_cleaner a_is_reader) {xa : XT} {E : XK} : SimS K (Gam a_is_writer a_is_cleaner a_is_reader) xa (wOut E) (t__law_spoilt K (spM K (Gam a_is_writer a_is_cleaner a_is_reader) 2 m__law_draw) (wOut E)) ms__law_spoilt := by
  unfold t__law_spoilt ms__law_spoilt
  exact (sim_seq (sim_asg (SimF.e (sim_lst (sim_cons sim_str (sim_cons sim_str (sim_cons sim_str (sim_cons sim_str (sim_cons sim_str (sim_cons sim_str (sim_cons sim_str (sim_cons sim_str (sim_cons sim_str (sim_cons sim_str (sim_cons sim_str (sim_cons sim_str sim_nil)))))))))))))) sim_gname)
    (sim_seq (sim_for (sim_irng1 (sim_cons (sim_call (sim_cons sim_var (sim_cons sim_int sim_nil))) sim_nil)) sim_gname (sim_seq (sim_asg (sim_call (sim_cons sim_var (sim_cons sim_int sim_nil))) sim_gname)
    (sim_seq (sim_asg (sim_call (sim_cons sim_var (sim_cons (sim_op om_plus (SimE.p (sim_cb cm_len (sim_pcons (SimE.p sim_var) sim_pnil))) (SimE.p sim_int)) sim_nil))) sim_gname)
    (sim_seq (sim_asg (sim_call (sim_cons sim_var (sim_cons (sim_op om_plus (SimE.p (sim_cb cm_len (sim_pcons (SimE.p sim_var) sim_pnil))) (SimE.p sim_int)) sim_nil))) sim_gname)
    (sim_ifS (sim_test (sim_op om_eq (SimE.p sim_var) (SimE.p sim_int))) (sim_asg (sim_op om_plus (SimE.p (sim_op om_plus (SimF.p (sim_slF sf_list (SimE.p sim_var) sim_nopart (sim_part sim_var))) (SimF.p (sim_lst (sim_cons (sim_op om_ix (SimE.p sim_var) (SimE.p (sim_call (sim_cons sim_var (sim_cons sim_int sim_nil))))) sim_nil))))) (SimF.p (sim_slF sf_list (SimE.p sim_var) (sim_part sim_var) sim_nopart))) sim_gname) (sim_ifS (sim_test (sim_op om_eq (SimE.p sim_var) (SimE.p sim_int))) (sim_asg (sim_op om_plus (SimF.p (sim_slF sf_list (SimE.p sim_var) sim_nopart (sim_part sim_var))) (SimF.p (sim_slF sf_list (SimE.p sim_var) (sim_part (sim_op om_plus (SimE.p sim_var) (SimE.p sim_int))) sim_nopart))) sim_gname) (sim_ifS (sim_and (sim_test (sim_op om_less (SimE.p sim_var) (SimE.p (sim_cb cm_len (sim_pcons (SimE.p sim_var) sim_pnil))))) (sim_test (sim_op om_less (SimE.p sim_var) (SimE.p (sim_cb cm_len (sim_pcons (SimE.p sim_var) sim_pnil)))))) (sim_seq (sim_asg (sim_op om_ix (SimE.p sim_var) (SimE.p sim_var)) sim_gname)
    (sim_seq (sim_asg (sim_op om_plus (SimE.p (sim_op om_plus (SimF.p (sim_slF sf_list (SimE.p sim_var) sim_nopart (sim_part sim_var))) (SimF.p (sim_lst (sim_cons (sim_op om_ix (SimE.p sim_var) (SimE.p sim_var)) sim_nil))))) (SimF.p (sim_slF sf_list (SimE.p sim_var) (sim_part (sim_op om_plus (SimE.p sim_var) (SimE.p sim_int))) sim_nopart))) sim_gname)
    (sim_asg (sim_op om_plus (SimE.p (sim_op om_plus (SimF.p (sim_slF sf_list (SimE.p sim_var) sim_nopart (sim_part sim_var))) (SimF.p (sim_lst (sim_cons sim_var sim_nil))))) (SimF.p (sim_slF sf_list (SimE.p sim_var) (sim_part (sim_op om_plus (SimE.p sim_var) (SimE.p sim_int))) sim_nopart))) sim_gname))) sim_next)))))))
    (sim_ret sim_var)))
def ms__law_ascends : MS :=
    (mRet (mOp (opEq false) (mLc (mIRng2 (mCons (mC (.int 1)) (mCons (mCB fLen (mCons (mVar 0) mNil)) mNil))) (mGName 1) (mNot (mTest (mOp opLtS (mOp opIx (mVar 0) (mOp opMinus (mVar 1) (mC (.int 1)))) (mOp opIx (mVar 0) (mVar 1))))) (mVar 1) [1]) (mLst mNil)))
def m__law_ascends : MF := mRun 2 ms__law_ascends
theorem q__law_ascends (X : Cxt K a_WRITER_WORDS a_CLEANER_WORDS a_READER_WORDS a_is_writer a_is_cleaner a_is_reader) {xa : XT} {E : XK} : SimS K (Gam a_is_writer a_is_cleaner a_is_reader) xa (wOut E) (t__law_ascends K (wOut E)) ms__law_ascends := by
  unfold t__law_ascends ms__law_ascends
  exact (sim_ret (sim_op om_eq (SimF.p (sim_lc (SimI.ev (sim_irng2 (sim_cons sim_int (sim_cons (sim_cb cm_len (sim_pcons (SimE.p sim_var) sim_pnil)) sim_nil)))) sim_gname (sim_not (sim_test (sim_op om_ltS (SimE.p (sim_op om_ix (SimE.p sim_var) (SimE.p (sim_op om_minus (SimE.p sim_var) (SimE.p sim_int))))) (SimE.p (sim_op om_ix (SimE.p sim_var) (SimE.p sim_var)))))) sim_var)) (SimF.p (sim_lst sim_nil))))
def ms_law : MS :=
    (mSeq (mAsg (mCall 1 m__law_pot (mCons (mVar 0) mNil)) (mGName 1))
    (mSeq (mAsg (mLcY (mCallY m_writer_orders mNil)) (mGName 2))
    (mSeq (mAsg (mLcY (mCallY m_cleaner_orders mNil)) (mGName 3))
    (mSeq (mAsg (mLcY (mCallY m_reader_orders mNil)) (mGName 4))
    (mSeq (mIfS (mTest (mOp (opEq true) (mLst (mCons (mCB fLen (mCons (mVar 2) mNil)) (mCons (mCB fLen (mCons (mVar 3) mNil)) (mCons (mCB fLen (mCons (mVar 4) mNil)) mNil)))) (mLst (mCons (mC (.int 150)) (mCons (mC (.int 45)) (mCons (mC (.int 18)) mNil)))))) (mRet (mC (.bl false))) mNext)
    (mSeq (mIfS (mOr (mNot (mTest (mCall 1 m__law_ascends (mCons (mVar 2) mNil)))) (mOr (mNot (mTest (mCall 1 m__law_ascends (mCons (mVar 3) mNil)))) (mNot (mTest (mCall 1 m__law_ascends (mCons (mVar 4) mNil)))))) (mRet (mC (.bl false))) mNext)
    (mSeq (mIfS (mTest (mOp (opEq true) (mLc (mIList (mVar 2)) (mGName 7) (mOr (mNot (mTest (mCall 1 m__law_is_writer (mCons (mVar 7) mNil)))) (mNot (mTest (mCall 1 m_is_writer (mCons (mVar 7) mNil))))) (mVar 7) [7]) (mLst mNil))) (mRet (mC (.bl false))) mNext)
    (mSeq (mIfS (mTest (mOp (opEq true) (mLc (mIList (mVar 3)) (mGName 7) (mOr (mNot (mTest (mCall 1 m__law_is_cleaner (mCons (mVar 7) mNil)))) (mNot (mTest (mCall 1 m_is_cleaner (mCons (mVar 7) mNil))))) (mVar 7) [7]) (mLst mNil))) (mRet (mC (.bl false))) mNext)
    (mSeq (mIfS (mTest (mOp (opEq true) (mLc (mIList (mVar 4)) (mGName 7) (mOr (mNot (mTest (mCall 1 m__law_is_reader (mCons (mVar 7) mNil)))) (mNot (mTest (mCall 1 m_is_reader (mCons (mVar 7) mNil))))) (mVar 7) [7]) (mLst mNil))) (mRet (mC (.bl false))) mNext)
    (mSeq (mFor (mIRng1 (mCons (mC (.int 5)) mNil)) (mGName 5) (mSeq (mAsg (mCall 1 m__law_writer_words (mCons (mVar 1) mNil)) (mGName 6))
    (mSeq (mAsg (mM1 opJoin (mC (.str " ")) (mCall 2 m__law_spoilt (mCons (mVar 1) (mCons (mVar 6) mNil)))) (mGName 7))
    (mSeq (mIfS (mOr (mTest (mOp (opIn true) (mM1 opJoin (mC (.str " ")) (mVar 6)) (mVar 2))) (mTest (mOp (opEq true) (mOp (opIn false) (mVar 7) (mVar 2)) (mCall 1 m__law_is_writer (mCons (mVar 7) mNil))))) (mRet (mC (.bl false))) mNext)
    (mSeq (mAsg (mCall 1 m__law_cleaner_words (mCons (mVar 1) mNil)) (mGName 6))
    (mSeq (mAsg (mM1 opJoin (mC (.str " ")) (mCall 2 m__law_spoilt (mCons (mVar 1) (mCons (mVar 6) mNil)))) (mGName 7))
    (mSeq (mIfS (mOr (mTest (mOp (opIn true) (mM1 opJoin (mC (.str " ")) (mVar 6)) (mVar 3))) (mTest (mOp (opEq true) (mOp (opIn false) (mVar 7) (mVar 3)) (mCall 1 m__law_is_cleaner (mCons (mVar 7) mNil))))) (mRet (mC (.bl false))) mNext)
    (mSeq (mAsg (mCall 1 m__law_reader_words (mCons (mVar 1) mNil)) (mGName 6))
    (mSeq (mAsg (mM1 opJoin (mC (.str " ")) (mCall 2 m__law_spoilt (mCons (mVar 1) (mCons (mVar 6) mNil)))) (mGName 7))
    (mIfS (mOr (mTest (mOp (opIn true) (mM1 opJoin (mC (.str " ")) (mVar 6)) (mVar 4))) (mTest (mOp (opEq true) (mOp (opIn false) (mVar 7) (mVar 4)) (mCall 1 m__law_is_reader (mCons (mVar 7) mNil))))) (mRet (mC (.bl false))) mNext))))))))))
    (mRet (mOp (opEq false) (mLcY (mCallY m_writer_orders mNil)) (mVar 2)))))))))))))
def m_law : MF := mRun 8 ms_law
theorem q_law (X : Cxt K a_WRITER_WORDS a_CLEANER_WORDS a_READER_WORDS a_is_writer a_is_cleaner a_is_reader) {xa : XT} {E : XK} : SimS K (Gam a_is_writer a_is_cleaner a_is_reader) xa (wOut E) (t_law K (spM K (Gam a_is_writer a_is_cleaner a_is_reader) 1 m_is_writer) (spM K (Gam a_is_writer a_is_cleaner a_is_reader) 1 m_is_cleaner) (spM K (Gam a_is_writer a_is_cleaner a_is_reader) 1 m_is_reader) (spY K (Gam a_is_writer a_is_cleaner a_is_reader) 0 m_writer_orders) (spY K (Gam a_is_writer a_is_cleaner a_is_reader) 0 m_cleaner_orders) (spY K (Gam a_is_writer a_is_cleaner a_is_reader) 0 m_reader_orders) (spM K (Gam a_is_writer a_is_cleaner a_is_reader) 1 m__law_pot) (spM K (Gam a_is_writer a_is_cleaner a_is_reader) 1 m__law_writer_words) (spM K (Gam a_is_writer a_is_cleaner a_is_reader) 1 m__law_cleaner_words) (spM K (Gam a_is_writer a_is_cleaner a_is_reader) 1 m__law_reader_words) (spM K (Gam a_is_writer a_is_cleaner a_is_reader) 1 m__law_is_writer) (spM K (Gam a_is_writer a_is_cleaner a_is_reader) 1 m__law_is_cleaner) (spM K (Gam a_is_writer a_is_cleaner a_is_reader) 1 m__law_is_reader) (spM K (Gam a_is_writer a_is_cleaner a_is_reader) 2 m__law_spoilt) (spM K (Gam a_is_writer a_is_cleaner a_is_reader) 1 m__law_ascends) (wOut E)) ms_law := by
  unfold t_law ms_law
  exact (sim_seq (sim_asg (sim_call (sim_cons sim_var sim_nil)) sim_gname)
    (sim_seq (sim_asg (SimF.e (sim_lcY (sim_callY (W := noW) sim_nil))) sim_gname)
    (sim_seq (sim_asg (SimF.e (sim_lcY (sim_callY (W := noW) sim_nil))) sim_gname)
    (sim_seq (sim_asg (SimF.e (sim_lcY (sim_callY (W := noW) sim_nil))) sim_gname)
    (sim_seq (sim_ifS (sim_test (sim_op om_ne (SimF.p (sim_lst (sim_cons (sim_cb cm_len (sim_pcons (SimE.p sim_var) sim_pnil)) (sim_cons (sim_cb cm_len (sim_pcons (SimE.p sim_var) sim_pnil)) (sim_cons (sim_cb cm_len (sim_pcons (SimE.p sim_var) sim_pnil)) sim_nil))))) (SimF.p (sim_lst (sim_cons sim_int (sim_cons sim_int (sim_cons sim_int sim_nil))))))) (sim_ret sim_bl) sim_next)
    (sim_seq (sim_ifS (sim_or (sim_not (sim_B (sim_call (sim_cons sim_var sim_nil)))) (sim_or (sim_not (sim_B (sim_call (sim_cons sim_var sim_nil)))) (sim_not (sim_B (sim_call (sim_cons sim_var sim_nil)))))) (sim_ret sim_bl) sim_next)
    (sim_seq (sim_ifS (sim_test (sim_op om_ne (SimF.p (sim_lc (SimI.ev (sim_ilist sim_var)) sim_gname (sim_or (sim_not (sim_B (sim_call (sim_cons sim_var sim_nil)))) (sim_not (sim_B (sim_call (sim_cons sim_var sim_nil))))) sim_var)) (SimF.p (sim_lst sim_nil)))) (sim_ret sim_bl) sim_next)
    (sim_seq (sim_ifS (sim_test (sim_op om_ne (SimF.p (sim_lc (SimI.ev (sim_ilist sim_var)) sim_gname (sim_or (sim_not (sim_B (sim_call (sim_cons sim_var sim_nil)))) (sim_not (sim_B (sim_call (sim_cons sim_var sim_nil))))) sim_var)) (SimF.p (sim_lst sim_nil)))) (sim_ret sim_bl) sim_next)
    (sim_seq (sim_ifS (sim_test (sim_op om_ne (SimF.p (sim_lc (SimI.ev (sim_ilist sim_var)) sim_gname (sim_or (sim_not (sim_B (sim_call (sim_cons sim_var sim_nil)))) (sim_not (sim_B (sim_call (sim_cons sim_var sim_nil))))) sim_var)) (SimF.p (sim_lst sim_nil)))) (sim_ret sim_bl) sim_next)
    (sim_seq (sim_for (sim_irng1 (sim_cons sim_int sim_nil)) sim_gname (sim_seq (sim_asg (sim_call (sim_cons sim_var sim_nil)) sim_gname)
    (sim_seq (sim_asg (sim_m1 mm_join sim_str (SimE.p (sim_call (sim_cons sim_var (sim_cons sim_var sim_nil))))) sim_gname)
    (sim_seq (sim_ifS (sim_or (sim_test (sim_op om_in (SimE.p (sim_m1 mm_join sim_str (SimE.p sim_var))) (SimE.p sim_var))) (sim_test (sim_op om_ne (SimE.p (sim_op om_in (SimE.p sim_var) (SimE.p sim_var))) (SimE.p (sim_call (sim_cons sim_var sim_nil)))))) (sim_ret sim_bl) sim_next)
    (sim_seq (sim_asg (sim_call (sim_cons sim_var sim_nil)) sim_gname)
    (sim_seq (sim_asg (sim_m1 mm_join sim_str (SimE.p (sim_call (sim_cons sim_var (sim_cons sim_var sim_nil))))) sim_gname)
    (sim_seq (sim_ifS (sim_or (sim_test (sim_op om_in (SimE.p (sim_m1 mm_join sim_str (SimE.p sim_var))) (SimE.p sim_var))) (sim_test (sim_op om_ne (SimE.p (sim_op om_in (SimE.p sim_var) (SimE.p sim_var))) (SimE.p (sim_call (sim_cons sim_var sim_nil)))))) (sim_ret sim_bl) sim_next)
    (sim_seq (sim_asg (sim_call (sim_cons sim_var sim_nil)) sim_gname)
    (sim_seq (sim_asg (sim_m1 mm_join sim_str (SimE.p (sim_call (sim_cons sim_var (sim_cons sim_var sim_nil))))) sim_gname)
    (sim_ifS (sim_or (sim_test (sim_op om_in (SimE.p (sim_m1 mm_join sim_str (SimE.p sim_var))) (SimE.p sim_var))) (sim_test (sim_op om_ne (SimE.p (sim_op om_in (SimE.p sim_var) (SimE.p sim_var))) (SimE.p (sim_call (sim_cons sim_var sim_nil)))))) (sim_ret sim_bl) sim_next))))))))))
    (sim_ret (sim_op om_eq (SimF.p (sim_lcY (sim_callY (W := noW) sim_nil))) (SimE.p sim_var)))))))))))))
end
end Law

namespace Law
open PySem PySem.Spec L2 TP MR
section
local macro_rules | `(tactic| walk_at "g1") => `(tactic| first
  | with_reducible refine s_seq ?_ | with_reducible refine s_asgN ?_ | with_reducible refine s_asgO ?_ | with_reducible refine s_asgC ?_ | with_reducible refine s_ret ?_ | with_reducible refine s_drop ?_ | with_reducible refine s_ifS ?_ | with_reducible refine s_next ?_ | with_reducible refine s_raise ?_ | with_reducible refine s_for ?_
  | ((with_reducible refine' s_fixO ?gv ?_); (case gv => rfl)) | ((with_reducible refine' s_fixV ?gv ?_); (case gv => rfl)) | ((with_reducible refine' s_append ?gv ?_); (case gv => rfl)) | ((with_reducible refine' s_aug ?gv ?_); (case gv => rfl)) | ((with_reducible refine' s_setI ?gv ?_); (case gv => rfl))
  | ((with_reducible refine' s_setFO ?gv ?gl ?_); (case gv => rfl); (case gl => decide))
  | ((with_reducible refine' g_var ?gv ?_); (case gv => rfl)) | ((with_reducible refine' g_peekO ?gv ?_); (case gv => rfl)) | ((with_reducible refine' g_peekV ?gv ?_); (case gv => rfl))
  | with_reducible refine g_c ?_ | with_reducible refine g_op ?_ | with_reducible refine g_un ?_ | with_reducible refine g_nil ?_ | with_reducible refine g_cons ?_ | with_reducible refine g_tup ?_ | with_reducible refine g_lst ?_ | with_reducible refine g_cb ?_ | with_reducible refine g_call ?_
  | with_reducible refine g_test ?_ | with_reducible refine g_tru ?_ | with_reducible refine g_bl ?_ | with_reducible refine g_yes ?_ | with_reducible refine g_and ?_ | with_reducible refine g_or ?_ | with_reducible refine g_not ?_ | with_reducible refine g_andV ?_ | with_reducible refine g_orV ?_ | with_reducible refine g_notV ?_ | with_reducible refine g_if ?_ | with_reducible refine g_chain ?_
  | with_reducible refine g_T ?_ | with_reducible refine g_F ?_ | with_reducible refine g_nF ?_ | with_reducible refine g_nT ?_
  | with_reducible refine g_less ?_ | with_reducible refine g_leq ?_ | with_reducible refine g_more ?_ | with_reducible refine g_geq ?_ | with_reducible refine g_minus ?_ | with_reducible refine g_plusI ?_ | with_reducible refine g_eqI ?_ | with_reducible refine g_neI ?_ | with_reducible refine g_eqB ?_ | with_reducible refine g_neB ?_ | with_reducible refine g_eqS ?_ | with_reducible refine g_neS ?_
  | with_reducible refine g_isN ?_ | with_reducible refine g_isntN ?_ | with_reducible refine g_int ?_ | with_reducible refine g_lenL ?_ | with_reducible refine g_lenT ?_ | with_reducible refine g_tupleL ?_ | with_reducible refine g_tupleT ?_
  | with_reducible refine g_getF ?_ | with_reducible refine g_meth ?_ | with_reducible refine g_cmpO ?_ | with_reducible refine g_binO ?_ | with_reducible refine g_binI ?_ | with_reducible refine g_binR ?_ | with_reducible refine g_lenZ ?_ | with_reducible refine g_eqL ?_ | with_reducible refine g_enum ?_ | with_reducible refine g_inZ ?_ | with_reducible refine g_newV ?_ | with_reducible refine g_new ?_ | with_reducible refine g_starT ?_ | with_reducible refine g_sortSet ?_ | with_reducible refine g_cell ?_
  | with_reducible refine g_iList ?_ | with_reducible refine g_iTup ?_ | with_reducible refine g_rng1 ?_ | with_reducible refine g_rng2 ?_ | with_reducible refine g_lc ?_)
local macro_rules | `(tactic| walk_at "g") => `(tactic| repeat walk_at "g1")

theorem pot_ok (ns : List Int) : ∃ S, m__law_pot [.scr ns] [] = .ok (.ref 1) S ∧ PotS S [] := by
  have h : Rn (m__law_pot [.scr ns] []) (fun d S => d = .ref 1 ∧ PotS S []) noXQ := by
    refine s_run ?_
    unfold ms__law_pot
    walk_at "g"
    refine run_eq (a := .lst (cutD (ns.map D.int) none (some 63))) rfl ⟨_, .inl rfl, ?_⟩
    have hc : cutD (ns.map D.int) none (some 63) = (cutI ns).map D.int := by
      unfold cutD cutI
      rw [List.length_map, ← List.map_drop, ← List.map_take]
    refine run_eq (lcl_pure (c := fun _ => true) (f := id) fun d hd => ?_) ?_
    · rw [hc] at hd
      obtain ⟨i, _, rfl⟩ := List.mem_map.mp hd
      exact ⟨_, rfl, rfl, fun _ => rfl⟩
    · walk_at "g"
      refine ⟨rfl, cutI ns, 0, 7, ?_, by decide⟩
      rw [List.filter_eq_self.mpr fun _ _ => rfl, List.map_id, hc]
      rfl
  obtain ⟨d, S, h1, rfl, h2⟩ := run_ok h
  exact ⟨S, h1, h2⟩
theorem draw_run {S T : Sto} {n : Int} {Q : D → Sto → Prop} {X : XQ} (hp : PotS S T) (h0 : 0 < n) (h1 : n < 18446744073709551616) (q : ∀ r S', 0 ≤ r → r < n → PotS S' T → Q (.int r) S') : Rn (m__law_draw [.ref 1, .int n] S) Q X := by
  obtain ⟨cs, pl, sd, rfl, hpl⟩ := hp
  have fin : ∀ (cs : List Int) (pl cell : Int) (c a : D), 0 ≤ pl → RunS ((mSeq (mSetC (mOp opRest (mCB fInt (mCons (mOp opPlus (mOp opPlus (mOp opTimes (mOp opIx (mVar 0) (mC (.int 2))) (mC (.int 48271))) (mOp opTimes (mVar 4) (mC (.int 69621)))) (mC (.int 11))) mNil)) (mC (.int 2147483647))) (mVar 0) (mC (.int 2)))
      (mRet (mOp opRest (mCB fInt (mCons (mOp opPlus (mOp opQuot (mOp opTimes (mOp opIx (mVar 0) (mC (.int 2))) (mC (.int 16807))) (mC (.int 128))) (mOp opIx (mVar 0) (mC (.int 2)))) mNil)) (mVar 1)))) [.val (.ref 1), .val (.int n), .val c, .val a, .val (.int cell)]
      (some (.lst (cs.map D.int)) :: some (.lst [.ref 0, .int pl, .int sd]) :: T)) { nx := fun _ S => Q .non S, rt := Q, ex := fun c ns es _ S => X c ns es S } := by
    intro cs pl cell c a hpl
    refine s_seq ?_
    refine s_setC (m := 1) (ds := [.ref 0, .int pl, .int sd]) ?_
    walk_at "g"
    refine g_ix (ds := [.ref 0, .int pl, .int sd]) rfl rfl ?_
    walk_at "g"
    refine g_times (mul_r (by decide) (by decide)) ?_
    walk_at "g"
    refine g_times (mul_r (by decide) (by decide)) ?_
    walk_at "g"
    refine g_rest (by decide) ?_
    walk_at "g"
    refine ⟨2, 2, rfl, rfl, rfl, rfl, ?_⟩
    walk_at "g"
    refine g_ix (ds := [.ref 0, .int pl, .int ((sd * 48271 + cell * 69621 + 11) % 2147483647)]) rfl rfl ?_
    walk_at "g"
    refine g_times (mul_r (by decide) (by decide)) ?_
    walk_at "g"
    refine g_quot (by decide) (by decide) ?_
    walk_at "g"
    refine g_ix (ds := [.ref 0, .int pl, .int ((sd * 48271 + cell * 69621 + 11) % 2147483647)]) rfl rfl ?_
    walk_at "g"
    refine g_rest h0 ?_
    exact q _ _ (Int.emod_nonneg _ (by omega)) (Int.emod_lt_of_pos _ h0) ⟨cs, pl, _, rfl, hpl⟩
  refine s_run ?_
  unfold ms__law_draw
  walk_at "g"
  refine g_ix (ds := [.ref 0, .int pl, .int sd]) rfl rfl ?_
  walk_at "g"
  refine g_ix (ds := [.ref 0, .int pl, .int sd]) rfl rfl ?_
  walk_at "g"
  refine g_len (ds := cs.map D.int) rfl (fun _ z => nomatch z) rfl ?_
  walk_at "g"
  rw [List.length_map]
  by_cases h : pl < (cs.length : Int)
  · rw [decide_eq_true h]
    walk_at "g"
    have hj : pl.toNat < cs.length := by omega
    have hat : atI (cs.map D.int) pl = some (.int cs[pl.toNat]) := by
      unfold atI ixN
      rw [List.length_map, if_pos hpl, if_pos h]
      show (cs.map D.int)[pl.toNat]? = _
      rw [List.getElem?_map, List.getElem?_eq_getElem hj]
      rfl
    refine g_ix (ds := cs.map D.int) rfl hat ?_
    walk_at "g"
    refine run_eq (a := .int (10 ^ 18)) rfl ?_
    walk_at "g"
    by_cases h2 : (10 ^ 18 : Int) ≤ cs[pl.toNat]
    · rw [decide_eq_true h2]
      refine g_T ?_
      refine s_seq ?_
      refine s_setC (m := 0) (ds := cs.map D.int) ?_
      walk_at "g"
      refine g_quot h0 h1 ?_
      walk_at "g"
      refine ⟨pl, pl.toNat, rfl, rfl, rfl, ?_, ?_⟩
      · unfold ixN
        rw [List.length_map, if_pos hpl, if_pos h]
      · walk_at "g"
        refine g_rest h0 ?_
        refine q _ _ (Int.emod_nonneg _ (by omega)) (Int.emod_lt_of_pos _ h0) ⟨cs.set pl.toNat (cs[pl.toNat] / n), pl, sd, ?_, hpl⟩
        rw [List.map_set]
        rfl
    · rw [decide_eq_false h2]
      refine g_F ?_
      refine s_next ?_
      exact fin cs (pl + 1) _ _ _ (by omega)
  · rw [decide_eq_false h]
    refine g_F ?_
    refine s_next ?_
    exact fin cs pl 0 _ _ hpl

section
variable {S : Sto} {Q : D → Sto → Prop} {X : XQ}
end
structure Asc (a : List Int) : Prop where
  s : a.Pairwise (· < ·)
  r : ∀ x ∈ a, 0 ≤ x ∧ x ≤ 30
theorem ix_nat {n i : Nat} (h : i < n) : ixN n (i : Int) = some i := by
  unfold ixN
  rw [if_pos (by omega), if_pos (by omega), Int.toNat_natCast]
theorem at_map {α : Type} {g : α → D} {xs : List α} {i : Nat} (h : i < xs.length) : atI (xs.map g) (i : Int) = some (g xs[i]) := by
  unfold atI
  rw [List.length_map, ix_nat h]
  show (xs.map g)[i]? = _
  rw [List.getElem?_map, List.getElem?_eq_getElem h]; rfl

theorem if_f {mt : MT} {ms : MS} {δ : MR.Env} {S : Sto} {P : EndP} (h : mt δ S = .ok false S) (q : P.nx δ S) : RunS (mIfS mt ms mNext δ S) P := s_ifS (run_eq h (g_F (s_next q)))
theorem if_t {mt : MT} {ms mu : MS} {δ : MR.Env} {S : Sto} {P : EndP} (h : mt δ S = .ok true S) (q : RunS (ms δ S) P) : RunS (mIfS mt ms mu δ S) P := s_ifS (run_eq h (g_T q))
theorem or_f {mt mu : MT} {δ : MR.Env} {S : Sto} (h1 : mt δ S = .ok false S) (h2 : mu δ S = .ok false S) : mOr mt mu δ S = .ok false S := rn_eq (g_or (run_eq h1 (g_F (run_eq h2 ⟨rfl, rfl⟩))))
theorem or_l {mt mu : MT} {δ : MR.Env} {S : Sto} (h1 : mt δ S = .ok true S) : mOr mt mu δ S = .ok true S := rn_eq (g_or (run_eq h1 (g_T ⟨rfl, rfl⟩)))
theorem or_r {mt mu : MT} {δ : MR.Env} {S : Sto} (h1 : mt δ S = .ok false S) (h2 : mu δ S = .ok true S) : mOr mt mu δ S = .ok true S := rn_eq (g_or (run_eq h1 (g_F (run_eq h2 ⟨rfl, rfl⟩))))
theorem cut_take0 (l : List D) (a : Nat) : cutD l none (some (a : Int)) = l.take a := by
  unfold cutD
  rw [HT.sIx_none, HT.sIx_nat, List.drop_zero, Nat.sub_zero]
  by_cases h : a ≤ l.length
  · rw [Nat.min_eq_left h]
  · rw [Nat.min_eq_right (by omega), List.take_of_length_le (Nat.le_refl _), List.take_of_length_le (by omega)]
theorem cut_drop0 (l : List D) (a : Nat) : cutD l (some (a : Int)) none = l.drop a := by
  unfold cutD
  rw [HT.sIx_none, HT.sIx_nat]
  by_cases h : a ≤ l.length
  · rw [Nat.min_eq_left h, List.take_of_length_le (by rw [List.length_drop]; omega)]
  · rw [Nat.min_eq_right (by omega), List.drop_of_length_le (Nat.le_refl _), List.drop_of_length_le (by omega), List.take_nil]
mutual
theorem eqv_self : ∀ d : D, PyData.eqv (toPy d) (toPy d) = true
  | .bl b => by cases b <;> rfl
  | .int i => by simp [toPy, PyData.eqv]
  | .str x => by simp [toPy, PyData.eqv]
  | .tup ds => by simp only [toPy, PyData.eqv]; exact eqvs_self ds
  | .lst ds => by simp only [toPy, PyData.eqv]; exact eqvs_self ds
  | .non => rfl
  | .byt _ => rfl
  | .ty _ => rfl
  | .cls _ => rfl
  | .dic _ _ => rfl
  | .fdc _ _ => rfl
  | .obj _ _ _ => rfl
  | .ref _ => rfl
  | .scr _ => rfl
theorem eqvs_self : ∀ ds : List D, PyData.eqvAll (toPys ds) (toPys ds) = true
  | [] => rfl
  | d :: ds => by simp only [toPys, PyData.eqvAll, eqv_self d, eqvs_self ds, Bool.and_self]
end
theorem eqD_self (d : D) : eqD d d = true := eqv_self d
theorem okN_all {n : Nat} {ds : List D} (h : ∀ d ∈ ds, okN n d = true) : okN (n + 1) (.lst ds) = true ∧ okN (n + 1) (.tup ds) = true := by
  have z : ds.all (okN n) = true := List.all_eq_true.mpr h
  exact ⟨by unfold okN; exact z, by unfold okN; exact z⟩
theorem okN_str (n : Nat) {x : PySem.Str} (h : PyData.canLay0 (.str x) = true) : okN n (.str x) = true := by unfold okN; exact h
theorem eq_self {neg : Bool} {d : D} (h : okN 9 d = true) (hf : flatD d = false) (S : Sto) : opEq neg d d S = .ok (.bl (xor neg true)) S := rn_eq <| g_eqD h h hf (by rw [eqD_self]; exact ⟨rfl, rfl⟩)

theorem lcl_map {α : Type} {g : α → D} {mg : MG} {mt : MT} {me : ME} {δ : MR.Env} {S : Sto} {c : α → Bool} {f : α → D} : ∀ {xs : List α}, (∀ x ∈ xs, ∃ δ1, mg (g x) δ = some δ1 ∧ mt δ1 S = .ok (c x) S ∧ (c x = true → me δ1 S = .ok (f x) S)) → mLcL mg mt me δ (xs.map g) S = .ok ((xs.filter c).map f) S
  | [], _ => rfl
  | d :: ds, h => by
    obtain ⟨δ1, h1, h2, h3⟩ := h d List.mem_cons_self
    have ih := lcl_map (xs := ds) fun x hx => h x (List.mem_cons_of_mem _ hx)
    rw [List.map_cons]
    unfold mLcL
    rw [h1]
    dsimp only
    rw [h2]
    dsimp only [noX, bnd]
    cases z : c d with
    | true => rw [if_pos rfl, h3 z]; dsimp only [noX, bnd]; rw [ih]; simp [z]
    | false => rw [if_neg (by simp), ih]; simp [z]
theorem rng0 (n : Nat) : rngD 0 n = (List.range n).map fun i : Nat => D.int (i : Int) := by
  unfold rngD
  refine List.map_congr_left fun i _ => ?_
  rw [Int.zero_add]
theorem s_cut {o : Out Fl} {P : EndP} (M : MR.Env → Sto → Prop) (h : RunS o { nx := M, rt := fun _ _ => False }) (k : ∀ δ S, M δ S → P.nx δ S) : RunS o P := by
  cases o with
  | ok f S =>
    cases f with
    | nx δ => exact k _ _ h
    | rt d => exact False.elim h
    | bk d => exact False.elim h
    | ct d => exact False.elim h
    | ex => exact False.elim h
  | ex => exact False.elim h
  | bad => exact False.elim h

abbrev WS := List PySem.Str
abbrev LS (ws : WS) : List D := ws.map D.str
theorem flat_LS (ws : WS) : (LS ws).all flatD = true := by
  rw [List.all_eq_true]; intro x hx
  obtain ⟨i, _, rfl⟩ := List.mem_map.mp hx; rfl
theorem eqF_str (a b : PySem.Str) : eqF (.str a) (.str b) = decide (a = b) := by
  show (a == b) = decide (a = b)
  rw [Bool.eq_iff_iff]; simp
theorem any_LS (ws : WS) (k : PySem.Str) : ((LS ws).any fun d => eqF d (.str k)) = decide (k ∈ ws) := by
  induction ws with
  | nil => rfl
  | cons n ns ih =>
    simp only [List.map_cons, List.any_cons] at ih ⊢
    rw [ih, eqF_str]
    by_cases h : n = k
    · subst h; simp
    · have h' : ¬ k = n := fun z => h z.symm
      simp [h, h']
theorem inLS (neg : Bool) (ws : WS) (k : PySem.Str) (S : Sto) : opIn neg (.str k) (.lst (LS ws)) S = .ok (.bl (xor neg (decide (k ∈ ws)))) S := rn_eq (g_in (ds := LS ws) rfl rfl (flat_LS ws) (by rw [any_LS]; exact ⟨rfl, rfl⟩))
theorem inTS (neg : Bool) (ws : WS) (k : PySem.Str) (S : Sto) : opIn neg (.str k) (.tup (LS ws)) S = .ok (.bl (xor neg (decide (k ∈ ws)))) S := rn_eq (g_in (ds := LS ws) rfl rfl (flat_LS ws) (by rw [any_LS]; exact ⟨rfl, rfl⟩))
theorem texts_LS : ∀ ws : WS, textsOf (LS ws) = some ws
  | [] => rfl
  | w :: ws => by show (textsOf (LS ws)).map (w :: ·) = _; rw [texts_LS ws]; rfl
def ixW (a : PySem.Str) : WS → Nat
  | [] => 0
  | w :: ws => if w = a then 0 else ixW a ws + 1
theorem idx_LS {a : PySem.Str} : ∀ {ws : WS}, a ∈ ws → idxD (.str a) (LS ws) = some (ixW a ws)
  | [], h => absurd h List.not_mem_nil
  | w :: ws, h => by
    show (if eqF (.str w) (.str a) = true then some 0 else (idxD (.str a) (LS ws)).map (· + 1)) = some (if w = a then 0 else ixW a ws + 1)
    rw [eqF_str]
    by_cases e : w = a
    · rw [decide_eq_true e, if_pos rfl, if_pos e]
    · rw [decide_eq_false e, if_neg (by decide), if_neg e, idx_LS ((List.mem_cons.mp h).resolve_left fun z => e z.symm)]; rfl
theorem g_indexR {mo me : ME} {δ : MR.Env} {S : Sto} {ws : WS} {a : PySem.Str} {d : D} {Q : D → Sto → Prop} {X : XQ} (h1 : mo δ S = .ok d S) (hd : listOf S d = some (LS ws)) (h2 : me δ S = .ok (.str a) S) (h : a ∈ ws) (q : Q (.int (ixW a ws : Nat)) S) : Rn (mIndex mo me δ S) Q X := by
  unfold mIndex
  rw [h1]
  dsimp only [bnd]
  rw [hd]
  dsimp only [Option.isSome]
  rw [if_pos rfl, h2]
  dsimp only [bnd]
  rw [hd]
  dsimp only
  rw [flat_LS, show flatD (.str a) = true from rfl]
  rw [if_pos (show (true && true) = true from rfl), idx_LS h]
  exact q
theorem g_index {mo me : ME} {δ : MR.Env} {S : Sto} {ws : WS} {a : PySem.Str} {Q : D → Sto → Prop} {X : XQ} (h1 : mo δ S = .ok (.lst (LS ws)) S) (h2 : me δ S = .ok (.str a) S) (h : a ∈ ws) (q : Q (.int (ixW a ws : Nat)) S) : Rn (mIndex mo me δ S) Q X := g_indexR h1 rfl h2 h q
def aheadB (ws : WS) (a b : PySem.Str) : Bool := !(decide (a ∈ ws)) || (!(decide (b ∈ ws)) || decide (ixW a ws < ixW b ws))
theorem is_ahead_e (ws : WS) (a b : PySem.Str) (S : Sto) : m_is_ahead [.lst (LS ws), .str a, .str b] S = .ok (.bl (aheadB ws a b)) S := by
  refine rn_eq (s_run ?_)
  unfold ms_is_ahead aheadB
  refine s_ret <| g_orV <| g_op <| g_var rfl <| g_var rfl <| run_eq (inLS _ _ _ _) ⟨_, rfl, ?_⟩
  rw [Bool.true_xor]
  by_cases ha : a ∈ ws
  · rw [decide_eq_true ha]
    refine g_nT <| g_orV <| g_op <| g_var rfl <| g_var rfl <| run_eq (inLS _ _ _ _) ⟨_, rfl, ?_⟩
    rw [Bool.true_xor]
    by_cases hb : b ∈ ws
    · rw [decide_eq_true hb]
      refine g_nT <| g_op <| g_index rfl rfl ha <| g_index rfl rfl hb <| g_less ⟨?_, rfl⟩
      rw [Bool.not_true, Bool.false_or, Bool.false_or]
      congr 1
      exact decide_eq_decide.mpr (by omega)
    · rw [decide_eq_false hb]
      exact g_nF ⟨rfl, rfl⟩
  · rw [decide_eq_false ha]
    exact g_nF ⟨rfl, rfl⟩
def lockB (ws : WS) : Bool := (decide (("lock" : PySem.Str) ∈ ws) == decide (("unlock" : PySem.Str) ∈ ws)) && aheadB ws "lock" "unlock"
theorem is_locked_e (ws : WS) (S : Sto) : m_is_locked_well [.lst (LS ws)] S = .ok (.bl (lockB ws)) S := by
  refine rn_eq (s_run ?_)
  unfold ms_is_locked_well lockB
  refine s_ret <| g_andV <| g_op <| g_op <| g_c <| g_var rfl <| run_eq (inLS _ _ _ _) <| g_op <| g_c <| g_var rfl <| run_eq (inLS _ _ _ _) <| g_eqB ⟨_, rfl, ?_⟩
  rw [Bool.false_xor, Bool.false_xor]
  cases (decide (("lock" : PySem.Str) ∈ ws) == decide (("unlock" : PySem.Str) ∈ ws)) with
  | false => exact g_F ⟨rfl, rfl⟩
  | true =>
    refine g_T <| g_call <| g_cons <| g_var rfl <| g_cons <| g_c <| g_cons <| g_c <| g_nil <| run_eq (is_ahead_e _ _ _ _) ?_
    exact ⟨by rw [Bool.true_and], rfl⟩
theorem bls_lcl {α : Type} (xs : List α) (f : α → Bool) : blsOf (xs.map fun x => D.bl (f x)) = some (xs.map f) := by
  rw [show (xs.map fun x => D.bl (f x)) = (xs.map f).map D.bl by rw [List.map_map]; rfl]
  exact blsOf_map _
theorem all_there_e (ws nd : WS) (S : Sto) : m_all_there [.lst (LS ws), .tup (LS nd)] S = .ok (.bl (nd.all fun w => decide (w ∈ ws))) S := by
  refine rn_eq (s_run ?_)
  unfold ms_all_there
  refine s_ret <| g_cb <| g_cons <| g_lc <| g_iTup <| g_var rfl ⟨_, rfl, ?_⟩
  refine run_eq (lcl_map (g := D.str) (c := fun _ => true) (f := fun w => D.bl (decide (w ∈ ws))) fun x hx => ⟨_, rfl, rfl, fun _ => ?_⟩) ?_
  · exact rn_eq <| g_op <| g_var rfl <| g_var rfl <| run_eq (inLS _ _ _ _) ⟨by rw [Bool.false_xor], rfl⟩
  rw [List.filter_eq_self.mpr fun _ _ => rfl]
  refine g_nil <| g_all (bs := nd.map fun w => decide (w ∈ ws)) (by exact bls_lcl _ _) ⟨?_, rfl⟩
  rw [List.all_map]; rfl
def goodWs (ks ws : WS) : Bool := nodupB ws && ws.all fun w => decide (w ∈ ks)
theorem words_of_e {s : PySem.Str} (ks : WS) (hl : s.length ≤ 900) (S : Sto) : m_words_of [.str s, .tup (LS ks)] S = .ok (if goodWs ks (Txt.split s " ") = true then .lst (LS (Txt.split s " ")) else .non) S := by
  have hs : (Txt.split s " ").length ≤ 1000 := by
    have := PyProof.Rows.split_le s " "
    omega
  generalize hw : Txt.split s " " = ws at hs
  refine rn_eq (s_run ?_)
  unfold ms_words_of goodWs
  refine s_seq <| if_f rfl <| s_seq <| s_asgN ?_
  refine run_eq (S := S) (a := .lst (LS ws)) ?_ ?_
  · show (if (((" " : PySem.Str).length == 0) = false ∧ s.length + 2 ≤ 16777216) then Out.ok (D.lst ((Txt.split s " ").map D.str)) S else .bad) = _
    rw [if_pos ⟨by decide +kernel, by omega⟩, hw]
  dsimp only [List.set, startD, List.map, List.replicate, List.append]
  have hm : ∀ (δ : MR.Env), δ[2]? = some (.val (.lst (LS ws))) → mSetNe 2 δ S = .ok (.bl (!nodupB ws)) S := fun δ h => by
    unfold mSetNe mPeek
    rw [h]
    dsimp only
    rw [show (listOf S (.lst (LS ws))).bind textsOf = some ws from texts_LS ws]
    dsimp only
    rw [if_pos hs]
  have hA : ∀ (δ : MR.Env), δ[1]? = some (.val (.tup (LS ks))) → δ[2]? = some (.val (.lst (LS ws))) → δ.length = 4 → (mNot (mTest (mCB fAll (mCons (mLc (mIList (mVar 2)) (mGName 3) mYes (mOp (opIn false) (mVar 3) (mVar 1)) [3]) mNil)))) δ S = .ok (!(ws.all fun w => decide (w ∈ ks))) S := fun δ h1 h2 hd => by
    match δ, hd with
    | [d0, d1, d2, d3], _ =>
      obtain rfl : d1 = .val (.tup (LS ks)) := by injection h1
      obtain rfl : d2 = .val (.lst (LS ws)) := by injection h2
      refine rn_eq <| g_not <| g_test <| g_cb <| g_cons <| g_lc <| g_iList <| g_var rfl ⟨_, .inl rfl, ?_⟩
      refine run_eq (lcl_map (g := D.str) (c := fun _ => true) (f := fun w => D.bl (decide (w ∈ ks))) fun x hx => ⟨_, rfl, rfl, fun _ => ?_⟩) ?_
      · exact rn_eq <| g_op <| g_var rfl <| g_var rfl <| run_eq (inTS _ _ _ _) ⟨by rw [Bool.false_xor], rfl⟩
      rw [List.filter_eq_self.mpr fun _ _ => rfl]
      refine g_nil <| g_all (bs := ws.map fun w => decide (w ∈ ks)) (by exact bls_lcl _ _) <| g_bl ?_
      rw [List.all_map]
      exact ⟨rfl, rfl⟩
  refine s_seq ?_
  cases hn : nodupB ws with
  | false =>
    refine if_t (or_l (rn_eq <| g_test <| run_eq (hm _ rfl) <| g_bl ⟨by rw [hn]; rfl, rfl⟩)) ?_
    refine s_ret (g_c ?_)
    rw [Bool.false_and, if_neg (by decide)]
    exact ⟨rfl, rfl⟩
  | true =>
    have h1 : (mTest (mSetNe 2)) [.val (.str s), .val (.tup (LS ks)), .val (.lst (LS ws)), .no] S = .ok false S := rn_eq <| g_test <| run_eq (hm _ rfl) <| g_bl ⟨by rw [hn]; rfl, rfl⟩
    have h2 := hA [.val (.str s), .val (.tup (LS ks)), .val (.lst (LS ws)), .no] rfl rfl rfl
    rw [Bool.true_and]
    cases ha : ws.all fun w => decide (w ∈ ks) with
    | false =>
      rw [ha] at h2
      refine if_t (or_r h1 h2) ?_
      refine s_ret (g_c ?_)
      rw [if_neg (by decide)]
      exact ⟨rfl, rfl⟩
    | true =>
      rw [ha] at h2
      refine if_f (or_f h1 h2) ?_
      dsimp only
      refine s_ret ?_
      refine g_var rfl ?_
      rw [if_pos rfl]
      exact ⟨rfl, rfl⟩
def wWr : WS := ["change", "enter", "commit", "clear", "lock", "unlock"]
def wCl : WS := ["look", "set", "remove", "again", "lock", "unlock"]
def wRd : WS := ["entry", "mark", "page", "hold", "take", "tell"]
def okWr (ws : WS) : Bool := goodWs wWr ws && (([("change" : PySem.Str), "enter", "commit"].all fun w => decide (w ∈ ws)) && (aheadB ws "change" "enter" && (aheadB ws "change" "commit" && lockB ws)))
def okCl (ws : WS) : Bool := goodWs wCl ws && (([("look" : PySem.Str), "set"].all fun w => decide (w ∈ ws)) && (lockB ws && (aheadB ws "look" "set" && (aheadB ws "remove" "look" && aheadB ws "set" "again"))))
def lastW : WS → PySem.Str
  | [] => ""
  | [w] => w
  | _ :: x :: ws => lastW (x :: ws)
def okRd (ws : WS) : Bool := goodWs wRd ws && (([("entry" : PySem.Str), "mark", "page"].all fun w => decide (w ∈ ws)) && (decide (lastW ws = "page") && ((decide (("take" : PySem.Str) ∈ ws) == decide (("tell" : PySem.Str) ∈ ws)) && (!(decide (("hold" : PySem.Str) ∈ ws) == decide (("take" : PySem.Str) ∈ ws)) && aheadB ws "take" "tell"))))
theorem is_writer_e {s : PySem.Str} (hl : s.length ≤ 900) (S : Sto) : m_is_writer [.str s] S = .ok (.bl (okWr (Txt.split s " "))) S := by
  refine rn_eq (s_run ?_)
  unfold ms_is_writer okWr
  refine s_seq <| s_asgN <| g_call <| g_cons <| g_var rfl <| g_cons <| g_c <| g_nil <| run_eq (words_of_e wWr hl S) ?_
  generalize Txt.split s " " = ws
  cases goodWs wWr ws with
  | false =>
    rw [if_neg (by decide)]
    dsimp only
    refine s_seq ?_
    refine if_t (or_l rfl) ?_
    refine s_ret (g_c ?_)
    exact ⟨rfl, rfl⟩
  | true =>
    rw [if_pos rfl, Bool.true_and]
    refine s_seq <| s_ifS <| g_or <| g_test <| g_op <| g_var rfl <| g_c <| g_isN <| g_bl <| g_F <| g_not <| g_test <| g_call <| g_cons <| g_var rfl <| g_cons <| g_tup <| g_cons <| g_c <| g_cons <| g_c <| g_cons <| g_c <| g_nil <| g_nil <| run_eq (all_there_e ws ["change", "enter", "commit"] S) <| g_bl ?_
    cases ([("change" : PySem.Str), "enter", "commit"].all fun w => decide (w ∈ ws)) with
    | false =>
      refine g_nF ?_
      refine s_ret <| g_c ?_
      exact ⟨rfl, rfl⟩
    | true =>
      refine g_nT ?_
      refine s_next ?_
      refine s_ret <| g_andV <| g_call <| g_cons <| g_var rfl <| g_cons <| g_c <| g_cons <| g_c <| g_nil <| run_eq (is_ahead_e _ _ _ _) ⟨_, rfl, ?_⟩
      rw [Bool.true_and]
      cases aheadB ws "change" "enter" with
      | false => exact g_F ⟨rfl, rfl⟩
      | true =>
        refine g_T <| g_andV <| g_call <| g_cons <| g_var rfl <| g_cons <| g_c <| g_cons <| g_c <| g_nil <| run_eq (is_ahead_e _ _ _ _) ⟨_, rfl, ?_⟩
        cases aheadB ws "change" "commit" with
        | false => exact g_F ⟨rfl, rfl⟩
        | true =>
          refine g_T <| g_call <| g_cons <| g_var rfl <| g_nil <| run_eq (is_locked_e _ _) ?_
          exact ⟨rfl, rfl⟩
theorem is_cleaner_e {s : PySem.Str} (hl : s.length ≤ 900) (S : Sto) : m_is_cleaner [.str s] S = .ok (.bl (okCl (Txt.split s " "))) S := by
  refine rn_eq (s_run ?_)
  unfold ms_is_cleaner okCl
  refine s_seq <| s_asgN <| g_call <| g_cons <| g_var rfl <| g_cons <| g_c <| g_nil <| run_eq (words_of_e wCl hl S) ?_
  generalize Txt.split s " " = ws
  cases goodWs wCl ws with
  | false =>
    rw [if_neg (by decide)]
    dsimp only
    refine s_seq ?_
    refine if_t (or_l rfl) ?_
    refine s_ret (g_c ?_)
    exact ⟨rfl, rfl⟩
  | true =>
    rw [if_pos rfl, Bool.true_and]
    refine s_seq <| s_ifS <| g_or <| g_test <| g_op <| g_var rfl <| g_c <| g_isN <| g_bl <| g_F <| g_or <| g_not <| g_test <| g_call <| g_cons <| g_var rfl <| g_cons <| g_tup <| g_cons <| g_c <| g_cons <| g_c <| g_nil <| g_nil <| run_eq (all_there_e ws ["look", "set"] S) <| g_bl ?_
    cases ([("look" : PySem.Str), "set"].all fun w => decide (w ∈ ws)) with
    | false =>
      refine g_nF <| g_T ?_
      refine s_ret <| g_c ?_
      exact ⟨rfl, rfl⟩
    | true =>
      refine g_nT <| g_not <| g_test <| g_call <| g_cons <| g_var rfl <| g_nil <| run_eq (is_locked_e _ _) <| g_bl ?_
      rw [Bool.true_and]
      cases lockB ws with
      | false =>
        refine g_nF ?_
        refine s_ret <| g_c ?_
        exact ⟨rfl, rfl⟩
      | true =>
        refine g_nT ?_
        refine s_next ?_
        refine s_ret <| g_andV <| g_call <| g_cons <| g_var rfl <| g_cons <| g_c <| g_cons <| g_c <| g_nil <| run_eq (is_ahead_e _ _ _ _) ⟨_, rfl, ?_⟩
        rw [Bool.true_and]
        cases aheadB ws "look" "set" with
        | false => exact g_F ⟨rfl, rfl⟩
        | true =>
          refine g_T <| g_andV <| g_call <| g_cons <| g_var rfl <| g_cons <| g_c <| g_cons <| g_c <| g_nil <| run_eq (is_ahead_e _ _ _ _) ⟨_, rfl, ?_⟩
          cases aheadB ws "remove" "look" with
          | false => exact g_F ⟨rfl, rfl⟩
          | true =>
            refine g_T <| g_call <| g_cons <| g_var rfl <| g_cons <| g_c <| g_cons <| g_c <| g_nil <| run_eq (is_ahead_e _ _ _ _) ?_
            exact ⟨rfl, rfl⟩
theorem at_last : ∀ {ws : WS}, ws ≠ [] → (LS ws)[ws.length - 1]? = some (.str (lastW ws))
  | [], h => absurd rfl h
  | [w], _ => rfl
  | w :: x :: ws, _ => at_last (ws := x :: ws) (List.cons_ne_nil _ _)
theorem ix_last {ws : WS} (h : ws ≠ []) : atI (LS ws) (-1) = some (.str (lastW ws)) := by
  have hp := List.length_pos_iff.mpr h
  unfold atI ixN
  rw [if_neg (by decide), List.length_map]
  have := at_last h
  rw [List.getElem?_map] at this
  simp
  rw [if_pos (by omega)]
  rw [show (-1 + (ws.length : Int)).toNat = ws.length - 1 by omega]
  exact this
theorem is_reader_e {s : PySem.Str} (hl : s.length ≤ 900) (S : Sto) : m_is_reader [.str s] S = .ok (.bl (okRd (Txt.split s " "))) S := by
  refine rn_eq (s_run ?_)
  unfold ms_is_reader okRd
  refine s_seq <| s_asgN <| g_call <| g_cons <| g_var rfl <| g_cons <| g_c <| g_nil <| run_eq (words_of_e wRd hl S) ?_
  generalize Txt.split s " " = ws
  cases goodWs wRd ws with
  | false =>
    rw [if_neg (by decide)]
    dsimp only
    refine s_seq ?_
    refine if_t (or_l rfl) ?_
    refine s_ret (g_c ?_)
    exact ⟨rfl, rfl⟩
  | true =>
    rw [if_pos rfl, Bool.true_and]
    refine s_seq <| s_ifS <| g_or <| g_test <| g_op <| g_var rfl <| g_c <| g_isN <| g_bl <| g_F <| g_or <| g_not <| g_test <| g_call <| g_cons <| g_var rfl <| g_cons <| g_tup <| g_cons <| g_c <| g_cons <| g_c <| g_cons <| g_c <| g_nil <| g_nil <| run_eq (all_there_e ws ["entry", "mark", "page"] S) <| g_bl ?_
    cases ha : ([("entry" : PySem.Str), "mark", "page"].all fun w => decide (w ∈ ws)) with
    | false =>
      refine g_nF <| g_T ?_
      refine s_ret <| g_c ?_
      exact ⟨rfl, rfl⟩
    | true =>
      have hne : ws ≠ [] := fun z => by subst z; cases ha
      refine g_nT <| g_test <| g_op <| g_op <| g_var rfl <| run_eq (a := .int (-1)) rfl <| g_ix (ds := LS ws) rfl (ix_last hne) ?_
      refine g_c ?_
      refine g_neS <| g_bl ?_
      rw [Bool.true_and]
      cases decide (lastW ws = "page") with
      | false =>
        refine g_nF ?_
        refine s_ret <| g_c ?_
        exact ⟨rfl, rfl⟩
      | true =>
        refine g_nT ?_
        refine s_next ?_
        refine s_seq <| s_ifS <| g_or <| g_test <| g_op <| g_op <| g_c <| g_var rfl <| run_eq (inLS _ _ _ _) <| g_op <| g_c <| g_var rfl <| run_eq (inLS _ _ _ _) <| g_neB <| g_bl ?_
        rw [Bool.false_xor, Bool.false_xor, Bool.true_and]
        cases (decide (("take" : PySem.Str) ∈ ws) == decide (("tell" : PySem.Str) ∈ ws)) with
        | false =>
          refine g_nF <| g_T ?_
          refine s_ret <| g_c ?_
          exact ⟨rfl, rfl⟩
        | true =>
          refine g_nT <| g_test <| g_op <| g_op <| g_c <| g_var rfl <| run_eq (inLS _ _ _ _) <| g_op <| g_c <| g_var rfl <| run_eq (inLS _ _ _ _) <| g_eqB <| g_bl ?_
          rw [Bool.false_xor, Bool.false_xor, Bool.true_and]
          cases (decide (("hold" : PySem.Str) ∈ ws) == decide (("take" : PySem.Str) ∈ ws)) with
          | true =>
            refine g_T ?_
            refine s_ret <| g_c ?_
            exact ⟨rfl, rfl⟩
          | false =>
            refine g_F ?_
            refine s_next ?_
            refine s_ret <| g_call <| g_cons <| g_var rfl <| g_cons <| g_c <| g_cons <| g_c <| g_nil <| run_eq (is_ahead_e _ _ _ _) ?_
            exact ⟨rfl, rfl⟩

def J (ws : WS) : PySem.Str := Txt.join " " ws
theorem splitJ {ws : WS} (h : ws ≠ []) (hb : ∀ x ∈ ws, 32 ∉ TL.tl x) : Txt.split (J ws) " " = ws := TL.split_join (y := " ") (s := 32) (S := []) rfl (by decide +kernel) h hb
theorem slen_app (x y : PySem.Str) : (x ++ y).length = x.length + y.length := by
  show (x.cps ++ y.cps).size = _
  rw [Array.size_append]; rfl
theorem J_len : ∀ ws : WS, (J ws).length ≤ (ws.map (·.length)).sum + ws.length
  | [] => Nat.le_refl _
  | [x] => by show x.length ≤ _; simp only [List.map_cons, List.sum_cons, List.length_cons]; omega
  | x :: y :: r => by
    have ih := J_len (y :: r)
    have e : J (x :: y :: r) = x ++ " " ++ J (y :: r) := by unfold J; rw [TL.join_eq, TL.join_eq]; rfl
    rw [e, slen_app, slen_app]
    rw [List.map_cons, List.sum_cons, List.length_cons]
    have : (" " : PySem.Str).length = 1 := by decide +kernel
    omega
def okw (x : PySem.Str) : Bool := decide (x.length ≤ 10) && (x.cps.toList.all (fun c => decide (c ≠ 32)) && PyData.strOk x)
def cleanW (ws : WS) : Bool := decide (0 < ws.length) && (decide (ws.length ≤ 10) && ws.all okw)
theorem clean_ne {ws : WS} (h : cleanW ws = true) : ws ≠ [] := fun z => by subst z; cases h
theorem clean_len {ws : WS} (h : cleanW ws = true) : ws.length ≤ 10 := by
  unfold cleanW at h
  simp only [Bool.and_eq_true, decide_eq_true_eq] at h
  exact h.2.1
theorem clean_w {ws : WS} (h : cleanW ws = true) : ∀ x ∈ ws, x.length ≤ 10 ∧ 32 ∉ TL.tl x := fun x hx => by
  unfold cleanW at h
  simp only [Bool.and_eq_true, decide_eq_true_eq, List.all_eq_true] at h
  have h1 := h.2.2 x hx
  unfold okw at h1
  simp only [Bool.and_eq_true, decide_eq_true_eq, List.all_eq_true] at h1
  exact ⟨h1.1, fun z => h1.2.1 32 z rfl⟩
theorem sok_app {x y : PySem.Str} (h : PyData.strOk x = true) (g : PyData.strOk y = true) : PyData.strOk (x ++ y) = true := by
  unfold PyData.strOk at h g ⊢
  show (x.cps ++ y.cps).all _ = true
  rw [Array.all_append, h, g]; rfl
theorem J_ok : ∀ {ws : WS}, (∀ x ∈ ws, PyData.strOk x = true) → PyData.strOk (J ws) = true
  | [], _ => by decide +kernel
  | [x], h => h x List.mem_cons_self
  | x :: y :: r, h => by
    have ih := J_ok (ws := y :: r) fun z hz => h z (List.mem_cons_of_mem _ hz)
    have e : J (x :: y :: r) = x ++ " " ++ J (y :: r) := by unfold J; rw [TL.join_eq, TL.join_eq]; rfl
    rw [e]
    exact sok_app (sok_app (h x List.mem_cons_self) (by decide +kernel)) ih
theorem clean_sum : ∀ {ws : WS}, (∀ x ∈ ws, x.length ≤ 10) → (ws.map (·.length)).sum ≤ 10 * ws.length
  | [], _ => Nat.le_refl _
  | x :: ws, h => by
    have := clean_sum (ws := ws) fun y hy => h y (List.mem_cons_of_mem _ hy)
    have h1 := h x List.mem_cons_self
    rw [List.map_cons, List.sum_cons, List.length_cons]
    omega
theorem clean_J {ws : WS} (h : cleanW ws = true) : (J ws).length ≤ 110 ∧ Txt.split (J ws) " " = ws := by
  refine ⟨?_, splitJ (clean_ne h) fun x hx => (clean_w h x hx).2⟩
  have h1 := J_len ws
  have h2 := clean_sum fun x hx => (clean_w h x hx).1
  have h3 := clean_len h
  omega
theorem strs_LS : ∀ ws : WS, strsOf (LS ws) = some ws
  | [] => rfl
  | w :: ws => by show (strsOf (LS ws)).map (w :: ·) = _; rw [strs_LS ws]; rfl
def putIn (ws : WS) (w : PySem.Str) (k : Nat) : WS := ws.take k ++ [w] ++ ws.drop k
theorem putIn_len {ws : WS} {w : PySem.Str} {k : Nat} : (putIn ws w k).length = ws.length + 1 := by
  unfold putIn
  rw [List.length_append, List.length_append, List.length_take, List.length_drop]
  simp only [List.length_cons, List.length_nil]; omega
theorem slices_e {ma mk : ME} {δ : MR.Env} {S : Sto} {ws : WS} {w : PySem.Str} {k : Nat} (hl : ws.length ≤ 1000) (h1 : ma δ S = .ok (.lst (LS ws)) S) (h2 : mk δ S = .ok (.int (k : Int)) S) {mw : ME} (h3 : mw δ S = .ok (.str w) S) : mOp opPlus (mOp opPlus (mSl slL ma mNoPart (mPart mk)) (mLst (mCons mw mNil))) (mSl slL ma (mPart mk) mNoPart) δ S = .ok (.lst (LS (putIn ws w k))) S := by
  have e1 : mSl slL ma mNoPart (mPart mk) δ S = .ok (.lst (LS (ws.take k))) S := by
    unfold mSl mNoPart mPart
    simp only [h1, h2, bnd]
    show Out.ok (D.lst (cutD (LS ws) none (some (k : Int)))) S = _
    rw [cut_take0]
    unfold LS
    rw [List.map_take]
  have e2 : mSl slL ma (mPart mk) mNoPart δ S = .ok (.lst (LS (ws.drop k))) S := by
    unfold mSl mNoPart mPart
    simp only [h1, h2, bnd]
    show Out.ok (D.lst (cutD (LS ws) (some (k : Int)) none)) S = _
    rw [cut_drop0]
    unfold LS
    rw [List.map_drop]
  have e3 : (LS (ws.take k)).length ≤ 1000 := by rw [List.length_map, List.length_take]; omega
  have e4 : (LS (ws.drop k)).length ≤ 1000 := by rw [List.length_map, List.length_drop]; omega
  refine rn_eq <| g_op <| g_op <| run_eq e1 <| g_lst <| g_cons <| run_eq h3 <| g_nil <| g_catL (by show _ + 1 ≤ _; omega) <| run_eq e2 <| g_catL ?_ ⟨?_, rfl⟩
  · rw [List.length_append]; show _ + 1 + _ ≤ _; omega
  unfold putIn LS
  rw [List.map_append, List.map_append]; rfl
def pcs (L : List WS) (w : PySem.Str) (lo : Nat) : List WS := L.flatMap fun ws => (List.range (ws.length + 1 - lo)).map fun k => putIn ws w (lo + k)
theorem mem_pcs {L : List WS} {ws : WS} {w : PySem.Str} {lo k : Nat} (h : ws ∈ L) (h1 : lo ≤ k) (h2 : k ≤ ws.length) : putIn ws w k ∈ pcs L w lo := by
  unfold pcs
  rw [List.mem_flatMap]
  refine ⟨ws, h, List.mem_map.mpr ⟨k - lo, List.mem_range.mpr (by omega), ?_⟩⟩
  rw [show lo + (k - lo) = k by omega]
theorem ixW_le : ∀ (a : PySem.Str) (ws : WS), ixW a ws ≤ ws.length
  | _, [] => Nat.le_refl _
  | a, w :: ws => by
    unfold ixW
    have := ixW_le a ws
    split <;> (rw [List.length_cons]; omega)
theorem mem_putIn (ws : WS) (w : PySem.Str) (k : Nat) : w ∈ putIn ws w k := by
  unfold putIn
  exact List.mem_append_left _ (List.mem_append_right _ (List.mem_singleton.mpr rfl))
theorem len_of {L : List WS} {n : Nat} (h : (L.all fun ws => decide (ws.length ≤ n)) = true) {ws : WS} (hw : ws ∈ L) : ws.length ≤ n := by
  rw [List.all_eq_true] at h
  exact of_decide_eq_true (h ws hw)
theorem ixW_lt {a : PySem.Str} : ∀ {ws : WS}, a ∈ ws → ixW a ws < ws.length
  | [], h => absurd h List.not_mem_nil
  | w :: ws, h => by
    unfold ixW
    rw [List.length_cons]
    split
    · omega
    · rename_i hne
      have := ixW_lt ((List.mem_cons.mp h).resolve_left fun z => hne z.symm)
      omega
theorem page_e {ma : ME} {δ : MR.Env} {S S' : Sto} {ws : WS} {Q : D → Sto → Prop} {X : XQ} (hl : ws.length ≤ 100) (q : Q (.lst (LS (ws ++ [("page" : PySem.Str)]))) S) : Rn (mLst (mCons (mC (.str "page")) mNil) δ S) (fun y S => Rn (opPlus (.lst (LS ws)) y S) Q X) X := by
  refine g_lst <| g_cons <| g_c <| g_nil <| g_catL (by rw [List.length_map]; show _ + 1 ≤ _; omega) ?_
  unfold LS at q ⊢
  rw [List.map_append] at q; exact q
theorem all_okc {L : List WS} {p : WS → Bool} (h : (L.all fun ws => p ws && cleanW ws) = true) {ws : WS} (hw : ws ∈ L) : p ws = true ∧ cleanW ws = true := by
  rw [List.all_eq_true] at h
  have := h ws hw
  rwa [Bool.and_eq_true] at this

theorem putin_run {S T : Sto} {ws : WS} {w : PySem.Str} {lo : Nat} {Q : D → Sto → Prop} {X : XQ} (hp : PotS S T) (hlo : lo ≤ ws.length) (hl : ws.length ≤ 100) (q : ∀ k S', lo ≤ k → k ≤ ws.length → PotS S' T → Q (.lst (LS (putIn ws w k))) S') : Rn (m__law_put_in [.ref 1, .lst (LS ws), .str w, .int lo] S) Q X := by
  refine s_run ?_
  unfold ms__law_put_in
  refine s_seq <| s_asgN <| g_op <| g_var rfl <| g_call <| g_cons <| g_var rfl <| g_cons <| g_op <| g_op <| g_cb <| g_cons <| g_var rfl <| g_nil <| g_lenL <| g_c <| g_plusI <| g_var rfl <| g_minus ?_
  rw [List.length_map]
  refine g_nil <| draw_run hp (by omega) (by omega) fun r S' h0 h1 hp' => g_plusI ?_
  obtain ⟨r, rfl⟩ := Int.eq_ofNat_of_zero_le h0
  rw [show (lo : Int) + (r : Int) = ((lo + r : Nat) : Int) by omega]
  refine s_ret <| run_eq (slices_e (ws := ws) (w := w) (k := lo + r) (by omega) rfl rfl rfl) ?_
  exact q _ _ (by omega) (by omega) hp'
def lkds (L : List WS) : List WS := L ++ L.flatMap fun ws => (List.range (ws.length + 1)).flatMap fun a => (List.range (ixW "unlock" (putIn ws "unlock" a) + 1)).map fun b => putIn (putIn ws "unlock" a) "lock" b
theorem mem_lkds {L : List WS} {ws : WS} {a b : Nat} (h : ws ∈ L) (h1 : a ≤ ws.length) (h2 : b ≤ ixW "unlock" (putIn ws "unlock" a)) : putIn (putIn ws "unlock" a) "lock" b ∈ lkds L := by
  unfold lkds
  refine List.mem_append_right _ (List.mem_flatMap.mpr ⟨ws, h, List.mem_flatMap.mpr ⟨a, List.mem_range.mpr (by omega), List.mem_map.mpr ⟨b, List.mem_range.mpr (by omega), rfl⟩⟩⟩)
theorem locked_run {S T : Sto} {L : List WS} {ws : WS} {Q : D → Sto → Prop} {X : XQ} (hp : PotS S T) (h : ws ∈ L) (hl : ws.length ≤ 50) (q : ∀ ws' S', ws' ∈ lkds L → PotS S' T → Q (.lst (LS ws')) S') : Rn (m__law_locked [.ref 1, .lst (LS ws)] S) Q X := by
  refine s_run ?_
  unfold ms__law_locked
  refine s_seq <| s_ifS <| g_test <| g_op <| g_call <| g_cons <| g_var rfl <| g_cons <| g_c <| g_nil <| draw_run hp (by decide) (by decide) fun r S1 h0 h1 hp => g_c <| g_eqI <| g_bl ?_
  by_cases hr : r = 0
  · rw [decide_eq_true hr]
    exact g_T <| s_ret <| g_var rfl <| q _ _ (List.mem_append_left _ h) hp
  rw [decide_eq_false hr]
  refine g_F <| s_next ?_
  dsimp only
  refine s_seq <| s_asgN <| g_call <| g_cons <| g_var rfl <| g_cons <| g_var rfl <| g_cons <| g_c <| g_cons <| g_c <| g_nil <| putin_run (lo := 0) hp (Nat.zero_le _) (by omega) fun a S2 _ ha hp => ?_
  have hix := ixW_le "unlock" (putIn ws "unlock" a)
  rw [putIn_len] at hix
  refine s_seq <| s_asgN <| g_call <| g_cons <| g_var rfl <| g_cons <| g_op <| g_index (ws := putIn ws "unlock" a) rfl rfl (mem_putIn _ _ _) <| g_c <| g_plusI <| g_nil <| draw_run hp (by omega) (by omega) fun b S3 h0 h1 hp => ?_
  obtain ⟨b, rfl⟩ := Int.eq_ofNat_of_zero_le h0
  refine s_ret <| run_eq (slices_e (ws := putIn ws "unlock" a) (w := "lock") (k := b) (by rw [putIn_len]; omega) rfl rfl rfl) ?_
  exact q _ _ (mem_lkds h ha (by omega)) hp
def wB : List WS := pcs (pcs [["change"]] "enter" 1) "commit" 1
def wB2 : List WS := wB ++ pcs wB "clear" 0
def wDr : List WS := lkds wB2
theorem wB_len : (wB.all fun ws => decide (ws.length ≤ 4)) = true := by decide +kernel
theorem wB2_len : (wB2.all fun ws => decide (ws.length ≤ 4)) = true := by decide +kernel
theorem writer_run {S T : Sto} {Q : D → Sto → Prop} {X : XQ} (hp : PotS S T) (q : ∀ ws S', ws ∈ wDr → PotS S' T → Q (.lst (LS ws)) S') : Rn (m__law_writer_words [.ref 1] S) Q X := by
  refine s_run ?_
  unfold ms__law_writer_words
  refine s_seq <| s_asgN <| g_call <| g_cons <| g_var rfl <| g_cons <| g_lst <| g_cons <| g_c <| g_nil <| g_cons <| g_c <| g_cons <| g_c <| g_nil <| putin_run (ws := ["change"]) (lo := 1) hp (Nat.le_refl _) (by decide) fun a S1 h1 h2 hp => ?_
  have m1 : putIn ["change"] "enter" a ∈ pcs [["change"]] "enter" 1 := mem_pcs (List.mem_singleton.mpr rfl) h1 h2
  generalize he : putIn ["change"] "enter" a = w1 at m1
  have l1 : w1.length = 2 := by rw [← he, putIn_len]; rfl
  refine s_seq <| s_asgN <| g_call <| g_cons <| g_var rfl <| g_cons <| g_var rfl <| g_cons <| g_c <| g_cons <| g_c <| g_nil <| putin_run (lo := 1) hp (by omega) (by omega) fun b S2 h1 h2 hp => ?_
  have m2 : putIn w1 "commit" b ∈ wB := mem_pcs m1 h1 h2
  generalize putIn w1 "commit" b = w2 at m2
  have l2 := len_of wB_len m2
  dsimp only [startD, List.set, List.map, List.replicate, List.append]
  refine s_seq <| s_cut (fun δ S => PotS S T ∧ ∃ w3, w3 ∈ wB2 ∧ δ = [.val (.ref 1), .val (.lst (LS w3))]) ?_ ?_
  · refine s_ifS <| g_test <| g_op <| g_call <| g_cons <| g_var rfl <| g_cons <| g_c <| g_nil <| draw_run hp (by decide) (by decide) fun r S3 h0 h1 hp => g_c <| g_more <| g_bl ?_
    by_cases hr : 0 < r
    · rw [decide_eq_true hr]
      refine g_T <| s_asgN <| g_call <| g_cons <| g_var rfl <| g_cons <| g_var rfl <| g_cons <| g_c <| g_cons <| g_c <| g_nil <| putin_run (lo := 0) hp (by omega) (by omega) fun c S4 h1 h2 hp => ?_
      exact ⟨hp, _, List.mem_append_right _ (mem_pcs m2 h1 h2), rfl⟩
    · rw [decide_eq_false hr]
      exact g_F <| s_next ⟨hp, _, List.mem_append_left _ m2, rfl⟩
  rintro δ S5 ⟨hp, w3, m3, rfl⟩
  dsimp only
  refine s_ret <| g_call <| g_cons <| g_var rfl <| g_cons <| g_var rfl <| g_nil <| locked_run hp m3 (by have := len_of wB2_len m3; omega) fun ws S6 hw hp => q _ _ hw hp
def cB : List WS := [["look", "set"], ["remove", "look", "set"]]
def cB2 : List WS := cB ++ cB.map (fun ws : WS => (ws ++ ([("again" : PySem.Str)] : WS) : WS))
def cDr : List WS := lkds cB2
theorem cB2_len : (cB2.all fun ws => decide (ws.length ≤ 4)) = true := by decide +kernel
theorem cleaner_run {S T : Sto} {Q : D → Sto → Prop} {X : XQ} (hp : PotS S T) (q : ∀ ws S', ws ∈ cDr → PotS S' T → Q (.lst (LS ws)) S') : Rn (m__law_cleaner_words [.ref 1] S) Q X := by
  refine s_run ?_
  unfold ms__law_cleaner_words
  refine s_seq <| s_asgN <| g_lst <| g_cons <| g_c <| g_cons <| g_c <| g_nil ?_
  dsimp only [startD, List.set, List.map, List.replicate, List.append]
  refine s_seq <| s_cut (fun δ S => PotS S T ∧ ∃ w1, w1 ∈ cB ∧ δ = [.val (.ref 1), .val (.lst (LS w1))]) ?_ ?_
  · refine s_ifS <| g_test <| g_op <| g_call <| g_cons <| g_var rfl <| g_cons <| g_c <| g_nil <| draw_run hp (by decide) (by decide) fun r S3 h0 h1 hp => g_c <| g_eqI <| g_bl ?_
    by_cases hr : r = 1
    · rw [decide_eq_true hr]
      refine g_T <| s_asgN <| g_op <| g_lst <| g_cons <| g_c <| g_nil <| g_var rfl <| g_catL (xs := [.str "remove"]) (ys := LS ["look", "set"]) (by show (3 : Nat) ≤ _; decide) ?_
      exact ⟨hp, ["remove", "look", "set"], List.mem_cons_of_mem _ List.mem_cons_self, rfl⟩
    · rw [decide_eq_false hr]
      exact g_F <| s_next ⟨hp, ["look", "set"], List.mem_cons_self, rfl⟩
  rintro δ S4 ⟨hp, w1, m1, rfl⟩
  have l1 : w1.length ≤ 3 := by
    unfold cB at m1
    simp only [List.mem_cons, List.not_mem_nil, or_false] at m1
    rcases m1 with rfl | rfl <;> decide
  dsimp only
  refine s_seq <| s_cut (fun δ S => PotS S T ∧ ∃ w1, w1 ∈ cB2 ∧ δ = [.val (.ref 1), .val (.lst (LS w1))]) ?_ ?_
  · refine s_ifS <| g_test <| g_op <| g_call <| g_cons <| g_var rfl <| g_cons <| g_c <| g_nil <| draw_run hp (by decide) (by decide) fun r S3 h0 h1 hp => g_c <| g_eqI <| g_bl ?_
    by_cases hr : r = 0
    · rw [decide_eq_true hr]
      refine g_T <| s_asgN <| g_op <| g_var rfl <| g_lst <| g_cons <| g_c <| g_nil <| g_catL (by rw [List.length_map]; show _ + 1 ≤ _; omega) ?_
      exact ⟨hp, (w1 ++ [("again" : PySem.Str)] : WS), List.mem_append_right _ (List.mem_map_of_mem m1), by unfold LS; rw [List.map_append]; rfl⟩
    · rw [decide_eq_false hr]
      exact g_F <| s_next ⟨hp, w1, List.mem_append_left _ m1, rfl⟩
  rintro δ S5 ⟨hp, w3, m3, rfl⟩
  dsimp only
  refine s_ret <| g_call <| g_cons <| g_var rfl <| g_cons <| g_var rfl <| g_nil <| locked_run hp m3 (by have := len_of cB2_len m3; omega) fun ws S6 hw hp => q _ _ hw hp
def rB : List WS := pcs [["entry"]] "mark" 0
def rT : List WS := (pcs rB "take" 0).flatMap fun ws => (List.range (ws.length + 1 - (ixW "take" ws + 1))).map fun k => putIn ws "tell" (ixW "take" ws + 1 + k)
def rDr : List WS := (pcs rB "hold" 0 ++ rT).map (fun ws : WS => (ws ++ ([("page" : PySem.Str)] : WS) : WS))
theorem mem_rT {ws : WS} {k : Nat} (h : ws ∈ pcs rB "take" 0) (h1 : ixW "take" ws + 1 ≤ k) (h2 : k ≤ ws.length) : putIn ws "tell" k ∈ rT := by
  unfold rT
  rw [List.mem_flatMap]
  refine ⟨ws, h, List.mem_map.mpr ⟨k - (ixW "take" ws + 1), List.mem_range.mpr (by omega), ?_⟩⟩
  rw [show ixW "take" ws + 1 + (k - (ixW "take" ws + 1)) = k by omega]
theorem reader_run {S T : Sto} {Q : D → Sto → Prop} {X : XQ} (hp : PotS S T) (q : ∀ ws S', ws ∈ rDr → PotS S' T → Q (.lst (LS ws)) S') : Rn (m__law_reader_words [.ref 1] S) Q X := by
  refine s_run ?_
  unfold ms__law_reader_words
  refine s_seq <| s_asgN <| g_call <| g_cons <| g_var rfl <| g_cons <| g_lst <| g_cons <| g_c <| g_nil <| g_cons <| g_c <| g_cons <| g_c <| g_nil <| putin_run (ws := ["entry"]) (lo := 0) hp (by decide) (by decide) fun a S1 h1 h2 hp => ?_
  have m1 : putIn ["entry"] "mark" a ∈ rB := mem_pcs (List.mem_singleton.mpr rfl) h1 h2
  generalize he : putIn ["entry"] "mark" a = w1 at m1
  have l1 : w1.length = 2 := by rw [← he, putIn_len]; rfl
  refine s_seq <| s_ifS <| g_test <| g_op <| g_call <| g_cons <| g_var rfl <| g_cons <| g_c <| g_nil <| draw_run hp (by decide) (by decide) fun r S3 h0 h1 hp => g_c <| g_more <| g_bl ?_
  by_cases hr : 0 < r
  · rw [decide_eq_true hr]
    refine g_T <| s_ret <| g_op <| g_call <| g_cons <| g_var rfl <| g_cons <| g_var rfl <| g_cons <| g_c <| g_cons <| g_c <| g_nil <| putin_run (lo := 0) hp (by omega) (by omega) fun c S4 h1 h2 hp => ?_
    refine page_e (ma := mC .non) (S' := S4) (by rw [putIn_len]; omega) ?_
    exact q _ _ (List.mem_map_of_mem (List.mem_append_left _ (mem_pcs m1 h1 h2))) hp
  · rw [decide_eq_false hr]
    refine g_F <| s_next ?_
    dsimp only
    refine s_seq <| s_asgN <| g_call <| g_cons <| g_var rfl <| g_cons <| g_var rfl <| g_cons <| g_c <| g_cons <| g_c <| g_nil <| putin_run (lo := 0) hp (by omega) (by omega) fun c S4 h1 h2 hp => ?_
    have m2 : putIn w1 "take" c ∈ pcs rB "take" 0 := mem_pcs m1 h1 h2
    have ht := mem_putIn w1 "take" c
    have l2 : (putIn w1 "take" c).length = 3 := by rw [putIn_len]; omega
    generalize putIn w1 "take" c = w2 at m2 ht l2
    have l3 := ixW_lt ht
    refine s_ret <| g_op <| g_call <| g_cons <| g_var rfl <| g_cons <| g_var rfl <| g_cons <| g_c <| g_cons <| g_op <| g_index (ws := w2) rfl rfl ht <| g_c <| g_plusI ?_
    rw [show ((ixW "take" w2 : Nat) : Int) + 1 = ((ixW "take" w2 + 1 : Nat) : Int) by omega]
    refine g_nil <| putin_run (lo := ixW "take" w2 + 1) hp (by omega) (by omega) fun d S5 h1 h2 hp => ?_
    refine page_e (ma := mC .non) (S' := S5) (by rw [putIn_len]; omega) ?_
    exact q _ _ (List.mem_map_of_mem (List.mem_append_right _ (mem_rT m2 h1 h2))) hp
theorem wDr_ok : (wDr.all fun ws => okWr ws && cleanW ws) = true := by decide +kernel
theorem cDr_ok : (cDr.all fun ws => okCl ws && cleanW ws) = true := by decide +kernel
theorem rDr_ok : (rDr.all fun ws => okRd ws && cleanW ws) = true := by decide +kernel

section
variable {δ : MR.Env} {S : Sto} {ma mb mc mo me : ME} {ml : MA} {mt mu : MT} {d e x y z : D} {ds es as : List D}
theorem e_c : mC d δ S = .ok d S := rfl
theorem e_v {i : Nat} (h : δ[i]? = some (.val d)) : mVar i δ S = .ok d S := rn_eq (g_var h ⟨rfl, rfl⟩)
theorem e_op {op : D → D → Sto → Out D} (h1 : ma δ S = .ok x S) (h2 : mb δ S = .ok y S) (h3 : op x y S = .ok z S) : mOp op ma mb δ S = .ok z S := rn_eq <| g_op <| run_eq h1 <| run_eq h2 <| run_eq h3 ⟨rfl, rfl⟩
theorem e_ixL {k : Int} (h1 : ma δ S = .ok (.lst ds) S) (h2 : mb δ S = .ok (.int k) S) (h : atI ds k = some d) : mOp opIx ma mb δ S = .ok d S := rn_eq <| g_op <| run_eq h1 <| run_eq h2 <| g_ix (ds := ds) rfl h ⟨rfl, rfl⟩
theorem e_nil : mNil δ S = .ok [] S := rfl
theorem e_cons (h1 : ma δ S = .ok x S) (h2 : ml δ S = .ok ds S) : mCons ma ml δ S = .ok (x :: ds) S := rn_eq <| g_cons <| run_eq h1 <| run_eq h2 ⟨rfl, rfl⟩
theorem e_lst (h2 : ml δ S = .ok ds S) : mLst ml δ S = .ok (.lst ds) S := rn_eq <| g_lst <| run_eq h2 ⟨rfl, rfl⟩
theorem e_call {n : Nat} {m : MF} (h2 : ml δ S = .ok as S) (h3 : m as S = .ok y S) : mCall n m ml δ S = .ok y S := rn_eq <| g_call <| run_eq h2 <| run_eq h3 ⟨rfl, rfl⟩
theorem e_cb {m : MF} (h2 : ml δ S = .ok as S) (h3 : m as S = .ok y S) : mCB m ml δ S = .ok y S := rn_eq <| g_cb <| run_eq h2 <| run_eq h3 ⟨rfl, rfl⟩
theorem t_test {b : Bool} (h : me δ S = .ok (.bl b) S) : mTest me δ S = .ok b S := rn_eq <| g_test <| run_eq h ⟨_, rfl, rfl, rfl⟩
theorem t_tru {b : Bool} (h : me δ S = .ok (.bl b) S) : mTru me δ S = .ok b S := rn_eq <| g_tru <| run_eq h ⟨_, rfl, rfl, rfl⟩
theorem t_not {b : Bool} (h : mt δ S = .ok b S) : mNot mt δ S = .ok (!b) S := rn_eq <| g_not <| run_eq h ⟨rfl, rfl⟩
theorem t_and {a b : Bool} (h : mt δ S = .ok a S) (g : a = true → mu δ S = .ok b S) : mAnd mt mu δ S = .ok (a && b) S := by
  cases a with
  | true => exact rn_eq <| g_and <| run_eq h <| g_T <| run_eq (g rfl) ⟨rfl, rfl⟩
  | false => exact rn_eq <| g_and <| run_eq h <| g_F ⟨rfl, rfl⟩
theorem t_or {a b : Bool} (h : mt δ S = .ok a S) (g : a = false → mu δ S = .ok b S) : mOr mt mu δ S = .ok (a || b) S := by
  cases a with
  | true => exact rn_eq <| g_or <| run_eq h <| g_T ⟨rfl, rfl⟩
  | false => exact rn_eq <| g_or <| run_eq h <| g_F <| run_eq (g rfl) ⟨rfl, rfl⟩
theorem e_andV {a b : Bool} (h : ma δ S = .ok (.bl a) S) (g : a = true → mb δ S = .ok (.bl b) S) : mAndV ma mb δ S = .ok (.bl (a && b)) S := by
  cases a with
  | true => exact rn_eq <| g_andV <| run_eq h ⟨_, rfl, g_T <| run_eq (g rfl) ⟨rfl, rfl⟩⟩
  | false => exact rn_eq <| g_andV <| run_eq h ⟨_, rfl, g_F ⟨rfl, rfl⟩⟩
theorem o_eqS {a b : PySem.Str} : opEq false (.str a) (.str b) S = .ok (.bl (decide (a = b))) S := rn_eq (g_eqS ⟨rfl, rfl⟩)
theorem o_eqI {i j : Int} : opEq false (.int i) (.int j) S = .ok (.bl (decide (i = j))) S := rn_eq (g_eqI ⟨rfl, rfl⟩)
theorem o_neI {i j : Int} : opEq true (.int i) (.int j) S = .ok (.bl (!decide (i = j))) S := rn_eq (g_neI ⟨rfl, rfl⟩)
theorem s_if {b : Bool} {ms mus : MS} {P : EndP} (h : mt δ S = .ok b S) (h1 : b = true → RunS (ms δ S) P) (h2 : b = false → RunS (mus δ S) P) : RunS (mIfS mt ms mus δ S) P := by
  cases b with
  | true => exact s_ifS (run_eq h (g_T (h1 rfl)))
  | false => exact s_ifS (run_eq h (g_F (h2 rfl)))
end

def TS (ws : WS) : D := .tup (LS ws)
def shortW (n : Nat) (ws : WS) : Prop := ws.length ≤ n ∧ ∀ x ∈ ws, okw x = true
theorem okw_len {x : PySem.Str} (h : okw x = true) : x.length ≤ 10 ∧ 32 ∉ TL.tl x := by
  unfold okw at h
  simp only [Bool.and_eq_true, decide_eq_true_eq, List.all_eq_true] at h
  exact ⟨h.1, fun z => h.2.1 32 z rfl⟩
theorem short_sum {n : Nat} {ws : WS} (h : shortW n ws) : (ws.map (·.length)).sum ≤ 10 * n := Nat.le_trans (clean_sum fun x hx => (okw_len (h.2 x hx)).1) (Nat.mul_le_mul_left 10 h.1)
theorem short_J {n : Nat} {ws : WS} (h : shortW n ws) : (J ws).length ≤ 11 * n := by
  have := short_sum h
  have h1 := J_len ws
  have h2 := h.1
  omega
theorem join_s {n : Nat} (hn : n ≤ 50) {ws : WS} (h : shortW n ws) (S : Sto) : opJoin (.str " ") (.lst (LS ws)) S = .ok (.str (J ws)) S := by
  have h2 := short_sum h
  have h3 := h.1
  have e : (seqOf S (.lst (LS ws))).bind strsOf = some ws := strs_LS ws
  unfold opJoin
  rw [e]
  dsimp only
  have : (" " : PySem.Str).length = 1 := by decide +kernel
  rw [this, if_pos (by omega)]
  rfl
theorem join_ts {n : Nat} (hn : n ≤ 50) {ws : WS} (h : shortW n ws) (S : Sto) : opJoin (.str " ") (TS ws) S = .ok (.str (J ws)) S := by
  have h2 := short_sum h
  have h3 := h.1
  have e : (seqOf S (TS ws)).bind strsOf = some ws := strs_LS ws
  unfold opJoin
  rw [e]
  dsimp only
  have : (" " : PySem.Str).length = 1 := by decide +kernel
  rw [this, if_pos (by omega)]
  rfl
def mixW (L : List WS) : WS → List WS
  | [] => L
  | w :: ws => mixW (L.flatMap fun r => (List.range (r.length + 1)).map fun k => putIn r w k) ws
theorem mix_mem : ∀ {rest : WS} {L : List WS} {n : Nat} {P : PySem.Str → Prop}, (∀ r ∈ L, r.length = n ∧ ∀ x ∈ r, P x) → (∀ x ∈ rest, P x) → ∀ r ∈ mixW L rest, r.length = n + rest.length ∧ ∀ x ∈ r, P x
  | [], L, n, P, h, _, r, hr => h r hr
  | w :: ws, L, n, P, h, h2, r, hr => by
    have := mix_mem (rest := ws) (n := n + 1) (P := P) (fun q hq => by
      obtain ⟨r0, hr0, hk⟩ := List.mem_flatMap.mp hq
      obtain ⟨k, _, rfl⟩ := List.mem_map.mp hk
      obtain ⟨h3, h4⟩ := h r0 hr0
      refine ⟨by rw [putIn_len, h3], fun x hx => ?_⟩
      unfold putIn at hx
      rcases List.mem_append.mp hx with hx | hx
      · rcases List.mem_append.mp hx with hx | hx
        · exact h4 x (List.mem_of_mem_take hx)
        · rw [List.mem_singleton.mp hx]; exact h2 w List.mem_cons_self
      · exact h4 x (List.mem_of_mem_drop hx)) (fun x hx => h2 x (List.mem_cons_of_mem _ hx)) r hr
    rw [List.length_cons]
    exact ⟨by omega, this.2⟩
theorem step_len {L : List WS} {w : PySem.Str} {n : Nat} (h : ∀ r ∈ L, r.length = n) : (L.flatMap fun r => (List.range (r.length + 1)).map fun k => putIn r w k).length = L.length * (n + 1) := by
  induction L with
  | nil => simp
  | cons r L ih =>
    rw [List.flatMap_cons, List.length_append, ih fun x hx => h x (List.mem_cons_of_mem _ hx), List.length_map, List.length_range, h r List.mem_cons_self, List.length_cons, Nat.succ_mul]
    omega
theorem flatMap_cong {α β : Type} {f g : α → List β} : ∀ {l : List α}, (∀ x ∈ l, f x = g x) → l.flatMap f = l.flatMap g
  | [], _ => rfl
  | x :: l, h => by rw [List.flatMap_cons, List.flatMap_cons, h x List.mem_cons_self, flatMap_cong (l := l) fun y hy => h y (List.mem_cons_of_mem _ hy)]
theorem g_tupS {ml : MA} {δ : MR.Env} {S : Sto} {Q : D → Sto → Prop} {X : XQ} (q : Rn (ml δ S) (fun ds S => ds.length ≤ 16777216 ∧ Q (.tup ds) S) X) : Rn (mTupS ml δ S) Q X :=
  run_bnd' (run_mono q (fun ds S h => by rw [if_pos h.1]; exact h.2) fun _ _ _ _ z => z)
def putD (w : PySem.Str) (d e : D) : D := match d, e with
  | .tup ds, .int k => .tup (ds.take k.toNat ++ .str w :: ds.drop k.toNat)
  | _, _ => .non
theorem putD_e (w : PySem.Str) (r : WS) (k : Nat) : putD w (TS r) (.int (k : Int)) = TS (putIn r w k) := by
  unfold putD TS putIn LS
  dsimp only
  rw [Int.toNat_natCast, List.map_append, List.map_append, List.map_take, List.map_drop]
  simp
theorem rng_row {r : WS} {n : Nat} {δ : MR.Env} {S : Sto} (hrn : r.length = n) (hn : n ≤ 1000) (h4 : δ[4]? = some (.val (TS r))) : mIRng1 (mCons (mOp opPlus (mCB fLen (mCons (mVar 4) mNil)) (mC (.int 1))) mNil) δ S = .ok (rngD 0 (n + 1)) S := by
  have e0 : fLen [TS r] S = .ok (.int (n : Nat)) S := by
    rw [← hrn, ← List.length_map (f := D.str)]; rfl
  have e5 : opPlus (.int (n : Nat)) (.int 1) S = .ok (.int ((n : Int) + 1)) S := rfl
  have ea : (mCons (mOp opPlus (mCB fLen (mCons (mVar 4) mNil)) (mC (.int 1))) mNil) δ S = .ok [.int ((n : Int) + 1)] S := by
    refine e_cons (e_op (x := .int (n : Nat)) (y := .int 1) ?_ ?_ e5) e_nil
    · exact e_cb (as := [TS r]) (e_cons (e_v h4) e_nil) e0
    · exact e_c
  refine rn_eq (g_rng1 ?_)
  refine run_eq ea ⟨_, rfl, by omega, by omega, ?_⟩
  rw [show ((n : Int) + 1).toNat = n + 1 by omega]
  exact ⟨rfl, rfl⟩
theorem mixstep_e {L : List WS} {w : PySem.Str} {n : Nat} {δ : MR.Env} {S : Sto} (hL : ∀ r ∈ L, r.length = n) (hn : n ≤ 20) (hl : L.length ≤ 4000) (h2 : δ[2]? = some (.val (.lst (L.map TS)))) (h3 : δ[3]? = some (.val (.str w))) (hd : δ.length = 6) (ho : δ.all notOwn = true) :
    mLc2 (mIList (mVar 2)) (mGName 4) mYes (mIRng1 (mCons (mOp opPlus (mCB fLen (mCons (mVar 4) mNil)) (mC (.int 1))) mNil)) (mGName 5) mYes (mTupS (mStar (mSl slT (mVar 4) mNoPart (mPart (mVar 5))) (mCons (mVar 3) (mStar (mSl slT (mVar 4) (mPart (mVar 5)) mNoPart) mNil)))) [4, 5] [5] δ S
     = .ok (.lst ((L.flatMap fun r => (List.range (r.length + 1)).map fun k => putIn r w k).map TS)) S := by
  match δ, hd with
  | [d0, d1, d2, d3, d4, d5], _ =>
    obtain rfl : d2 = .val (.lst (L.map TS)) := by injection h2
    obtain rfl : d3 = .val (.str w) := by injection h3
    simp only [List.all_cons, List.all_nil, Bool.and_true, Bool.and_eq_true] at ho
    refine rn_eq <| g_lc2 <| g_iList <| g_var rfl ⟨_, .inl rfl, by rw [List.length_map]; exact hl, ?_⟩
    refine run_eq (lc2_pure (es := rngD 0 (n + 1)) (f := putD w) (by unfold rngD; rw [List.length_map, List.length_range]; omega) fun d hd => ?_) ?_
    · obtain ⟨r, hr, rfl⟩ := List.mem_map.mp hd
      have hrn := hL r hr
      refine ⟨[d0, d1, .val (.lst (L.map TS)), .val (.str w), .val (TS r), .no], rfl, rfl, ?_, ?_, fun e he => ?_⟩
      · exact rng_row hrn (by omega) rfl
      · show ((notOwn d0 && (notOwn d1 && (true && (true && (true && true))))) = true)
        rw [ho.1, ho.2.1]; rfl
      · rw [rng0] at he
        obtain ⟨k, hk, rfl⟩ := List.mem_map.mp he
        refine ⟨[d0, d1, .val (.lst (L.map TS)), .val (.str w), .val (TS r), .val (.int (k : Int))], rfl, rfl, ?_⟩
        have e1 : (mSl slT (mVar 4) mNoPart (mPart (mVar 5))) [d0, d1, .val (.lst (L.map TS)), .val (.str w), .val (TS r), .val (.int (k : Int))] S = .ok (.tup ((LS r).take k)) S := by
          show Out.ok (D.tup (cutD (LS r) none (some (k : Int)))) S = _
          rw [cut_take0]
        have e2 : (mSl slT (mVar 4) (mPart (mVar 5)) mNoPart) [d0, d1, .val (.lst (L.map TS)), .val (.str w), .val (TS r), .val (.int (k : Int))] S = .ok (.tup ((LS r).drop k)) S := by
          show Out.ok (D.tup (cutD (LS r) (some (k : Int)) none)) S = _
          rw [cut_drop0]
        refine rn_eq <| g_tupS <| g_starT <| run_eq e1 ⟨_, .inl rfl, g_cons <| g_var rfl <| g_starT <| run_eq e2 ⟨_, .inl rfl, g_nil ?_⟩⟩
        have e3 : (LS r).length ≤ 20 := by rw [List.length_map]; omega
        refine ⟨?_, ?_⟩
        · simp only [List.length_append, List.length_cons, List.length_take, List.length_drop, List.append_nil]; omega
        · rw [List.append_nil]
          show _ = D.tup ((LS r).take (Int.toNat (k : Int)) ++ .str w :: (LS r).drop (Int.toNat (k : Int))) ∧ _
          rw [Int.toNat_natCast]
          exact ⟨rfl, rfl⟩
    · refine ⟨?_, rfl⟩
      congr 1
      rw [List.flatMap_map, List.map_flatMap]
      refine flatMap_cong fun r hr => ?_
      rw [hL r hr, rng0, List.map_map, List.map_map]
      exact List.map_congr_left fun k _ => putD_e w r k
def mixB : List WS → Nat → WS → Prop
  | _, _, [] => True
  | L, n, w :: ws => L.length ≤ 4000 ∧ n ≤ 20 ∧ mixB (L.flatMap fun r => (List.range (r.length + 1)).map fun k => putIn r w k) (n + 1) ws
theorem mixed_e {ws rest : WS} {S : Sto} (hB : mixB [ws] ws.length rest) : m_mixed [TS ws, TS rest] S = .ok (.lst ((mixW [ws] rest).map TS)) S := by
  refine rn_eq (s_run ?_)
  unfold ms_mixed
  refine s_seq <| s_asgN <| g_lst <| g_cons <| g_cb <| g_cons <| g_var rfl <| g_nil <| g_tupleT (ds := LS ws) <| g_nil ?_
  refine s_seq <| s_for <| g_iTup <| g_var rfl ⟨LS rest, rfl, ?_⟩
  refine s_loop (fun ds δ S' => S' = S ∧ ∃ (r : WS) (L : List WS) (n : Nat) (v3 v4 v5 : Slot), ds = LS r ∧ δ = [.val (TS ws), .val (TS rest), .val (.lst (L.map TS)), v3, v4, v5] ∧ (v3 |> notOwn) = true ∧ notOwn v4 = true ∧ notOwn v5 = true ∧ (∀ x ∈ L, x.length = n) ∧ mixB L n r ∧ mixW L r = mixW [ws] rest) ?_ ?_ _ _ _ ⟨rfl, rest, [ws], ws.length, _, _, _, rfl, rfl, rfl, rfl, rfl, fun x hx => by rw [List.mem_singleton.mp hx], hB, rfl⟩
  · rintro d ds δ S' ⟨rfl, r, L, n, v3, v4, v5, e, rfl, o3, o4, o5, hn, hb, hm⟩
    match r, e with
    | w :: r, e =>
      obtain ⟨rfl, rfl⟩ := List.cons.inj e
      refine ⟨_, rfl, ?_⟩
      refine s_asgN <| run_eq (mixstep_e hn hb.2.1 hb.1 rfl rfl rfl ?_) ?_
      · show (true && (true && (true && (true && (notOwn v4 && (notOwn v5 && true)))))) = true
        rw [o4, o5]; rfl
      refine ⟨rfl, r, _, n + 1, _, _, _, rfl, rfl, rfl, o4, o5, fun x hx => ?_, hb.2.2, hm⟩
      obtain ⟨r0, hr0, hk⟩ := List.mem_flatMap.mp hx
      obtain ⟨k, _, rfl⟩ := List.mem_map.mp hk
      rw [putIn_len, hn r0 hr0]
  · rintro δ S' ⟨rfl, r, L, n, v3, v4, v5, e, rfl, o3, o4, o5, hn, hb, hm⟩
    match r, e with
    | [], _ =>
      dsimp only
      refine s_ret <| g_var rfl ?_
      have hm : L = _ := hm
      rw [hm]
      exact ⟨rfl, rfl⟩

theorem gthen_e {a b : MGn} {δ δ1 : MR.Env} {Y Y1 : List D} {S : Sto} {o : Out GFl} (h : a δ Y S = .ok (.nx δ1 Y1) S) (h2 : b δ1 Y1 S = o) : mGThen a b δ Y S = o := by
  unfold mGThen
  rw [h]
  exact h2
theorem gfor_e {mi : MA} {mg : MG} {ms : MGn} {δ : MR.Env} {Y ds : List D} {S : Sto} {o : Out GFl} (h : mi δ S = .ok ds S) (h2 : mGLoop mg ms ds δ Y S = o) : mGFor mi mg ms δ Y S = o := by
  unfold mGFor
  rw [h]
  exact h2
theorem gyield_e {me : ME} {δ : MR.Env} {Y : List D} {S : Sto} {d : D} (hl : Y.length < 1000000) (h : me δ S = .ok d S) : mGYield me δ Y S = .ok (.nx δ (Y ++ [d])) S := by
  unfold mGYield
  rw [if_pos hl, h]
  rfl
theorem s_extend {i : Nat} {b : Bool} {ds es : List D} {me : ME} {δ : MR.Env} {S : Sto} {P : EndP} (h : δ[i]? = some (.own b (.lst ds))) (e : me δ S = .ok (.lst es) S) (hl : ds.length + es.length ≤ 16777216) (q : P.nx (δ.set i (.own b (.lst (ds ++ es)))) S) : RunS (mExtend i me δ S) P := by
  unfold mExtend
  rw [h]
  dsimp only
  rw [e]
  show RunS (if ds.length + es.length ≤ 16777216 then _ else _) P
  rw [if_pos hl]
  exact q
def mixN : Nat → Nat → Nat → Bool
  | m, _, 0 => decide (m ≤ 4000)
  | m, n, k + 1 => decide (m ≤ 4000) && (decide (n ≤ 20) && mixN (m * (n + 1)) (n + 1) k)
theorem mixB_of : ∀ {ws : WS} {L : List WS} {m n : Nat}, (∀ r ∈ L, r.length = n) → L.length = m → mixN m n ws.length = true → mixB L n ws ∧ (mixW L ws).length ≤ 4000
  | [], L, m, n, h, hl, hm => ⟨trivial, by subst hl; exact of_decide_eq_true hm⟩
  | w :: ws, L, m, n, h, hl, hm => by
    have hm : (decide (m ≤ 4000) && (decide (n ≤ 20) && mixN (m * (n + 1)) (n + 1) ws.length)) = true := hm
    simp only [Bool.and_eq_true, decide_eq_true_eq] at hm
    have := mixB_of (ws := ws) (L := L.flatMap fun r => (List.range (r.length + 1)).map fun k => putIn r w k) (n := n + 1) (fun x hx => by
      obtain ⟨r0, hr0, hk⟩ := List.mem_flatMap.mp hx
      obtain ⟨k, _, rfl⟩ := List.mem_map.mp hk
      rw [putIn_len, h r0 hr0]) (by rw [step_len h, hl]) hm.2.2
    exact ⟨⟨by omega, hm.2.1, this.1⟩, this.2⟩
def rowsOf (ok : WS → Bool) (nd some : WS) : List WS := (mixW [nd.take 1] (nd.drop 1 ++ some)).filter ok
def allOf (ok : WS → Bool) (nd : WS) (free : List WS) : List WS := free.flatMap (rowsOf ok nd)
structure Nd (nd : WS) (free : List WS) : Prop where
  l1 : 1 ≤ nd.length
  l2 : nd.length ≤ 4
  w : ∀ x ∈ nd, okw x = true
  f : ∀ s ∈ free, s.length ≤ 4 ∧ ∀ x ∈ s, okw x = true
  n : ∀ s ∈ free, mixN 1 1 (nd.length - 1 + s.length) = true
  k : free.length ≤ 50
theorem Nd.mix {nd : WS} {free : List WS} (h : Nd nd free) {s : WS} (hs : s ∈ free) : mixB [nd.take 1] (nd.take 1).length (nd.drop 1 ++ s) ∧ (mixW [nd.take 1] (nd.drop 1 ++ s)).length ≤ 4000 := by
  have e : (nd.take 1).length = 1 := by rw [List.length_take]; have := h.l1; omega
  refine mixB_of (fun r hr => by rw [List.mem_singleton.mp hr]) rfl ?_
  rw [e, List.length_append, List.length_drop]
  exact h.n s hs
theorem Nd.row {nd : WS} {free : List WS} (h : Nd nd free) {s r : WS} (hs : s ∈ free) (hr : r ∈ mixW [nd.take 1] (nd.drop 1 ++ s)) : shortW 8 r ∧ r ≠ [] := by
  have e : (nd.take 1).length = 1 := by rw [List.length_take]; have := h.l1; omega
  have h1 := mix_mem (n := 1) (P := fun x => okw x = true) (fun q hq => by
    rw [List.mem_singleton.mp hq]
    exact ⟨e, fun x hx => h.w x (List.mem_of_mem_take hx)⟩) (fun x hx => by
    rcases List.mem_append.mp hx with hx | hx
    · exact h.w x (List.mem_of_mem_drop hx)
    · exact (h.f s hs).2 x hx) r hr
  have h2 := (h.f s hs).1
  have h3 := h.l2
  rw [List.length_append, List.length_drop] at h1
  refine ⟨⟨by omega, h1.2⟩, fun z => ?_⟩
  rw [z, List.length_nil] at h1
  omega
theorem Nd.split {nd : WS} {free : List WS} (h : Nd nd free) {s r : WS} (hs : s ∈ free) (hr : r ∈ mixW [nd.take 1] (nd.drop 1 ++ s)) : Txt.split (J r) " " = r :=
  splitJ (h.row hs hr).2 fun x hx => (okw_len ((h.row hs hr).1.2 x hx)).2
theorem Nd.all {ok : WS → Bool} {nd : WS} {free : List WS} (h : Nd nd free) {r : WS} (hr : r ∈ allOf ok nd free) : shortW 8 r ∧ r ≠ [] ∧ ok r = true ∧ Txt.split (J r) " " = r := by
  obtain ⟨s, hs, hr⟩ := List.mem_flatMap.mp hr
  obtain ⟨h1, h2⟩ := List.mem_filter.mp hr
  exact ⟨(h.row hs h1).1, (h.row hs h1).2, h2, h.split hs h1⟩
theorem lsJ (L : List WS) : LS (L.map J) = L.map fun r => D.str (J r) := by unfold LS; rw [List.map_map]; rfl
theorem all_len {ok : WS → Bool} {nd : WS} : ∀ {free : List WS}, (∀ s ∈ free, (mixW [nd.take 1] (nd.drop 1 ++ s)).length ≤ 4000) → (allOf ok nd free).length ≤ 4000 * free.length
  | [], _ => Nat.le_refl _
  | s :: free, h => by
    have ih := all_len (ok := ok) (nd := nd) (free := free) fun x hx => h x (List.mem_cons_of_mem _ hx)
    unfold allOf at ih ⊢
    rw [List.flatMap_cons, List.length_append, List.length_cons]
    have h1 : (rowsOf ok nd s).length ≤ 4000 := by
      unfold rowsOf
      exact Nat.le_trans (List.length_filter_le _ _) (h s List.mem_cons_self)
    omega
theorem sortT_e {ss : WS} {S : Sto} (h : ss.length ≤ 100000) : fSortedT [.lst (LS ss)] S = .ok (.lst (LS (sortS ss))) S := by
  have e : (listOf S (.lst (LS ss))).bind txOf = some ss := by
    show txOf (LS ss) = some ss
    induction ss with
    | nil => rfl
    | cons s ss ih =>
      show (txOf (LS ss)).map (s :: ·) = _
      rw [ih (by rw [List.length_cons] at h; omega)]
      rfl
  show (match (MR.listOf S (.lst (LS ss))).bind txOf with | some ss => if ss.length ≤ 100000 then Out.ok (D.lst ((sortS ss).map D.str)) S else Out.bad | none => Out.bad) = _
  rw [e]
  dsimp only
  rw [if_pos h]
theorem texts_e {ok : WS → Bool} {m : MF} {c : Nat} {δ : MR.Env} {S : Sto} {L : List WS} (hm : ([(0, m_is_writer), (1, m_is_cleaner), (2, m_is_reader)] : List (Nat × MF)).lookup c = some m) (hk : ∀ (s : PySem.Str) (S : Sto), s.length ≤ 900 → m [.str s] S = .ok (.bl (ok (Txt.split s " "))) S) (hL : ∀ r ∈ L, shortW 8 r ∧ Txt.split (J r) " " = r)
    (h2 : δ[2]? = some (.val (.cls c))) (h5 : δ[5]? = some (.val (.lst (L.map TS)))) (hd : δ.length = 8) :
    mLc (mIList (mLc (mIList (mVar 5)) (mGName 7) mYes (mM1 opJoin (mC (.str " ")) (mVar 7)) [7])) (mGName 6) (mTru (mCallV 2 1 [(0, m_is_writer), (1, m_is_cleaner), (2, m_is_reader)] (mCons (mVar 6) mNil))) (mVar 6) [6] δ S
     = .ok (.lst ((L.filter ok).map fun r => D.str (J r))) S := by
  match δ, hd with
  | [d0, d1, d2, d3, d4, d5, d6, d7], _ =>
    obtain rfl : d2 = .val (.cls c) := by injection h2
    obtain rfl : d5 = .val (.lst (L.map TS)) := by injection h5
    have e1 : mLc (mIList (mVar 5)) (mGName 7) mYes (mM1 opJoin (mC (.str " ")) (mVar 7)) [7] [d0, d1, .val (.cls c), d3, d4, .val (.lst (L.map TS)), d6, d7] S = .ok (.lst (L.map fun r => D.str (J r))) S := by
      refine rn_eq <| g_lc <| run_eq (rn_eq <| g_iList <| g_var rfl ⟨_, .inl rfl, rfl, rfl⟩ : mIList (mVar 5) _ S = .ok (L.map TS) S) ?_
      refine run_eq (lcl_map (g := TS) (c := fun _ => true) (f := fun r => D.str (J r)) fun r hr => ⟨[d0, d1, .val (.cls c), d3, d4, .val (.lst (L.map TS)), d6, .val (TS r)], rfl, rfl, fun _ => ?_⟩) ?_
      · show opJoin (.str " ") (TS r) S = _
        exact join_ts (n := 8) (by decide) (hL r hr).1 S
      · rw [List.filter_eq_self.mpr fun _ _ => rfl]
        exact ⟨rfl, rfl⟩
    have e2 : mIList (mLc (mIList (mVar 5)) (mGName 7) mYes (mM1 opJoin (mC (.str " ")) (mVar 7)) [7]) [d0, d1, .val (.cls c), d3, d4, .val (.lst (L.map TS)), d6, d7] S = .ok (L.map fun r => D.str (J r)) S := rn_eq <| g_iList <| run_eq e1 ⟨_, .inl rfl, rfl, rfl⟩
    refine rn_eq <| g_lc <| run_eq e2 ?_
    refine run_eq (lcl_map (g := fun r => D.str (J r)) (c := ok) (f := fun r => D.str (J r)) fun r hr => ⟨[d0, d1, .val (.cls c), d3, d4, .val (.lst (L.map TS)), .val (.str (J r)), d7], rfl, ?_, fun _ => rfl⟩) ⟨rfl, rfl⟩
    refine t_tru ?_
    show (match ([(0, m_is_writer), (1, m_is_cleaner), (2, m_is_reader)] : List (Nat × MF)).lookup c with | some m => bnd (Out.ok [D.str (J r)] S) fun ds S => m ds S | none => .bad) = _
    rw [hm]
    show m [.str (J r)] S = _
    have := short_J (hL r hr).1
    rw [hk _ _ (by omega), (hL r hr).2]
theorem listed_e {ok : WS → Bool} {m : MF} {c : Nat} {S : Sto} {nd : WS} {free : List WS} {fd : D} (hm : ([(0, m_is_writer), (1, m_is_cleaner), (2, m_is_reader)] : List (Nat × MF)).lookup c = some m) (hk : ∀ (s : PySem.Str) (S : Sto), s.length ≤ 900 → m [.str s] S = .ok (.bl (ok (Txt.split s " "))) S)
    (hN : Nd nd free) (hfd : fd = .lst (free.map TS) ∨ fd = .tup (free.map TS)) (hl : (allOf ok nd free).length ≤ 100000) : m_listed [TS nd, fd, .cls c] S = .ok (.lst (LS (sortS ((allOf ok nd free).map J)))) S := by
  refine rn_eq (s_run ?_)
  unfold ms_listed
  have hi : mILT (mVar 1) [.val (TS nd), .val fd, .val (.cls c), .own false (.lst []), .no, .no, .no, .no] S = .ok (free.map TS) S := by
    unfold mILT
    rw [e_v (d := fd) rfl]
    rcases hfd with rfl | rfl <;> rfl
  refine s_seq <| s_asgO <| run_eq (e_lst e_nil) ?_
  refine s_seq <| s_for <| run_eq hi ?_
  refine s_loop (fun ds δ S' => S' = S ∧ ∃ (pre post : List WS) (v4 v5 v6 v7 : Slot), ds = post.map TS ∧ free = pre ++ post ∧ δ = [.val (TS nd), .val fd, .val (.cls c), .own false (.lst ((allOf ok nd pre).map fun r => D.str (J r))), v4, v5, v6, v7]) ?_ ?_ _ _ _ ⟨rfl, [], free, _, _, _, _, rfl, rfl, rfl⟩
  · rintro d ds δ S' ⟨rfl, pre, post, v4, v5, v6, v7, e, ef, rfl⟩
    match post, e with
    | s :: post, e =>
      obtain ⟨rfl, rfl⟩ := List.cons.inj e
      have hs : s ∈ free := by rw [ef]; exact List.mem_append_right _ List.mem_cons_self
      have hmx := hN.mix hs
      refine ⟨[.val (TS nd), .val fd, .val (.cls c), .own false (.lst ((allOf ok nd pre).map fun r => D.str (J r))), .val (TS s), v5, v6, v7], rfl, ?_⟩
      have a1 : (mCons (mSl slT (mVar 0) mNoPart (mPart (mC (.int 1)))) (mCons (mTupS (mStar (mSl slT (mVar 0) (mPart (mC (.int 1))) mNoPart) (mStar (mVar 4) mNil))) mNil)) [.val (TS nd), .val fd, .val (.cls c), .own false (.lst ((allOf ok nd pre).map fun r => D.str (J r))), .val (TS s), v5, v6, v7] S' = .ok [TS (nd.take 1), TS (nd.drop 1 ++ s)] S' := by
        refine e_cons ?_ (e_cons ?_ e_nil)
        · show Out.ok (D.tup (cutD (LS nd) none (some ((1 : Nat) : Int)))) S' = _
          rw [cut_take0]
          unfold TS LS
          rw [List.map_take]
        · have e2 : (mSl slT (mVar 0) (mPart (mC (.int 1))) mNoPart) [.val (TS nd), .val fd, .val (.cls c), .own false (.lst ((allOf ok nd pre).map fun r => D.str (J r))), .val (TS s), v5, v6, v7] S' = .ok (.tup ((LS nd).drop 1)) S' := by
            show Out.ok (D.tup (cutD (LS nd) (some ((1 : Nat) : Int)) none)) S' = _
            rw [cut_drop0]
          refine rn_eq <| g_tupS <| g_starT <| run_eq e2 ⟨_, .inl rfl, g_starT <| run_eq (e_v (d := TS s) rfl) ⟨LS s, .inl rfl, g_nil ?_⟩⟩
          have h1 := hN.l2
          have h2 := (hN.f s hs).1
          refine ⟨?_, ?_⟩
          · rw [List.length_append, List.length_append, List.length_drop, List.length_map, List.length_map, List.length_nil]; omega
          · rw [List.append_nil]
            unfold TS LS
            rw [List.map_append, List.map_drop]
            exact ⟨rfl, rfl⟩
      refine s_seq <| s_asgN <| run_eq (e_call a1 (mixed_e hmx.1)) ?_
      dsimp only [List.set]
      have a2 := texts_e (δ := [.val (TS nd), .val fd, .val (.cls c), .own false (.lst ((allOf ok nd pre).map fun r => D.str (J r))), .val (TS s), .val (.lst ((mixW [nd.take 1] (nd.drop 1 ++ s)).map TS)), v6, v7]) (S := S') hm hk (fun r hr => ⟨(hN.row hs hr).1, hN.split hs hr⟩) rfl rfl rfl
      refine s_extend rfl a2 ?_ ?_
      · rw [List.length_map, List.length_map]
        have h1 := all_len (ok := ok) (nd := nd) (free := pre) fun x hx => (hN.mix (by rw [ef]; exact List.mem_append_left _ hx)).2
        have h2 := hN.k
        rw [ef, List.length_append] at h2
        have h3 := List.length_filter_le ok (mixW [nd.take 1] (nd.drop 1 ++ s))
        have := hmx.2
        omega
      · refine ⟨rfl, pre ++ [s], post, .val (TS s), .val (.lst ((mixW [nd.take 1] (nd.drop 1 ++ s)).map TS)), v6, v7, rfl, by rw [ef]; simp, ?_⟩
        dsimp only [List.set]
        have e3 : allOf ok nd (pre ++ [s]) = allOf ok nd pre ++ (mixW [nd.take 1] (nd.drop 1 ++ s)).filter ok := by
          unfold allOf
          rw [List.flatMap_append, List.flatMap_cons, List.flatMap_nil, List.append_nil]
          rfl
        rw [e3, List.map_append]
  · rintro δ S' ⟨rfl, pre, post, v4, v5, v6, v7, e, ef, rfl⟩
    match post, e with
    | [], _ =>
      rw [List.append_nil] at ef
      subst ef
      dsimp only
      have e4 : mLc (mIList (mPeek 3)) (mGName 6) mYes (mCB fStrS (mCons (mVar 6) mNil)) [6] [.val (TS nd), .val fd, .val (.cls c), .own false (.lst ((allOf ok nd free).map fun r => D.str (J r))), v4, v5, v6, v7] S' = .ok (.lst (LS ((allOf ok nd free).map J))) S' := by
        have e5 : mIList (mPeek 3) (mwipe [.val (TS nd), .val fd, .val (.cls c), .own false (.lst ((allOf ok nd free).map fun r => D.str (J r))), v4, v5, v6, v7] []) S' = .ok ((allOf ok nd free).map fun r => D.str (J r)) S' := rfl
        refine rn_eq <| g_lc <| run_eq e5 ?_
        refine run_eq (lcl_map (g := fun r => D.str (J r)) (c := fun _ => true) (f := fun r => D.str (J r)) fun r hr => ⟨_, rfl, rfl, fun _ => rfl⟩) ?_
        rw [List.filter_eq_self.mpr fun _ _ => rfl, lsJ]
        exact ⟨rfl, rfl⟩
      refine s_ret <| run_eq (e_cb (e_cons e4 e_nil) (sortT_e ?_)) ⟨rfl, rfl⟩
      rw [List.length_map]; exact hl

def arr : Nat → WS → List WS
  | 0, _ => [[]]
  | n + 1, ks => [] :: ks.flatMap fun k => (arr n (ks.filter fun x => decide (x ≠ k))).map (k :: ·)
theorem arr_mem : ∀ {n : Nat} {ks v : WS}, v.Nodup → (∀ x ∈ v, x ∈ ks) → v.length ≤ n → v ∈ arr n ks
  | 0, ks, v, _, _, hl => by
    match v, hl with
    | [], _ => exact List.mem_cons_self
  | n + 1, ks, [], _, _, _ => List.mem_cons_self
  | n + 1, ks, k :: v, hn, hm, hl => by
    obtain ⟨h1, h2⟩ := List.nodup_cons.mp hn
    refine List.mem_cons_of_mem _ (List.mem_flatMap.mpr ⟨k, hm k List.mem_cons_self, List.mem_map.mpr ⟨v, arr_mem h2 (fun x hx => ?_) (by rw [List.length_cons] at hl; omega), rfl⟩⟩)
    refine List.mem_filter.mpr ⟨hm x (List.mem_cons_of_mem _ hx), decide_eq_true fun z => h1 (z ▸ hx)⟩
theorem nodup_le : ∀ {v ks : WS}, v.Nodup → (∀ x ∈ v, x ∈ ks) → v.length ≤ ks.length
  | [], ks, _, _ => Nat.zero_le _
  | k :: v, ks, hn, hm => by
    obtain ⟨h1, h2⟩ := List.nodup_cons.mp hn
    have ih := nodup_le (v := v) (ks := ks.erase k) h2 fun x hx => (List.mem_erase_of_ne (a := x) (b := k) (fun z : x = k => h1 (z ▸ hx))).mpr (hm x (List.mem_cons_of_mem _ hx))
    have hk := hm k List.mem_cons_self
    rw [List.length_erase_of_mem hk] at ih
    have := List.length_pos_of_mem hk
    rw [List.length_cons]; omega
def nW : WS := ["change", "enter", "commit"]
def nC : WS := ["look", "set"]
def nR : WS := ["entry", "mark", "page"]
def fW : List WS := [[], ["clear"], ["lock", "unlock"], ["clear", "lock", "unlock"]]
def fC : List WS := [[], ["lock", "unlock"], ["remove"], ["remove", "lock", "unlock"], ["again"], ["again", "lock", "unlock"], ["remove", "again"], ["remove", "again", "lock", "unlock"]]
def fR : List WS := [["hold"], ["take", "tell"]]
def WL : List WS := allOf okWr nW fW
def CL : List WS := allOf okCl nC fC
def RL : List WS := allOf okRd nR fR
theorem WL_len : WL.length = 150 := by decide +kernel
theorem CL_len : CL.length = 45 := by decide +kernel
theorem RL_len : RL.length = 18 := by decide +kernel

theorem WL_nodup : WL.Nodup := by decide +kernel
theorem CL_nodup : CL.Nodup := by decide +kernel
theorem RL_nodup : RL.Nodup := by decide +kernel

theorem WL_all : ((arr 6 wWr).all fun v => !okWr v || decide (v ∈ WL)) = true := by decide +kernel
theorem CL_all : ((arr 6 wCl).all fun v => !okCl v || decide (v ∈ CL)) = true := by decide +kernel
theorem RL_all : ((arr 6 wRd).all fun v => !okRd v || decide (v ∈ RL)) = true := by decide +kernel
def ndB (nd : WS) (free : List WS) : Bool := decide (1 ≤ nd.length) && (decide (nd.length ≤ 4) && (nd.all okw && (free.all (fun s => decide (s.length ≤ 4) && (s.all okw && mixN 1 1 (nd.length - 1 + s.length))) && decide (free.length ≤ 50))))
theorem Nd.of {nd : WS} {free : List WS} (h : ndB nd free = true) : Nd nd free := by
  unfold ndB at h
  simp only [Bool.and_eq_true, decide_eq_true_eq, List.all_eq_true] at h
  exact ⟨h.1, h.2.1, h.2.2.1, fun s hs => ⟨(h.2.2.2.1 s hs).1, (h.2.2.2.1 s hs).2.1⟩, fun s hs => (h.2.2.2.1 s hs).2.2, h.2.2.2.2⟩
theorem ndW : Nd nW fW := .of (by decide +kernel)
theorem ndC : Nd nC fC := .of (by decide +kernel)
theorem ndR : Nd nR fR := .of (by decide +kernel)
theorem good_arr {ks v : WS} (hk : ks.length ≤ 6) (h : goodWs ks v = true) : v ∈ arr 6 ks := by
  unfold goodWs at h
  rw [Bool.and_eq_true] at h
  have h1 : v.Nodup := (nodupB_iff v).mp h.1
  have h2 : ∀ x ∈ v, x ∈ ks := fun x hx => of_decide_eq_true (List.all_eq_true.mp h.2 x hx)
  exact arr_mem h1 h2 (Nat.le_trans (nodup_le h1 h2) hk)
theorem in_all {ok : WS → Bool} {ks : WS} {L : List WS} (ha : ((arr 6 ks).all fun v => !ok v || decide (v ∈ L)) = true) (hk : ks.length ≤ 6) (hg : ∀ v, ok v = true → goodWs ks v = true) {v : WS} (h : ok v = true) : v ∈ L := by
  have := List.all_eq_true.mp ha v (good_arr hk (hg v h))
  rw [h] at this
  exact of_decide_eq_true this
theorem okWr_good (v : WS) (h : okWr v = true) : goodWs wWr v = true := by
  unfold okWr at h
  rw [Bool.and_eq_true] at h
  exact h.1
theorem okCl_good (v : WS) (h : okCl v = true) : goodWs wCl v = true := by
  unfold okCl at h
  rw [Bool.and_eq_true] at h
  exact h.1
theorem okRd_good (v : WS) (h : okRd v = true) : goodWs wRd v = true := by
  unfold okRd at h
  rw [Bool.and_eq_true] at h
  exact h.1
structure Txs (ok : WS → Bool) (L : List WS) : Prop where
  w : ∀ r ∈ L, shortW 8 r ∧ r ≠ [] ∧ ok r = true ∧ Txt.split (J r) " " = r
  all : ∀ v, ok v = true → v ∈ L
  nd : L.Nodup
theorem txW : Txs okWr WL := ⟨fun r hr => ndW.all hr, fun v h => in_all WL_all (by decide) okWr_good h, WL_nodup⟩
theorem txC : Txs okCl CL := ⟨fun r hr => ndC.all hr, fun v h => in_all CL_all (by decide) okCl_good h, CL_nodup⟩
theorem txR : Txs okRd RL := ⟨fun r hr => ndR.all hr, fun v h => in_all RL_all (by decide) okRd_good h, RL_nodup⟩
def srt (L : List WS) : WS := sortS (L.map J)
theorem srt_len (L : List WS) : (srt L).length = L.length := by unfold srt; rw [(sortS_perm _).length_eq, List.length_map]
theorem srt_mem {L : List WS} {s : PySem.Str} : s ∈ srt L ↔ ∃ r ∈ L, J r = s := by unfold srt; rw [(sortS_perm _).mem_iff, List.mem_map]
theorem nodup_mapJ {ok : WS → Bool} {L : List WS} (h : Txs ok L) : (L.map J).Nodup := by
  have key : ∀ l : List WS, (∀ r ∈ l, r ∈ L) → l.Nodup → (l.map J).Nodup := by
    intro l
    induction l with
    | nil => intro _ _; exact List.nodup_nil
    | cons r l ih =>
      intro hs hn
      obtain ⟨h1, h2⟩ := List.nodup_cons.mp hn
      rw [List.map_cons]
      refine List.nodup_cons.mpr ⟨fun hm => ?_, ih (fun x hx => hs x (List.mem_cons_of_mem _ hx)) h2⟩
      obtain ⟨q, hq, e⟩ := List.mem_map.mp hm
      have e1 := (h.w r (hs r List.mem_cons_self)).2.2.2
      have e2 := (h.w q (hs q (List.mem_cons_of_mem _ hq))).2.2.2
      rw [e] at e2
      rw [e2] at e1
      exact h1 (e1 ▸ hq)
  exact key L (fun _ h => h) h.nd
theorem srt_asc {ok : WS → Bool} {L : List WS} (h : Txs ok L) : (srt L).Pairwise fun a b => ltCps a.cps.toList b.cps.toList = true := by
  have h1 : (srt L).Pairwise leS := sortS_sorted _
  have h2 : (srt L).Nodup := (sortS_perm _).nodup_iff.mpr (nodup_mapJ h)
  refine (h1.and h2).imp fun {a b} q => ?_
  cases e : ltCps a.cps.toList b.cps.toList with
  | true => rfl
  | false => exact absurd (str_ext (SrtO.ltc_eq _ _ e q.1)) q.2
theorem in_srt {ok : WS → Bool} {L : List WS} (h : Txs ok L) {n : Nat} {ws : WS} (hw : shortW n ws) : decide (J ws ∈ srt L) = ok (Txt.split (J ws) " ") := by
  rw [Bool.eq_iff_iff, decide_eq_true_eq, srt_mem]
  constructor
  · rintro ⟨r, hr, e⟩
    rw [← e, (h.w r hr).2.2.2]
    exact (h.w r hr).2.2.1
  · intro q
    refine ⟨_, h.all _ q, ?_⟩
    by_cases e : ws = []
    · subst e
      have : Txt.split (J []) " " = [("" : PySem.Str)] := by decide +kernel
      rw [this]; decide +kernel
    · rw [splitJ e fun x hx => (okw_len (hw.2 x hx)).2]

theorem runY_e {N : Nat} {mg : MGn} {ds Y : List D} {δ0 δ' : MR.Env} {S : Sto} (h0 : startD N ds = δ0) (h : mg δ0 [] S = .ok (.nx δ' Y) S) : mRunY N mg ds S = .ok Y S := by
  subst h0
  unfold mRunY
  rw [h]
theorem yloop_e {i : Nat} {S : Sto} : ∀ (ds : List D) (δ : MR.Env) (Y : List D), i < δ.length → Y.length + ds.length < 1000000 → ∃ δ', mGLoop (mGName i) (mGThen (mGYield (mVar i)) mYNil) ds δ Y S = .ok (.nx δ' (Y ++ ds)) S ∧ δ'.length = δ.length
  | [], δ, Y, _, _ => ⟨δ, by rw [List.append_nil]; rfl, rfl⟩
  | d :: ds, δ, Y, hi, hl => by
    rw [List.length_cons] at hl
    have e1 : mGName i d δ = some (δ.set i (.val d)) := rfl
    have e2 : (mGThen (mGYield (mVar i)) mYNil) (δ.set i (.val d)) Y S = .ok (.nx (δ.set i (.val d)) (Y ++ [d])) S :=
      gthen_e (gyield_e (by omega) (e_v (by rw [List.getElem?_set_self hi]))) rfl
    obtain ⟨δ', h1, h2⟩ := yloop_e ds (δ.set i (.val d)) (Y ++ [d]) (by rw [List.length_set]; exact hi) (by rw [List.length_append]; show _ + 1 + _ < _; omega)
    refine ⟨δ', ?_, by rw [h2, List.length_set]⟩
    unfold mGLoop
    rw [e1]
    dsimp only
    rw [e2]
    dsimp only
    rw [h1, List.append_assoc]
    rfl
theorem all_cap {ok : WS → Bool} {nd : WS} {free : List WS} (h : Nd nd free) (hl : free.length ≤ 20) : (allOf ok nd free).length ≤ 80000 := by
  have := all_len (ok := ok) (nd := nd) (free := free) fun s hs => (h.mix hs).2
  omega
theorem srt_cap {ok : WS → Bool} {nd : WS} {free : List WS} (h : Nd nd free) (hl : free.length ≤ 20) : (LS (srt (allOf ok nd free))).length ≤ 80000 := by
  have := all_cap (ok := ok) h hl
  rw [List.length_map, srt_len]; exact this
theorem listed_s {ok : WS → Bool} {m : MF} {c : Nat} {S : Sto} {nd : WS} {free : List WS} {fd : D} {L : List WS} (hL : allOf ok nd free = L) (hm : ([(0, m_is_writer), (1, m_is_cleaner), (2, m_is_reader)] : List (Nat × MF)).lookup c = some m) (hk : ∀ (s : PySem.Str) (S : Sto), s.length ≤ 900 → m [.str s] S = .ok (.bl (ok (Txt.split s " "))) S)
    (hN : Nd nd free) (hfd : fd = .lst (free.map TS) ∨ fd = .tup (free.map TS)) (hf : free.length ≤ 20) : m_listed [TS nd, fd, .cls c] S = .ok (.lst (LS (srt L))) S ∧ (LS (srt L)).length ≤ 80000 := by
  have h1 := srt_cap (ok := ok) hN hf
  have h2 := all_cap (ok := ok) hN hf
  have h3 := listed_e (S := S) hm hk hN hfd (by omega)
  subst hL
  refine ⟨?_, h1⟩
  unfold srt
  exact h3
theorem writers_e (S : Sto) : m_writer_orders [] S = .ok (LS (srt WL)) S := by
  obtain ⟨L, hL⟩ : ∃ L, allOf okWr nW fW = L := ⟨_, rfl⟩
  have hW : WL = L := by rw [← hL]; unfold WL; with_reducible rfl
  obtain ⟨hL1, hL2⟩ := listed_s (S := S) (fd := .tup (fW.map TS)) hL (c := 0) (m := m_is_writer) rfl (fun s S h => is_writer_e h S) ndW (.inr rfl) (by decide)
  rw [hW]
  have e1 : ∀ Y, mGPlain (mAsg (mTup (mCons (mTup mNil) (mCons (mTup (mCons (mC (.str "clear")) mNil)) (mCons (mTup (mCons (mC (.str "lock")) (mCons (mC (.str "unlock")) mNil))) (mCons (mTup (mCons (mC (.str "clear")) (mCons (mC (.str "lock")) (mCons (mC (.str "unlock")) mNil)))) mNil))))) (mGName 0)) [.no, .no] Y S = .ok (.nx [.val (.tup (fW.map TS)), .no] Y) S := fun _ => rfl
  have e2 : mIList (mCall 3 m_listed (mCons (mSl slT (mC k_WRITER_WORDS) mNoPart (mPart (mC (.int 3)))) (mCons (mVar 0) (mCons (mC (.cls 0)) mNil)))) [.val (.tup (fW.map TS)), .no] S = .ok (LS (srt L)) S := by
    refine rn_eq <| g_iList <| run_eq (e_call (as := [TS nW, .tup (fW.map TS), .cls 0]) ?_ hL1) ⟨_, .inl rfl, rfl, rfl⟩
    rfl
  obtain ⟨δ', e3, _⟩ := yloop_e (i := 1) (S := S) (LS (srt L)) [.val (.tup (fW.map TS)), .no] [] (by decide) (by rw [List.length_nil]; omega)
  rw [List.nil_append] at e3
  have e5 : ms_writer_orders [.no, .no] [] S = .ok (.nx δ' (LS (srt L))) S := by
    unfold ms_writer_orders
    with_reducible refine gthen_e (e1 []) (gthen_e (gfor_e e2 e3) ?_)
    rfl
  have e6 : m_writer_orders = mRunY 2 ms_writer_orders := rfl
  rw [e6]
  exact runY_e rfl e5

theorem readers_e (S : Sto) : m_reader_orders [] S = .ok (LS (srt RL)) S := by
  obtain ⟨L, hL⟩ : ∃ L, allOf okRd nR fR = L := ⟨_, rfl⟩
  have hW : RL = L := by rw [← hL]; unfold RL; with_reducible rfl
  obtain ⟨hL1, hL2⟩ := listed_s (S := S) (fd := .tup (fR.map TS)) hL (c := 2) (m := m_is_reader) rfl (fun s S h => is_reader_e h S) ndR (.inr rfl) (by decide)
  rw [hW]
  have e2 : mIList (mCall 3 m_listed (mCons (mSl slT (mC k_READER_WORDS) mNoPart (mPart (mC (.int 3)))) (mCons (mTup (mCons (mTup (mCons (mC (.str "hold")) mNil)) (mCons (mTup (mCons (mC (.str "take")) (mCons (mC (.str "tell")) mNil))) mNil))) (mCons (mC (.cls 2)) mNil)))) [.no] S = .ok (LS (srt L)) S := by
    refine rn_eq <| g_iList <| run_eq (e_call (as := [TS nR, .tup (fR.map TS), .cls 2]) ?_ hL1) ⟨_, .inl rfl, rfl, rfl⟩
    rfl
  obtain ⟨δ', e3, _⟩ := yloop_e (i := 0) (S := S) (LS (srt L)) [.no] [] (by decide) (by rw [List.length_nil]; omega)
  rw [List.nil_append] at e3
  have e5 : ms_reader_orders [.no] [] S = .ok (.nx δ' (LS (srt L))) S := by
    unfold ms_reader_orders
    with_reducible refine gthen_e (gfor_e e2 e3) ?_
    rfl
  have e6 : m_reader_orders = mRunY 1 ms_reader_orders := rfl
  rw [e6]
  exact runY_e rfl e5

theorem cleaners_e (S : Sto) : m_cleaner_orders [] S = .ok (LS (srt CL)) S := by
  obtain ⟨L, hL⟩ : ∃ L, allOf okCl nC fC = L := ⟨_, rfl⟩
  have hW : CL = L := by rw [← hL]; unfold CL; with_reducible rfl
  obtain ⟨hL1, hL2⟩ := listed_s (S := S) (fd := .lst (fC.map TS)) hL (c := 1) (m := m_is_cleaner) rfl (fun s S h => is_cleaner_e h S) ndC (.inl rfl) (by decide)
  rw [hW]
  have e1 : ∀ Y, mGPlain (mAsgO (mLst mNil) 0) [.no, .no, .no] Y S = .ok (.nx [.own false (.lst []), .no, .no] Y) S := fun _ => rfl
  have e0 : ∀ Y, mGPlain (mFor (mITup (mTup (mCons (mTup mNil) (mCons (mTup (mCons (mC (.str "remove")) mNil)) (mCons (mTup (mCons (mC (.str "again")) mNil)) (mCons (mTup (mCons (mC (.str "remove")) (mCons (mC (.str "again")) mNil))) mNil)))))) (mGName 1) (mExtend 0 (mLst (mCons (mVar 1) (mCons (mTupS (mStar (mVar 1) (mCons (mC (.str "lock")) (mCons (mC (.str "unlock")) mNil)))) mNil))))) [.own false (.lst []), .no, .no] Y S = .ok (.nx [.own false (.lst (fC.map TS)), .val (TS ["remove", "again"]), .no] Y) S := fun _ => rfl
  have e2 : mIList (mCall 3 m_listed (mCons (mSl slT (mC k_CLEANER_WORDS) mNoPart (mPart (mC (.int 2)))) (mCons (mVar 0) (mCons (mC (.cls 1)) mNil)))) [.val (.lst (fC.map TS)), .val (TS ["remove", "again"]), .no] S = .ok (LS (srt L)) S := by
    refine rn_eq <| g_iList <| run_eq (e_call (as := [TS nC, .lst (fC.map TS), .cls 1]) ?_ hL1) ⟨_, .inl rfl, rfl, rfl⟩
    rfl
  obtain ⟨δ', e3, _⟩ := yloop_e (i := 2) (S := S) (LS (srt L)) [.val (.lst (fC.map TS)), .val (TS ["remove", "again"]), .no] [] (by decide) (by rw [List.length_nil]; omega)
  have e4 : ∀ (Y : List D) (o : Out GFl), (mGFor (mIList (mCall 3 m_listed (mCons (mSl slT (mC k_CLEANER_WORDS) mNoPart (mPart (mC (.int 2)))) (mCons (mVar 0) (mCons (mC (.cls 1)) mNil))))) (mGName 2) (mGThen (mGYield (mVar 2)) mYNil)) [.val (.lst (fC.map TS)), .val (TS ["remove", "again"]), .no] Y S = o → mGFix 0 (mGFor (mIList (mCall 3 m_listed (mCons (mSl slT (mC k_CLEANER_WORDS) mNoPart (mPart (mC (.int 2)))) (mCons (mVar 0) (mCons (mC (.cls 1)) mNil))))) (mGName 2) (mGThen (mGYield (mVar 2)) mYNil)) [.own false (.lst (fC.map TS)), .val (TS ["remove", "again"]), .no] Y S = o := fun Y o h => h
  rw [List.nil_append] at e3
  have e5 : ms_cleaner_orders [.no, .no, .no] [] S = .ok (.nx δ' (LS (srt L))) S := by
    unfold ms_cleaner_orders
    with_reducible refine gthen_e (e1 []) (gthen_e (e0 []) (gthen_e (e4 _ _ (gfor_e e2 e3)) ?_))
    rfl
  have e6 : m_cleaner_orders = mRunY 3 ms_cleaner_orders := rfl
  rw [e6]
  exact runY_e rfl e5

theorem lcY_e {m : MFY} {δ : MR.Env} {S : Sto} {Y : List D} (h : m [] S = .ok Y S) (hl : Y.length ≤ 1000000) : mLcY (mCallY m mNil) δ S = .ok (.lst Y) S := by
  have e : mCallY m mNil δ S = .ok Y S := h
  unfold mLcY
  rw [e]
  dsimp only
  rw [if_pos hl]

theorem lahead_e (ws : WS) (a b : PySem.Str) (S : Sto) : m__law_ahead [.lst (LS ws), .str a, .str b] S = .ok (.bl (aheadB ws a b)) S := by
  have e : m__law_ahead = m_is_ahead := rfl
  rw [e]
  exact is_ahead_e ws a b S
theorem o_nilS {neg : Bool} {xs : WS} (h : ∀ x ∈ xs, PyData.strOk x = true) (S : Sto) : opEq neg (.lst (LS xs)) (.lst []) S = .ok (.bl (xor neg xs.isEmpty)) S := by
  have e : eqD (.lst (LS xs)) (.lst []) = xs.isEmpty := by cases xs <;> rfl
  rw [← e]
  exact rn_eq <| g_eqD (okN_all (n := 8) fun d hd => by obtain ⟨x, hx, rfl⟩ := List.mem_map.mp hd; exact okN_str _ (h x hx)).1 (by rfl) rfl ⟨rfl, rfl⟩
theorem b_and_f {a b : Bool} (h : (!a || !b) = true) : (a && b) = false := by cases a <;> cases b <;> first | rfl | cases h
theorem b_and_t {a b : Bool} (h : (!a || !b) = false) : (a && b) = true := by cases a <;> cases b <;> first | rfl | cases h
def oneB (ws : WS) (w : PySem.Str) : Bool := decide ((ws.filter fun x => decide (x = w)).length = 1)
def fitB (nd fr ws : WS) : Bool := (ws.all fun w => decide (w ∈ nd ++ fr) && oneB ws w) && ((nd.all fun w => decide (w ∈ ws)) && lockB ws)
theorem missing_empty (nd ws : WS) : (nd.filter fun w => !decide (w ∈ ws)).isEmpty = nd.all fun w => decide (w ∈ ws) := by
  induction nd with
  | nil => rfl
  | cons n nd ih =>
    rw [List.filter_cons, List.all_cons]
    cases h : decide (n ∈ ws) with
    | true => rw [Bool.not_true, if_neg Bool.false_ne_true, ih, Bool.true_and]
    | false => rfl
theorem split_e {ma mb : ME} {s : PySem.Str} {δ : MR.Env} {S : Sto} (hl : s.length ≤ 900) (h1 : ma δ S = .ok (.str s) S) (h2 : mb δ S = .ok (.str " ") S) : mM1 opSplit ma mb δ S = .ok (.lst (LS (Txt.split s " "))) S := by
  unfold mM1
  rw [h1]
  dsimp only [bnd]
  rw [h2]
  show (if (((" " : PySem.Str).length == 0) = false ∧ s.length + 2 ≤ 16777216) then Out.ok (D.lst ((Txt.split s " ").map D.str)) S else .bad) = _
  rw [if_pos ⟨by decide +kernel, by omega⟩]
theorem catS_e {nd fr : WS} {S : Sto} (hn : nd.length ≤ 10) (hf : fr.length ≤ 10) : opPlus (.lst (LS nd)) (.lst (LS fr)) S = .ok (.lst (LS (nd ++ fr))) S := by
  refine rn_eq <| g_catL ?_ ⟨?_, rfl⟩
  · rw [List.length_map, List.length_map]; omega
  · unfold LS; rw [List.map_append]
theorem fits_e {s : PySem.Str} {nd fr : WS} (hl : s.length ≤ 900) (hn : nd.length ≤ 10) (hf : fr.length ≤ 10) (hs : ∀ x ∈ nd, PyData.strOk x = true) (S : Sto) : m__law_fits [.str s, .lst (LS nd), .lst (LS fr)] S = .ok (.bl (fitB nd fr (Txt.split s " "))) S := by
  refine rn_eq (s_run ?_)
  unfold ms__law_fits
  refine s_seq <| s_asgN <| run_eq (split_e (s := s) hl rfl rfl) ?_
  generalize Txt.split s " " = ws
  dsimp only [startD, List.set, List.map, List.replicate, List.append]
  refine s_seq <| s_for <| run_eq (rn_eq <| g_iList <| g_var rfl ⟨_, .inl rfl, rfl, rfl⟩ : mIList (mVar 3) _ S = .ok (LS ws) S) ?_
  refine s_loop (fun ds δ S' => S' = S ∧ ∃ (pre post : WS) (v4 v5 : Slot), ds = LS post ∧ ws = pre ++ post ∧ (pre.all fun w => decide (w ∈ nd ++ fr) && oneB ws w) = true ∧ δ = [.val (.str s), .val (.lst (LS nd)), .val (.lst (LS fr)), .val (.lst (LS ws)), v4, v5]) ?_ ?_ _ _ _ ⟨rfl, [], ws, _, _, rfl, rfl, rfl, rfl⟩
  · rintro d ds δ S' ⟨rfl, pre, post, v4, v5, e, ew, hp, rfl⟩
    match post, e with
    | w :: post, e =>
      obtain ⟨rfl, rfl⟩ := List.cons.inj e
      refine ⟨[.val (.str s), .val (.lst (LS nd)), .val (.lst (LS fr)), .val (.lst (LS ws)), .val (.str w), v5], rfl, ?_⟩
      have e1 : (mTest (mOp (opIn true) (mVar 4) (mOp opPlus (mVar 1) (mVar 2)))) [.val (.str s), .val (.lst (LS nd)), .val (.lst (LS fr)), .val (.lst (LS ws)), .val (.str w), v5] S' = .ok (!decide (w ∈ nd ++ fr)) S' := by
        refine t_test (e_op (e_v (d := .str w) rfl) (e_op (e_v (d := .lst (LS nd)) rfl) (e_v (d := .lst (LS fr)) rfl) (catS_e hn hf)) ?_)
        rw [inLS, Bool.true_xor]
      have e2 : (mLc (mIList (mVar 3)) (mGName 5) (mTest (mOp (opEq false) (mVar 5) (mVar 4))) (mVar 5) [5]) [.val (.str s), .val (.lst (LS nd)), .val (.lst (LS fr)), .val (.lst (LS ws)), .val (.str w), v5] S' = .ok (.lst (LS (ws.filter fun x => decide (x = w)))) S' := by
        refine rn_eq <| g_lc <| run_eq (rn_eq <| g_iList <| g_var rfl ⟨_, .inl rfl, rfl, rfl⟩ : mIList (mVar 3) _ S' = .ok (LS ws) S') ?_
        refine run_eq (lcl_map (g := D.str) (c := fun x => decide (x = w)) (f := D.str) fun x hx => ⟨[.val (.str s), .val (.lst (LS nd)), .val (.lst (LS fr)), .val (.lst (LS ws)), .val (.str w), .val (.str x)], rfl, ?_, fun _ => rfl⟩) ⟨rfl, rfl⟩
        exact t_test (e_op (e_v (d := .str x) rfl) (e_v (d := .str w) rfl) o_eqS)
      have e3 : (mTest (mOp (opEq true) (mCB fLen (mCons (mLc (mIList (mVar 3)) (mGName 5) (mTest (mOp (opEq false) (mVar 5) (mVar 4))) (mVar 5) [5]) mNil)) (mC (.int 1)))) [.val (.str s), .val (.lst (LS nd)), .val (.lst (LS fr)), .val (.lst (LS ws)), .val (.str w), v5] S' = .ok (!oneB ws w) S' := by
        have e0 : fLen [.lst (LS (ws.filter fun x => decide (x = w)))] S' = .ok (.int ((ws.filter fun x => decide (x = w)).length : Nat)) S' := by
          rw [← List.length_map (f := D.str)]; rfl
        refine t_test (e_op (e_cb (e_cons e2 e_nil) e0) e_c ?_)
        rw [o_neI]
        unfold oneB
        rw [show decide ((((ws.filter fun x => decide (x = w)).length : Nat) : Int) = 1) = decide ((ws.filter fun x => decide (x = w)).length = 1) from decide_eq_decide.mpr (by omega)]
      refine s_if (t_or e1 fun _ => e3) (fun h => ?_) fun h => ?_
      · refine s_ret <| g_c ?_
        have hb : (decide (w ∈ nd ++ fr) && oneB ws w) = false := b_and_f h
        have : fitB nd fr ws = false := by
          unfold fitB
          have : (ws.all fun w => decide (w ∈ nd ++ fr) && oneB ws w) = false := by
            rw [List.all_eq_false]
            exact ⟨w, by rw [ew]; exact List.mem_append_right _ List.mem_cons_self, by rw [hb]; decide⟩
          rw [this]; rfl
        rw [this]
        exact ⟨rfl, rfl⟩
      · refine s_next ⟨rfl, pre ++ [w], post, _, _, rfl, by rw [ew]; simp, ?_, rfl⟩
        rw [List.all_append, hp]
        have hb : (decide (w ∈ nd ++ fr) && oneB ws w) = true := b_and_t h
        simp only [List.all_cons, List.all_nil, Bool.and_true, Bool.true_and]
        exact hb
  · rintro δ S' ⟨rfl, pre, post, v4, v5, e, ew, hp, rfl⟩
    match post, e with
    | [], _ =>
      rw [List.append_nil] at ew
      subst ew
      dsimp only
      have e2 : (mLc (mIList (mVar 1)) (mGName 4) (mTest (mOp (opIn true) (mVar 4) (mVar 3))) (mVar 4) [4]) [.val (.str s), .val (.lst (LS nd)), .val (.lst (LS fr)), .val (.lst (LS ws)), v4, v5] S' = .ok (.lst (LS (nd.filter fun w => !decide (w ∈ ws)))) S' := by
        refine rn_eq <| g_lc <| run_eq (rn_eq <| g_iList <| g_var rfl ⟨_, .inl rfl, rfl, rfl⟩ : mIList (mVar 1) _ S' = .ok (LS nd) S') ?_
        refine run_eq (lcl_map (g := D.str) (c := fun w => !decide (w ∈ ws)) (f := D.str) fun x hx => ⟨[.val (.str s), .val (.lst (LS nd)), .val (.lst (LS fr)), .val (.lst (LS ws)), .val (.str x), v5], rfl, ?_, fun _ => rfl⟩) ⟨rfl, rfl⟩
        refine t_test (e_op (e_v (d := .str x) rfl) (e_v (d := .lst (LS ws)) rfl) ?_)
        rw [inLS, Bool.true_xor]
      have e3 : (mTest (mOp (opEq true) (mLc (mIList (mVar 1)) (mGName 4) (mTest (mOp (opIn true) (mVar 4) (mVar 3))) (mVar 4) [4]) (mLst mNil))) [.val (.str s), .val (.lst (LS nd)), .val (.lst (LS fr)), .val (.lst (LS ws)), v4, v5] S' = .ok (!(nd.all fun w => decide (w ∈ ws))) S' := by
        refine t_test (e_op e2 (e_lst e_nil) ?_)
        rw [o_nilS fun x hx => hs x (List.mem_filter.mp hx).1, Bool.true_xor, missing_empty]
      refine s_seq <| s_if e3 (fun h => ?_) fun h => ?_
      · refine s_ret <| g_c ?_
        have h : (nd.all fun w => decide (w ∈ ws)) = false := by simpa using h
        unfold fitB
        rw [hp, h]
        exact ⟨rfl, rfl⟩
      · refine s_next ?_
        have h : (nd.all fun w => decide (w ∈ ws)) = true := by simpa using h
        have e4 : fitB nd fr ws = lockB ws := by
          unfold fitB
          rw [hp, h]; rfl
        rw [e4]
        dsimp only
        refine s_ret <| run_eq (e_andV (a := decide (("lock" : PySem.Str) ∈ ws) == decide (("unlock" : PySem.Str) ∈ ws)) (b := aheadB ws "lock" "unlock") ?_ fun _ => ?_) ⟨rfl, rfl⟩
        · refine e_op (e_op e_c (e_v (d := .lst (LS ws)) rfl) (inLS _ _ _ _)) (e_op e_c (e_v (d := .lst (LS ws)) rfl) (inLS _ _ _ _)) ?_
          rw [Bool.false_xor, Bool.false_xor]
          exact rn_eq <| g_eqB ⟨rfl, rfl⟩
        · exact e_call (e_cons (e_v (d := .lst (LS ws)) rfl) (e_cons e_c (e_cons e_c e_nil))) (lahead_e _ _ _ _)
theorem once_nodup {ws : WS} : ws.Nodup ↔ ∀ x ∈ ws, oneB ws x = true := by
  rw [List.nodup_iff_count]
  unfold oneB
  constructor
  · intro h x hx
    have h1 := h x
    have h2 := List.count_pos_iff.mpr hx
    rw [List.count_eq_length_filter] at h1 h2
    have e : (ws.filter fun y => decide (y = x)) = ws.filter (· == x) := List.filter_congr fun y _ => by by_cases h : y = x <;> simp [h]
    rw [e]
    exact decide_eq_true (by omega)
  · intro h x
    by_cases hx : x ∈ ws
    · have h1 := of_decide_eq_true (h x hx)
      rw [List.count_eq_length_filter]
      have e : (ws.filter fun y => decide (y = x)) = ws.filter (· == x) := List.filter_congr fun y _ => by by_cases h : y = x <;> simp [h]
      rw [e] at h1
      omega
    · rw [List.count_eq_zero.mpr hx]
      omega
theorem fits_is {ws nd fr ks : WS} (h : nd ++ fr = ks) : fitB nd fr ws = (goodWs ks ws && ((nd.all fun w => decide (w ∈ ws)) && lockB ws)) := by
  subst h
  unfold fitB goodWs
  congr 1
  rw [Bool.eq_iff_iff, List.all_eq_true, Bool.and_eq_true, nodupB_iff, once_nodup, List.all_eq_true]
  constructor
  · intro q
    refine ⟨fun x hx => ?_, fun x hx => ?_⟩
    · have := q x hx
      rw [Bool.and_eq_true] at this
      exact this.2
    · have := q x hx
      rw [Bool.and_eq_true] at this
      exact this.1
  · rintro ⟨q1, q2⟩ x hx
    rw [q1 x hx, Bool.and_true]
    exact q2 x hx

theorem all_sok {ws : WS} (h : (ws.all fun x => PyData.strOk x) = true) : ∀ x ∈ ws, PyData.strOk x = true := List.all_eq_true.mp h
theorem liw_e {s : PySem.Str} (hl : s.length ≤ 900) (S : Sto) : m__law_is_writer [.str s] S = .ok (.bl (okWr (Txt.split s " "))) S := by
  refine rn_eq (s_run ?_)
  unfold ms__law_is_writer
  have hf := fits_e (s := s) (nd := ["change", "enter", "commit"]) (fr := ["clear", "lock", "unlock"]) hl (by decide) (by decide) (all_sok (by decide +kernel)) S
  have e1 : ∀ δ : MR.Env, δ[0]? = some (.val (.str s)) → (mNot (mTest (mCall 3 m__law_fits (mCons (mVar 0) (mCons (mLst (mCons (mC (.str "change")) (mCons (mC (.str "enter")) (mCons (mC (.str "commit")) mNil)))) (mCons (mLst (mCons (mC (.str "clear")) (mCons (mC (.str "lock")) (mCons (mC (.str "unlock")) mNil)))) mNil)))))) δ S = .ok (!fitB ["change", "enter", "commit"] ["clear", "lock", "unlock"] (Txt.split s " ")) S := fun δ h =>
    t_not (t_test (e_call (e_cons (e_v h) (e_cons (e_lst (e_cons e_c (e_cons e_c (e_cons e_c e_nil)))) (e_cons (e_lst (e_cons e_c (e_cons e_c (e_cons e_c e_nil)))) e_nil))) hf))
  have hw : fitB ["change", "enter", "commit"] ["clear", "lock", "unlock"] (Txt.split s " ") = (goodWs wWr (Txt.split s " ") && ((([("change" : PySem.Str), "enter", "commit"] : WS).all fun w => decide (w ∈ Txt.split s " ")) && lockB (Txt.split s " "))) := fits_is rfl
  have e2 : ∀ δ : MR.Env, δ[0]? = some (.val (.str s)) → mM1 opSplit (mVar 0) (mC (.str " ")) δ S = .ok (.lst (LS (Txt.split s " "))) S := fun δ h => split_e hl (e_v h) rfl
  generalize Txt.split s " " = ws at e1 e2 hw
  refine s_seq <| s_if (e1 _ rfl) (fun h => ?_) fun h => ?_
  · refine s_ret <| g_c ?_
    have h : fitB ["change", "enter", "commit"] ["clear", "lock", "unlock"] ws = false := by simpa using h
    rw [hw] at h
    refine ⟨?_, rfl⟩
    unfold okWr
    revert h
    cases goodWs wWr ws <;> cases (([("change" : PySem.Str), "enter", "commit"] : WS).all fun w => decide (w ∈ ws)) <;> cases lockB ws <;> cases aheadB ws "change" "enter" <;> cases aheadB ws "change" "commit" <;> intro h <;> first | rfl | cases h
  · refine s_next ?_
    have h : fitB ["change", "enter", "commit"] ["clear", "lock", "unlock"] ws = true := by simpa using h
    rw [hw] at h
    dsimp only
    refine s_seq <| s_asgN <| run_eq (e2 _ rfl) ?_
    dsimp only [startD, List.set, List.map, List.replicate, List.append]
    refine s_ret <| run_eq (e_andV (a := aheadB ws "change" "enter") (b := aheadB ws "change" "commit") ?_ fun _ => ?_) ⟨?_, rfl⟩
    · exact e_call (e_cons (e_v (d := .lst (LS ws)) rfl) (e_cons e_c (e_cons e_c e_nil))) (lahead_e _ _ _ _)
    · exact e_call (e_cons (e_v (d := .lst (LS ws)) rfl) (e_cons e_c (e_cons e_c e_nil))) (lahead_e _ _ _ _)
    unfold okWr
    revert h
    cases goodWs wWr ws <;> cases (([("change" : PySem.Str), "enter", "commit"] : WS).all fun w => decide (w ∈ ws)) <;> cases lockB ws <;> cases aheadB ws "change" "enter" <;> cases aheadB ws "change" "commit" <;> intro h <;> first | rfl | cases h
theorem lic_e {s : PySem.Str} (hl : s.length ≤ 900) (S : Sto) : m__law_is_cleaner [.str s] S = .ok (.bl (okCl (Txt.split s " "))) S := by
  refine rn_eq (s_run ?_)
  unfold ms__law_is_cleaner
  have hf := fits_e (s := s) (nd := ["look", "set"]) (fr := ["remove", "again", "lock", "unlock"]) hl (by decide) (by decide) (all_sok (by decide +kernel)) S
  have e1 : ∀ δ : MR.Env, δ[0]? = some (.val (.str s)) → (mNot (mTest (mCall 3 m__law_fits (mCons (mVar 0) (mCons (mLst (mCons (mC (.str "look")) (mCons (mC (.str "set")) mNil))) (mCons (mLst (mCons (mC (.str "remove")) (mCons (mC (.str "again")) (mCons (mC (.str "lock")) (mCons (mC (.str "unlock")) mNil))))) mNil)))))) δ S = .ok (!fitB ["look", "set"] ["remove", "again", "lock", "unlock"] (Txt.split s " ")) S := fun δ h =>
    t_not (t_test (e_call (e_cons (e_v h) (e_cons (e_lst (e_cons e_c (e_cons e_c e_nil))) (e_cons (e_lst (e_cons e_c (e_cons e_c (e_cons e_c (e_cons e_c e_nil))))) e_nil))) hf))
  have hw : fitB ["look", "set"] ["remove", "again", "lock", "unlock"] (Txt.split s " ") = (goodWs wCl (Txt.split s " ") && ((([("look" : PySem.Str), "set"] : WS).all fun w => decide (w ∈ Txt.split s " ")) && lockB (Txt.split s " "))) := fits_is rfl
  have e2 : ∀ δ : MR.Env, δ[0]? = some (.val (.str s)) → mM1 opSplit (mVar 0) (mC (.str " ")) δ S = .ok (.lst (LS (Txt.split s " "))) S := fun δ h => split_e hl (e_v h) rfl
  generalize Txt.split s " " = ws at e1 e2 hw
  refine s_seq <| s_if (e1 _ rfl) (fun h => ?_) fun h => ?_
  · refine s_ret <| g_c ?_
    have h : fitB ["look", "set"] ["remove", "again", "lock", "unlock"] ws = false := by simpa using h
    rw [hw] at h
    refine ⟨?_, rfl⟩
    unfold okCl
    revert h
    cases goodWs wCl ws <;> cases (([("look" : PySem.Str), "set"] : WS).all fun w => decide (w ∈ ws)) <;> cases lockB ws <;> intro h <;> first | rfl | cases h
  · refine s_next ?_
    have h : fitB ["look", "set"] ["remove", "again", "lock", "unlock"] ws = true := by simpa using h
    rw [hw] at h
    dsimp only
    refine s_seq <| s_asgN <| run_eq (e2 _ rfl) ?_
    dsimp only [startD, List.set, List.map, List.replicate, List.append]
    have ha : ∀ (a b : PySem.Str), (mCall 3 m__law_ahead (mCons (mVar 1) (mCons (mC (.str a)) (mCons (mC (.str b)) mNil)))) [.val (.str s), .val (.lst (LS ws))] S = .ok (.bl (aheadB ws a b)) S := fun a b =>
      e_call (e_cons (e_v (d := .lst (LS ws)) rfl) (e_cons e_c (e_cons e_c e_nil))) (lahead_e _ _ _ _)
    refine s_seq <| s_if (t_or (t_not (t_test (ha "look" "set"))) fun _ => t_not (t_test (ha "remove" "look"))) (fun h2 => ?_) fun h2 => ?_
    · refine s_ret <| g_c ⟨?_, rfl⟩
      unfold okCl
      revert h h2
      cases goodWs wCl ws <;> cases (([("look" : PySem.Str), "set"] : WS).all fun w => decide (w ∈ ws)) <;> cases lockB ws <;> cases aheadB ws "look" "set" <;> cases aheadB ws "remove" "look" <;> intro h h2 <;> first | rfl | exact absurd h (by decide) | exact absurd h2 (by decide)
    · refine s_next ?_
      dsimp only
      refine s_ret <| run_eq (ha "set" "again") ⟨?_, rfl⟩
      unfold okCl
      revert h h2
      cases goodWs wCl ws <;> cases (([("look" : PySem.Str), "set"] : WS).all fun w => decide (w ∈ ws)) <;> cases lockB ws <;> cases aheadB ws "look" "set" <;> cases aheadB ws "remove" "look" <;> intro h h2 <;> first | rfl | exact absurd h (by decide) | exact absurd h2 (by decide)
theorem no_lock {ws : WS} (h : goodWs wRd ws = true) : lockB ws = true := by
  unfold goodWs at h
  rw [Bool.and_eq_true, List.all_eq_true] at h
  have no : ∀ x : PySem.Str, x ∉ wRd → x ∉ ws := fun x hx hm => hx (of_decide_eq_true (h.2 x hm))
  have h1 : ("lock" : PySem.Str) ∉ ws := no _ (by decide +kernel)
  have h2 : ("unlock" : PySem.Str) ∉ ws := no _ (by decide +kernel)
  unfold lockB aheadB
  rw [decide_eq_false h1, decide_eq_false h2]
  rfl
theorem lir_e {s : PySem.Str} (hl : s.length ≤ 900) (S : Sto) : m__law_is_reader [.str s] S = .ok (.bl (okRd (Txt.split s " "))) S := by
  refine rn_eq (s_run ?_)
  unfold ms__law_is_reader
  have hf := fits_e (s := s) (nd := ["entry", "mark", "page"]) (fr := ["hold", "take", "tell"]) hl (by decide) (by decide) (all_sok (by decide +kernel)) S
  have e1 : ∀ δ : MR.Env, δ[0]? = some (.val (.str s)) → (mNot (mTest (mCall 3 m__law_fits (mCons (mVar 0) (mCons (mLst (mCons (mC (.str "entry")) (mCons (mC (.str "mark")) (mCons (mC (.str "page")) mNil)))) (mCons (mLst (mCons (mC (.str "hold")) (mCons (mC (.str "take")) (mCons (mC (.str "tell")) mNil)))) mNil)))))) δ S = .ok (!fitB ["entry", "mark", "page"] ["hold", "take", "tell"] (Txt.split s " ")) S := fun δ h =>
    t_not (t_test (e_call (e_cons (e_v h) (e_cons (e_lst (e_cons e_c (e_cons e_c (e_cons e_c e_nil)))) (e_cons (e_lst (e_cons e_c (e_cons e_c (e_cons e_c e_nil)))) e_nil))) hf))
  have hw : fitB ["entry", "mark", "page"] ["hold", "take", "tell"] (Txt.split s " ") = (goodWs wRd (Txt.split s " ") && ((([("entry" : PySem.Str), "mark", "page"] : WS).all fun w => decide (w ∈ Txt.split s " ")) && lockB (Txt.split s " "))) := fits_is rfl
  have e2 : ∀ δ : MR.Env, δ[0]? = some (.val (.str s)) → mM1 opSplit (mVar 0) (mC (.str " ")) δ S = .ok (.lst (LS (Txt.split s " "))) S := fun δ h => split_e hl (e_v h) rfl
  generalize Txt.split s " " = ws at e1 e2 hw
  refine s_seq <| s_if (e1 _ rfl) (fun h => ?_) fun h => ?_
  · refine s_ret <| g_c ?_
    have h : fitB ["entry", "mark", "page"] ["hold", "take", "tell"] ws = false := by simpa using h
    rw [hw] at h
    refine ⟨?_, rfl⟩
    have : goodWs wRd ws = true → (([("entry" : PySem.Str), "mark", "page"] : WS).all fun w => decide (w ∈ ws)) = false := fun z => by
      rw [z, no_lock z, Bool.true_and, Bool.and_true] at h; exact h
    unfold okRd
    cases z : goodWs wRd ws with
    | false => rfl
    | true => rw [this z]; rfl
  · refine s_next ?_
    have h : fitB ["entry", "mark", "page"] ["hold", "take", "tell"] ws = true := by simpa using h
    rw [hw] at h
    simp only [Bool.and_eq_true] at h
    obtain ⟨hg, hall, _⟩ := h
    have hne : ws ≠ [] := fun z => by subst z; cases hall
    dsimp only
    refine s_seq <| s_asgN <| run_eq (e2 _ rfl) ?_
    dsimp only [startD, List.set, List.map, List.replicate, List.append]
    have hin : ∀ (a : PySem.Str), (mOp (opIn false) (mC (.str a)) (mVar 1)) [.val (.str s), .val (.lst (LS ws))] S = .ok (.bl (decide (a ∈ ws))) S := fun a => by
      refine e_op e_c (e_v (d := .lst (LS ws)) rfl) ?_
      rw [inLS, Bool.false_xor]
    unfold okRd
    rw [hg, Bool.true_and]
    rw [hall, Bool.true_and]
    refine s_seq <| s_if (t_or (t_test (e_op (hin "hold") (hin "take") (rn_eq <| g_eqB ⟨rfl, rfl⟩))) fun _ => t_test (e_op (hin "take") (hin "tell") (rn_eq <| g_neB ⟨rfl, rfl⟩))) (fun h2 => ?_) fun h2 => ?_
    · refine s_ret <| g_c ⟨?_, rfl⟩
      revert h2
      cases (decide (("hold" : PySem.Str) ∈ ws) == decide (("take" : PySem.Str) ∈ ws)) <;> cases (decide (("take" : PySem.Str) ∈ ws) == decide (("tell" : PySem.Str) ∈ ws)) <;> cases decide (lastW ws = "page") <;> intro h2 <;> first | rfl | cases h2
    · refine s_next ?_
      dsimp only
      refine s_ret <| run_eq (e_andV (a := decide (lastW ws = "page")) (b := aheadB ws "take" "tell") ?_ fun _ => ?_) ⟨?_, rfl⟩
      · exact e_op (e_ixL (k := -1) (e_v (d := .lst (LS ws)) rfl) rfl (ix_last hne)) e_c o_eqS
      · exact e_call (e_cons (e_v (d := .lst (LS ws)) rfl) (e_cons e_c (e_cons e_c e_nil))) (lahead_e _ _ _ _)
      revert h2
      cases (decide (("hold" : PySem.Str) ∈ ws) == decide (("take" : PySem.Str) ∈ ws)) <;> cases (decide (("take" : PySem.Str) ∈ ws) == decide (("tell" : PySem.Str) ∈ ws)) <;> cases decide (lastW ws = "page") <;> intro h2 <;> first | rfl | cases h2

def strangeW : WS := ["clear", "lock", "unlock", "again", "remove", "hold", "tell", "", "Lock", "page", "enter", "set"]
theorem strange_ok : strangeW.all okw = true := by decide +kernel
section
variable {δ : MR.Env} {S : Sto} {ws : WS} {i j a : Nat}
theorem sl_take (h1 : δ[i]? = some (.val (.lst (LS ws)))) (h2 : δ[j]? = some (.val (.int (a : Nat)))) : mSl slL (mVar i) mNoPart (mPart (mVar j)) δ S = .ok (.lst (LS (ws.take a))) S := by
  unfold mSl mNoPart mPart
  simp only [e_v h1, e_v h2, bnd]
  show Out.ok (D.lst (cutD (LS ws) none (some (a : Int)))) S = _
  rw [cut_take0]
  unfold LS
  rw [List.map_take]
theorem sl_drop (h1 : δ[i]? = some (.val (.lst (LS ws)))) (h2 : δ[j]? = some (.val (.int (a : Nat)))) : mSl slL (mVar i) (mPart (mVar j)) mNoPart δ S = .ok (.lst (LS (ws.drop a))) S := by
  unfold mSl mNoPart mPart
  simp only [e_v h1, e_v h2, bnd]
  show Out.ok (D.lst (cutD (LS ws) (some (a : Int)) none)) S = _
  rw [cut_drop0]
  unfold LS
  rw [List.map_drop]
theorem sl_drop1 (h1 : δ[i]? = some (.val (.lst (LS ws)))) (h2 : δ[j]? = some (.val (.int (a : Nat)))) : mSl slL (mVar i) (mPart (mOp opPlus (mVar j) (mC (.int 1)))) mNoPart δ S = .ok (.lst (LS (ws.drop (a + 1)))) S := by
  have e : mOp opPlus (mVar j) (mC (.int 1)) δ S = .ok (.int ((a + 1 : Nat) : Int)) S := e_op (e_v h2) e_c rfl
  unfold mSl mNoPart mPart
  simp only [e_v h1, e, bnd]
  show Out.ok (D.lst (cutD (LS ws) (some ((a + 1 : Nat) : Int)) none)) S = _
  rw [cut_drop0]
  unfold LS
  rw [List.map_drop]
end
theorem short_put {n a : Nat} {ws : WS} {w : PySem.Str} (h : shortW n ws) (hw : okw w = true) : shortW (n + 1) (ws.take a ++ [w] ++ ws.drop a) := by
  refine ⟨?_, fun x hx => ?_⟩
  · have := h.1
    rw [List.length_append, List.length_append, List.length_take, List.length_drop]
    show _ + 1 + _ ≤ _
    omega
  · rcases List.mem_append.mp hx with hx | hx
    · rcases List.mem_append.mp hx with hx | hx
      · exact h.2 x (List.mem_of_mem_take hx)
      · rw [List.mem_singleton.mp hx]; exact hw
    · exact h.2 x (List.mem_of_mem_drop hx)
theorem short_cut {n a b : Nat} {ws : WS} (h : shortW n ws) (hab : a ≤ b) : shortW n (ws.take a ++ ws.drop b) := by
  refine ⟨?_, fun x hx => ?_⟩
  · have := h.1
    rw [List.length_append, List.length_take, List.length_drop]
    omega
  · rcases List.mem_append.mp hx with hx | hx
    · exact h.2 x (List.mem_of_mem_take hx)
    · exact h.2 x (List.mem_of_mem_drop hx)
theorem short_set {n a : Nat} {ws : WS} {w : PySem.Str} (h : shortW n ws) (ha : a < ws.length) (hw : okw w = true) : shortW n (ws.take a ++ [w] ++ ws.drop (a + 1)) ∧ (ws.take a ++ [w] ++ ws.drop (a + 1)).length = ws.length := by
  have hl : (ws.take a ++ [w] ++ ws.drop (a + 1)).length = ws.length := by
    rw [List.length_append, List.length_append, List.length_take, List.length_drop]
    show _ + 1 + _ = _
    omega
  refine ⟨⟨by rw [hl]; exact h.1, fun x hx => ?_⟩, hl⟩
  rcases List.mem_append.mp hx with hx | hx
  · rcases List.mem_append.mp hx with hx | hx
    · exact h.2 x (List.mem_of_mem_take hx)
    · rw [List.mem_singleton.mp hx]; exact hw
  · exact h.2 x (List.mem_of_mem_drop hx)
theorem cat3 {p q : WS} {w : PySem.Str} {S : Sto} {Q : D → Sto → Prop} {X : XQ} (hl : p.length + 1 + q.length ≤ 1000) (q1 : Q (.lst (LS (p ++ [w] ++ q))) S) : Rn (opPlus (.lst (LS p ++ [D.str w])) (.lst (LS q)) S) Q X := by
  refine g_catL ?_ ?_
  · rw [List.length_append, List.length_map, List.length_map]; show _ + 1 + _ ≤ _; omega
  · unfold LS at q1 ⊢
    rw [List.map_append, List.map_append] at q1; exact q1
theorem spoilt_run {S T : Sto} {ws : WS} {Q : D → Sto → Prop} {X : XQ} (hp : PotS S T) (hw : shortW 10 ws) (q : ∀ ws' S', shortW 14 ws' → PotS S' T → Q (.lst (LS ws')) S') : Rn (m__law_spoilt [.ref 1, .lst (LS ws)] S) Q X := by
  refine s_run ?_
  unfold ms__law_spoilt
  refine s_seq <| s_asgN <| run_eq (a := .lst (LS strangeW)) (S := S) rfl ?_
  dsimp only [startD, List.set, List.map, List.replicate, List.append]
  refine s_seq <| s_for <| g_rng1 <| g_cons <| g_call <| g_cons <| g_var rfl <| g_cons <| g_c <| g_nil <| draw_run hp (by decide) (by decide) fun n S1 h0 h1 hp => ?_
  obtain ⟨n, rfl⟩ := Int.eq_ofNat_of_zero_le h0
  refine g_nil ⟨_, rfl, by omega, by omega, ?_⟩
  rw [Int.toNat_natCast]
  refine s_loopR (fun k δ S => PotS S T ∧ ∃ (ws : WS) (v3 v4 v5 v6 v7 : Slot), shortW (10 + k) ws ∧ δ = [.val (.ref 1), .val (.lst (LS ws)), .val (.lst (LS strangeW)), v3, v4, v5, v6, v7]) ⟨hp, ws, _, _, _, _, _, hw, rfl⟩ ?_ ?_
  · rintro k hk δ S2 ⟨hp, ws, v3, v4, v5, v6, v7, hw, rfl⟩
    have hl := hw.1
    refine ⟨[.val (.ref 1), .val (.lst (LS ws)), .val (.lst (LS strangeW)), .val (.int (0 + (k : Nat))), v4, v5, v6, v7], rfl, ?_⟩
    refine s_seq <| s_asgN <| g_call <| g_cons <| g_var rfl <| g_cons <| g_c <| g_nil <| draw_run hp (by decide) (by decide) fun wd S3 h0 h1 hp => ?_
    have em : ∀ {δ : MR.Env} {S : Sto}, δ[1]? = some (.val (.lst (LS ws))) → mOp opPlus (mCB fLen (mCons (mVar 1) mNil)) (mC (.int 1)) δ S = .ok (.int ((ws.length + 1 : Nat) : Int)) S := fun h => by
      refine e_op (x := .int (ws.length : Nat)) (e_cb (e_cons (e_v h) e_nil) ?_) e_c rfl
      rw [← List.length_map (f := D.str)]; rfl
    dsimp only [List.set]
    refine s_seq <| s_asgN <| g_call <| g_cons <| g_var rfl <| g_cons <| run_eq (em rfl) <| g_nil <| draw_run hp (by omega) (by omega) fun a S4 h2 h3 hp => ?_
    dsimp only [List.set]
    refine s_seq <| s_asgN <| g_call <| g_cons <| g_var rfl <| g_cons <| run_eq (em rfl) <| g_nil <| draw_run hp (by omega) (by omega) fun b S5 h4 h5 hp => ?_
    dsimp only [List.set]
    obtain ⟨a, rfl⟩ := Int.eq_ofNat_of_zero_le h2
    obtain ⟨b, rfl⟩ := Int.eq_ofNat_of_zero_le h4
    refine s_if (t_test (e_op (e_v rfl) e_c o_eqI)) (fun hz => ?_) fun hz => ?_
    · refine s_asgN <| g_op <| g_op <| run_eq (sl_take (ws := ws) (a := a) rfl rfl) <| g_lst <| g_cons <| g_op <| g_var rfl <| g_call <| g_cons <| g_var rfl <| g_cons <| g_c <| g_nil <| draw_run hp (by decide) (by decide) fun r S6 h6 h7 hp => ?_
      obtain ⟨r, rfl⟩ := Int.eq_ofNat_of_zero_le h6
      have hr : r < strangeW.length := by show r < 12; omega
      have e6 : opIx (.lst (LS strangeW)) (.int (r : Nat)) S6 = .ok (.str strangeW[r]) S6 := rn_eq (g_ix (ds := LS strangeW) rfl (at_map hr) ⟨rfl, rfl⟩)
      have hm : okw strangeW[r] = true := List.all_eq_true.mp strange_ok _ (List.getElem_mem hr)
      refine run_eq e6 <| g_nil ?_
      generalize strangeW[r] = w at hm
      refine g_catL (by rw [List.length_map, List.length_take]; show _ + 1 ≤ _; omega) <| run_eq (sl_drop (ws := ws) (a := a) rfl rfl) <| cat3 (by rw [List.length_take, List.length_drop]; omega) ?_
      exact ⟨hp, _, _, _, _, _, _, short_put hw hm, rfl⟩
    · refine s_if (t_test (e_op (e_v rfl) e_c o_eqI)) (fun hz => ?_) fun hz => ?_
      · refine s_asgN <| g_op <| run_eq (sl_take (ws := ws) (a := a) rfl rfl) <| run_eq (sl_drop1 (ws := ws) (a := a) rfl rfl) <| g_catL (by rw [List.length_map, List.length_map, List.length_take, List.length_drop]; omega) ?_
        have e7 : LS (ws.take a) ++ LS (ws.drop (a + 1)) = LS (ws.take a ++ ws.drop (a + 1)) := by unfold LS; rw [List.map_append]
        rw [e7]
        have := short_cut (b := a + 1) (a := a) hw (by omega)
        exact ⟨hp, _, _, _, _, _, _, ⟨Nat.le_succ_of_le this.1, this.2⟩, rfl⟩
      · have ec : ∀ (j : Nat) (c : Nat) {S : Sto}, [Slot.val (.ref 1), .val (.lst (LS ws)), .val (.lst (LS strangeW)), .val (.int (0 + (k : Nat))), .val (.int wd), .val (.int (a : Nat)), .val (.int (b : Nat)), v7][j]? = some (.val (.int (c : Nat))) → (mTest (mOp opLess (mVar j) (mCB fLen (mCons (mVar 1) mNil)))) [Slot.val (.ref 1), .val (.lst (LS ws)), .val (.lst (LS strangeW)), .val (.int (0 + (k : Nat))), .val (.int wd), .val (.int (a : Nat)), .val (.int (b : Nat)), v7] S = .ok (decide (c < ws.length)) S := fun j c S h => by
          refine t_test (e_op (e_v h) (e_cb (e_cons (e_v rfl) e_nil) (y := .int (ws.length : Nat)) ?_) ?_)
          · rw [← List.length_map (f := D.str)]; rfl
          · rw [show decide (c < ws.length) = decide ((c : Int) < (ws.length : Nat)) from decide_eq_decide.mpr (by omega)]
            exact rn_eq (g_less ⟨rfl, rfl⟩)
        refine s_if (t_and (ec 5 a rfl) fun _ => ec 6 b rfl) (fun hc => ?_) fun hc => ?_
        · rw [Bool.and_eq_true, decide_eq_true_eq, decide_eq_true_eq] at hc
          obtain ⟨ha, hb⟩ := hc
          refine s_seq <| s_asgN <| run_eq (e_ixL (ds := LS ws) (k := (a : Nat)) (e_v rfl) (e_v rfl) (at_map ha)) ?_
          dsimp only [List.set]
          have e8 : (mOp opPlus (mOp opPlus (mSl slL (mVar 1) mNoPart (mPart (mVar 5))) (mLst (mCons (mOp opIx (mVar 1) (mVar 6)) mNil))) (mSl slL (mVar 1) (mPart (mOp opPlus (mVar 5) (mC (.int 1)))) mNoPart)) [Slot.val (.ref 1), .val (.lst (LS ws)), .val (.lst (LS strangeW)), .val (.int (0 + (k : Nat))), .val (.int wd), .val (.int (a : Nat)), .val (.int (b : Nat)), .val (.str ws[a])] S5 = .ok (.lst (LS (ws.take a ++ [ws[b]] ++ ws.drop (a + 1)))) S5 := by
            refine rn_eq <| g_op <| g_op <| run_eq (sl_take (ws := ws) (a := a) rfl rfl) <| g_lst <| run_eq (e_cons (e_ixL (ds := LS ws) (k := (b : Nat)) (e_v rfl) (e_v rfl) (at_map hb)) e_nil) <| g_catL (by rw [List.length_map, List.length_take]; show _ + 1 ≤ _; omega) <| run_eq (sl_drop1 (ws := ws) (a := a) rfl rfl) <| cat3 (by rw [List.length_take, List.length_drop]; omega) ⟨rfl, rfl⟩
          refine s_seq <| s_asgN <| run_eq e8 ?_
          dsimp only [List.set]
          have oka : okw ws[a] = true := hw.2 _ (List.getElem_mem ha)
          have okb : okw ws[b] = true := hw.2 _ (List.getElem_mem hb)
          obtain ⟨h8, h9⟩ := short_set (w := ws[b]) hw ha okb
          generalize ws.take a ++ [ws[b]] ++ ws.drop (a + 1) = us at h8 h9
          generalize ws[a] = w at oka
          have hb' : b < us.length := by omega
          have hl' := h8.1
          have e9 : (mOp opPlus (mOp opPlus (mSl slL (mVar 1) mNoPart (mPart (mVar 6))) (mLst (mCons (mVar 7) mNil))) (mSl slL (mVar 1) (mPart (mOp opPlus (mVar 6) (mC (.int 1)))) mNoPart)) [Slot.val (.ref 1), .val (.lst (LS us)), .val (.lst (LS strangeW)), .val (.int (0 + (k : Nat))), .val (.int wd), .val (.int (a : Nat)), .val (.int (b : Nat)), .val (.str w)] S5 = .ok (.lst (LS (us.take b ++ [w] ++ us.drop (b + 1)))) S5 := by
            refine rn_eq <| g_op <| g_op <| run_eq (sl_take (ws := us) (a := b) rfl rfl) <| g_lst <| run_eq (e_cons (e_v rfl) e_nil) <| g_catL (by rw [List.length_map, List.length_take]; show _ + 1 ≤ _; omega) <| run_eq (sl_drop1 (ws := us) (a := b) rfl rfl) <| cat3 (by rw [List.length_take, List.length_drop]; omega) ⟨rfl, rfl⟩
          refine s_asgN <| run_eq e9 ?_
          obtain ⟨h10, _⟩ := short_set (w := w) h8 hb' oka
          exact ⟨hp, _, _, _, _, _, _, ⟨Nat.le_succ_of_le h10.1, h10.2⟩, rfl⟩
        · exact s_next ⟨hp, ws, _, _, _, _, _, ⟨Nat.le_succ_of_le hw.1, hw.2⟩, rfl⟩
  · rintro δ S2 ⟨hp, ws, v3, v4, v5, v6, v7, hw, rfl⟩
    dsimp only
    refine s_ret <| g_var rfl <| q ws S2 ⟨by have := hw.1; omega, hw.2⟩ hp

theorem g_m1 {op : D → D → Sto → Out D} {s : PySem.Str} {me : ME} {δ : MR.Env} {S : Sto} {Q : D → Sto → Prop} {X : XQ} (q : Rn (me δ S) (fun y S => Rn (op (.str s) y S) Q X) X) : Rn (mM1 op (mC (.str s)) me δ S) Q X := by
  show Rn (bnd (me δ S) fun y S => op (.str s) y S) Q X
  exact run_bnd' q
structure TW (ok : WS → Bool) (m : MFY) (n : Nat) (ts : WS) : Prop where
  len : ts.length = n
  asc : ts.Pairwise fun a b => ltCps a.cps.toList b.cps.toList = true
  w : ∀ s ∈ ts, s.length ≤ 900 ∧ ok (Txt.split s " ") = true ∧ PyData.strOk s = true
  isin : ∀ (k : Nat) (ws : WS), shortW k ws → decide (J ws ∈ ts) = ok (Txt.split (J ws) " ")
  run : ∀ S, m [] S = .ok (LS ts) S
theorem okw_s {x : PySem.Str} (h : okw x = true) : PyData.strOk x = true := by
  unfold okw at h
  simp only [Bool.and_eq_true] at h
  exact h.2.2
theorem TW.of {ok : WS → Bool} {m : MFY} {L : List WS} (h : Txs ok L) (hr : ∀ S, m [] S = .ok (LS (srt L)) S) : TW ok m L.length (srt L) := by
  refine ⟨srt_len L, srt_asc h, fun s hs => ?_, fun k ws hw => in_srt h hw, hr⟩
  obtain ⟨r, hr, rfl⟩ := srt_mem.mp hs
  obtain ⟨h1, h2, h3, h4⟩ := h.w r hr
  refine ⟨by have := short_J h1; omega, by rw [h4]; exact h3, J_ok fun x hx => okw_s (h1.2 x hx)⟩
theorem asc_e {ts : WS} (h : ts.Pairwise fun a b => ltCps a.cps.toList b.cps.toList = true) (hl : ts.length ≤ 1000) (S : Sto) : m__law_ascends [.lst (LS ts)] S = .ok (.bl true) S := by
  refine rn_eq (s_run ?_)
  unfold ms__law_ascends
  have e0 : fLen [.lst (LS ts)] S = .ok (.int (ts.length : Nat)) S := by rw [← List.length_map (f := D.str)]; rfl
  have e1 : mIRng2 (mCons (mC (.int 1)) (mCons (mCB fLen (mCons (mVar 0) mNil)) mNil)) (mwipe [.val (.lst (LS ts)), .no] []) S = .ok (rngD 1 ((ts.length : Int) - 1).toNat) S :=
    rn_eq <| g_rng2 <| run_eq (e_cons e_c (e_cons (e_cb (e_cons (e_v (d := .lst (LS ts)) rfl) e_nil) e0) e_nil)) ⟨_, _, rfl, by omega, by omega, by omega, by omega, rfl, rfl⟩
  have e2 : (mLc (mIRng2 (mCons (mC (.int 1)) (mCons (mCB fLen (mCons (mVar 0) mNil)) mNil))) (mGName 1) (mNot (mTest (mOp opLtS (mOp opIx (mVar 0) (mOp opMinus (mVar 1) (mC (.int 1)))) (mOp opIx (mVar 0) (mVar 1))))) (mVar 1) [1]) [.val (.lst (LS ts)), .no] S = .ok (.lst []) S := by
    refine rn_eq <| g_lc <| run_eq e1 ?_
    unfold rngD
    refine run_eq (lcl_map (g := fun i : Nat => D.int (1 + (i : Int))) (c := fun _ => false) (f := fun _ => .non) fun i hi => ⟨[.val (.lst (LS ts)), .val (.int (1 + (i : Int)))], rfl, ?_, fun z => nomatch z⟩) ?_
    · have hi := List.mem_range.mp hi
      have h1 : i < ts.length := by omega
      have h2 : i + 1 < ts.length := by omega
      have e3 : mOp opMinus (mVar 1) (mC (.int 1)) [.val (.lst (LS ts)), .val (.int (1 + (i : Int)))] S = .ok (.int (i : Nat)) S := by
        refine e_op (e_v (d := .int (1 + (i : Int))) rfl) e_c ?_
        refine rn_eq <| g_minus ⟨?_, rfl⟩
        congr 1; omega
      have e4 : mVar 1 [.val (.lst (LS ts)), .val (.int (1 + (i : Int)))] S = .ok (.int ((i + 1 : Nat) : Int)) S := by
        rw [show ((i + 1 : Nat) : Int) = 1 + (i : Int) by omega]
        exact e_v rfl
      have e5 : opLtS (.str ts[i]) (.str ts[i + 1]) S = .ok (.bl true) S := by
        show Out.ok (D.bl (ltCps ts[i].cps.toList ts[i + 1].cps.toList)) S = _
        rw [List.pairwise_iff_getElem.mp h i (i + 1) h1 h2 (Nat.lt_succ_self i)]
      exact t_not (t_test (e_op (e_ixL (ds := LS ts) (e_v rfl) e3 (at_map h1)) (e_ixL (ds := LS ts) (e_v rfl) e4 (at_map h2)) e5))
    · rw [List.filter_eq_nil_iff.mpr fun _ _ => by decide]
      exact ⟨rfl, rfl⟩
  refine s_ret <| run_eq (e_op e2 (e_lst e_nil) (o_nilS (xs := []) (fun x hx => nomatch hx) S)) ⟨rfl, rfl⟩
theorem bad_e {i : Nat} {m1 m2 : MF} {ok : WS → Bool} {ts : WS} {δ : MR.Env} {S : Sto} (h1 : ∀ (s : PySem.Str) (S : Sto), s.length ≤ 900 → m1 [.str s] S = .ok (.bl (ok (Txt.split s " "))) S) (h2 : ∀ (s : PySem.Str) (S : Sto), s.length ≤ 900 → m2 [.str s] S = .ok (.bl (ok (Txt.split s " "))) S) (ht : ∀ s ∈ ts, s.length ≤ 900 ∧ ok (Txt.split s " ") = true ∧ PyData.strOk s = true) (hi : δ[i]? = some (.val (.lst (LS ts)))) (hd : δ.length = 8) :
    (mTest (mOp (opEq true) (mLc (mIList (mVar i)) (mGName 7) (mOr (mNot (mTest (mCall 1 m1 (mCons (mVar 7) mNil)))) (mNot (mTest (mCall 1 m2 (mCons (mVar 7) mNil))))) (mVar 7) [7]) (mLst mNil))) δ S = .ok false S := by
  have e2 : (mLc (mIList (mVar i)) (mGName 7) (mOr (mNot (mTest (mCall 1 m1 (mCons (mVar 7) mNil)))) (mNot (mTest (mCall 1 m2 (mCons (mVar 7) mNil))))) (mVar 7) [7]) δ S = .ok (.lst []) S := by
    refine rn_eq <| g_lc <| run_eq (rn_eq <| g_iList <| g_var hi ⟨_, .inl rfl, rfl, rfl⟩ : mIList (mVar i) δ S = .ok (LS ts) S) ?_
    refine run_eq (lcl_map (g := D.str) (c := fun _ => false) (f := fun _ => .non) fun s hs => ⟨(mwipe δ [7]).set 7 (.val (.str s)), rfl, ?_, fun z => nomatch z⟩) ?_
    · obtain ⟨k1, k2, _⟩ := ht s hs
      have hv : ((mwipe δ [7]).set 7 (.val (.str s)))[7]? = some (.val (.str s)) := by
        rw [List.getElem?_set_self]
        show 7 < (δ.set 7 .no).length
        rw [List.length_set, hd]; decide
      have a1 := t_not (t_test (e_call (n := 1) (e_cons (e_v hv) e_nil) (h1 s S k1)))
      have a2 := t_not (t_test (e_call (n := 1) (e_cons (e_v hv) e_nil) (h2 s S k1)))
      have := t_or a1 fun _ => a2
      rw [k2] at this
      exact this
    · rw [List.filter_eq_nil_iff.mpr fun _ _ => by decide]
      exact ⟨rfl, rfl⟩
  exact t_test (e_op e2 (e_lst e_nil) (o_nilS (xs := []) (fun x hx => nomatch hx) S))
theorem third_e {i n : Nat} {m : MF} {g : MFY} {ok : WS → Bool} {ts ws us : WS} {δ : MR.Env} {S : Sto} (hm : ∀ (s : PySem.Str) (S : Sto), s.length ≤ 900 → m [.str s] S = .ok (.bl (ok (Txt.split s " "))) S) (ht : TW ok g n ts) (hw : cleanW ws = true) (ho : ok ws = true) (hu : shortW 14 us) (hi : δ[i]? = some (.val (.lst (LS ts)))) (h6 : δ[6]? = some (.val (.lst (LS ws)))) (h7 : δ[7]? = some (.val (.str (J us)))) :
    (mOr (mTest (mOp (opIn true) (mM1 opJoin (mC (.str " ")) (mVar 6)) (mVar i))) (mTest (mOp (opEq true) (mOp (opIn false) (mVar 7) (mVar i)) (mCall 1 m (mCons (mVar 7) mNil))))) δ S = .ok false S := by
  have hws : shortW 10 ws := by
    unfold cleanW at hw
    simp only [Bool.and_eq_true, decide_eq_true_eq, List.all_eq_true] at hw
    exact ⟨hw.2.1, hw.2.2⟩
  have e1 : (mTest (mOp (opIn true) (mM1 opJoin (mC (.str " ")) (mVar 6)) (mVar i))) δ S = .ok false S := by
    have e2 : mM1 opJoin (mC (.str " ")) (mVar 6) δ S = .ok (.str (J ws)) S := rn_eq <| g_m1 <| run_eq (e_v h6) <| run_eq (join_s (n := 10) (by decide) hws S) ⟨rfl, rfl⟩
    refine t_test (e_op e2 (e_v hi) ?_)
    rw [inLS, ht.isin 10 ws hws, (clean_J hw).2, ho]
    rfl
  have e3 : (mTest (mOp (opEq true) (mOp (opIn false) (mVar 7) (mVar i)) (mCall 1 m (mCons (mVar 7) mNil)))) δ S = .ok false S := by
    have hl : (J us).length ≤ 900 := by have := short_J hu; omega
    refine t_test (e_op (e_op (e_v h7) (e_v hi) (inLS false ts (J us) S)) (e_call (e_cons (e_v h7) e_nil) (hm _ _ hl)) ?_)
    rw [Bool.false_xor, ht.isin 14 us hu]
    refine rn_eq <| g_neB ⟨?_, rfl⟩
    cases ok (Txt.split (J us) " ") <;> rfl
  exact t_or e1 fun _ => e3
theorem clean_short {ws : WS} (hw : cleanW ws = true) : shortW 10 ws := by
  unfold cleanW at hw
  simp only [Bool.and_eq_true, decide_eq_true_eq, List.all_eq_true] at hw
  exact ⟨hw.2.1, hw.2.2⟩
theorem law_ok' (ns : List Int) {tw tc tr : WS} (hw : TW okWr m_writer_orders 150 tw) (hc : TW okCl m_cleaner_orders 45 tc) (hr : TW okRd m_reader_orders 18 tr) : ∃ S, m_law [.scr ns] [] = .ok (.bl true) S := by
  obtain ⟨S0, e0, hp⟩ := pot_ok ns
  have h : Rn (m_law [.scr ns] []) (fun d S => d = .bl true) noXQ := by
    refine s_run ?_
    unfold ms_law
    refine s_seq <| s_asgN <| g_call <| g_cons <| g_var rfl <| g_nil <| run_eq e0 ?_
    dsimp only [startD, List.set, List.map, List.replicate, List.append]
    have ll : ∀ ts : WS, (LS ts).length = ts.length := fun ts => List.length_map ..
    have el : ∀ (ts : WS) (S : Sto), fLen [.lst (LS ts)] S = .ok (.int (ts.length : Nat)) S := fun ts S => by rw [← List.length_map (f := D.str)]; rfl
    refine s_seq <| s_asgN <| run_eq (lcY_e (hw.run S0) (by rw [ll, hw.len]; decide)) ?_
    refine s_seq <| s_asgN <| run_eq (lcY_e (hc.run S0) (by rw [ll, hc.len]; decide)) ?_
    refine s_seq <| s_asgN <| run_eq (lcY_e (hr.run S0) (by rw [ll, hr.len]; decide)) ?_
    dsimp only [List.set]
    have d2 : [Slot.val (.scr ns), .val (.ref 1), .val (.lst (LS tw)), .val (.lst (LS tc)), .val (.lst (LS tr)), .no, .no, .no][2]? = some (.val (.lst (LS tw))) := rfl
    have d3 : [Slot.val (.scr ns), .val (.ref 1), .val (.lst (LS tw)), .val (.lst (LS tc)), .val (.lst (LS tr)), .no, .no, .no][3]? = some (.val (.lst (LS tc))) := rfl
    have d4 : [Slot.val (.scr ns), .val (.ref 1), .val (.lst (LS tw)), .val (.lst (LS tc)), .val (.lst (LS tr)), .no, .no, .no][4]? = some (.val (.lst (LS tr))) := rfl
    have e1 : (mTest (mOp (opEq true) (mLst (mCons (mCB fLen (mCons (mVar 2) mNil)) (mCons (mCB fLen (mCons (mVar 3) mNil)) (mCons (mCB fLen (mCons (mVar 4) mNil)) mNil)))) (mLst (mCons (mC (.int 150)) (mCons (mC (.int 45)) (mCons (mC (.int 18)) mNil)))))) [.val (.scr ns), .val (.ref 1), .val (.lst (LS tw)), .val (.lst (LS tc)), .val (.lst (LS tr)), .no, .no, .no] S0 = .ok false S0 := by
      have a2 := el tw S0
      have a3 := el tc S0
      have a4 := el tr S0
      rw [hw.len] at a2
      rw [hc.len] at a3
      rw [hr.len] at a4
      refine t_test (e_op (e_lst (e_cons (e_cb (e_cons (e_v d2) e_nil) a2) (e_cons (e_cb (e_cons (e_v d3) e_nil) a3) (e_cons (e_cb (e_cons (e_v d4) e_nil) a4) e_nil)))) (e_lst (e_cons e_c (e_cons e_c (e_cons e_c e_nil)))) ?_)
      kernel_rfl!
    refine s_seq <| s_if e1 (fun z => nomatch z) fun _ => s_next ?_
    dsimp only
    have e2 : (mOr (mNot (mTest (mCall 1 m__law_ascends (mCons (mVar 2) mNil)))) (mOr (mNot (mTest (mCall 1 m__law_ascends (mCons (mVar 3) mNil)))) (mNot (mTest (mCall 1 m__law_ascends (mCons (mVar 4) mNil)))))) [.val (.scr ns), .val (.ref 1), .val (.lst (LS tw)), .val (.lst (LS tc)), .val (.lst (LS tr)), .no, .no, .no] S0 = .ok false S0 :=
      t_or (t_not (t_test (e_call (e_cons (e_v d2) e_nil) (asc_e hw.asc (by rw [hw.len]; decide) S0)))) fun _ => t_or (t_not (t_test (e_call (e_cons (e_v d3) e_nil) (asc_e hc.asc (by rw [hc.len]; decide) S0)))) fun _ => t_not (t_test (e_call (e_cons (e_v d4) e_nil) (asc_e hr.asc (by rw [hr.len]; decide) S0)))
    refine s_seq <| s_if e2 (fun z => nomatch z) fun _ => s_next ?_
    dsimp only
    refine s_seq <| s_if (bad_e (fun s S h => liw_e h S) (fun s S h => is_writer_e h S) hw.w d2 rfl) (fun z => nomatch z) fun _ => s_next ?_
    dsimp only
    refine s_seq <| s_if (bad_e (fun s S h => lic_e h S) (fun s S h => is_cleaner_e h S) hc.w d3 rfl) (fun z => nomatch z) fun _ => s_next ?_
    dsimp only
    refine s_seq <| s_if (bad_e (fun s S h => lir_e h S) (fun s S h => is_reader_e h S) hr.w d4 rfl) (fun z => nomatch z) fun _ => s_next ?_
    dsimp only
    refine s_seq <| s_for <| g_rng1 <| g_cons <| g_c <| g_nil ⟨5, rfl, by decide, by decide, ?_⟩
    refine s_loopR (n := 5) (fun k δ S => PotS S [] ∧ ∃ (v5 v6 v7 : Slot), δ = [.val (.scr ns), .val (.ref 1), .val (.lst (LS tw)), .val (.lst (LS tc)), .val (.lst (LS tr)), v5, v6, v7]) ⟨hp, _, _, _, rfl⟩ ?_ ?_
    · rintro k hk δ S2 ⟨hp, v5, v6, v7, rfl⟩
      refine ⟨[.val (.scr ns), .val (.ref 1), .val (.lst (LS tw)), .val (.lst (LS tc)), .val (.lst (LS tr)), .val (.int (0 + (k : Nat))), v6, v7], rfl, ?_⟩
      refine s_seq <| s_asgN <| g_call <| g_cons <| g_var rfl <| g_nil <| writer_run hp fun ws S3 hm hp => ?_
      obtain ⟨ho, hcl⟩ := all_okc wDr_ok hm
      dsimp only [List.set]
      refine s_seq <| s_asgN <| g_m1 <| g_call <| g_cons <| g_var rfl <| g_cons <| g_var rfl <| g_nil <| spoilt_run hp (clean_short hcl) fun us S4 hu hp => run_eq (join_s (n := 14) (by decide) hu S4) ?_
      dsimp only [List.set]
      refine s_seq <| s_if (third_e (fun s S h => liw_e h S) hw hcl ho hu rfl rfl rfl) (fun z => nomatch z) fun _ => s_next ?_
      dsimp only
      refine s_seq <| s_asgN <| g_call <| g_cons <| g_var rfl <| g_nil <| cleaner_run hp fun ws S3 hm hp => ?_
      obtain ⟨ho, hcl⟩ := all_okc cDr_ok hm
      dsimp only [List.set]
      refine s_seq <| s_asgN <| g_m1 <| g_call <| g_cons <| g_var rfl <| g_cons <| g_var rfl <| g_nil <| spoilt_run hp (clean_short hcl) fun us S4 hu hp => run_eq (join_s (n := 14) (by decide) hu S4) ?_
      dsimp only [List.set]
      refine s_seq <| s_if (third_e (fun s S h => lic_e h S) hc hcl ho hu rfl rfl rfl) (fun z => nomatch z) fun _ => s_next ?_
      dsimp only
      refine s_seq <| s_asgN <| g_call <| g_cons <| g_var rfl <| g_nil <| reader_run hp fun ws S3 hm hp => ?_
      obtain ⟨ho, hcl⟩ := all_okc rDr_ok hm
      dsimp only [List.set]
      refine s_seq <| s_asgN <| g_m1 <| g_call <| g_cons <| g_var rfl <| g_cons <| g_var rfl <| g_nil <| spoilt_run hp (clean_short hcl) fun us S4 hu hp => run_eq (join_s (n := 14) (by decide) hu S4) ?_
      dsimp only [List.set]
      refine s_if (third_e (fun s S h => lir_e h S) hr hcl ho hu rfl rfl rfl) (fun z => nomatch z) fun _ => s_next ?_
      exact ⟨hp, _, _, _, rfl⟩
    · rintro δ S2 ⟨hp, v5, v6, v7, rfl⟩
      dsimp only
      refine s_ret <| run_eq (e_op (lcY_e (hw.run S2) (by rw [ll, hw.len]; decide)) (e_v (d := .lst (LS tw)) rfl) (eq_self (okN_all (n := 8) fun d hd => by obtain ⟨x, hx, rfl⟩ := List.mem_map.mp hd; exact okN_str _ (hw.w x hx).2.2).1 rfl S2)) rfl
  obtain ⟨d, S, e, rfl⟩ := run_ok h
  exact ⟨S, e⟩
theorem law_ok (ns : List Int) : ∃ S, m_law [.scr ns] [] = .ok (.bl true) S := by
  have hw := TW.of txW writers_e
  have hc := TW.of txC cleaners_e
  have hr := TW.of txR readers_e
  rw [WL_len] at hw
  rw [CL_len] at hc
  rw [RL_len] at hr
  exact law_ok' ns hw hc hr

end
end Law
namespace Law
open PySem PySem.Spec PyProof.Rows L2 TP MR
section
variable {P : Program} {w : World} {K : PySem.W.Frag} {mg : Str → Option Value} {base : Heap}
def sp_law (K : PySem.W.Frag) : Sp := fun vs H Q _ => ∃ (a : Addr) (ns : List Int), vs = [.ref a] ∧ SqL K H a (ns.map V.int) ∧ ns.length ≤ 63 ∧ ∀ H', Q (.bl true) H'
theorem all_mk {l : PySem.W.OpenLaw} {w : World} {K : PySem.W.Frag} {h : Heap} {mg : Str → Option Value} {fa : Addr} (X : K.In h) (G : h.Ns mainGlobals mg) (hfa : mg "law" = some (.ref fa))
    {a_WRITER_WORDS : Addr}
    {a_CLEANER_WORDS : Addr}
    {a_READER_WORDS : Addr}
    {a_is_writer : Addr}
    {a_is_cleaner : Addr}
    {a_is_reader : Addr}
    {od_WRITER_WORDS : Option Addr} {nn_WRITER_WORDS : Nat} {sl_WRITER_WORDS : Array (Option Value)} {t0_WRITER_WORDS t1_WRITER_WORDS t2_WRITER_WORDS t3_WRITER_WORDS t4_WRITER_WORDS t5_WRITER_WORDS : Tok}
    {od_CLEANER_WORDS : Option Addr} {nn_CLEANER_WORDS : Nat} {sl_CLEANER_WORDS : Array (Option Value)} {t0_CLEANER_WORDS t1_CLEANER_WORDS t2_CLEANER_WORDS t3_CLEANER_WORDS t4_CLEANER_WORDS t5_CLEANER_WORDS : Tok}
    {od_READER_WORDS : Option Addr} {nn_READER_WORDS : Nat} {sl_READER_WORDS : Array (Option Value)} {t0_READER_WORDS t1_READER_WORDS t2_READER_WORDS t3_READER_WORDS t4_READER_WORDS t5_READER_WORDS : Tok}
    {f_words_of : Addr} {od_words_of an_words_of : Option Addr} {sl_words_of : Array (Option Value)} {oc_words_of kV_words_of dc_words_of pm_words_of cd_words_of ct_words_of : Value}
    {f_all_there : Addr} {od_all_there an_all_there : Option Addr} {sl_all_there : Array (Option Value)} {oc_all_there kV_all_there dc_all_there pm_all_there cd_all_there ct_all_there : Value}
    {f_is_ahead : Addr} {od_is_ahead an_is_ahead : Option Addr} {sl_is_ahead : Array (Option Value)} {oc_is_ahead kV_is_ahead dc_is_ahead pm_is_ahead cd_is_ahead ct_is_ahead : Value}
    {f_is_locked_well : Addr} {od_is_locked_well an_is_locked_well : Option Addr} {sl_is_locked_well : Array (Option Value)} {oc_is_locked_well kV_is_locked_well dc_is_locked_well pm_is_locked_well cd_is_locked_well ct_is_locked_well : Value}
    {f_is_writer : Addr} {od_is_writer an_is_writer : Option Addr} {sl_is_writer : Array (Option Value)} {oc_is_writer kV_is_writer dc_is_writer pm_is_writer cd_is_writer ct_is_writer : Value}
    {f_is_cleaner : Addr} {od_is_cleaner an_is_cleaner : Option Addr} {sl_is_cleaner : Array (Option Value)} {oc_is_cleaner kV_is_cleaner dc_is_cleaner pm_is_cleaner cd_is_cleaner ct_is_cleaner : Value}
    {f_is_reader : Addr} {od_is_reader an_is_reader : Option Addr} {sl_is_reader : Array (Option Value)} {oc_is_reader kV_is_reader dc_is_reader pm_is_reader cd_is_reader ct_is_reader : Value}
    {f_mixed : Addr} {od_mixed an_mixed : Option Addr} {sl_mixed : Array (Option Value)} {oc_mixed kV_mixed dc_mixed pm_mixed cd_mixed ct_mixed : Value}
    {f_listed : Addr} {od_listed an_listed : Option Addr} {sl_listed : Array (Option Value)} {oc_listed kV_listed dc_listed pm_listed cd_listed ct_listed : Value}
    {f_writer_orders : Addr} {od_writer_orders an_writer_orders : Option Addr} {sl_writer_orders : Array (Option Value)} {oc_writer_orders kV_writer_orders dc_writer_orders pm_writer_orders cd_writer_orders ct_writer_orders : Value}
    {f_cleaner_orders : Addr} {od_cleaner_orders an_cleaner_orders : Option Addr} {sl_cleaner_orders : Array (Option Value)} {oc_cleaner_orders kV_cleaner_orders dc_cleaner_orders pm_cleaner_orders cd_cleaner_orders ct_cleaner_orders : Value}
    {f_reader_orders : Addr} {od_reader_orders an_reader_orders : Option Addr} {sl_reader_orders : Array (Option Value)} {oc_reader_orders kV_reader_orders dc_reader_orders pm_reader_orders cd_reader_orders ct_reader_orders : Value}
    {f__law_pot : Addr} {od__law_pot an__law_pot : Option Addr} {sl__law_pot : Array (Option Value)} {oc__law_pot kV__law_pot dc__law_pot pm__law_pot cd__law_pot ct__law_pot : Value}
    {f__law_draw : Addr} {od__law_draw an__law_draw : Option Addr} {sl__law_draw : Array (Option Value)} {oc__law_draw kV__law_draw dc__law_draw pm__law_draw cd__law_draw ct__law_draw : Value}
    {f__law_put_in : Addr} {od__law_put_in an__law_put_in : Option Addr} {sl__law_put_in : Array (Option Value)} {oc__law_put_in kV__law_put_in dc__law_put_in pm__law_put_in cd__law_put_in ct__law_put_in : Value}
    {f__law_locked : Addr} {od__law_locked an__law_locked : Option Addr} {sl__law_locked : Array (Option Value)} {oc__law_locked kV__law_locked dc__law_locked pm__law_locked cd__law_locked ct__law_locked : Value}
    {f__law_writer_words : Addr} {od__law_writer_words an__law_writer_words : Option Addr} {sl__law_writer_words : Array (Option Value)} {oc__law_writer_words kV__law_writer_words dc__law_writer_words pm__law_writer_words cd__law_writer_words ct__law_writer_words : Value}
    {f__law_cleaner_words : Addr} {od__law_cleaner_words an__law_cleaner_words : Option Addr} {sl__law_cleaner_words : Array (Option Value)} {oc__law_cleaner_words kV__law_cleaner_words dc__law_cleaner_words pm__law_cleaner_words cd__law_cleaner_words ct__law_cleaner_words : Value}
    {f__law_reader_words : Addr} {od__law_reader_words an__law_reader_words : Option Addr} {sl__law_reader_words : Array (Option Value)} {oc__law_reader_words kV__law_reader_words dc__law_reader_words pm__law_reader_words cd__law_reader_words ct__law_reader_words : Value}
    {f__law_ahead : Addr} {od__law_ahead an__law_ahead : Option Addr} {sl__law_ahead : Array (Option Value)} {oc__law_ahead kV__law_ahead dc__law_ahead pm__law_ahead cd__law_ahead ct__law_ahead : Value}
    {f__law_fits : Addr} {od__law_fits an__law_fits : Option Addr} {sl__law_fits : Array (Option Value)} {oc__law_fits kV__law_fits dc__law_fits pm__law_fits cd__law_fits ct__law_fits : Value}
    {f__law_is_writer : Addr} {od__law_is_writer an__law_is_writer : Option Addr} {sl__law_is_writer : Array (Option Value)} {oc__law_is_writer kV__law_is_writer dc__law_is_writer pm__law_is_writer cd__law_is_writer ct__law_is_writer : Value}
    {f__law_is_cleaner : Addr} {od__law_is_cleaner an__law_is_cleaner : Option Addr} {sl__law_is_cleaner : Array (Option Value)} {oc__law_is_cleaner kV__law_is_cleaner dc__law_is_cleaner pm__law_is_cleaner cd__law_is_cleaner ct__law_is_cleaner : Value}
    {f__law_is_reader : Addr} {od__law_is_reader an__law_is_reader : Option Addr} {sl__law_is_reader : Array (Option Value)} {oc__law_is_reader kV__law_is_reader dc__law_is_reader pm__law_is_reader cd__law_is_reader ct__law_is_reader : Value}
    {f__law_spoilt : Addr} {od__law_spoilt an__law_spoilt : Option Addr} {sl__law_spoilt : Array (Option Value)} {oc__law_spoilt kV__law_spoilt dc__law_spoilt pm__law_spoilt cd__law_spoilt ct__law_spoilt : Value}
    {f__law_ascends : Addr} {od__law_ascends an__law_ascends : Option Addr} {sl__law_ascends : Array (Option Value)} {oc__law_ascends kV__law_ascends dc__law_ascends pm__law_ascends cd__law_ascends ct__law_ascends : Value}
    {f_law : Addr} {od_law an_law : Option Addr} {sl_law : Array (Option Value)} {oc_law kV_law dc_law pm_law cd_law ct_law : Value}
    (x_is_writer : PySem.W.nsIn K mainGlobals "is_writer" = some (some (.ref a_is_writer)))
    (x_is_cleaner : PySem.W.nsIn K mainGlobals "is_cleaner" = some (some (.ref a_is_cleaner)))
    (x_is_reader : PySem.W.nsIn K mainGlobals "is_reader" = some (some (.ref a_is_reader)))
    (z_len : PySem.W.nsIn K mainGlobals "len" = some none)
    (z_isinstance : PySem.W.nsIn K mainGlobals "isinstance" = some none)
    (z_int : PySem.W.nsIn K mainGlobals "int" = some none)
    (z_bool : PySem.W.nsIn K mainGlobals "bool" = some none)
    (z_range : PySem.W.nsIn K mainGlobals "range" = some none)
    (z_list : PySem.W.nsIn K mainGlobals "list" = some none)
    (z_tuple : PySem.W.nsIn K mainGlobals "tuple" = some none)
    (z_str : PySem.W.nsIn K mainGlobals "str" = some none)
    (z_set : PySem.W.nsIn K mainGlobals "set" = some none)
    (z_all : PySem.W.nsIn K mainGlobals "all" = some none)
    (z_zip : PySem.W.nsIn K mainGlobals "zip" = some none)
    (z_sorted : PySem.W.nsIn K mainGlobals "sorted" = some none)
    (x_WRITER_WORDS : PySem.W.nsIn K mainGlobals "WRITER_WORDS" = some (some (.ref a_WRITER_WORDS)))
    (y_WRITER_WORDS : K.lookup a_WRITER_WORDS = some ⟨.type "tuple", od_WRITER_WORDS, .seq #[.str "change" t0_WRITER_WORDS, .str "enter" t1_WRITER_WORDS, .str "commit" t2_WRITER_WORDS, .str "clear" t3_WRITER_WORDS, .str "lock" t4_WRITER_WORDS, .str "unlock" t5_WRITER_WORDS] nn_WRITER_WORDS, sl_WRITER_WORDS⟩)
    (x_CLEANER_WORDS : PySem.W.nsIn K mainGlobals "CLEANER_WORDS" = some (some (.ref a_CLEANER_WORDS)))
    (y_CLEANER_WORDS : K.lookup a_CLEANER_WORDS = some ⟨.type "tuple", od_CLEANER_WORDS, .seq #[.str "look" t0_CLEANER_WORDS, .str "set" t1_CLEANER_WORDS, .str "remove" t2_CLEANER_WORDS, .str "again" t3_CLEANER_WORDS, .str "lock" t4_CLEANER_WORDS, .str "unlock" t5_CLEANER_WORDS] nn_CLEANER_WORDS, sl_CLEANER_WORDS⟩)
    (x_READER_WORDS : PySem.W.nsIn K mainGlobals "READER_WORDS" = some (some (.ref a_READER_WORDS)))
    (y_READER_WORDS : K.lookup a_READER_WORDS = some ⟨.type "tuple", od_READER_WORDS, .seq #[.str "entry" t0_READER_WORDS, .str "mark" t1_READER_WORDS, .str "page" t2_READER_WORDS, .str "hold" t3_READER_WORDS, .str "take" t4_READER_WORDS, .str "tell" t5_READER_WORDS] nn_READER_WORDS, sl_READER_WORDS⟩)
    (gget : PySem.W.specialIn K (.builtin "object.__class__") "__get__" = some (some (.builtin "getset_descriptor.__get__")))
    (gtak : PySem.W.takesIn K (.builtin "object.__class__") = some true)
    (a_words_of : PySem.W.nsIn K mainGlobals "words_of" = some (some (.ref f_words_of)))
    (l_words_of : K.lookup f_words_of = some ⟨oc_words_of, od_words_of, .func (PySem.W.fnOf "words_of" "words_of" (defArgs s_words_of) (defBody s_words_of) (defScope s_words_of) .none kV_words_of dc_words_of pm_words_of an_words_of cd_words_of ct_words_of), sl_words_of⟩)
    (c_words_of : PySem.W.codeIn K cd_words_of "words_of" = true)
    (k_words_of : PySem.W.keepIn K (.ref f_words_of) = true)
    (a_all_there : PySem.W.nsIn K mainGlobals "all_there" = some (some (.ref f_all_there)))
    (l_all_there : K.lookup f_all_there = some ⟨oc_all_there, od_all_there, .func (PySem.W.fnOf "all_there" "all_there" (defArgs s_all_there) (defBody s_all_there) (defScope s_all_there) .none kV_all_there dc_all_there pm_all_there an_all_there cd_all_there ct_all_there), sl_all_there⟩)
    (c_all_there : PySem.W.codeIn K cd_all_there "all_there" = true)
    (k_all_there : PySem.W.keepIn K (.ref f_all_there) = true)
    (a_is_ahead : PySem.W.nsIn K mainGlobals "is_ahead" = some (some (.ref f_is_ahead)))
    (l_is_ahead : K.lookup f_is_ahead = some ⟨oc_is_ahead, od_is_ahead, .func (PySem.W.fnOf "is_ahead" "is_ahead" (defArgs s_is_ahead) (defBody s_is_ahead) (defScope s_is_ahead) .none kV_is_ahead dc_is_ahead pm_is_ahead an_is_ahead cd_is_ahead ct_is_ahead), sl_is_ahead⟩)
    (c_is_ahead : PySem.W.codeIn K cd_is_ahead "is_ahead" = true)
    (k_is_ahead : PySem.W.keepIn K (.ref f_is_ahead) = true)
    (a_is_locked_well : PySem.W.nsIn K mainGlobals "is_locked_well" = some (some (.ref f_is_locked_well)))
    (l_is_locked_well : K.lookup f_is_locked_well = some ⟨oc_is_locked_well, od_is_locked_well, .func (PySem.W.fnOf "is_locked_well" "is_locked_well" (defArgs s_is_locked_well) (defBody s_is_locked_well) (defScope s_is_locked_well) .none kV_is_locked_well dc_is_locked_well pm_is_locked_well an_is_locked_well cd_is_locked_well ct_is_locked_well), sl_is_locked_well⟩)
    (c_is_locked_well : PySem.W.codeIn K cd_is_locked_well "is_locked_well" = true)
    (k_is_locked_well : PySem.W.keepIn K (.ref f_is_locked_well) = true)
    (af_is_writer : PySem.W.nsIn K mainGlobals "is_writer" = some (some (.ref f_is_writer)))
    (l_is_writer : K.lookup f_is_writer = some ⟨oc_is_writer, od_is_writer, .func (PySem.W.fnOf "is_writer" "is_writer" (defArgs s_is_writer) (defBody s_is_writer) (defScope s_is_writer) .none kV_is_writer dc_is_writer pm_is_writer an_is_writer cd_is_writer ct_is_writer), sl_is_writer⟩)
    (c_is_writer : PySem.W.codeIn K cd_is_writer "is_writer" = true)
    (k_is_writer : PySem.W.keepIn K (.ref f_is_writer) = true)
    (af_is_cleaner : PySem.W.nsIn K mainGlobals "is_cleaner" = some (some (.ref f_is_cleaner)))
    (l_is_cleaner : K.lookup f_is_cleaner = some ⟨oc_is_cleaner, od_is_cleaner, .func (PySem.W.fnOf "is_cleaner" "is_cleaner" (defArgs s_is_cleaner) (defBody s_is_cleaner) (defScope s_is_cleaner) .none kV_is_cleaner dc_is_cleaner pm_is_cleaner an_is_cleaner cd_is_cleaner ct_is_cleaner), sl_is_cleaner⟩)
    (c_is_cleaner : PySem.W.codeIn K cd_is_cleaner "is_cleaner" = true)
    (k_is_cleaner : PySem.W.keepIn K (.ref f_is_cleaner) = true)
    (af_is_reader : PySem.W.nsIn K mainGlobals "is_reader" = some (some (.ref f_is_reader)))
    (l_is_reader : K.lookup f_is_reader = some ⟨oc_is_reader, od_is_reader, .func (PySem.W.fnOf "is_reader" "is_reader" (defArgs s_is_reader) (defBody s_is_reader) (defScope s_is_reader) .none kV_is_reader dc_is_reader pm_is_reader an_is_reader cd_is_reader ct_is_reader), sl_is_reader⟩)
    (c_is_reader : PySem.W.codeIn K cd_is_reader "is_reader" = true)
    (k_is_reader : PySem.W.keepIn K (.ref f_is_reader) = true)
    (a_mixed : PySem.W.nsIn K mainGlobals "mixed" = some (some (.ref f_mixed)))
    (l_mixed : K.lookup f_mixed = some ⟨oc_mixed, od_mixed, .func (PySem.W.fnOf "mixed" "mixed" (defArgs s_mixed) (defBody s_mixed) (defScope s_mixed) .none kV_mixed dc_mixed pm_mixed an_mixed cd_mixed ct_mixed), sl_mixed⟩)
    (c_mixed : PySem.W.codeIn K cd_mixed "mixed" = true)
    (k_mixed : PySem.W.keepIn K (.ref f_mixed) = true)
    (a_listed : PySem.W.nsIn K mainGlobals "listed" = some (some (.ref f_listed)))
    (l_listed : K.lookup f_listed = some ⟨oc_listed, od_listed, .func (PySem.W.fnOf "listed" "listed" (defArgs s_listed) (defBody s_listed) (defScope s_listed) .none kV_listed dc_listed pm_listed an_listed cd_listed ct_listed), sl_listed⟩)
    (c_listed : PySem.W.codeIn K cd_listed "listed" = true)
    (k_listed : PySem.W.keepIn K (.ref f_listed) = true)
    (a_writer_orders : PySem.W.nsIn K mainGlobals "writer_orders" = some (some (.ref f_writer_orders)))
    (l_writer_orders : K.lookup f_writer_orders = some ⟨oc_writer_orders, od_writer_orders, .func (PySem.W.fnOf "writer_orders" "writer_orders" (defArgs s_writer_orders) (defBody s_writer_orders) (defScope s_writer_orders) .none kV_writer_orders dc_writer_orders pm_writer_orders an_writer_orders cd_writer_orders ct_writer_orders), sl_writer_orders⟩)
    (c_writer_orders : PySem.W.codeIn K cd_writer_orders "writer_orders" = true)
    (k_writer_orders : PySem.W.keepIn K (.ref f_writer_orders) = true)
    (a_cleaner_orders : PySem.W.nsIn K mainGlobals "cleaner_orders" = some (some (.ref f_cleaner_orders)))
    (l_cleaner_orders : K.lookup f_cleaner_orders = some ⟨oc_cleaner_orders, od_cleaner_orders, .func (PySem.W.fnOf "cleaner_orders" "cleaner_orders" (defArgs s_cleaner_orders) (defBody s_cleaner_orders) (defScope s_cleaner_orders) .none kV_cleaner_orders dc_cleaner_orders pm_cleaner_orders an_cleaner_orders cd_cleaner_orders ct_cleaner_orders), sl_cleaner_orders⟩)
    (c_cleaner_orders : PySem.W.codeIn K cd_cleaner_orders "cleaner_orders" = true)
    (k_cleaner_orders : PySem.W.keepIn K (.ref f_cleaner_orders) = true)
    (a_reader_orders : PySem.W.nsIn K mainGlobals "reader_orders" = some (some (.ref f_reader_orders)))
    (l_reader_orders : K.lookup f_reader_orders = some ⟨oc_reader_orders, od_reader_orders, .func (PySem.W.fnOf "reader_orders" "reader_orders" (defArgs s_reader_orders) (defBody s_reader_orders) (defScope s_reader_orders) .none kV_reader_orders dc_reader_orders pm_reader_orders an_reader_orders cd_reader_orders ct_reader_orders), sl_reader_orders⟩)
    (c_reader_orders : PySem.W.codeIn K cd_reader_orders "reader_orders" = true)
    (k_reader_orders : PySem.W.keepIn K (.ref f_reader_orders) = true)
    (a__law_pot : PySem.W.nsIn K mainGlobals "_law_pot" = some (some (.ref f__law_pot)))
    (l__law_pot : K.lookup f__law_pot = some ⟨oc__law_pot, od__law_pot, .func (PySem.W.fnOf "_law_pot" "_law_pot" (defArgs s__law_pot) (defBody s__law_pot) (defScope s__law_pot) .none kV__law_pot dc__law_pot pm__law_pot an__law_pot cd__law_pot ct__law_pot), sl__law_pot⟩)
    (c__law_pot : PySem.W.codeIn K cd__law_pot "_law_pot" = true)
    (k__law_pot : PySem.W.keepIn K (.ref f__law_pot) = true)
    (a__law_draw : PySem.W.nsIn K mainGlobals "_law_draw" = some (some (.ref f__law_draw)))
    (l__law_draw : K.lookup f__law_draw = some ⟨oc__law_draw, od__law_draw, .func (PySem.W.fnOf "_law_draw" "_law_draw" (defArgs s__law_draw) (defBody s__law_draw) (defScope s__law_draw) .none kV__law_draw dc__law_draw pm__law_draw an__law_draw cd__law_draw ct__law_draw), sl__law_draw⟩)
    (c__law_draw : PySem.W.codeIn K cd__law_draw "_law_draw" = true)
    (k__law_draw : PySem.W.keepIn K (.ref f__law_draw) = true)
    (a__law_put_in : PySem.W.nsIn K mainGlobals "_law_put_in" = some (some (.ref f__law_put_in)))
    (l__law_put_in : K.lookup f__law_put_in = some ⟨oc__law_put_in, od__law_put_in, .func (PySem.W.fnOf "_law_put_in" "_law_put_in" (defArgs s__law_put_in) (defBody s__law_put_in) (defScope s__law_put_in) .none kV__law_put_in dc__law_put_in pm__law_put_in an__law_put_in cd__law_put_in ct__law_put_in), sl__law_put_in⟩)
    (c__law_put_in : PySem.W.codeIn K cd__law_put_in "_law_put_in" = true)
    (k__law_put_in : PySem.W.keepIn K (.ref f__law_put_in) = true)
    (a__law_locked : PySem.W.nsIn K mainGlobals "_law_locked" = some (some (.ref f__law_locked)))
    (l__law_locked : K.lookup f__law_locked = some ⟨oc__law_locked, od__law_locked, .func (PySem.W.fnOf "_law_locked" "_law_locked" (defArgs s__law_locked) (defBody s__law_locked) (defScope s__law_locked) .none kV__law_locked dc__law_locked pm__law_locked an__law_locked cd__law_locked ct__law_locked), sl__law_locked⟩)
    (c__law_locked : PySem.W.codeIn K cd__law_locked "_law_locked" = true)
    (k__law_locked : PySem.W.keepIn K (.ref f__law_locked) = true)
    (a__law_writer_words : PySem.W.nsIn K mainGlobals "_law_writer_words" = some (some (.ref f__law_writer_words)))
    (l__law_writer_words : K.lookup f__law_writer_words = some ⟨oc__law_writer_words, od__law_writer_words, .func (PySem.W.fnOf "_law_writer_words" "_law_writer_words" (defArgs s__law_writer_words) (defBody s__law_writer_words) (defScope s__law_writer_words) .none kV__law_writer_words dc__law_writer_words pm__law_writer_words an__law_writer_words cd__law_writer_words ct__law_writer_words), sl__law_writer_words⟩)
    (c__law_writer_words : PySem.W.codeIn K cd__law_writer_words "_law_writer_words" = true)
    (k__law_writer_words : PySem.W.keepIn K (.ref f__law_writer_words) = true)
    (a__law_cleaner_words : PySem.W.nsIn K mainGlobals "_law_cleaner_words" = some (some (.ref f__law_cleaner_words)))
    (l__law_cleaner_words : K.lookup f__law_cleaner_words = some ⟨oc__law_cleaner_words, od__law_cleaner_words, .func (PySem.W.fnOf "_law_cleaner_words" "_law_cleaner_words" (defArgs s__law_cleaner_words) (defBody s__law_cleaner_words) (defScope s__law_cleaner_words) .none kV__law_cleaner_words dc__law_cleaner_words pm__law_cleaner_words an__law_cleaner_words cd__law_cleaner_words ct__law_cleaner_words), sl__law_cleaner_words⟩)
    (c__law_cleaner_words : PySem.W.codeIn K cd__law_cleaner_words "_law_cleaner_words" = true)
    (k__law_cleaner_words : PySem.W.keepIn K (.ref f__law_cleaner_words) = true)
    (a__law_reader_words : PySem.W.nsIn K mainGlobals "_law_reader_words" = some (some (.ref f__law_reader_words)))
    (l__law_reader_words : K.lookup f__law_reader_words = some ⟨oc__law_reader_words, od__law_reader_words, .func (PySem.W.fnOf "_law_reader_words" "_law_reader_words" (defArgs s__law_reader_words) (defBody s__law_reader_words) (defScope s__law_reader_words) .none kV__law_reader_words dc__law_reader_words pm__law_reader_words an__law_reader_words cd__law_reader_words ct__law_reader_words), sl__law_reader_words⟩)
    (c__law_reader_words : PySem.W.codeIn K cd__law_reader_words "_law_reader_words" = true)
    (k__law_reader_words : PySem.W.keepIn K (.ref f__law_reader_words) = true)
    (a__law_ahead : PySem.W.nsIn K mainGlobals "_law_ahead" = some (some (.ref f__law_ahead)))
    (l__law_ahead : K.lookup f__law_ahead = some ⟨oc__law_ahead, od__law_ahead, .func (PySem.W.fnOf "_law_ahead" "_law_ahead" (defArgs s__law_ahead) (defBody s__law_ahead) (defScope s__law_ahead) .none kV__law_ahead dc__law_ahead pm__law_ahead an__law_ahead cd__law_ahead ct__law_ahead), sl__law_ahead⟩)
    (c__law_ahead : PySem.W.codeIn K cd__law_ahead "_law_ahead" = true)
    (k__law_ahead : PySem.W.keepIn K (.ref f__law_ahead) = true)
    (a__law_fits : PySem.W.nsIn K mainGlobals "_law_fits" = some (some (.ref f__law_fits)))
    (l__law_fits : K.lookup f__law_fits = some ⟨oc__law_fits, od__law_fits, .func (PySem.W.fnOf "_law_fits" "_law_fits" (defArgs s__law_fits) (defBody s__law_fits) (defScope s__law_fits) .none kV__law_fits dc__law_fits pm__law_fits an__law_fits cd__law_fits ct__law_fits), sl__law_fits⟩)
    (c__law_fits : PySem.W.codeIn K cd__law_fits "_law_fits" = true)
    (k__law_fits : PySem.W.keepIn K (.ref f__law_fits) = true)
    (a__law_is_writer : PySem.W.nsIn K mainGlobals "_law_is_writer" = some (some (.ref f__law_is_writer)))
    (l__law_is_writer : K.lookup f__law_is_writer = some ⟨oc__law_is_writer, od__law_is_writer, .func (PySem.W.fnOf "_law_is_writer" "_law_is_writer" (defArgs s__law_is_writer) (defBody s__law_is_writer) (defScope s__law_is_writer) .none kV__law_is_writer dc__law_is_writer pm__law_is_writer an__law_is_writer cd__law_is_writer ct__law_is_writer), sl__law_is_writer⟩)
    (c__law_is_writer : PySem.W.codeIn K cd__law_is_writer "_law_is_writer" = true)
    (k__law_is_writer : PySem.W.keepIn K (.ref f__law_is_writer) = true)
    (a__law_is_cleaner : PySem.W.nsIn K mainGlobals "_law_is_cleaner" = some (some (.ref f__law_is_cleaner)))
    (l__law_is_cleaner : K.lookup f__law_is_cleaner = some ⟨oc__law_is_cleaner, od__law_is_cleaner, .func (PySem.W.fnOf "_law_is_cleaner" "_law_is_cleaner" (defArgs s__law_is_cleaner) (defBody s__law_is_cleaner) (defScope s__law_is_cleaner) .none kV__law_is_cleaner dc__law_is_cleaner pm__law_is_cleaner an__law_is_cleaner cd__law_is_cleaner ct__law_is_cleaner), sl__law_is_cleaner⟩)
    (c__law_is_cleaner : PySem.W.codeIn K cd__law_is_cleaner "_law_is_cleaner" = true)
    (k__law_is_cleaner : PySem.W.keepIn K (.ref f__law_is_cleaner) = true)
    (a__law_is_reader : PySem.W.nsIn K mainGlobals "_law_is_reader" = some (some (.ref f__law_is_reader)))
    (l__law_is_reader : K.lookup f__law_is_reader = some ⟨oc__law_is_reader, od__law_is_reader, .func (PySem.W.fnOf "_law_is_reader" "_law_is_reader" (defArgs s__law_is_reader) (defBody s__law_is_reader) (defScope s__law_is_reader) .none kV__law_is_reader dc__law_is_reader pm__law_is_reader an__law_is_reader cd__law_is_reader ct__law_is_reader), sl__law_is_reader⟩)
    (c__law_is_reader : PySem.W.codeIn K cd__law_is_reader "_law_is_reader" = true)
    (k__law_is_reader : PySem.W.keepIn K (.ref f__law_is_reader) = true)
    (a__law_spoilt : PySem.W.nsIn K mainGlobals "_law_spoilt" = some (some (.ref f__law_spoilt)))
    (l__law_spoilt : K.lookup f__law_spoilt = some ⟨oc__law_spoilt, od__law_spoilt, .func (PySem.W.fnOf "_law_spoilt" "_law_spoilt" (defArgs s__law_spoilt) (defBody s__law_spoilt) (defScope s__law_spoilt) .none kV__law_spoilt dc__law_spoilt pm__law_spoilt an__law_spoilt cd__law_spoilt ct__law_spoilt), sl__law_spoilt⟩)
    (c__law_spoilt : PySem.W.codeIn K cd__law_spoilt "_law_spoilt" = true)
    (k__law_spoilt : PySem.W.keepIn K (.ref f__law_spoilt) = true)
    (a__law_ascends : PySem.W.nsIn K mainGlobals "_law_ascends" = some (some (.ref f__law_ascends)))
    (l__law_ascends : K.lookup f__law_ascends = some ⟨oc__law_ascends, od__law_ascends, .func (PySem.W.fnOf "_law_ascends" "_law_ascends" (defArgs s__law_ascends) (defBody s__law_ascends) (defScope s__law_ascends) .none kV__law_ascends dc__law_ascends pm__law_ascends an__law_ascends cd__law_ascends ct__law_ascends), sl__law_ascends⟩)
    (c__law_ascends : PySem.W.codeIn K cd__law_ascends "_law_ascends" = true)
    (k__law_ascends : PySem.W.keepIn K (.ref f__law_ascends) = true)
    (a_law : PySem.W.nsIn K mainGlobals "law" = some (some (.ref f_law)))
    (l_law : K.lookup f_law = some ⟨oc_law, od_law, .func (PySem.W.fnOf "law" "law" (defArgs s_law) (defBody s_law) (defScope s_law) .none kV_law dc_law pm_law an_law cd_law ct_law), sl_law⟩)
    (c_law : PySem.W.codeIn K cd_law "law" = true)
    (k_law : PySem.W.keepIn K (.ref f_law) = true)
    : ∃ fd : FuncData, (∀ (s : Shared) (v : Value), BindsTo s fd ⟨[v], []⟩ [("script", v)]) ∧ ∀ base : Heap, K.In base → base.Ns mainGlobals mg → TP.FnOk l.prog w K mg base (L2.CX l.prog w) 7 fa fd ["script"] (sp_law K) := by
  have e := hfa.symm.trans (PySem.W.mg_of X G a_law)
  cases e
  have T : Txt l.prog w K mg a_WRITER_WORDS a_CLEANER_WORDS a_READER_WORDS a_is_writer a_is_cleaner a_is_reader := ⟨PySem.W.mg_none_of X G z_len, PySem.W.mg_none_of X G z_isinstance, PySem.W.mg_none_of X G z_int, PySem.W.mg_none_of X G z_bool, PySem.W.mg_none_of X G z_range, PySem.W.mg_none_of X G z_list, PySem.W.mg_none_of X G z_tuple, PySem.W.mg_none_of X G z_str, PySem.W.mg_none_of X G z_set, PySem.W.mg_none_of X G z_all, PySem.W.mg_none_of X G z_zip, PySem.W.mg_none_of X G z_sorted, PySem.W.mg_of X G x_WRITER_WORDS, PySem.W.mg_of X G x_CLEANER_WORDS, PySem.W.mg_of X G x_READER_WORDS, PySem.W.mg_of X G x_is_writer, PySem.W.mg_of X G x_is_cleaner, PySem.W.mg_of X G x_is_reader⟩
  have FC : MR.ClsG K (Gam a_is_writer a_is_cleaner a_is_reader) 0 := ⟨⟨fun c h => match c, h with  | n + 0, h => absurd h (by omega), fun c d h h2 => match c, h, d, h2 with  | n + 0, h, _, _ => absurd h (by omega), fun c h => match c, h with  | n + 0, h => absurd h (by omega), fun c h => match c, h with  | n + 0, h => absurd h (by omega)⟩, fun c h => match c, h with  | n + 0, h => absurd h (by omega), fun c d h h2 => match c, h, d, h2 with  | n + 0, h, _, _ => absurd h (by omega)⟩
  have hR_WRITER_WORDS : ∀ w : MR.Wd, MR.Rep K (Gam a_is_writer a_is_cleaner a_is_reader) w (.tup [.str "change", .str "enter", .str "commit", .str "clear", .str "lock", .str "unlock"]) (.ref a_WRITER_WORDS) := fun w => by simp only [MR.Rep, MR.RepC]; exact ⟨a_WRITER_WORDS, [.str "change", .str "enter", .str "commit", .str "clear", .str "lock", .str "unlock"], rfl, .inr ⟨_, _, _, y_WRITER_WORDS, rfl, rfl, by rw [sizeLine_eq]; show 6 ≤ 16777216; decide, (.cons ⟨_, rfl⟩ (.cons ⟨_, rfl⟩ (.cons ⟨_, rfl⟩ (.cons ⟨_, rfl⟩ (.cons ⟨_, rfl⟩ (.cons ⟨_, rfl⟩ .nil))))))⟩, by rw [sizeLine_eq]; show 6 ≤ 16777216; decide, (MR.reps_cons (by simp only [MR.RepC]) (MR.reps_cons (by simp only [MR.RepC]) (MR.reps_cons (by simp only [MR.RepC]) (MR.reps_cons (by simp only [MR.RepC]) (MR.reps_cons (by simp only [MR.RepC]) (MR.reps_cons (by simp only [MR.RepC]) MR.reps_nil))))))⟩
  have K_WRITER_WORDS : ∀ {xa : XT} {W : WX}, MR.SimE K (Gam a_is_writer a_is_cleaner a_is_reader) xa W (tC (.ref a_WRITER_WORDS)) (MR.mC k_WRITER_WORDS) := fun {xa W} => ⟨fun w0 w σ δ Q o e n p => MR.Post.now p o _ (hR_WRITER_WORDS w)⟩
  have hR_CLEANER_WORDS : ∀ w : MR.Wd, MR.Rep K (Gam a_is_writer a_is_cleaner a_is_reader) w (.tup [.str "look", .str "set", .str "remove", .str "again", .str "lock", .str "unlock"]) (.ref a_CLEANER_WORDS) := fun w => by simp only [MR.Rep, MR.RepC]; exact ⟨a_CLEANER_WORDS, [.str "look", .str "set", .str "remove", .str "again", .str "lock", .str "unlock"], rfl, .inr ⟨_, _, _, y_CLEANER_WORDS, rfl, rfl, by rw [sizeLine_eq]; show 6 ≤ 16777216; decide, (.cons ⟨_, rfl⟩ (.cons ⟨_, rfl⟩ (.cons ⟨_, rfl⟩ (.cons ⟨_, rfl⟩ (.cons ⟨_, rfl⟩ (.cons ⟨_, rfl⟩ .nil))))))⟩, by rw [sizeLine_eq]; show 6 ≤ 16777216; decide, (MR.reps_cons (by simp only [MR.RepC]) (MR.reps_cons (by simp only [MR.RepC]) (MR.reps_cons (by simp only [MR.RepC]) (MR.reps_cons (by simp only [MR.RepC]) (MR.reps_cons (by simp only [MR.RepC]) (MR.reps_cons (by simp only [MR.RepC]) MR.reps_nil))))))⟩
  have K_CLEANER_WORDS : ∀ {xa : XT} {W : WX}, MR.SimE K (Gam a_is_writer a_is_cleaner a_is_reader) xa W (tC (.ref a_CLEANER_WORDS)) (MR.mC k_CLEANER_WORDS) := fun {xa W} => ⟨fun w0 w σ δ Q o e n p => MR.Post.now p o _ (hR_CLEANER_WORDS w)⟩
  have hR_READER_WORDS : ∀ w : MR.Wd, MR.Rep K (Gam a_is_writer a_is_cleaner a_is_reader) w (.tup [.str "entry", .str "mark", .str "page", .str "hold", .str "take", .str "tell"]) (.ref a_READER_WORDS) := fun w => by simp only [MR.Rep, MR.RepC]; exact ⟨a_READER_WORDS, [.str "entry", .str "mark", .str "page", .str "hold", .str "take", .str "tell"], rfl, .inr ⟨_, _, _, y_READER_WORDS, rfl, rfl, by rw [sizeLine_eq]; show 6 ≤ 16777216; decide, (.cons ⟨_, rfl⟩ (.cons ⟨_, rfl⟩ (.cons ⟨_, rfl⟩ (.cons ⟨_, rfl⟩ (.cons ⟨_, rfl⟩ (.cons ⟨_, rfl⟩ .nil))))))⟩, by rw [sizeLine_eq]; show 6 ≤ 16777216; decide, (MR.reps_cons (by simp only [MR.RepC]) (MR.reps_cons (by simp only [MR.RepC]) (MR.reps_cons (by simp only [MR.RepC]) (MR.reps_cons (by simp only [MR.RepC]) (MR.reps_cons (by simp only [MR.RepC]) (MR.reps_cons (by simp only [MR.RepC]) MR.reps_nil))))))⟩
  have K_READER_WORDS : ∀ {xa : XT} {W : WX}, MR.SimE K (Gam a_is_writer a_is_cleaner a_is_reader) xa W (tC (.ref a_READER_WORDS)) (MR.mC k_READER_WORDS) := fun {xa W} => ⟨fun w0 w σ δ Q o e n p => MR.Post.now p o _ (hR_READER_WORDS w)⟩
  have X0 : Cxt K a_WRITER_WORDS a_CLEANER_WORDS a_READER_WORDS a_is_writer a_is_cleaner a_is_reader := ⟨FC, K_WRITER_WORDS, K_CLEANER_WORDS, K_READER_WORDS⟩
  have F_words_of := fun_mk (st := s_words_of) l_words_of c_words_of k_words_of
  have FI_words_of : FunI K mg "words_of" s_words_of ["value", "known"] := ⟨_, _, PySem.W.mg_of X G a_words_of, F_words_of, F_words_of.binds (ps := ["value", "known"]) fun _ _ _ _ _ _ us hl => match us, hl with | [_, _], _ => rfl⟩
  have F_all_there := fun_mk (st := s_all_there) l_all_there c_all_there k_all_there
  have FI_all_there : FunI K mg "all_there" s_all_there ["found", "needed"] := ⟨_, _, PySem.W.mg_of X G a_all_there, F_all_there, F_all_there.binds (ps := ["found", "needed"]) fun _ _ _ _ _ _ us hl => match us, hl with | [_, _], _ => rfl⟩
  have F_is_ahead := fun_mk (st := s_is_ahead) l_is_ahead c_is_ahead k_is_ahead
  have FI_is_ahead : FunI K mg "is_ahead" s_is_ahead ["found", "one", "other"] := ⟨_, _, PySem.W.mg_of X G a_is_ahead, F_is_ahead, F_is_ahead.binds (ps := ["found", "one", "other"]) fun _ _ _ _ _ _ us hl => match us, hl with | [_, _, _], _ => rfl⟩
  have F_is_locked_well := fun_mk (st := s_is_locked_well) l_is_locked_well c_is_locked_well k_is_locked_well
  have FI_is_locked_well : FunI K mg "is_locked_well" s_is_locked_well ["found"] := ⟨_, _, PySem.W.mg_of X G a_is_locked_well, F_is_locked_well, F_is_locked_well.binds (ps := ["found"]) fun _ _ _ _ _ _ us hl => match us, hl with | [_], _ => rfl⟩
  have F_is_writer := fun_mk (st := s_is_writer) l_is_writer c_is_writer k_is_writer
  have FI_is_writer : FunI K mg "is_writer" s_is_writer ["value"] := ⟨_, _, PySem.W.mg_of X G af_is_writer, F_is_writer, F_is_writer.binds (ps := ["value"]) fun _ _ _ _ _ _ us hl => match us, hl with | [_], _ => rfl⟩
  have F_is_cleaner := fun_mk (st := s_is_cleaner) l_is_cleaner c_is_cleaner k_is_cleaner
  have FI_is_cleaner : FunI K mg "is_cleaner" s_is_cleaner ["value"] := ⟨_, _, PySem.W.mg_of X G af_is_cleaner, F_is_cleaner, F_is_cleaner.binds (ps := ["value"]) fun _ _ _ _ _ _ us hl => match us, hl with | [_], _ => rfl⟩
  have F_is_reader := fun_mk (st := s_is_reader) l_is_reader c_is_reader k_is_reader
  have FI_is_reader : FunI K mg "is_reader" s_is_reader ["value"] := ⟨_, _, PySem.W.mg_of X G af_is_reader, F_is_reader, F_is_reader.binds (ps := ["value"]) fun _ _ _ _ _ _ us hl => match us, hl with | [_], _ => rfl⟩
  have F_mixed := fun_mk (st := s_mixed) l_mixed c_mixed k_mixed
  have FI_mixed : FunI K mg "mixed" s_mixed ["words", "rest"] := ⟨_, _, PySem.W.mg_of X G a_mixed, F_mixed, F_mixed.binds (ps := ["words", "rest"]) fun _ _ _ _ _ _ us hl => match us, hl with | [_, _], _ => rfl⟩
  have F_listed := fun_mk (st := s_listed) l_listed c_listed k_listed
  have FI_listed : FunI K mg "listed" s_listed ["needed", "free", "is_order"] := ⟨_, _, PySem.W.mg_of X G a_listed, F_listed, F_listed.binds (ps := ["needed", "free", "is_order"]) fun _ _ _ _ _ _ us hl => match us, hl with | [_, _, _], _ => rfl⟩
  have F_writer_orders := fun_mk (st := s_writer_orders) l_writer_orders c_writer_orders k_writer_orders
  have FI_writer_orders : FunI K mg "writer_orders" s_writer_orders [] := ⟨_, _, PySem.W.mg_of X G a_writer_orders, F_writer_orders, F_writer_orders.binds (ps := []) fun _ _ _ _ _ _ us hl => match us, hl with | [], _ => rfl⟩
  have F_cleaner_orders := fun_mk (st := s_cleaner_orders) l_cleaner_orders c_cleaner_orders k_cleaner_orders
  have FI_cleaner_orders : FunI K mg "cleaner_orders" s_cleaner_orders [] := ⟨_, _, PySem.W.mg_of X G a_cleaner_orders, F_cleaner_orders, F_cleaner_orders.binds (ps := []) fun _ _ _ _ _ _ us hl => match us, hl with | [], _ => rfl⟩
  have F_reader_orders := fun_mk (st := s_reader_orders) l_reader_orders c_reader_orders k_reader_orders
  have FI_reader_orders : FunI K mg "reader_orders" s_reader_orders [] := ⟨_, _, PySem.W.mg_of X G a_reader_orders, F_reader_orders, F_reader_orders.binds (ps := []) fun _ _ _ _ _ _ us hl => match us, hl with | [], _ => rfl⟩
  have F__law_pot := fun_mk (st := s__law_pot) l__law_pot c__law_pot k__law_pot
  have FI__law_pot : FunI K mg "_law_pot" s__law_pot ["script"] := ⟨_, _, PySem.W.mg_of X G a__law_pot, F__law_pot, F__law_pot.binds (ps := ["script"]) fun _ _ _ _ _ _ us hl => match us, hl with | [_], _ => rfl⟩
  have F__law_draw := fun_mk (st := s__law_draw) l__law_draw c__law_draw k__law_draw
  have FI__law_draw : FunI K mg "_law_draw" s__law_draw ["pot", "many"] := ⟨_, _, PySem.W.mg_of X G a__law_draw, F__law_draw, F__law_draw.binds (ps := ["pot", "many"]) fun _ _ _ _ _ _ us hl => match us, hl with | [_, _], _ => rfl⟩
  have F__law_put_in := fun_mk (st := s__law_put_in) l__law_put_in c__law_put_in k__law_put_in
  have FI__law_put_in : FunI K mg "_law_put_in" s__law_put_in ["pot", "order", "word", "least"] := ⟨_, _, PySem.W.mg_of X G a__law_put_in, F__law_put_in, F__law_put_in.binds (ps := ["pot", "order", "word", "least"]) fun _ _ _ _ _ _ us hl => match us, hl with | [_, _, _, _], _ => rfl⟩
  have F__law_locked := fun_mk (st := s__law_locked) l__law_locked c__law_locked k__law_locked
  have FI__law_locked : FunI K mg "_law_locked" s__law_locked ["pot", "order"] := ⟨_, _, PySem.W.mg_of X G a__law_locked, F__law_locked, F__law_locked.binds (ps := ["pot", "order"]) fun _ _ _ _ _ _ us hl => match us, hl with | [_, _], _ => rfl⟩
  have F__law_writer_words := fun_mk (st := s__law_writer_words) l__law_writer_words c__law_writer_words k__law_writer_words
  have FI__law_writer_words : FunI K mg "_law_writer_words" s__law_writer_words ["pot"] := ⟨_, _, PySem.W.mg_of X G a__law_writer_words, F__law_writer_words, F__law_writer_words.binds (ps := ["pot"]) fun _ _ _ _ _ _ us hl => match us, hl with | [_], _ => rfl⟩
  have F__law_cleaner_words := fun_mk (st := s__law_cleaner_words) l__law_cleaner_words c__law_cleaner_words k__law_cleaner_words
  have FI__law_cleaner_words : FunI K mg "_law_cleaner_words" s__law_cleaner_words ["pot"] := ⟨_, _, PySem.W.mg_of X G a__law_cleaner_words, F__law_cleaner_words, F__law_cleaner_words.binds (ps := ["pot"]) fun _ _ _ _ _ _ us hl => match us, hl with | [_], _ => rfl⟩
  have F__law_reader_words := fun_mk (st := s__law_reader_words) l__law_reader_words c__law_reader_words k__law_reader_words
  have FI__law_reader_words : FunI K mg "_law_reader_words" s__law_reader_words ["pot"] := ⟨_, _, PySem.W.mg_of X G a__law_reader_words, F__law_reader_words, F__law_reader_words.binds (ps := ["pot"]) fun _ _ _ _ _ _ us hl => match us, hl with | [_], _ => rfl⟩
  have F__law_ahead := fun_mk (st := s__law_ahead) l__law_ahead c__law_ahead k__law_ahead
  have FI__law_ahead : FunI K mg "_law_ahead" s__law_ahead ["order", "one", "other"] := ⟨_, _, PySem.W.mg_of X G a__law_ahead, F__law_ahead, F__law_ahead.binds (ps := ["order", "one", "other"]) fun _ _ _ _ _ _ us hl => match us, hl with | [_, _, _], _ => rfl⟩
  have F__law_fits := fun_mk (st := s__law_fits) l__law_fits c__law_fits k__law_fits
  have FI__law_fits : FunI K mg "_law_fits" s__law_fits ["text", "needed", "free"] := ⟨_, _, PySem.W.mg_of X G a__law_fits, F__law_fits, F__law_fits.binds (ps := ["text", "needed", "free"]) fun _ _ _ _ _ _ us hl => match us, hl with | [_, _, _], _ => rfl⟩
  have F__law_is_writer := fun_mk (st := s__law_is_writer) l__law_is_writer c__law_is_writer k__law_is_writer
  have FI__law_is_writer : FunI K mg "_law_is_writer" s__law_is_writer ["text"] := ⟨_, _, PySem.W.mg_of X G a__law_is_writer, F__law_is_writer, F__law_is_writer.binds (ps := ["text"]) fun _ _ _ _ _ _ us hl => match us, hl with | [_], _ => rfl⟩
  have F__law_is_cleaner := fun_mk (st := s__law_is_cleaner) l__law_is_cleaner c__law_is_cleaner k__law_is_cleaner
  have FI__law_is_cleaner : FunI K mg "_law_is_cleaner" s__law_is_cleaner ["text"] := ⟨_, _, PySem.W.mg_of X G a__law_is_cleaner, F__law_is_cleaner, F__law_is_cleaner.binds (ps := ["text"]) fun _ _ _ _ _ _ us hl => match us, hl with | [_], _ => rfl⟩
  have F__law_is_reader := fun_mk (st := s__law_is_reader) l__law_is_reader c__law_is_reader k__law_is_reader
  have FI__law_is_reader : FunI K mg "_law_is_reader" s__law_is_reader ["text"] := ⟨_, _, PySem.W.mg_of X G a__law_is_reader, F__law_is_reader, F__law_is_reader.binds (ps := ["text"]) fun _ _ _ _ _ _ us hl => match us, hl with | [_], _ => rfl⟩
  have F__law_spoilt := fun_mk (st := s__law_spoilt) l__law_spoilt c__law_spoilt k__law_spoilt
  have FI__law_spoilt : FunI K mg "_law_spoilt" s__law_spoilt ["pot", "order"] := ⟨_, _, PySem.W.mg_of X G a__law_spoilt, F__law_spoilt, F__law_spoilt.binds (ps := ["pot", "order"]) fun _ _ _ _ _ _ us hl => match us, hl with | [_, _], _ => rfl⟩
  have F__law_ascends := fun_mk (st := s__law_ascends) l__law_ascends c__law_ascends k__law_ascends
  have FI__law_ascends : FunI K mg "_law_ascends" s__law_ascends ["texts"] := ⟨_, _, PySem.W.mg_of X G a__law_ascends, F__law_ascends, F__law_ascends.binds (ps := ["texts"]) fun _ _ _ _ _ _ us hl => match us, hl with | [_], _ => rfl⟩
  have F_law := fun_mk (st := s_law) l_law c_law k_law
  refine ⟨PySem.W.fnOf "law" "law" (defArgs s_law) (defBody s_law) (defScope s_law) .none kV_law dc_law pm_law an_law cd_law ct_law, fun s v => .of_eq rfl, fun base hb hn => ?_⟩
  have I_words_of : FnZ l.prog w K mg base 1 "words_of" ["value", "known"] (spM K (Gam a_is_writer a_is_cleaner a_is_reader) 2 m_words_of) := FI_words_of.okZ sc_words_of (fun _ _ _ _ h => MR.spM_len h) (d_words_of T) (fun H vs Q E h => MR.spM_run (xa := ⟨0, .none, none, 0⟩) (q_words_of X0) h)
  have I_all_there : FnZ l.prog w K mg base 1 "all_there" ["found", "needed"] (spM K (Gam a_is_writer a_is_cleaner a_is_reader) 2 m_all_there) := FI_all_there.okZ sc_all_there (fun _ _ _ _ h => MR.spM_len h) (d_all_there T) (fun H vs Q E h => MR.spM_run (xa := ⟨0, .none, none, 0⟩) (q_all_there X0) h)
  have I_is_ahead : FnZ l.prog w K mg base 1 "is_ahead" ["found", "one", "other"] (spM K (Gam a_is_writer a_is_cleaner a_is_reader) 3 m_is_ahead) := FI_is_ahead.okZ sc_is_ahead (fun _ _ _ _ h => MR.spM_len h) (d_is_ahead T) (fun H vs Q E h => MR.spM_run (xa := ⟨0, .none, none, 0⟩) (q_is_ahead X0) h)
  have I_is_locked_well : FnZ l.prog w K mg base 2 "is_locked_well" ["found"] (spM K (Gam a_is_writer a_is_cleaner a_is_reader) 1 m_is_locked_well) := FI_is_locked_well.okZ sc_is_locked_well (fun _ _ _ _ h => MR.spM_len h) (d_is_locked_well T I_is_ahead) (fun H vs Q E h => MR.spM_run (xa := ⟨0, .none, none, 0⟩) (q_is_locked_well X0) h)
  have I_is_writer : FnZ l.prog w K mg base 3 "is_writer" ["value"] (spM K (Gam a_is_writer a_is_cleaner a_is_reader) 1 m_is_writer) := FI_is_writer.okZ sc_is_writer (fun _ _ _ _ h => MR.spM_len h) (d_is_writer T I_words_of I_all_there I_is_ahead I_is_locked_well) (fun H vs Q E h => MR.spM_run (xa := ⟨0, .none, none, 0⟩) (q_is_writer X0) h)
  have I_is_cleaner : FnZ l.prog w K mg base 3 "is_cleaner" ["value"] (spM K (Gam a_is_writer a_is_cleaner a_is_reader) 1 m_is_cleaner) := FI_is_cleaner.okZ sc_is_cleaner (fun _ _ _ _ h => MR.spM_len h) (d_is_cleaner T I_words_of I_all_there I_is_ahead I_is_locked_well) (fun H vs Q E h => MR.spM_run (xa := ⟨0, .none, none, 0⟩) (q_is_cleaner X0) h)
  have I_is_reader : FnZ l.prog w K mg base 2 "is_reader" ["value"] (spM K (Gam a_is_writer a_is_cleaner a_is_reader) 1 m_is_reader) := FI_is_reader.okZ sc_is_reader (fun _ _ _ _ h => MR.spM_len h) (d_is_reader T I_words_of I_all_there I_is_ahead) (fun H vs Q E h => MR.spM_run (xa := ⟨0, .none, none, 0⟩) (q_is_reader X0) h)
  have I_mixed : FnZ l.prog w K mg base 1 "mixed" ["words", "rest"] (spM K (Gam a_is_writer a_is_cleaner a_is_reader) 2 m_mixed) := FI_mixed.okZ sc_mixed (fun _ _ _ _ h => MR.spM_len h) (d_mixed T) (fun H vs Q E h => MR.spM_run (xa := ⟨0, .none, none, 0⟩) (q_mixed X0) h)
  have I_listed : FnZ l.prog w K mg base 4 "listed" ["needed", "free", "is_order"] (spM K (Gam a_is_writer a_is_cleaner a_is_reader) 3 m_listed) := FI_listed.okZ sc_listed (fun _ _ _ _ h => MR.spM_len h) (d_listed T I_is_writer I_is_cleaner I_is_reader I_mixed) (fun H vs Q E h => MR.spM_run (xa := ⟨0, .none, none, 0⟩) (q_listed X0) h)
  have I_writer_orders : GFun l.prog w K mg base 5 "writer_orders" [] (spY K (Gam a_is_writer a_is_cleaner a_is_reader) 0 m_writer_orders) := FI_writer_orders.okG sc_writer_orders (fun _ _ _ h => MR.spY_len h) (d_writer_orders T I_listed) (fun H vs Q h => MR.spY_run (xa := ⟨0, .none, none, 0⟩) (q_writer_orders X0) h)
  have I_cleaner_orders : GFun l.prog w K mg base 5 "cleaner_orders" [] (spY K (Gam a_is_writer a_is_cleaner a_is_reader) 0 m_cleaner_orders) := FI_cleaner_orders.okG sc_cleaner_orders (fun _ _ _ h => MR.spY_len h) (d_cleaner_orders T I_listed) (fun H vs Q h => MR.spY_run (xa := ⟨0, .none, none, 0⟩) (q_cleaner_orders X0) h)
  have I_reader_orders : GFun l.prog w K mg base 5 "reader_orders" [] (spY K (Gam a_is_writer a_is_cleaner a_is_reader) 0 m_reader_orders) := FI_reader_orders.okG sc_reader_orders (fun _ _ _ h => MR.spY_len h) (d_reader_orders T I_listed) (fun H vs Q h => MR.spY_run (xa := ⟨0, .none, none, 0⟩) (q_reader_orders X0) h)
  have I__law_pot : FnZ l.prog w K mg base 1 "_law_pot" ["script"] (spM K (Gam a_is_writer a_is_cleaner a_is_reader) 1 m__law_pot) := FI__law_pot.okZ sc__law_pot (fun _ _ _ _ h => MR.spM_len h) (d__law_pot T) (fun H vs Q E h => MR.spM_run (xa := ⟨0, .none, none, 0⟩) (q__law_pot X0) h)
  have I__law_draw : FnZ l.prog w K mg base 1 "_law_draw" ["pot", "many"] (spM K (Gam a_is_writer a_is_cleaner a_is_reader) 2 m__law_draw) := FI__law_draw.okZ sc__law_draw (fun _ _ _ _ h => MR.spM_len h) (d__law_draw T) (fun H vs Q E h => MR.spM_run (xa := ⟨0, .none, none, 0⟩) (q__law_draw X0) h)
  have I__law_put_in : FnZ l.prog w K mg base 2 "_law_put_in" ["pot", "order", "word", "least"] (spM K (Gam a_is_writer a_is_cleaner a_is_reader) 4 m__law_put_in) := FI__law_put_in.okZ sc__law_put_in (fun _ _ _ _ h => MR.spM_len h) (d__law_put_in T I__law_draw) (fun H vs Q E h => MR.spM_run (xa := ⟨0, .none, none, 0⟩) (q__law_put_in X0) h)
  have I__law_locked : FnZ l.prog w K mg base 3 "_law_locked" ["pot", "order"] (spM K (Gam a_is_writer a_is_cleaner a_is_reader) 2 m__law_locked) := FI__law_locked.okZ sc__law_locked (fun _ _ _ _ h => MR.spM_len h) (d__law_locked T I__law_draw I__law_put_in) (fun H vs Q E h => MR.spM_run (xa := ⟨0, .none, none, 0⟩) (q__law_locked X0) h)
  have I__law_writer_words : FnZ l.prog w K mg base 4 "_law_writer_words" ["pot"] (spM K (Gam a_is_writer a_is_cleaner a_is_reader) 1 m__law_writer_words) := FI__law_writer_words.okZ sc__law_writer_words (fun _ _ _ _ h => MR.spM_len h) (d__law_writer_words T I__law_draw I__law_put_in I__law_locked) (fun H vs Q E h => MR.spM_run (xa := ⟨0, .none, none, 0⟩) (q__law_writer_words X0) h)
  have I__law_cleaner_words : FnZ l.prog w K mg base 4 "_law_cleaner_words" ["pot"] (spM K (Gam a_is_writer a_is_cleaner a_is_reader) 1 m__law_cleaner_words) := FI__law_cleaner_words.okZ sc__law_cleaner_words (fun _ _ _ _ h => MR.spM_len h) (d__law_cleaner_words T I__law_draw I__law_locked) (fun H vs Q E h => MR.spM_run (xa := ⟨0, .none, none, 0⟩) (q__law_cleaner_words X0) h)
  have I__law_reader_words : FnZ l.prog w K mg base 3 "_law_reader_words" ["pot"] (spM K (Gam a_is_writer a_is_cleaner a_is_reader) 1 m__law_reader_words) := FI__law_reader_words.okZ sc__law_reader_words (fun _ _ _ _ h => MR.spM_len h) (d__law_reader_words T I__law_draw I__law_put_in) (fun H vs Q E h => MR.spM_run (xa := ⟨0, .none, none, 0⟩) (q__law_reader_words X0) h)
  have I__law_ahead : FnZ l.prog w K mg base 1 "_law_ahead" ["order", "one", "other"] (spM K (Gam a_is_writer a_is_cleaner a_is_reader) 3 m__law_ahead) := FI__law_ahead.okZ sc__law_ahead (fun _ _ _ _ h => MR.spM_len h) (d__law_ahead T) (fun H vs Q E h => MR.spM_run (xa := ⟨0, .none, none, 0⟩) (q__law_ahead X0) h)
  have I__law_fits : FnZ l.prog w K mg base 2 "_law_fits" ["text", "needed", "free"] (spM K (Gam a_is_writer a_is_cleaner a_is_reader) 3 m__law_fits) := FI__law_fits.okZ sc__law_fits (fun _ _ _ _ h => MR.spM_len h) (d__law_fits T I__law_ahead) (fun H vs Q E h => MR.spM_run (xa := ⟨0, .none, none, 0⟩) (q__law_fits X0) h)
  have I__law_is_writer : FnZ l.prog w K mg base 3 "_law_is_writer" ["text"] (spM K (Gam a_is_writer a_is_cleaner a_is_reader) 1 m__law_is_writer) := FI__law_is_writer.okZ sc__law_is_writer (fun _ _ _ _ h => MR.spM_len h) (d__law_is_writer T I__law_ahead I__law_fits) (fun H vs Q E h => MR.spM_run (xa := ⟨0, .none, none, 0⟩) (q__law_is_writer X0) h)
  have I__law_is_cleaner : FnZ l.prog w K mg base 3 "_law_is_cleaner" ["text"] (spM K (Gam a_is_writer a_is_cleaner a_is_reader) 1 m__law_is_cleaner) := FI__law_is_cleaner.okZ sc__law_is_cleaner (fun _ _ _ _ h => MR.spM_len h) (d__law_is_cleaner T I__law_ahead I__law_fits) (fun H vs Q E h => MR.spM_run (xa := ⟨0, .none, none, 0⟩) (q__law_is_cleaner X0) h)
  have I__law_is_reader : FnZ l.prog w K mg base 3 "_law_is_reader" ["text"] (spM K (Gam a_is_writer a_is_cleaner a_is_reader) 1 m__law_is_reader) := FI__law_is_reader.okZ sc__law_is_reader (fun _ _ _ _ h => MR.spM_len h) (d__law_is_reader T I__law_ahead I__law_fits) (fun H vs Q E h => MR.spM_run (xa := ⟨0, .none, none, 0⟩) (q__law_is_reader X0) h)
  have I__law_spoilt : FnZ l.prog w K mg base 2 "_law_spoilt" ["pot", "order"] (spM K (Gam a_is_writer a_is_cleaner a_is_reader) 2 m__law_spoilt) := FI__law_spoilt.okZ sc__law_spoilt (fun _ _ _ _ h => MR.spM_len h) (d__law_spoilt T I__law_draw) (fun H vs Q E h => MR.spM_run (xa := ⟨0, .none, none, 0⟩) (q__law_spoilt X0) h)
  have I__law_ascends : FnZ l.prog w K mg base 1 "_law_ascends" ["texts"] (spM K (Gam a_is_writer a_is_cleaner a_is_reader) 1 m__law_ascends) := FI__law_ascends.okZ sc__law_ascends (fun _ _ _ _ h => MR.spM_len h) (d__law_ascends T) (fun H vs Q E h => MR.spM_run (xa := ⟨0, .none, none, 0⟩) (q__law_ascends X0) h)
  exact TP.okG F_law sc_law (fun vs _ _ _ h => by obtain ⟨_, _, rfl, _⟩ := h; rfl) (fun cdv A outer s H vs Q E hr h => ⟨_, d_law T I_is_writer I_is_cleaner I_is_reader I_writer_orders I_cleaner_orders I_reader_orders I__law_pot I__law_writer_words I__law_cleaner_words I__law_reader_words I__law_is_writer I__law_is_cleaner I__law_is_reader I__law_spoilt I__law_ascends fa cdv A outer s H E hr, by obtain ⟨a, ns, rfl, hS, hl, hq⟩ := h; exact MR.spM_run (xa := ⟨0, .none, none, 0⟩) (q_law X0) (MR.law_in hS hl (law_ok ns) hq)⟩)
theorem walk {l : PySem.W.OpenLaw} {q : Program} {loose : List Str} {XP : (Str → Option Value) → Heap → Prop} {YP : World → Heap → Prop} {d : DefRec} {K : Params → PySem.W.Frag} (hn : l.most = some 63) (hdf : d.params.defaults = [])
    (hY : ∀ (w : World) (h : Heap), YP w h → (K w.params).In h)
    (F : ∀ (w : World) (mg : Str → Option Value) (fa : Addr) (h : Heap), (K w.params).In h → h.Ns mainGlobals mg → mg d.name = some (.ref fa) →
      ∃ fd : FuncData, (∀ (s : Shared) (u : Value), BindsTo s fd ⟨[u], []⟩ [("script", u)]) ∧ ∀ base : Heap, (K w.params).In base → base.Ns mainGlobals mg → TP.FnOk l.prog w (K w.params) mg base (L2.CX l.prog w) 7 fa fd ["script"] (sp_law (K w.params))) :
    PySem.W.WalkO q loose XP YP l.row.toRowW d [] (fun f vs => PySem.call f vs) :=
  TP.walk_top (n := 63) (k := 7) (x := "script") (CX := fun w => L2.CX l.prog w) (sp := fun w => sp_law (K w.params)) hn (by decide) hdf ⟨⟨rfl, by decide, by decide⟩, rfl⟩ hY F (fun _ _ a ns hl _ hS => ⟨a, ns, rfl, hS, hl, fun _ => rfl⟩) fun _ _ _ _ _ ⟨_, _, _, _, _, _, _, _, _, _, _, _, z⟩ => z

end
end Law
local macro_rules | `(tactic| walk_at "zz") => `(tactic| first | k_is | exact rfl | kernel_rfl! | decide +kernel)
open PySem PySem.W PyProof.Rows in
set_option maxRecDepth 100000 in
set_option maxHeartbeats 0 in
theorem PySem.Challenge.cw_trustedpages_k15_lists_of_all_orders_holds : PySem.Challenge.rw_trustedpages_k15_lists_of_all_orders.Holds := by
  w_on; o_law
  refine HandSHeadRun.head_any (r := OpenLaw.row PySem.Challenge.rw_trustedpages_k15_lists_of_all_orders) (q := Law.qK) (H := Law.hkK) (ob := Law.obK) (M := 1500) (loose := Law.namesK) (d := HandSHeadRun.topDef (OpenLaw.row PySem.Challenge.rw_trustedpages_k15_lists_of_all_orders).prog 31) (kwd := []) Law.obK_eq (by kernel_rfl) (fun s => by kernel_rfl) Law.runK (by kernel_rfl) (by kernel_rfl) (by kernel_rfl) (by rfl) (by first | assumption | decide +kernel) (by decide +kernel) ⟨rfl, rfl, rfl, rfl, rfl, by decide +kernel⟩ ?hw ?hc
  case hw => w_witness2
  case hc =>
  k_fill
  refine Law.walk (l := PySem.Challenge.rw_trustedpages_k15_lists_of_all_orders) rfl rfl (fun w h Y => PySem.W.kIn_of Y) ?F
  case F =>
    intro w mg fa h KX G hmg
    refine' Law.all_mk KX G hmg ?x_is_writer ?x_is_cleaner ?x_is_reader ?z_len ?z_isinstance ?z_int ?z_bool ?z_range ?z_list ?z_tuple ?z_str ?z_set ?z_all ?z_zip ?z_sorted ?x_WRITER_WORDS ?y_WRITER_WORDS ?x_CLEANER_WORDS ?y_CLEANER_WORDS ?x_READER_WORDS ?y_READER_WORDS ?gget ?gtak ?a_words_of ?l_words_of ?c_words_of ?k_words_of ?a_all_there ?l_all_there ?c_all_there ?k_all_there ?a_is_ahead ?l_is_ahead ?c_is_ahead ?k_is_ahead ?a_is_locked_well ?l_is_locked_well ?c_is_locked_well ?k_is_locked_well ?af_is_writer ?l_is_writer ?c_is_writer ?k_is_writer ?af_is_cleaner ?l_is_cleaner ?c_is_cleaner ?k_is_cleaner ?af_is_reader ?l_is_reader ?c_is_reader ?k_is_reader ?a_mixed ?l_mixed ?c_mixed ?k_mixed ?a_listed ?l_listed ?c_listed ?k_listed ?a_writer_orders ?l_writer_orders ?c_writer_orders ?k_writer_orders ?a_cleaner_orders ?l_cleaner_orders ?c_cleaner_orders ?k_cleaner_orders ?a_reader_orders ?l_reader_orders ?c_reader_orders ?k_reader_orders ?a__law_pot ?l__law_pot ?c__law_pot ?k__law_pot ?a__law_draw ?l__law_draw ?c__law_draw ?k__law_draw ?a__law_put_in ?l__law_put_in ?c__law_put_in ?k__law_put_in ?a__law_locked ?l__law_locked ?c__law_locked ?k__law_locked ?a__law_writer_words ?l__law_writer_words ?c__law_writer_words ?k__law_writer_words ?a__law_cleaner_words ?l__law_cleaner_words ?c__law_cleaner_words ?k__law_cleaner_words ?a__law_reader_words ?l__law_reader_words ?c__law_reader_words ?k__law_reader_words ?a__law_ahead ?l__law_ahead ?c__law_ahead ?k__law_ahead ?a__law_fits ?l__law_fits ?c__law_fits ?k__law_fits ?a__law_is_writer ?l__law_is_writer ?c__law_is_writer ?k__law_is_writer ?a__law_is_cleaner ?l__law_is_cleaner ?c__law_is_cleaner ?k__law_is_cleaner ?a__law_is_reader ?l__law_is_reader ?c__law_is_reader ?k__law_is_reader ?a__law_spoilt ?l__law_spoilt ?c__law_spoilt ?k__law_spoilt ?a__law_ascends ?l__law_ascends ?c__law_ascends ?k__law_ascends ?a_law ?l_law ?c_law ?k_law
    case x_is_writer | x_is_cleaner | x_is_reader | z_len | z_isinstance | z_int | z_bool | z_range | z_list | z_tuple | z_str | z_set | z_all | z_zip | z_sorted | x_WRITER_WORDS | y_WRITER_WORDS | x_CLEANER_WORDS | y_CLEANER_WORDS | x_READER_WORDS | y_READER_WORDS | gget | gtak | a_words_of | l_words_of | c_words_of | k_words_of | a_all_there | l_all_there | c_all_there | k_all_there | a_is_ahead | l_is_ahead | c_is_ahead | k_is_ahead | a_is_locked_well | l_is_locked_well | c_is_locked_well | k_is_locked_well | af_is_writer => walk_at "zz"
    case l_is_writer | c_is_writer | k_is_writer | af_is_cleaner | l_is_cleaner | c_is_cleaner | k_is_cleaner | af_is_reader | l_is_reader | c_is_reader | k_is_reader | a_mixed | l_mixed | c_mixed | k_mixed | a_listed | l_listed | c_listed | k_listed | a_writer_orders | l_writer_orders | c_writer_orders | k_writer_orders | a_cleaner_orders | l_cleaner_orders | c_cleaner_orders | k_cleaner_orders | a_reader_orders | l_reader_orders | c_reader_orders | k_reader_orders | a__law_pot | l__law_pot | c__law_pot | k__law_pot | a__law_draw | l__law_draw | c__law_draw | k__law_draw | a__law_put_in => walk_at "zz"
    case l__law_put_in | c__law_put_in | k__law_put_in | a__law_locked | l__law_locked | c__law_locked | k__law_locked | a__law_writer_words | l__law_writer_words | c__law_writer_words | k__law_writer_words | a__law_cleaner_words | l__law_cleaner_words | c__law_cleaner_words | k__law_cleaner_words | a__law_reader_words | l__law_reader_words | c__law_reader_words | k__law_reader_words | a__law_ahead | l__law_ahead | c__law_ahead | k__law_ahead | a__law_fits | l__law_fits | c__law_fits | k__law_fits | a__law_is_writer | l__law_is_writer | c__law_is_writer | k__law_is_writer | a__law_is_cleaner | l__law_is_cleaner | c__law_is_cleaner | k__law_is_cleaner | a__law_is_reader | l__law_is_reader | c__law_is_reader | k__law_is_reader | a__law_spoilt => walk_at "zz"
    case l__law_spoilt | c__law_spoilt | k__law_spoilt | a__law_ascends | l__law_ascends | c__law_ascends | k__law_ascends | a_law | l_law | c_law | k_law => walk_at "zz"
