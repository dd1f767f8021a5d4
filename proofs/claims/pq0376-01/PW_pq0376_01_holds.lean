import PyProof.Rows.All
import Wide.All
import OpenK.AllK
import Wide.FinOn
import OpenK.XOpen
import OpenK.ZHead
import KE.KSuper
import KE.KRevIter
import KE.KSortTup
import KE.KDictSum
import Lean
import PySem.Challenge.RW_pq0376_01
set_option Elab.async false
set_option linter.all false
set_option autoImplicit false
set_option maxRecDepth 100000
set_option maxHeartbeats 4000000
namespace Mine
open PySem PySem.W PyProof.Rows
namespace H
noncomputable abbrev prg : Program := PySem.Challenge.rw_pq0376_01.row.prog
noncomputable def CE : List Stmt → Nat → Stmt
  | [], _ => .Pass ⟨0, 0, 0, 0⟩
  | s :: _, 0 => s
  | _ :: l, n + 1 => CE l n
noncomputable def q (i : Nat) : Stmt := CE prg.main.body i
noncomputable def m (i j : Nat) : Stmt := match q i with
  | .ClassDef _ _ _ b _ _ _ _ _ _ _ => CE b j
  | s => s
noncomputable def s (x : String) (n : Nat) : Value := .str (Str.ofString x) n
noncomputable def i (x : Int) (n : Nat) : Value := .int x n
noncomputable def r (a : Addr) : Value := .ref a
noncomputable def z : Value := .none
noncomputable def b (x : Bool) : Value := .bool x
noncomputable def t (x : String) : Value := .type x
noncomputable def u (x : String) : Value := .builtin x
noncomputable def o (v : Value) : Option Value := some v
noncomputable def n : Option Value := none
noncomputable def fd (st : Stmt) (x : String) (cl : List (Str × Addr)) (g : Addr) (md cd ct : Value) : Data := match st with
  | .FunctionDef y ps bd _ _ _ sc _ _ _ => .func { name := y, qualname := Str.ofString x, params := ps, body := .stmts bd, scope := sc, globals := g, closure := cl, defaults := .none, kwdefaults := .none, pyModule := md, code := cd, closureTuple := ct }
  | _ => .plain
noncomputable def g (st : Stmt) (x : String) : Obj := { cls := .none, data := fd st x [] 0 .none .none .none }
noncomputable def f (st : Stmt) (x : String) (md : Value) (cd : Addr) : Obj := { cls := .type "function", data := fd st x [] 3 md (.ref cd) .none }
noncomputable def fc (st : Stmt) (x : String) (md : Value) (cd a ct : Addr) : Obj := { cls := .type "function", data := fd st x [(Str.ofString "__class__", a)] 3 md (.ref cd) (.ref ct) }
noncomputable def p (l : List Value) : Obj := { cls := .type "tuple", data := .seq l.toArray }
noncomputable def h (c : Value) (l : List Value) : Obj := { cls := c, data := .fields l.toArray }
noncomputable def c (x y : String) (tk a : Nat) (ln na nl fl x1 : Int) : Obj := h (t "code") [s x tk, s y (tk + 1), s "/claim/cut.py" (tk + 2), i ln 0, i na 0, i 0 0, i 0 0, i nl 0, r (a - 5), b true, i fl 0, r (a - 4), z, r (a - 3), r (a - 2), r (a - 1), i x1 0, i ln 0, s "/claim/cut.py" (x1.toNat + 1)]
noncomputable def e (P : Params) (x : String) (tk : Nat) (v : Value) : DictEntry := { hash := PyData.keyHash P (Str.ofString x), key := .str (Str.ofString x) tk, val := v }
noncomputable def k (c : Value) (l : List DictEntry) (ep : Nat) : Obj := { cls := c, data := .dict l.toArray ep }
noncomputable def w (l : List (Option Value)) : Obj := { cls := .type "frame", slots := l.toArray }
noncomputable def l (v : Value) : Obj := { cls := .type "cell", data := .cell (some v) }
noncomputable def l3 (P : Params) : List DictEntry := [e P "__doc__" 166 (z), e P "__package__" 167 (z), e P "__loader__" 168 (u "__main__.__loader__#opaque"), e P "__spec__" 169 (z), e P "__annotations__" 170 (r 6), e P "__builtins__" 171 (r 4), e P "__file__" 173 (s "/claim/cut.py" 172), e P "__cached__" 174 (z), e P "_wall" 193 (r 21), e P "Engine" 285 (r 80), e P "FdError" 325 (r 110), e P "LimitFault" 341 (r 123), e P "MOST_LISTED" 345 (i 1000000 344), e P "put_behind" 354 (r 132), e P "from_values" 363 (r 139), e P "least" 370 (r 146), e P "greatest" 377 (r 153), e P "size" 383 (r 158), e P "next_from" 393 (r 165), e P "has" 401 (r 172), e P "has_domains" 402 (r 172), e P "values" 412 (r 179), e P "up_to" 418 (r 184), e P "from_on" 424 (r 189), e P "without" 432 (r 196), e P "meet" 445 (r 203), e P "join" 456 (r 210), e P "minus" 470 (r 217), e P "negated" 476 (r 222), e P "negation" 486 (r 229), e P "struck" 496 (r 236), e P "said_of" 505 (r 243), e P "Store" 701 (r 393), e P "Propagator" 756 (r 435), e P "Absolute" 812 (r 479), e P "rows_of" 820 (r 486), e P "least_term" 829 (r 493), e P "least_reasons" 842 (r 500), e P "strike_le" 848 (r 505), e P "LinearLe" 902 (r 545), e P "LinearNe" 961 (r 587), e P "_law_draw" 972 (r 596), e P "_law_rule" 984 (r 603), e P "_law_added" 1000 (r 610), e P "_law_are_fellows" 1015 (r 617), e P "_law_due" 1021 (r 622), e P "_law_lots" 1027 (r 627), e P "_law_asked" 1044 (r 634), e P "_law_obeys" 1055 (r 641), e P "_law_is_walk_right" 1061 (r 646), e P "law" 1067 (r 651)]
noncomputable def l12 : List Value := [i 1 0, i 0 0, r 20, i 5 0, i 0 0, r 27, i 76 0, i 0 0, r 91, i 84 0, i 0 0, r 119, i 88 0, i 0 0, r 131, i 94 0, i 0 0, r 138, i 99 0, i 0 0, r 145, i 101 0, i 0 0, r 152, i 103 0, i 0 0, r 157, i 105 0, i 0 0, r 164, i 110 0, i 0 0, r 171, i 113 0, i 0 0, r 178, i 120 0, i 0 0, r 183, i 122 0, i 0 0, r 188, i 124 0, i 0 0, r 195, i 126 0, i 0 0, r 202, i 137 0, i 0 0, r 209, i 142 0, i 0 0, r 216, i 154 0, i 0 0, r 221, i 156 0, i 0 0, r 228, i 163 0, i 0 0, r 235, i 170 0, i 0 0, r 242, i 176 0, i 0 0, r 249, i 272 0, i 0 0, r 403, i 288 0, i 0 0, r 446, i 319 0, i 0 0, r 485, i 324 0, i 0 0, r 492, i 326 0, i 0 0, r 499, i 336 0, i 0 0, r 504, i 346 0, i 0 0, r 512, i 362 0, i 0 0, r 554, i 392 0, i 0 0, r 595, i 398 0, i 0 0, r 602, i 405 0, i 0 0, r 609, i 412 0, i 0 0, r 616, i 417 0, i 0 0, r 621, i 428 0, i 0 0, r 626, i 430 0, i 0 0, r 633, i 444 0, i 0 0, r 640, i 447 0, i 0 0, r 645, i 480 0, i 0 0, r 650]
noncomputable def nd (P : Params) (x : String) (tk n : Nat) : Obj := k (t "dict") (e P "__name__" 165 (s x tk) :: (l3 P).take n) (n + 1)
noncomputable def K0 (P : Params) : Frag := [(2, k (z) [e P "type.__subclasses__.Exception.0" 322 (i 110 0), e P "type.__subclasses__.Exception.n" 323 (i 1 0)] 2),
(3, k (t "dict") (e P "__name__" 165 (s "law_pq0376_01" 962) :: l3 P) 52),
(13, h (t "code") [s "<module>" 182, s "<module>" 183, s "/claim/cut.py" 184, i 1 0, i 0 0, i 0 0, i 0 0, i 0 0, r 11, b false, i 181 0, r 12, z, z, z, z, i 185 0, i 1 0, s "/claim/cut.py" 186]),
(20, c "_wall" "_wall" 187 20 1 1 3 181 191),
(21, f (q 0) "_wall" (s "__main__" 164) 20),
(24, k (t "dict") [e P "__module__" 203 (s "fdsolve.search" 194), e P "__qualname__" 205 (s "Engine" 204), e P "__firstlineno__" 207 (i 5 206), e P "__init__" 215 (r 35), e P "add" 225 (r 42), e P "degree" 233 (r 49), e P "wake" 243 (r 56), e P "ask_next" 253 (r 63), e P "has_more" 260 (r 70), e P "propagate" 268 (r 77), e P "__static_attributes__" 278 (r 78)] 11),
(27, h (t "code") [s "Engine" 198, s "Engine" 199, s "/claim/cut.py" 200, i 5 0, i 0 0, i 0 0, i 0 0, i 0 0, r 25, b false, i 181 0, r 26, z, z, z, z, i 201 0, i 5 0, s "/claim/cut.py" 202]),
(34, c "__init__" "Engine.__init__" 208 34 7 2 3 181 213),
(35, f (m 2 0) "Engine.__init__" (s "fdsolve.search" 194) 34),
(41, c "add" "Engine.add" 216 41 18 2 3 181 223),
(42, f (m 2 1) "Engine.add" (s "fdsolve.search" 194) 41),
(48, c "degree" "Engine.degree" 226 48 29 2 3 181 231),
(49, f (m 2 2) "Engine.degree" (s "fdsolve.search" 194) 48),
(55, c "wake" "Engine.wake" 234 55 32 2 3 181 241),
(56, f (m 2 3) "Engine.wake" (s "fdsolve.search" 194) 55),
(62, c "ask_next" "Engine.ask_next" 244 62 41 1 3 181 251),
(63, f (m 2 4) "Engine.ask_next" (s "fdsolve.search" 194) 62),
(69, c "has_more" "Engine.has_more" 254 69 58 1 3 181 258),
(70, f (m 2 5) "Engine.has_more" (s "fdsolve.search" 194) 69),
(76, c "propagate" "Engine.propagate" 261 76 61 1 3 181 266),
(77, f (m 2 6) "Engine.propagate" (s "fdsolve.search" 194) 76),
(79, k (t "dict") [e P "__module__" 203 (s "fdsolve.search" 194), e P "__firstlineno__" 207 (i 5 206), e P "__init__" 215 (r 35), e P "add" 225 (r 42), e P "degree" 233 (r 49), e P "wake" 243 (r 56), e P "ask_next" 253 (r 63), e P "has_more" 260 (r 70), e P "propagate" 268 (r 77), e P "__static_attributes__" 278 (r 78), e P "__dict__" 280 (r 81), e P "__weakref__" 282 (r 82), e P "__doc__" 283 (z)] 4),
(80, { cls := t "type", data := Data.cls { name := Str.ofString "Engine", bases := [t "object"], mro := [r 80, t "object"], ns := 79, qualname := Str.ofString "Engine" }, slots := #[n, n, o (s "Engine" 196), o (s "Engine" 204), o (u "object.__new__"), o (b true)] }),
(87, k (t "dict") [e P "__module__" 295 (s "fdsolve.errors" 286), e P "__qualname__" 297 (s "FdError" 296), e P "__firstlineno__" 299 (i 76 298), e P "__init__" 308 (r 100), e P "told" 315 (r 107), e P "__static_attributes__" 317 (r 108), e P "__classcell__" 318 (r 88)] 7),
(88, l (r 110)),
(91, h (t "code") [s "FdError" 290, s "FdError" 291, s "/claim/cut.py" 292, i 76 0, i 0 0, i 0 0, i 0 0, i 0 0, r 89, b false, i 181 0, r 90, z, z, z, z, i 293 0, i 76 0, s "/claim/cut.py" 294]),
(93, p [r 88]),
(99, c "__init__" "FdError.__init__" 300 99 78 2 3 181 306),
(100, fc (m 4 0) "FdError.__init__" (s "fdsolve.errors" 286) 99 88 93),
(106, c "told" "FdError.told" 309 106 82 1 3 181 313),
(107, f (m 4 1) "FdError.told" (s "fdsolve.errors" 286) 106),
(109, k (t "dict") [e P "__module__" 295 (s "fdsolve.errors" 286), e P "__firstlineno__" 299 (i 76 298), e P "__init__" 308 (r 100), e P "told" 315 (r 107), e P "__static_attributes__" 317 (r 108), e P "__weakref__" 320 (r 111), e P "__doc__" 321 (z)] 4),
(110, { cls := t "type", data := Data.cls { name := Str.ofString "FdError", bases := [t "Exception"], mro := [r 110, t "Exception", t "BaseException", t "object"], ns := 109, qualname := Str.ofString "FdError", subclasses := [r 123] }, slots := #[o (r 85), n, o (s "FdError" 288), o (s "FdError" 296), o (u "Exception.__new__"), o (b true)] }),
(116, k (t "dict") [e P "__module__" 333 (s "fdsolve.errors" 286), e P "__qualname__" 335 (s "LimitFault" 334), e P "__firstlineno__" 337 (i 84 336), e P "__static_attributes__" 338 (r 121)] 4),
(119, h (t "code") [s "LimitFault" 328, s "LimitFault" 329, s "/claim/cut.py" 330, i 84 0, i 0 0, i 0 0, i 0 0, i 0 0, r 117, b false, i 181 0, r 118, z, z, z, z, i 331 0, i 84 0, s "/claim/cut.py" 332]),
(122, k (t "dict") [e P "__module__" 333 (s "fdsolve.errors" 286), e P "__firstlineno__" 337 (i 84 336), e P "__static_attributes__" 338 (r 121), e P "__doc__" 339 (z)] 2),
(123, { cls := t "type", data := Data.cls { name := Str.ofString "LimitFault", bases := [r 110], mro := [r 123, r 110, t "Exception", t "BaseException", t "object"], ns := 122, qualname := Str.ofString "LimitFault" }, slots := #[o (r 114), n, o (s "LimitFault" 326), o (s "LimitFault" 334), o (u "Exception.__new__"), o (b true)] }),
(131, c "put_behind" "put_behind" 346 131 88 3 3 181 352),
(132, f (q 8) "put_behind" (s "fdsolve.domains" 342) 131),
(138, c "from_values" "from_values" 355 138 94 1 3 181 361),
(139, f (q 9) "from_values" (s "fdsolve.domains" 342) 138),
(145, c "least" "least" 364 145 99 1 3 181 368),
(146, f (q 10) "least" (s "fdsolve.domains" 342) 145),
(152, c "greatest" "greatest" 371 152 101 1 3 181 375),
(153, f (q 11) "greatest" (s "fdsolve.domains" 342) 152),
(157, h (t "code") [s "size" 378, s "size" 379, s "/claim/cut.py" 380, i 103 0, i 1 0, i 0 0, i 0 0, i 3 0, r 154, b true, i 181 0, r 155, z, z, z, r 156, i 381 0, i 103 0, s "/claim/cut.py" 382]),
(158, f (q 12) "size" (s "fdsolve.domains" 342) 157),
(164, c "next_from" "next_from" 384 164 105 2 3 181 391),
(165, f (q 13) "next_from" (s "fdsolve.domains" 342) 164),
(171, c "has" "has" 394 171 110 2 3 181 399),
(172, f (q 14) "has" (s "fdsolve.domains" 342) 171),
(178, c "values" "values" 403 178 113 1 3 181 410),
(179, f (q 16) "values" (s "fdsolve.domains" 342) 178),
(183, h (t "code") [s "up_to" 413, s "up_to" 414, s "/claim/cut.py" 415, i 120 0, i 2 0, i 0 0, i 0 0, i 3 0, r 180, b true, i 181 0, r 181, z, z, z, r 182, i 416 0, i 120 0, s "/claim/cut.py" 417]),
(184, f (q 17) "up_to" (s "fdsolve.domains" 342) 183),
(188, h (t "code") [s "from_on" 419, s "from_on" 420, s "/claim/cut.py" 421, i 122 0, i 2 0, i 0 0, i 0 0, i 3 0, r 185, b true, i 181 0, r 186, z, z, z, r 187, i 422 0, i 122 0, s "/claim/cut.py" 423]),
(189, f (q 18) "from_on" (s "fdsolve.domains" 342) 188),
(195, c "without" "without" 425 195 124 2 3 181 430),
(196, f (q 19) "without" (s "fdsolve.domains" 342) 195),
(202, c "meet" "meet" 433 202 126 2 3 181 443),
(203, f (q 20) "meet" (s "fdsolve.domains" 342) 202),
(209, c "join" "join" 446 209 137 2 3 181 454),
(210, f (q 21) "join" (s "fdsolve.domains" 342) 209),
(216, c "minus" "minus" 457 216 142 2 3 181 468),
(217, f (q 22) "minus" (s "fdsolve.domains" 342) 216),
(221, h (t "code") [s "negated" 471, s "negated" 472, s "/claim/cut.py" 473, i 154 0, i 1 0, i 0 0, i 0 0, i 3 0, r 218, b true, i 181 0, r 219, z, z, z, r 220, i 474 0, i 154 0, s "/claim/cut.py" 475]),
(222, f (q 23) "negated" (s "fdsolve.domains" 342) 221),
(228, c "negation" "negation" 477 228 156 1 3 181 484),
(229, f (q 24) "negation" (s "fdsolve.domains" 342) 228),
(235, c "struck" "struck" 487 235 163 2 3 181 494),
(236, f (q 25) "struck" (s "fdsolve.domains" 342) 235),
(242, c "said_of" "said_of" 497 242 170 2 3 181 503),
(243, f (q 26) "said_of" (s "fdsolve.domains" 342) 242),
(246, k (t "dict") [e P "__module__" 515 (s "fdsolve.store" 506), e P "__qualname__" 517 (s "Store" 516), e P "__firstlineno__" 519 (i 176 518), e P "__init__" 526 (r 257), e P "new_var" 534 (r 264), e P "size" 541 (r 271), e P "dom" 549 (r 278), e P "initial" 557 (r 285), e P "low" 565 (r 292), e P "high" 573 (r 299), e P "has" 582 (r 306), e P "is_fixed" 591 (r 313), e P "value" 599 (r 320), e P "width" 607 (r 327), e P "holds" 615 (r 334), e P "enter" 628 (r 341), e P "strike" 637 (r 348), e P "decide" 645 (r 355), e P "fail" 653 (r 362), e P "push" 660 (r 369), e P "pop" 670 (r 376), e P "depth" 677 (r 383), e P "changed" 685 (r 390), e P "__static_attributes__" 694 (r 391)] 24),
(249, h (t "code") [s "Store" 510, s "Store" 511, s "/claim/cut.py" 512, i 176 0, i 0 0, i 0 0, i 0 0, i 0 0, r 247, b false, i 181 0, r 248, z, z, z, z, i 513 0, i 176 0, s "/claim/cut.py" 514]),
(256, c "__init__" "Store.__init__" 520 256 178 1 3 181 524),
(257, f (m 28 0) "Store.__init__" (s "fdsolve.store" 506) 256),
(263, c "new_var" "Store.new_var" 527 263 188 2 3 181 532),
(264, f (m 28 1) "Store.new_var" (s "fdsolve.store" 506) 263),
(270, c "size" "Store.size" 535 270 195 1 3 181 539),
(271, f (m 28 2) "Store.size" (s "fdsolve.store" 506) 270),
(277, c "dom" "Store.dom" 542 277 198 2 3 181 547),
(278, f (m 28 3) "Store.dom" (s "fdsolve.store" 506) 277),
(284, c "initial" "Store.initial" 550 284 201 2 3 181 555),
(285, f (m 28 4) "Store.initial" (s "fdsolve.store" 506) 284),
(291, c "low" "Store.low" 558 291 204 2 3 181 563),
(292, f (m 28 5) "Store.low" (s "fdsolve.store" 506) 291),
(298, c "high" "Store.high" 566 298 207 2 3 181 571),
(299, f (m 28 6) "Store.high" (s "fdsolve.store" 506) 298),
(305, c "has" "Store.has" 574 305 210 3 3 181 580),
(306, f (m 28 7) "Store.has" (s "fdsolve.store" 506) 305),
(312, c "is_fixed" "Store.is_fixed" 583 312 213 2 3 181 589),
(313, f (m 28 8) "Store.is_fixed" (s "fdsolve.store" 506) 312),
(319, c "value" "Store.value" 592 319 217 2 3 181 597),
(320, f (m 28 9) "Store.value" (s "fdsolve.store" 506) 319),
(326, c "width" "Store.width" 600 326 220 2 3 181 605),
(327, f (m 28 10) "Store.width" (s "fdsolve.store" 506) 326),
(333, c "holds" "Store.holds" 608 333 223 2 3 181 613),
(334, f (m 28 11) "Store.holds" (s "fdsolve.store" 506) 333),
(340, c "enter" "Store.enter" 616 340 226 4 3 181 626),
(341, f (m 28 12) "Store.enter" (s "fdsolve.store" 506) 340),
(347, c "strike" "Store.strike" 629 347 239 3 3 181 635),
(348, f (m 28 13) "Store.strike" (s "fdsolve.store" 506) 347),
(354, c "decide" "Store.decide" 638 354 242 2 3 181 643),
(355, f (m 28 14) "Store.decide" (s "fdsolve.store" 506) 354),
(361, c "fail" "Store.fail" 646 361 245 2 3 181 651),
(362, f (m 28 15) "Store.fail" (s "fdsolve.store" 506) 361),
(368, c "push" "Store.push" 654 368 250 1 3 181 658),
(369, f (m 28 16) "Store.push" (s "fdsolve.store" 506) 368),
(375, c "pop" "Store.pop" 661 375 253 2 3 181 668),
(376, f (m 28 17) "Store.pop" (s "fdsolve.store" 506) 375),
(382, c "depth" "Store.depth" 671 382 265 1 3 181 675),
(383, f (m 28 18) "Store.depth" (s "fdsolve.store" 506) 382),
(389, c "changed" "Store.changed" 678 389 268 1 3 181 683),
(390, f (m 28 19) "Store.changed" (s "fdsolve.store" 506) 389),
(392, k (t "dict") [e P "__module__" 515 (s "fdsolve.store" 506), e P "__firstlineno__" 519 (i 176 518), e P "__init__" 526 (r 257), e P "new_var" 534 (r 264), e P "size" 541 (r 271), e P "dom" 549 (r 278), e P "initial" 557 (r 285), e P "low" 565 (r 292), e P "high" 573 (r 299), e P "has" 582 (r 306), e P "is_fixed" 591 (r 313), e P "value" 599 (r 320), e P "width" 607 (r 327), e P "holds" 615 (r 334), e P "enter" 628 (r 341), e P "strike" 637 (r 348), e P "decide" 645 (r 355), e P "fail" 653 (r 362), e P "push" 660 (r 369), e P "pop" 670 (r 376), e P "depth" 677 (r 383), e P "changed" 685 (r 390), e P "__static_attributes__" 694 (r 391), e P "__dict__" 696 (r 394), e P "__weakref__" 698 (r 395), e P "__doc__" 699 (z)] 4),
(393, { cls := t "type", data := Data.cls { name := Str.ofString "Store", bases := [t "object"], mro := [r 393, t "object"], ns := 392, qualname := Str.ofString "Store" }, slots := #[n, n, o (s "Store" 508), o (s "Store" 516), o (u "object.__new__"), o (b true)] }),
(400, k (t "dict") [e P "__module__" 709 (s "fdsolve.store" 506), e P "__qualname__" 711 (s "Propagator" 710), e P "__firstlineno__" 713 (i 272 712), e P "__init__" 722 (r 411), e P "propagate" 730 (r 418), e P "check" 738 (r 425), e P "told" 745 (r 432), e P "__static_attributes__" 749 (r 433)] 8),
(403, h (t "code") [s "Propagator" 704, s "Propagator" 705, s "/claim/cut.py" 706, i 272 0, i 0 0, i 0 0, i 0 0, i 0 0, r 401, b false, i 181 0, r 402, z, z, z, z, i 707 0, i 272 0, s "/claim/cut.py" 708]),
(410, c "__init__" "Propagator.__init__" 714 410 274 3 3 181 720),
(411, f (m 29 0) "Propagator.__init__" (s "fdsolve.store" 506) 410),
(417, c "propagate" "Propagator.propagate" 723 417 279 2 3 181 728),
(418, f (m 29 1) "Propagator.propagate" (s "fdsolve.store" 506) 417),
(424, c "check" "Propagator.check" 731 424 282 2 3 181 736),
(425, f (m 29 2) "Propagator.check" (s "fdsolve.store" 506) 424),
(431, c "told" "Propagator.told" 739 431 285 1 3 181 743),
(432, f (m 29 3) "Propagator.told" (s "fdsolve.store" 506) 431),
(434, k (t "dict") [e P "__module__" 709 (s "fdsolve.store" 506), e P "__firstlineno__" 713 (i 272 712), e P "__init__" 722 (r 411), e P "propagate" 730 (r 418), e P "check" 738 (r 425), e P "told" 745 (r 432), e P "__static_attributes__" 749 (r 433), e P "__dict__" 751 (r 436), e P "__weakref__" 753 (r 437), e P "__doc__" 754 (z)] 4),
(435, { cls := t "type", data := Data.cls { name := Str.ofString "Propagator", bases := [t "object"], mro := [r 435, t "object"], ns := 434, qualname := Str.ofString "Propagator", subclasses := [r 479, r 545, r 587] }, slots := #[n, n, o (s "Propagator" 702), o (s "Propagator" 710), o (u "object.__new__"), o (b true)] }),
(442, k (t "dict") [e P "__module__" 766 (s "fdsolve.arith" 757), e P "__qualname__" 768 (s "Absolute" 767), e P "__firstlineno__" 770 (i 288 769), e P "__init__" 780 (r 455), e P "told" 787 (r 462), e P "propagate" 799 (r 469), e P "check" 807 (r 476), e P "__static_attributes__" 808 (r 477), e P "__classcell__" 809 (r 443)] 9),
(443, l (r 479)),
(446, h (t "code") [s "Absolute" 761, s "Absolute" 762, s "/claim/cut.py" 763, i 288 0, i 0 0, i 0 0, i 0 0, i 0 0, r 444, b false, i 181 0, r 445, z, z, z, z, i 764 0, i 288 0, s "/claim/cut.py" 765]),
(448, p [r 443]),
(454, c "__init__" "Absolute.__init__" 771 454 290 3 3 181 778),
(455, fc (m 31 0) "Absolute.__init__" (s "fdsolve.arith" 757) 454 443 448),
(461, c "told" "Absolute.told" 781 461 293 1 3 181 785),
(462, f (m 31 1) "Absolute.told" (s "fdsolve.arith" 757) 461),
(468, c "propagate" "Absolute.propagate" 788 468 296 2 3 181 797),
(469, f (m 31 2) "Absolute.propagate" (s "fdsolve.arith" 757) 468),
(475, c "check" "Absolute.check" 800 475 316 2 3 181 805),
(476, f (m 31 3) "Absolute.check" (s "fdsolve.arith" 757) 475),
(478, k (t "dict") [e P "__module__" 766 (s "fdsolve.arith" 757), e P "__firstlineno__" 770 (i 288 769), e P "__init__" 780 (r 455), e P "told" 787 (r 462), e P "propagate" 799 (r 469), e P "check" 807 (r 476), e P "__static_attributes__" 808 (r 477), e P "__doc__" 810 (z)] 3),
(479, { cls := t "type", data := Data.cls { name := Str.ofString "Absolute", bases := [r 435], mro := [r 479, r 435, t "object"], ns := 478, qualname := Str.ofString "Absolute" }, slots := #[o (r 440), n, o (s "Absolute" 759), o (s "Absolute" 767), o (u "object.__new__"), o (b true)] }),
(485, h (t "code") [s "rows_of" 815, s "rows_of" 816, s "/claim/cut.py" 817, i 319 0, i 2 0, i 0 0, i 0 0, i 3 0, r 482, b true, i 181 0, r 483, z, z, z, r 484, i 818 0, i 319 0, s "/claim/cut.py" 819]),
(486, f (q 33) "rows_of" (s "fdsolve.linear" 813) 485),
(492, c "least_term" "least_term" 821 492 324 3 3 181 827),
(493, f (q 34) "least_term" (s "fdsolve.linear" 813) 492),
(499, c "least_reasons" "least_reasons" 830 499 326 3 3 181 840),
(500, f (q 35) "least_reasons" (s "fdsolve.linear" 813) 499),
(504, h (t "code") [s "strike_le" 843, s "strike_le" 844, s "/claim/cut.py" 845, i 336 0, i 3 0, i 0 0, i 0 0, i 3 0, r 501, b true, i 181 0, r 502, z, z, z, r 503, i 846 0, i 336 0, s "/claim/cut.py" 847]),
(505, f (q 36) "strike_le" (s "fdsolve.linear" 813) 504),
(508, k (t "dict") [e P "__module__" 856 (s "fdsolve.linear" 813), e P "__qualname__" 858 (s "LinearLe" 857), e P "__firstlineno__" 860 (i 346 859), e P "__init__" 871 (r 521), e P "propagate" 879 (r 528), e P "check" 887 (r 535), e P "told" 894 (r 542), e P "__static_attributes__" 898 (r 543), e P "__classcell__" 899 (r 509)] 9),
(509, l (r 545)),
(512, h (t "code") [s "LinearLe" 851, s "LinearLe" 852, s "/claim/cut.py" 853, i 346 0, i 0 0, i 0 0, i 0 0, i 0 0, r 510, b false, i 181 0, r 511, z, z, z, z, i 854 0, i 346 0, s "/claim/cut.py" 855]),
(514, p [r 509]),
(520, c "__init__" "LinearLe.__init__" 861 520 348 4 3 181 869),
(521, fc (m 37 0) "LinearLe.__init__" (s "fdsolve.linear" 813) 520 509 514),
(527, c "propagate" "LinearLe.propagate" 872 527 354 2 3 181 877),
(528, f (m 37 1) "LinearLe.propagate" (s "fdsolve.linear" 813) 527),
(534, c "check" "LinearLe.check" 880 534 357 2 3 181 885),
(535, f (m 37 2) "LinearLe.check" (s "fdsolve.linear" 813) 534),
(541, c "told" "LinearLe.told" 888 541 360 1 3 181 892),
(542, f (m 37 3) "LinearLe.told" (s "fdsolve.linear" 813) 541),
(544, k (t "dict") [e P "__module__" 856 (s "fdsolve.linear" 813), e P "__firstlineno__" 860 (i 346 859), e P "__init__" 871 (r 521), e P "propagate" 879 (r 528), e P "check" 887 (r 535), e P "told" 894 (r 542), e P "__static_attributes__" 898 (r 543), e P "__doc__" 900 (z)] 3),
(545, { cls := t "type", data := Data.cls { name := Str.ofString "LinearLe", bases := [r 435], mro := [r 545, r 435, t "object"], ns := 544, qualname := Str.ofString "LinearLe" }, slots := #[o (r 506), n, o (s "LinearLe" 849), o (s "LinearLe" 857), o (u "object.__new__"), o (b true)] }),
(550, k (t "dict") [e P "__module__" 910 (s "fdsolve.linear" 813), e P "__qualname__" 912 (s "LinearNe" 911), e P "__firstlineno__" 914 (i 362 913), e P "__init__" 925 (r 563), e P "propagate" 938 (r 570), e P "check" 946 (r 577), e P "told" 953 (r 584), e P "__static_attributes__" 957 (r 585), e P "__classcell__" 958 (r 551)] 9),
(551, l (r 587)),
(554, h (t "code") [s "LinearNe" 905, s "LinearNe" 906, s "/claim/cut.py" 907, i 362 0, i 0 0, i 0 0, i 0 0, i 0 0, r 552, b false, i 181 0, r 553, z, z, z, z, i 908 0, i 362 0, s "/claim/cut.py" 909]),
(556, p [r 551]),
(562, c "__init__" "LinearNe.__init__" 915 562 364 4 3 181 923),
(563, fc (m 38 0) "LinearNe.__init__" (s "fdsolve.linear" 813) 562 551 556),
(569, c "propagate" "LinearNe.propagate" 926 569 370 2 3 181 936),
(570, f (m 38 1) "LinearNe.propagate" (s "fdsolve.linear" 813) 569),
(576, c "check" "LinearNe.check" 939 576 386 2 3 181 944),
(577, f (m 38 2) "LinearNe.check" (s "fdsolve.linear" 813) 576),
(583, c "told" "LinearNe.told" 947 583 389 1 3 181 951),
(584, f (m 38 3) "LinearNe.told" (s "fdsolve.linear" 813) 583),
(586, k (t "dict") [e P "__module__" 910 (s "fdsolve.linear" 813), e P "__firstlineno__" 914 (i 362 913), e P "__init__" 925 (r 563), e P "propagate" 938 (r 570), e P "check" 946 (r 577), e P "told" 953 (r 584), e P "__static_attributes__" 957 (r 585), e P "__doc__" 959 (z)] 3),
(587, { cls := t "type", data := Data.cls { name := Str.ofString "LinearNe", bases := [r 435], mro := [r 587, r 435, t "object"], ns := 586, qualname := Str.ofString "LinearNe" }, slots := #[o (r 548), n, o (s "LinearNe" 903), o (s "LinearNe" 911), o (u "object.__new__"), o (b true)] }),
(595, c "_law_draw" "_law_draw" 964 595 392 2 3 181 970),
(596, f (q 40) "_law_draw" (s "law_pq0376_01" 962) 595),
(602, c "_law_rule" "_law_rule" 973 602 398 1 3 181 982),
(603, f (q 41) "_law_rule" (s "law_pq0376_01" 962) 602),
(609, c "_law_added" "_law_added" 985 609 405 3 3 181 998),
(610, f (q 42) "_law_added" (s "law_pq0376_01" 962) 609),
(616, c "_law_are_fellows" "_law_are_fellows" 1001 616 412 3 3 181 1013),
(617, f (q 43) "_law_are_fellows" (s "law_pq0376_01" 962) 616),
(621, h (t "code") [s "_law_due" 1016, s "_law_due" 1017, s "/claim/cut.py" 1018, i 417 0, i 2 0, i 0 0, i 0 0, i 3 0, r 618, b true, i 181 0, r 619, z, z, z, r 620, i 1019 0, i 417 0, s "/claim/cut.py" 1020]),
(622, f (q 44) "_law_due" (s "law_pq0376_01" 962) 621),
(626, h (t "code") [s "_law_lots" 1022, s "_law_lots" 1023, s "/claim/cut.py" 1024, i 428 0, i 1 0, i 0 0, i 0 0, i 3 0, r 623, b true, i 181 0, r 624, z, z, z, r 625, i 1025 0, i 428 0, s "/claim/cut.py" 1026]),
(627, f (q 45) "_law_lots" (s "law_pq0376_01" 962) 626),
(633, c "_law_asked" "_law_asked" 1028 633 430 3 3 181 1042),
(634, f (q 46) "_law_asked" (s "law_pq0376_01" 962) 633),
(640, c "_law_obeys" "_law_obeys" 1045 640 444 2 3 181 1053),
(641, f (q 47) "_law_obeys" (s "law_pq0376_01" 962) 640),
(645, h (t "code") [s "_law_is_walk_right" 1056, s "_law_is_walk_right" 1057, s "/claim/cut.py" 1058, i 447 0, i 5 0, i 0 0, i 0 0, i 3 0, r 642, b true, i 181 0, r 643, z, z, z, r 644, i 1059 0, i 447 0, s "/claim/cut.py" 1060]),
(646, f (q 48) "_law_is_walk_right" (s "law_pq0376_01" 962) 645),
(650, h (t "code") [s "law" 1062, s "law" 1063, s "/claim/cut.py" 1064, i 480 0, i 1 0, i 0 0, i 0 0, i 3 0, r 647, b true, i 181 0, r 648, z, z, z, r 649, i 1065 0, i 480 0, s "/claim/cut.py" 1066]),
(651, f (q 49) "law" (s "law_pq0376_01" 962) 650)]
noncomputable def R0 (P : Params) : List Obj := [boot_o_0 P,
boot_o_1 P,
boot_o_4 P,
boot_o_5 P,
boot_o_6 P,
boot_o_7 P,
boot_o_8 P,
boot_o_9 P,
boot_o_10 P,
p [],
h z l12,
w [o (r 13), o (r 3), o (r 3), n, o (s "__main__" 164), n, o (r 0)],
p [],
h z [],
p [s "k" 190],
p [],
g (q 0) "_wall",
p [],
h (t "builtin_function_or_method") [u "type.__prepare__", t "type"],
p [],
h z [i 7 0, i 4 0, r 34, i 18 0, i 4 0, r 41, i 29 0, i 4 0, r 48, i 32 0, i 4 0, r 55, i 41 0, i 4 0, r 62, i 58 0, i 4 0, r 69, i 61 0, i 4 0, r 76],
w [o (r 27), o (r 3), o (r 24), n, o (s "fdsolve.search" 194), n, o (r 0)],
p [],
h z [],
p [s "self" 211, s "store" 212],
p [],
g (m 2 0) "Engine.__init__",
p [],
h z [],
p [s "self" 219, s "propagator" 220, s "number" 221, s "x" 222],
p [],
g (m 2 1) "Engine.add",
p [],
h z [],
p [s "self" 229, s "x" 230],
p [],
g (m 2 2) "Engine.degree",
p [],
h z [],
p [s "self" 237, s "speaker" 238, s "x" 239, s "number" 240],
p [],
g (m 2 3) "Engine.wake",
p [],
h z [],
p [s "self" 247, s "changed" 248, s "stands" 249, s "number" 250],
p [],
g (m 2 4) "Engine.ask_next",
p [],
h z [],
p [s "self" 257],
p [],
g (m 2 5) "Engine.has_more",
p [],
h z [],
p [s "self" 264, s "stands" 265],
p [],
g (m 2 6) "Engine.propagate",
p [s "book" 269, s "book_news" 270, s "failed_by" 271, s "is_book_due" 272, s "propagators" 273, s "store" 274, s "unasked" 275, s "users" 276, s "waiting" 277],
h (t "getset_descriptor") [s "__dict__" 279, r 80, u "function.__dict__", u "function.__dict__#set"],
h (t "getset_descriptor") [s "__weakref__" 281, r 80, u "ExceptionGroup.__weakref__", z],
h (t "super") [r 80, r 80, r 80],
h (t "builtin_function_or_method") [u "object.__init_subclass__", r 80],
p [t "Exception"],
h (t "builtin_function_or_method") [u "type.__prepare__", t "type"],
p [],
h z [i 78 0, i 4 0, r 99, i 82 0, i 4 0, r 106],
w [o (r 91), o (r 3), o (r 87), n, o (s "fdsolve.errors" 286), n, o (r 0)],
p [s "__class__" 303],
h z [],
p [s "self" 304, s "what" 305],
p [],
g (m 4 0) "FdError.__init__",
p [],
h z [],
p [s "self" 312],
p [],
g (m 4 1) "FdError.told",
p [s "what" 316],
h (t "getset_descriptor") [s "__weakref__" 319, r 110, u "ExceptionGroup.__weakref__", z],
h (t "super") [r 110, r 110, r 110],
h (t "builtin_function_or_method") [u "object.__init_subclass__", r 110],
p [r 110],
h (t "builtin_function_or_method") [u "type.__prepare__", t "type"],
p [],
h z [],
w [o (r 119), o (r 3), o (r 116), n, o (s "fdsolve.errors" 286), n, o (r 0)],
p [],
h (t "super") [r 123, r 123, r 123],
h (t "builtin_function_or_method") [u "object.__init_subclass__", r 123],
p [],
h z [],
p [s "found" 349, s "low" 350, s "high" 351],
p [],
g (q 8) "put_behind",
p [],
h z [],
p [s "numbers" 358, s "found" 359, s "v" 360],
p [],
g (q 9) "from_values",
p [],
h z [],
p [s "d" 367],
p [],
g (q 10) "least",
p [],
h z [],
p [s "d" 374],
p [],
g (q 11) "greatest",
p [],
h z [],
g (q 12) "size",
p [],
h z [],
p [s "d" 387, s "v" 388, s "low" 389, s "high" 390],
p [],
g (q 13) "next_from",
p [],
h z [],
p [s "d" 397, s "v" 398],
p [],
g (q 14) "has",
p [],
h z [],
p [s "d" 406, s "found" 407, s "low" 408, s "high" 409],
p [],
g (q 16) "values",
p [],
h z [],
g (q 17) "up_to",
p [],
h z [],
g (q 18) "from_on",
p [],
h z [],
p [s "d" 428, s "v" 429],
p [],
g (q 19) "without",
p [],
h z [],
p [s "d" 436, s "e" 437, s "found" 438, s "i" 439, s "j" 440, s "low" 441, s "high" 442],
p [],
g (q 20) "meet",
p [],
h z [],
p [s "d" 449, s "e" 450, s "found" 451, s "low" 452, s "high" 453],
p [],
g (q 21) "join",
p [],
h z [],
p [s "d" 460, s "e" 461, s "found" 462, s "low" 463, s "high" 464, s "begin" 465, s "left" 466, s "right" 467],
p [],
g (q 22) "minus",
p [],
h z [],
g (q 23) "negated",
p [],
h z [],
p [s "literal" 480, s "x" 481, s "sign" 482, s "k" 483],
p [],
g (q 24) "negation",
p [],
h z [],
p [s "literal" 490, s "d" 491, s "sign" 492, s "k" 493],
p [],
g (q 25) "struck",
p [],
h z [],
p [s "literal" 500, s "d" 501, s "kept" 502],
p [],
g (q 26) "said_of",
p [],
h (t "builtin_function_or_method") [u "type.__prepare__", t "type"],
p [],
h z [i 178 0, i 4 0, r 256, i 188 0, i 4 0, r 263, i 195 0, i 4 0, r 270, i 198 0, i 4 0, r 277, i 201 0, i 4 0, r 284, i 204 0, i 4 0, r 291, i 207 0, i 4 0, r 298, i 210 0, i 4 0, r 305, i 213 0, i 4 0, r 312, i 217 0, i 4 0, r 319, i 220 0, i 4 0, r 326, i 223 0, i 4 0, r 333, i 226 0, i 4 0, r 340, i 239 0, i 4 0, r 347, i 242 0, i 4 0, r 354, i 245 0, i 4 0, r 361, i 250 0, i 4 0, r 368, i 253 0, i 4 0, r 375, i 265 0, i 4 0, r 382, i 268 0, i 4 0, r 389],
w [o (r 249), o (r 3), o (r 246), n, o (s "fdsolve.store" 506), n, o (r 0)],
p [],
h z [],
p [s "self" 523],
p [],
g (m 28 0) "Store.__init__",
p [],
h z [],
p [s "self" 530, s "domain" 531],
p [],
g (m 28 1) "Store.new_var",
p [],
h z [],
p [s "self" 538],
p [],
g (m 28 2) "Store.size",
p [],
h z [],
p [s "self" 545, s "x" 546],
p [],
g (m 28 3) "Store.dom",
p [],
h z [],
p [s "self" 553, s "x" 554],
p [],
g (m 28 4) "Store.initial",
p [],
h z [],
p [s "self" 561, s "x" 562],
p [],
g (m 28 5) "Store.low",
p [],
h z [],
p [s "self" 569, s "x" 570],
p [],
g (m 28 6) "Store.high",
p [],
h z [],
p [s "self" 577, s "x" 578, s "v" 579],
p [],
g (m 28 7) "Store.has",
p [],
h z [],
p [s "self" 586, s "x" 587, s "domain" 588],
p [],
g (m 28 8) "Store.is_fixed",
p [],
h z [],
p [s "self" 595, s "x" 596],
p [],
g (m 28 9) "Store.value",
p [],
h z [],
p [s "self" 603, s "x" 604],
p [],
g (m 28 10) "Store.width",
p [],
h z [],
p [s "self" 611, s "literal" 612],
p [],
g (m 28 11) "Store.holds",
p [],
h z [],
p [s "self" 619, s "literal" 620, s "reasons" 621, s "speaker" 622, s "x" 623, s "old" 624, s "fresh" 625],
p [],
g (m 28 12) "Store.enter",
p [],
h z [],
p [s "self" 632, s "literal" 633, s "reasons" 634],
p [],
g (m 28 13) "Store.strike",
p [],
h z [],
p [s "self" 641, s "literal" 642],
p [],
g (m 28 14) "Store.decide",
p [],
h z [],
p [s "self" 649, s "reasons" 650],
p [],
g (m 28 15) "Store.fail",
p [],
h z [],
p [s "self" 657],
p [],
g (m 28 16) "Store.push",
p [],
h z [],
p [s "self" 664, s "n" 665, s "mark" 666, s "entry" 667],
p [],
g (m 28 17) "Store.pop",
p [],
h z [],
p [s "self" 674],
p [],
g (m 28 18) "Store.depth",
p [],
h z [],
p [s "self" 681, s "found" 682],
p [],
g (m 28 19) "Store.changed",
p [s "clash" 686, s "domains" 687, s "firsts" 688, s "is_failed" 689, s "marks" 690, s "news" 691, s "speaker" 692, s "trail" 693],
h (t "getset_descriptor") [s "__dict__" 695, r 393, u "function.__dict__", u "function.__dict__#set"],
h (t "getset_descriptor") [s "__weakref__" 697, r 393, u "ExceptionGroup.__weakref__", z],
h (t "super") [r 393, r 393, r 393],
h (t "builtin_function_or_method") [u "object.__init_subclass__", r 393],
p [],
h (t "builtin_function_or_method") [u "type.__prepare__", t "type"],
p [],
h z [i 274 0, i 4 0, r 410, i 279 0, i 4 0, r 417, i 282 0, i 4 0, r 424, i 285 0, i 4 0, r 431],
w [o (r 403), o (r 3), o (r 400), n, o (s "fdsolve.store" 506), n, o (r 0)],
p [],
h z [],
p [s "self" 717, s "scope" 718, s "strength" 719],
p [],
g (m 29 0) "Propagator.__init__",
p [],
h z [],
p [s "self" 726, s "store" 727],
p [],
g (m 29 1) "Propagator.propagate",
p [],
h z [],
p [s "self" 734, s "values" 735],
p [],
g (m 29 2) "Propagator.check",
p [],
h z [],
p [s "self" 742],
p [],
g (m 29 3) "Propagator.told",
p [s "number" 746, s "scope" 747, s "strength" 748],
h (t "getset_descriptor") [s "__dict__" 750, r 435, u "function.__dict__", u "function.__dict__#set"],
h (t "getset_descriptor") [s "__weakref__" 752, r 435, u "ExceptionGroup.__weakref__", z],
h (t "super") [r 435, r 435, r 435],
h (t "builtin_function_or_method") [u "object.__init_subclass__", r 435],
p [r 435],
h (t "builtin_function_or_method") [u "type.__prepare__", t "type"],
p [],
h z [i 290 0, i 4 0, r 454, i 293 0, i 4 0, r 461, i 296 0, i 4 0, r 468, i 316 0, i 4 0, r 475],
w [o (r 446), o (r 3), o (r 442), n, o (s "fdsolve.arith" 757), n, o (r 0)],
p [s "__class__" 774],
h z [],
p [s "self" 775, s "x" 776, s "z" 777],
p [],
g (m 31 0) "Absolute.__init__",
p [],
h z [],
p [s "self" 784],
p [],
g (m 31 1) "Absolute.told",
p [],
h z [],
p [s "self" 791, s "store" 792, s "x" 793, s "z" 794, s "high" 795, s "v" 796],
p [],
g (m 31 2) "Absolute.propagate",
p [],
h z [],
p [s "self" 803, s "some" 804],
p [],
g (m 31 3) "Absolute.check",
p [],
h (t "super") [r 479, r 479, r 479],
h (t "builtin_function_or_method") [u "object.__init_subclass__", r 479],
p [],
h z [],
g (q 33) "rows_of",
p [],
h z [],
p [s "store" 824, s "coef" 825, s "x" 826],
p [],
g (q 34) "least_term",
p [],
h z [],
p [s "store" 833, s "rows" 834, s "skipped" 835, s "found" 836, s "place" 837, s "coef" 838, s "x" 839],
p [],
g (q 35) "least_reasons",
p [],
h z [],
g (q 36) "strike_le",
p [r 435],
h (t "builtin_function_or_method") [u "type.__prepare__", t "type"],
p [],
h z [i 348 0, i 4 0, r 520, i 354 0, i 4 0, r 527, i 357 0, i 4 0, r 534, i 360 0, i 4 0, r 541],
w [o (r 512), o (r 3), o (r 508), n, o (s "fdsolve.linear" 813), n, o (r 0)],
p [s "__class__" 864],
h z [],
p [s "self" 865, s "coefs" 866, s "scope" 867, s "c" 868],
p [],
g (m 37 0) "LinearLe.__init__",
p [],
h z [],
p [s "self" 875, s "store" 876],
p [],
g (m 37 1) "LinearLe.propagate",
p [],
h z [],
p [s "self" 883, s "values" 884],
p [],
g (m 37 2) "LinearLe.check",
p [],
h z [],
p [s "self" 891],
p [],
g (m 37 3) "LinearLe.told",
p [s "c" 895, s "coefs" 896, s "rows" 897],
h (t "super") [r 545, r 545, r 545],
h (t "builtin_function_or_method") [u "object.__init_subclass__", r 545],
p [r 435],
h (t "builtin_function_or_method") [u "type.__prepare__", t "type"],
p [],
h z [i 364 0, i 4 0, r 562, i 370 0, i 4 0, r 569, i 386 0, i 4 0, r 576, i 389 0, i 4 0, r 583],
w [o (r 554), o (r 3), o (r 550), n, o (s "fdsolve.linear" 813), n, o (r 0)],
p [s "__class__" 918],
h z [],
p [s "self" 919, s "coefs" 920, s "scope" 921, s "c" 922],
p [],
g (m 38 0) "LinearNe.__init__",
p [],
h z [],
p [s "self" 929, s "store" 930, s "rest" 931, s "reasons" 932, s "waiting" 933, s "coef" 934, s "x" 935],
p [],
g (m 38 1) "LinearNe.propagate",
p [],
h z [],
p [s "self" 942, s "values" 943],
p [],
g (m 38 2) "LinearNe.check",
p [],
h z [],
p [s "self" 950],
p [],
g (m 38 3) "LinearNe.told",
p [s "c" 954, s "coefs" 955, s "rows" 956],
h (t "super") [r 587, r 587, r 587],
h (t "builtin_function_or_method") [u "object.__init_subclass__", r 587],
p [],
h z [],
p [s "urn" 967, s "many" 968, s "at" 969],
p [],
g (q 40) "_law_draw",
p [],
h z [],
p [s "urn" 976, s "kind" 977, s "x" 978, s "y" 979, s "a" 980, s "b" 981],
p [],
g (q 41) "_law_rule",
p [],
h z [],
p [s "engine" 988, s "rules" 989, s "rule" 990, s "kind" 991, s "a" 992, s "x" 993, s "b" 994, s "y" 995, s "c" 996, s "made" 997],
p [],
g (q 42) "_law_added",
p [],
h z [],
p [s "rule" 1004, s "v" 1005, s "w" 1006, s "kind" 1007, s "a" 1008, s "x" 1009, s "b" 1010, s "y" 1011, s "c" 1012],
p [],
g (q 43) "_law_are_fellows",
p [],
h z [],
g (q 44) "_law_due",
p [],
h z [],
g (q 45) "_law_lots",
p [],
h z [],
p [s "engine" 1031, s "lots" 1032, s "rules" 1033, s "desk" 1034, s "due" 1035, s "mark" 1036, s "x" 1037, s "old" 1038, s "literal" 1039, s "reasons" 1040, s "speaker" 1041],
p [],
g (q 46) "_law_asked",
p [],
h z [],
p [s "literal" 1048, s "v" 1049, s "x" 1050, s "sign" 1051, s "k" 1052],
p [],
g (q 47) "_law_obeys",
p [],
h z [],
g (q 48) "_law_is_walk_right",
p [],
h z [],
g (q 49) "law"]
noncomputable def mg : Nat → Nat → Frag → List Obj → List Obj
  | 0, _, _, _ => []
  | f + 1, n, [], R => R
  | f + 1, n, (a, x) :: K, R => match Nat.beq a n, R with
    | false, y :: R => y :: mg f (n + 1) ((a, x) :: K) R
    | _, R => x :: mg f (n + 1) K R
noncomputable def ov : Nat → Frag → List Obj → List Obj
  | _, _, [] => []
  | _, [], l => l
  | n, (a, x) :: D, y :: l => match Nat.beq a n with
    | true => x :: ov (n + 1) D l
    | false => y :: ov (n + 1) ((a, x) :: D) l
noncomputable def bt : Nat → Nat → List Obj → BT → BT
  | 0, _, _, T => T
  | _ + 1, _, [], T => T
  | f + 1, n, x :: l, T => bt f (n + 1) l (T.ins n x)
noncomputable def E0 (P : Params) : List Obj := mg 652 0 (K0 P) (R0 P)
noncomputable def xZ (P : Params) : BT := bt 652 0 (E0 P) .nil
noncomputable def asK : List Addr := [2, 3, 13, 20, 21, 24, 27, 34, 35, 41, 42, 48, 49, 55, 56, 62, 63, 69, 70, 76, 77, 79, 80, 87, 88, 91, 93, 99, 100, 106, 107, 109, 110, 116, 119, 122, 123, 131, 132, 138, 139, 145, 146, 152, 153, 157, 158, 164, 165, 171, 172, 178, 179, 183, 184, 188, 189, 195, 196, 202, 203, 209, 210, 216, 217, 221, 222, 228, 229, 235, 236, 242, 243, 246, 249, 256, 257, 263, 264, 270, 271, 277, 278, 284, 285, 291, 292, 298, 299, 305, 306, 312, 313, 319, 320, 326, 327, 333, 334, 340, 341, 347, 348, 354, 355, 361, 362, 368, 369, 375, 376, 382, 383, 389, 390, 392, 393, 400, 403, 410, 411, 417, 418, 424, 425, 431, 432, 434, 435, 442, 443, 446, 448, 454, 455, 461, 462, 468, 469, 475, 476, 478, 479, 485, 486, 492, 493, 499, 500, 504, 505, 508, 509, 512, 514, 520, 521, 527, 528, 534, 535, 541, 542, 544, 545, 550, 551, 554, 556, 562, 563, 569, 570, 576, 577, 583, 584, 586, 587, 595, 596, 602, 603, 609, 610, 616, 617, 621, 622, 626, 627, 633, 634, 640, 641, 645, 646, 650, 651]
noncomputable def view : Program := PySem.W.view prg [0, 2, 4, 5, 7, 8, 9, 10, 11, 12, 13, 14, 15, 16, 17, 18, 19, 20, 21, 22, 23, 24, 25, 26, 28, 29, 31, 33, 34, 35, 36, 37, 38, 40, 41, 42, 43, 44, 45, 46, 47, 48, 49]
end H
theorem AB : ∀ P, H.asK = (H.K0 P).map (·.1) := fun P => by kernel_rfl
namespace H
noncomputable def bT (P : Params) : BT := bt 15 0 [boot_o_0 P, boot_o_1 P, boot_o_2 P, boot_o_3 P, boot_o_4 P, boot_o_5 P, boot_o_6 P, boot_o_7 P, boot_o_8 P, boot_o_9 P, boot_o_10 P, (E0 P).getD 11 default, h z [], (E0 P).getD 13 default, (E0 P).getD 14 default] .nil
noncomputable def aT (P : Params) : BT := bt 244 0 (ov 0 [(3, nd P "fdsolve.store" 506 32), (12, h z (l12.take 66))] (E0 P)) .nil
noncomputable def cT (P : Params) : BT := bt 440 0 (ov 0 [(3, nd P "fdsolve.arith" 757 34), (12, h z (l12.take 72)), (435, { cls := t "type", data := Data.cls { name := Str.ofString "Propagator", bases := [t "object"], mro := [r 435, t "object"], ns := 434, qualname := Str.ofString "Propagator" }, slots := #[n, n, o (s "Propagator" 702), o (s "Propagator" 710), o (u "object.__new__"), o (b true)] })] (E0 P)) .nil
noncomputable def vM : Env := { scope := prg.main.scope, locals := mainNs, globals := mainNs, cells := [], code := .ref 13, frame := some 14 }
noncomputable def bd : List Stmt := behindTheImports prg
noncomputable def cE : Code := .body bd vM
noncomputable def p0 : Pos := ⟨0, 0, 0, 0⟩
noncomputable def sA : List Stmt := bd.take 28
noncomputable def sB : List Stmt := (bd.drop 28).take 3
noncomputable def sC : List Stmt := bd.drop 31
noncomputable def sh (T : BT) (n tk : Nat) (os : OsState) : SharedT := ⟨T, n, {}, #[], {}, tk, os⟩
theorem BN : sA ++ (sB ++ (sC ++ [])) = bd := by kernel_rfl
variable (w : World) (os : OsState)
theorem r0 : topGo treeTable prg w 11 (some (.ref 6)) 12 ⟨boot_heap w.params, #[], boot_drawn, boot_toks, os⟩ (topStub prg) = some ((sh (bT w.params) 15 187 os).abs, ⟨denote treeTable cE, cE, p0, [topFrame p0]⟩) := by kernel_rfl
theorem r1 : segRun treeTable prg w 11 (some (.ref 6)) 1 1 (sh (bT w.params) 15 187 os).abs (blockOf bd vM cE p0 [topFrame p0]) = some (.next, (sh (bT w.params) 15 187 os).abs, cE, p0) := by kernel_rfl
theorem r2 : segRunT treeTable prg w 11 (some (.ref 6)) 1 1600 (sh (bT w.params) 15 187 os) (piecesOf sA vM cE p0 [topFrame p0]) = some (.next, sh (aT w.params) 244 508 os, cE, ⟨175, 0, 175, 8⟩) := by kernel_rfl
theorem r3 : segRunT treeTable prg w 11 (some (.ref 6)) 1 1600 (sh (aT w.params) 244 508 os) (piecesOf sB vM cE ⟨175, 0, 175, 8⟩ [topFrame p0]) = some (.next, sh (cT w.params) 440 759 os, cE, ⟨287, 0, 287, 8⟩) := by kernel_rfl
theorem r4 : segRunT treeTable prg w 11 (some (.ref 6)) 1 1600 (sh (cT w.params) 440 759 os) (piecesOf sC vM cE ⟨287, 0, 287, 8⟩ [topFrame p0]) = some (.next, sh (xZ w.params) 652 1068 os, cE, ⟨480, 0, 499, 52⟩) := by kernel_rfl
theorem r5 : topRun treeTable prg w 11 (some (.ref 6)) 2 (sh (xZ w.params) 652 1068 os).abs (restOf [] vM cE ⟨480, 0, 499, 52⟩ [topFrame p0]) = some (sh (xZ w.params) 652 1068 os).abs := by kernel_rfl
theorem Cz : topRun treeTable prg w 11 (some (.ref 6)) (12 + (1 + (1600 + (1600 + (1600 + 2))))) ⟨boot_heap w.params, #[], boot_drawn, boot_toks, os⟩ (topStub prg) = some (sh (xZ w.params) 652 1068 os).abs :=
  go_top (r0 w os) (piece_block (r1 w os) (BN ▸ piece_app (segRun_of (r2 w os)) (piece_app (segRun_of (r3 w os)) (piece_app (segRun_of (r4 w os)) (r5 w os)))))
end H
namespace H
abbrev lo : List Str := [Str.ofString "has_domains"]
noncomputable def Xt (s : Shared) : Bool := xlAt view [] s && recOk (RowW.records PySem.Challenge.rw_pq0376_01.row.toRowW) s
noncomputable abbrev h1 (P : Params) : Heap := absHeap (xZ P) 652 {}
noncomputable abbrev S1 (P : Params) (os : OsState) : Shared := ⟨h1 P, #[], {}, 1068, os⟩
theorem k1 (P : Params) (os : OsState) : (staticsOk (importedModules prg.main.body) (boot_heap P) (h1 P) && namesBound prg (h1 P) && gensDone (S1 P os) && laidKept (boot_heap P) (h1 P)) = true := by kernel_rfl
theorem k2 (P : Params) (os : OsState) : seen ((recsOf view).map (·.name)) (ownsOf view) [] { S1 P os with gens := #[] } = expectedOf view := by kernel_rfl
theorem k3 (P : Params) : (h1 P).bltView = bltViewBooted := by kernel_rfl
theorem k4 (P : Params) (os : OsState) : ((h1 P).keysOk (looseW view lo) ((recsOf view).map (·.name)) ((litsOf view).map (·.1)) ((clssOf view (looseW view lo)).map (·.name)) && (h1 P).accountedOkI (importedModules prg.main.body) && (h1 P).isNs mainGlobals && (h1 P).isNs builtinsNs && tablesOk view (h1 P) && Xt (S1 P os) && (if true then (#[] : Array GenState).size == 0 else !leftWithCleanup #[])) = true := by kernel_rfl
theorem k5 (P : Params) (os : OsState) : tabsOk view (S1 P os) = true := by kernel_rfl
theorem k6 (P : Params) (os : OsState) : pinSeenD view (drecsOf view) (S1 P os) = pinGoodD (drecsOf view) := by kernel_rfl
theorem k7 (P : Params) (os : OsState) : plainSeenE view (looseW view lo) (S1 P os) = plainGoodE view (looseW view lo) := by kernel_rfl
theorem k8 (P : Params) (os : OsState) : plainSeenD view lo (S1 P os) = plainGoodD view lo := by kernel_rfl
theorem k9 (P : Params) (os : OsState) : wideSeen view (S1 P os) = wideGood view := by kernel_rfl
theorem Da (P : Params) (os : OsState) : clsSeenW view lo (S1 P os) = clsGoodW view lo := by kernel_rfl
theorem Dn (P : Params) (os : OsState) : asK.map (S1 P os).heap.get? = (K0 P).map fun p => some p.2 := by kernel_rfl
end H
namespace H
theorem le0 : Nat.ble (12 + (1 + (1600 + (1600 + (1600 + 2))))) 8636 = true := rfl
theorem run1 (w : World) (os : OsState) : topRun treeTable prg w 11 (some (.ref 6)) (12 + (1 + (1600 + (1600 + (1600 + 2))))) ⟨boot_heap w.params, #[], boot_drawn, boot_toks, os⟩ (topStub prg) = some (S1 w.params os) := by
  have e := Cz w os
  unfold sh SharedT.abs at e
  dsimp only at e
  exact e
theorem Dg : opening prg = plainProg prg.main.scope.names := by kernel_rfl
theorem Dj : ∀ s, fenceModules? prg s = some s := fun s => by kernel_rfl
theorem Dl : ∀ w : World, ((boot_heap w.params).isNs mainGlobals && (#[] : Array GenState).size == 0, (boot_heap w.params).objs.size, (boot_heap w.params).nsMap mainGlobals "__annotations__") = (true, 11, some (.ref 6)) := fun w => by kernel_rfl
end H
open H in
theorem BP : LeftO prg view lo Xt (fun s => asK.map s.heap.get?) (fun w => (K0 w.params).map fun p => some p.2) 8636 :=
  LeftO.of_pieces (H₀ := boot_heap) (H₁ := h1) (gs₀ := Array.mk []) (gs₁ := #[]) (d₀ := boot_drawn) (d₁ := {}) (k₀ := boot_toks) (k₁ := 1068) (m₀ := 11) (ann := some (.ref 6)) (M := 12 + (1 + (1600 + (1600 + (1600 + 2)))))
    (boot_open Dg (by decide) Dj) Dl
    (fun w os => H.run1 w os) H.le0
    (fun w => funext fun os => looks_pair (k1 _ os) (looks_pair (looks_pair (k2 _ os) (looks_pair (k3 _) (looks_pair (k4 _ os) (looks_pair (k5 _ os) (looks_pair (k6 _ os) (looks_pair (k7 _ os) (looks_pair (k8 _ os) (looks_pair (k9 _ os) (Da _ os))))))))) (Dn _ os)))
inductive PV where
  | none | bool (b : Bool) | int (i : Int) | str (s : String) | tup (l : List PV) | obj (i : Nat) | rng (a b : Int) | raw (a : Addr)
inductive AObj where
  | list (l : List PV)
  | idict (es : List (Int × PV))
  | sdict (es : List (String × PV))
  | inst (C : Addr) (fs : List (String × PV))
structure AH where
  next : Nat
  get : Nat → Option AObj
noncomputable def AH.set (σ : AH) (i : Nat) (o : AObj) : AH := { σ with get := fun j => if j = i then some o else σ.get j }
noncomputable def AH.new (σ : AH) (o : AObj) : AH := { next := σ.next + 1, get := fun j => if j = σ.next then some o else σ.get j }
noncomputable def AH.newI (σ : AH) (o : AObj) : AH := { next := σ.next + 2, get := fun j => if j = σ.next then some o else σ.get j }
abbrev Loc := String → Option PV
noncomputable def Loc.put (m : Loc) (x : String) (v : PV) : Loc := fun y => if y = x then some v else m y
noncomputable abbrev nm (x : String) : Str := Str.ofString x
inductive Res where
  | next | cont | brk | ret (v : PV)
abbrev EF := Loc → AH → Option (PV × AH)
abbrev TF := Loc → AH → Option (Bool × AH)
abbrev LF := Loc → AH → Option (List PV × AH)
abbrev FF := List PV → AH → Option (PV × AH)
abbrev SF := Loc → AH → Option ((Res × Loc) × AH)
abbrev AF := PV → Loc → AH → Option (Loc × AH)
abbrev yh := List PV → Loc → AH → Option (Loc × AH)
abbrev CF := List PV → Loc → AH → Option ((List PV × Loc) × AH)
noncomputable def bnd {α β : Type} (f : Option (α × AH)) (g : α → AH → Option β) : Option β := match f with | some (a, σ) => g a σ | none => none
@[simp] theorem bnd_some {α β : Type} (a : α) (σ : AH) (g : α → AH → Option β) : bnd (some (a, σ)) g = g a σ := rfl
@[simp] theorem bnd_none {α β : Type} (g : α → AH → Option β) : bnd none g = none := rfl
noncomputable def cr {β : Type} (v : PV) (f : Int → Option β) : Option β := match v with | .int i => f i | _ => none
noncomputable def j1 {β : Type} (v : PV) (f : List PV → Option β) : Option β := match v with | .tup l => f l | _ => none
noncomputable def zd {β : Type} (v : PV) (f : String → Option β) : Option β := match v with | .str x => f x | _ => none
noncomputable def Ab {β : Type} (v : PV) (f : Int → Int → Option β) : Option β := match v with | .rng a b => f a b | _ => none
noncomputable def vv {β : Type} (v : PV) (f : Addr → Option β) : Option β := match v with | .raw a => f a | _ => none
noncomputable def gP {β : Type} (v : PV) (f : Nat → Option β) : Option β := match v with | .obj i => f i | _ => none
noncomputable def gm {β : Type} (o : Option AObj) (f : List PV → Option β) : Option β := match o with | some (.list l) => f l | _ => none
noncomputable def wI {β : Type} (o : Option AObj) (f : List (Int × PV) → Option β) : Option β := match o with | some (.idict l) => f l | _ => none
noncomputable def oX {β : Type} (o : Option AObj) (f : Addr → List (String × PV) → Option β) : Option β := match o with | some (.inst C fs) => f C fs | _ => none
noncomputable def w1 {β : Type} (l : List PV) (f : PV → Option β) : Option β := match l with | [a] => f a | _ => none
noncomputable def w2 {β : Type} (l : List PV) (f : PV → PV → Option β) : Option β := match l with | [a, b] => f a b | _ => none
noncomputable def w3 {β : Type} (l : List PV) (f : PV → PV → PV → Option β) : Option β := match l with | [a, b, c] => f a b c | _ => none
noncomputable def gd {β : Type} (c : Prop) [Decidable c] (x : Option β) : Option β := if c then x else none
noncomputable def hZ {β : Type} (v : PV) (σ : AH) (f : Nat → List PV → Option β) : Option β := gP v fun i => gm (σ.get i) (f i)
noncomputable def j7 {β : Type} (v : PV) (σ : AH) (f : Nat → List (Int × PV) → Option β) : Option β := gP v fun i => wI (σ.get i) (f i)
section
variable {β : Type} {f : Int → Option β} {g : Nat → Option β} {l : List PV} {es : List (Int × PV)} {C : Addr} {fs : List (String × PV)} {a b c : PV} {o : Option AObj}
@[simp] theorem wInt_int {i : Int} : cr (.int i) f = f i := rfl
@[simp] theorem wObj_obj {i : Nat} : gP (.obj i) g = g i := rfl
@[simp] theorem wLst_list {f : List PV → Option β} : gm (some (.list l)) f = f l := rfl
@[simp] theorem wDic_dict {f : List (Int × PV) → Option β} : wI (some (.idict es)) f = f es := rfl
@[simp] theorem wIns_inst {f : Addr → List (String × PV) → Option β} : oX (some (.inst C fs)) f = f C fs := rfl
@[simp] theorem w1_one {f : PV → Option β} : w1 [a] f = f a := rfl
@[simp] theorem w2_two {f : PV → PV → Option β} : w2 [a, b] f = f a b := rfl
@[simp] theorem w3_three {f : PV → PV → PV → Option β} : w3 [a, b, c] f = f a b c := rfl
theorem Ah {p : Prop} [Decidable p] {x : Option β} (h : p) : gd p x = x := if_pos h
theorem Cc {i : Nat} {σ : AH} {f : Nat → List PV → Option β} (h : σ.get i = some (.list l)) : hZ (.obj i) σ f = f i l := by unfold hZ gP; dsimp only; rw [h]; rfl
theorem Ca {i : Nat} {σ : AH} {f : Nat → List (Int × PV) → Option β} (h : σ.get i = some (.idict es)) : j7 (.obj i) σ f = f i es := by unfold j7 gP; dsimp only; rw [h]; rfl
end
noncomputable def af (x : String) : EF := fun m σ => match m x with | some v => some (v, σ) | none => none
noncomputable def an (v : PV) : EF := fun _ σ => some (v, σ)
noncomputable def e1 (op : PV → AH → Option (PV × AH)) (f : EF) : EF := fun m σ => bnd (f m σ) op
noncomputable def e2 (op : PV → PV → AH → Option (PV × AH)) (f g : EF) : EF := fun m σ => bnd (f m σ) fun a σ => bnd (g m σ) fun b σ => op a b σ
noncomputable def sS (t : TF) (f g : EF) : EF := fun m σ => bnd (t m σ) fun b σ => if b then f m σ else g m σ
noncomputable def ao : LF := fun _ σ => some ([], σ)
noncomputable def aj (f : EF) (g : LF) : LF := fun m σ => bnd (f m σ) fun a σ => bnd (g m σ) fun l σ => some (a :: l, σ)
noncomputable def eL (op : List PV → AH → Option (PV × AH)) (f : LF) : EF := fun m σ => bnd (f m σ) op
noncomputable def aD (f : FF) (l : LF) : EF := fun m σ => bnd (l m σ) f
noncomputable def fU (t : TF) : TF := fun m σ => bnd (t m σ) fun b σ => some (!b, σ)
noncomputable def hU (t u : TF) : TF := fun m σ => bnd (t m σ) fun b σ => if b then u m σ else some (false, σ)
noncomputable def o9 (t u : TF) : TF := fun m σ => bnd (t m σ) fun b σ => if b then some (true, σ) else u m σ
noncomputable def lN (v : PV) (σ : AH) : Option (Bool × AH) := match v with | .bool b => some (b, σ) | _ => none
noncomputable def bL (f : EF) : TF := fun m σ => bnd (f m σ) lN
noncomputable def eN : TF := fun _ σ => some (true, σ)
noncomputable def tG (f g : EF) : EF := fun m σ => bnd (f m σ) fun a σ => bnd (lN a σ) fun b σ => if b then g m σ else some (.bool false, σ)
noncomputable def B6 (f g : EF) : EF := fun m σ => bnd (f m σ) fun a σ => bnd (lN a σ) fun b σ => if b then some (.bool true, σ) else g m σ
noncomputable def AT (f : EF) : EF := fun m σ => bnd (f m σ) fun a σ => bnd (lN a σ) fun b σ => some (.bool (!b), σ)
noncomputable def AV {α : Type} : Loc → AH → Option α := fun _ _ => none
noncomputable def sE (is : List Int) : LF := fun _ σ => some (is.map .int, σ)
noncomputable def aX (l : List PV) (σ : AH) : Option (PV × AH) := gd (l.length ≤ 100000) (some (.tup l, σ))
noncomputable def bK (l : List PV) (σ : AH) : Option (PV × AH) := gd (l.length ≤ 100000) (some (.obj σ.next, σ.new (.list l)))
noncomputable def b7 (a : Int) : Bool := decide (-1000000 ≤ a ∧ a ≤ 1000000)
noncomputable def c7 (f : Int → Int → Int) (a b : PV) (σ : AH) : Option (PV × AH) := cr a fun x => cr b fun y => some (.int (f x y), σ)
noncomputable def bU (f : Int → Int → Bool) (a b : PV) (σ : AH) : Option (PV × AH) := cr a fun x => cr b fun y => some (.bool (f x y), σ)
noncomputable def cM (a : PV) (σ : AH) : Option (PV × AH) := cr a fun x => some (.int (-x), σ)
noncomputable def lX (a b : PV) (σ : AH) : Option (PV × AH) := cr a fun x => cr b fun y => gd (y ≠ 0) (some (.int (x.fmod y), σ))
noncomputable def gk (a b : PV) (σ : AH) : Option (PV × AH) := cr a fun x => cr b fun y => gd (b7 x = true ∨ b7 y = true) (some (.int (x * y), σ))
noncomputable def mU (a b : PV) (σ : AH) : Option (PV × AH) := cr a fun x => cr b fun y => gd (y ≠ 0 ∧ b7 y = true) (some (.int (x.fdiv y), σ))
noncomputable def bM (a b : PV) (σ : AH) : Option (PV × AH) := match a with
  | .int x => cr b fun y => some (.int (x + y), σ)
  | .tup l => j1 b fun r => gd (l.length + r.length ≤ 100000) (some (.tup (l ++ r), σ))
  | .obj i => gm (σ.get i) fun l => hZ b σ fun _ r => gd (l.length + r.length ≤ 100000) (some (.obj σ.next, σ.new (.list (l ++ r))))
  | _ => none
noncomputable def yi (l : List PV) (i : Int) : Option PV := gd (b7 i = true) ((seqIndex? i l.length).bind (l[·]?))
noncomputable def dq (l : List (Int × PV)) (i : Int) : Option PV := (l.find? fun p => p.1 = i).map (·.2)
noncomputable def gl (l : List (String × PV)) (x : String) : Option PV := (l.find? fun p => p.1 = x).map (·.2)
noncomputable def io {α : Type} (x : Option α) (σ : AH) : Option (α × AH) := x.map (·, σ)
noncomputable def aK (a b : PV) (σ : AH) : Option (PV × AH) := match a with
  | .tup l => cr b fun i => io (yi l i) σ
  | .obj o => match σ.get o with
    | some (.list l) => cr b fun i => io (yi l i) σ
    | some (.idict es) => cr b fun i => io (dq es i) σ
    | some (.sdict es) => zd b fun x => io (gl es x) σ
    | _ => none
  | _ => none
noncomputable def fJ (a b : PV) (σ : AH) : Option (PV × AH) := hZ a σ fun _ l => cr b fun x => gd (0 ≤ x ∧ l.length ≤ 100000) (some (.obj σ.next, σ.new (.list (l.take x.toNat))))
noncomputable def iN (a b : PV) (σ : AH) : Option (PV × AH) := hZ a σ fun _ l => cr b fun x => gd (0 ≤ x ∧ x.toNat ≤ l.length ∧ l.length ≤ 100000) (some (.obj σ.next, σ.new (.list (l.drop x.toNat))))
noncomputable def jd (es : List (Int × PV)) (k : Int) (v : PV) : List (Int × PV) := if es.any (fun p => p.1 = k) then es.map (fun p => if p.1 = k then (p.1, v) else p) else es ++ [(k, v)]
noncomputable def tR (es : List (String × PV)) (k : String) (v : PV) : List (String × PV) := if es.any (fun p => p.1 = k) then es.map (fun p => if p.1 = k then (p.1, v) else p) else es ++ [(k, v)]
noncomputable def oz (o i v : PV) (σ : AH) : Option (Unit × AH) := gP o fun o => match σ.get o with
  | some (.list l) => cr i fun i => gd (b7 i = true) (match seqIndex? i l.length with | some k => some ((), σ.set o (.list (l.set k v))) | none => none)
  | some (.idict es) => cr i fun i => gd (es.length ≤ 100000) (some ((), σ.set o (.idict (jd es i v))))
  | some (.sdict es) => zd i fun x => gd (es.length ≤ 100000) (some ((), σ.set o (.sdict (tR es x v))))
  | _ => none
noncomputable def jV (x : String) (v : PV) : List (String × PV) → List (String × PV)
  | [] => [(x, v)]
  | p :: r => if p.1 = x then (p.1, v) :: r else p :: jV x v r
noncomputable def aU (cs : List Addr) (x : String) (o : PV) (σ : AH) : Option (PV × AH) := gP o fun i => oX (σ.get i) fun C fs => gd (cs.contains C = true) (io (gl fs x) σ)
noncomputable def xg (cs : List Addr) (x : String) (o v : PV) (σ : AH) : Option (Unit × AH) := gP o fun i => oX (σ.get i) fun C fs => gd (cs.contains C = true ∧ fs.length ≤ 100) (some ((), σ.set i (.inst C (jV x v fs))))
noncomputable def eP (f : PV → Option PyData) : List PV → Option (List PyData)
  | [] => some []
  | v :: r => match f v, eP f r with
    | some d, some ds => some (d :: ds)
    | _, _ => none
noncomputable def deep (σ : AH) : Nat → PV → Option PyData
  | 0, _ => none
  | n + 1, v => match v with
    | .none => some .none
    | .bool b => some (.bool b)
    | .int i => some (.int i)
    | .str x => some (.str (nm x))
    | .tup l => (eP (deep σ n) l).map .tuple
    | .obj i => gm (σ.get i) fun l => (eP (deep σ n) l).map .list
    | .rng _ _ => none
    | .raw _ => none
noncomputable def cz (a b : PV) (σ : AH) : Option (PV × AH) := match deep σ 8 a, deep σ 8 b with
  | some x, some y => some (.bool (PyData.eqv x y), σ)
  | _, _ => none
noncomputable def dE (a b : PV) (σ : AH) : Option (PV × AH) := match deep σ 8 a, deep σ 8 b with
  | some x, some y => some (.bool (!PyData.eqv x y), σ)
  | _, _ => none
noncomputable def xR (d : PyData) : Option (List PyData) := match d with | .list xs => some xs | .tuple xs => some xs | _ => none
noncomputable def wH (c : PV) : Bool := match c with | .rng _ _ => true | _ => false
noncomputable def yj (σ : AH) (a c : PV) : Option Bool := if wH c = true then Ab c fun x y => cr a fun i => some (decide (x ≤ i) && decide (i < y)) else
  match deep σ 8 a, (deep σ 8 c).bind xR with
    | some d, some xs => some (xs.any fun y => PyData.eqv y d)
    | _, _ => none
noncomputable def ng (a c : PV) (σ : AH) : Option (PV × AH) := io ((yj σ a c).map PV.bool) σ
noncomputable def e6 (a c : PV) (σ : AH) : Option (PV × AH) := io ((yj σ a c).map fun b => PV.bool (!b)) σ
noncomputable def lO : PV → Bool
  | .none => true
  | _ => false
noncomputable def jX (a b : PV) (σ : AH) : Option (PV × AH) := match b with | .none => some (.bool (lO a), σ) | _ => none
noncomputable def iR (a b : PV) (σ : AH) : Option (PV × AH) := match b with | .none => some (.bool (!lO a), σ) | _ => none
noncomputable def aF (x : String) : AF := fun v m σ => some (m.put x v, σ)
noncomputable def bR (cs : List Addr) (x : String) (f : EF) : AF := fun v m σ => bnd (f m σ) fun o σ => bnd (xg cs x o v σ) fun _ σ => some (m, σ)
noncomputable def fG (f g : EF) : AF := fun v m σ => bnd (f m σ) fun o σ => bnd (g m σ) fun i σ => bnd (oz o i v σ) fun _ σ => some (m, σ)
noncomputable def ch : yh := fun vs m σ => match vs with | [] => some (m, σ) | _ => none
noncomputable def aQ (a : AF) (f : yh) : yh := fun vs m σ => match vs with | [] => none | v :: r => bnd (a v m σ) fun m σ => f r m σ
noncomputable def dm (f : yh) : AF := fun v m σ => j1 v fun l => f l m σ
noncomputable def bk (f : EF) : SF := fun m σ => bnd (f m σ) fun v σ => some ((.ret v, m), σ)
noncomputable def bO (f : EF) : SF := fun m σ => bnd (f m σ) fun _ σ => some ((.next, m), σ)
noncomputable def Bd : SF := fun m σ => some ((.next, m), σ)
noncomputable def qU : SF := fun m σ => some ((.cont, m), σ)
noncomputable def df (t : TF) (f g : SF) : SF := fun m σ => bnd (t m σ) fun b σ => if b then f m σ else g m σ
noncomputable def aB : SF := fun m σ => some ((.next, m), σ)
noncomputable def am (f g : SF) : SF := fun m σ => bnd (f m σ) fun p σ => match p.1 with | .next => g p.2 σ | r => some ((r, p.2), σ)
noncomputable def a6 (f : EF) (a : AF) : SF := fun m σ => bnd (f m σ) fun v σ => bnd (a v m σ) fun m σ => some ((.next, m), σ)
noncomputable def gw (f : EF) (a : List PV → Loc → Option Loc) : SF := fun m σ => bnd (f m σ) fun v σ => j1 v fun l => match a l m with | some m => some ((.next, m), σ) | none => none
noncomputable def dF (xs : List String) (l : List PV) (m : Loc) : Option Loc := gd (l.length = xs.length) (some ((xs.zip l).reverse.foldl (fun m p => m.put p.1 p.2) m))
noncomputable def qO (l : List (Int × PV)) (x : Int) : List (Int × PV) := l.filter fun p => decide (p.1 ≠ x)
noncomputable def yb (o i : PV) (σ : AH) : Option (Unit × AH) := j7 o σ fun j l => cr i fun x => gd (l.length ≤ 100000 ∧ (dq l x).isSome = true) (some ((), σ.set j (.idict (qO l x))))
noncomputable def zX (f g : EF) : SF := fun m σ => bnd (f m σ) fun o σ => bnd (g m σ) fun i σ => bnd (yb o i σ) fun _ σ => some ((.next, m), σ)
noncomputable def fv : EF := fun _ σ => some (.obj σ.next, σ.new (.idict []))
noncomputable def mR (l l2 : List (String × PV)) : List (String × PV) := l2.foldl (fun a p => tR a p.1 p.2) l
noncomputable def qx (xs : List String) (f : LF) : EF := fun m σ => bnd (f m σ) fun l σ => some (.obj σ.next, σ.new (.sdict (mR [] (xs.zip l))))
noncomputable def nh (ps : List String) (args : List PV) : Loc := (ps.zip args).foldl (fun m p => m.put p.1 p.2) (fun _ => none)
noncomputable def qQ : Option ((Res × Loc) × AH) → Option (PV × AH)
  | some ((.ret v, _), σ) => some (v, σ)
  | some ((.next, _), σ) => some (.none, σ)
  | _ => none
noncomputable def bo (ps : List String) (f : SF) : FF := fun args σ => gd (args.length = ps.length) (qQ (f (nh ps args) σ))
noncomputable def a9 (x : String) (tab : List (Addr × FF)) (f : EF) (l : LF) : EF := fun m σ => bnd (f m σ) fun o σ => gP o fun i => oX (σ.get i) fun C fs => match tab.lookup C, gl fs x with
  | some g, none => bnd (l m σ) fun args σ => g (.obj i :: args) σ
  | _, _ => none
noncomputable def eC (C : Addr) (f : FF) : FF := fun args σ => match f (.obj σ.next :: args) (σ.newI (.inst C [])) with
  | some (.none, σ') => some (.obj σ.next, σ')
  | _ => none
noncomputable def jA (f : EF) (l : LF) (g : FF) : EF := fun m σ => bnd (f m σ) fun o σ => hZ o σ fun i _ => bnd (l m σ) fun args σ => g (.obj i :: args) σ
noncomputable def ym (f : EF) (l : LF) (g : FF) : EF := fun m σ => bnd (f m σ) fun o σ => j7 o σ fun i _ => bnd (l m σ) fun args σ => g (.obj i :: args) σ
noncomputable def jO (C0 : Addr) (l : LF) (g : FF) : SF := fun m σ => bnd (af "self" m σ) fun v σ => gP v fun i => oX (σ.get i) fun C fs => gd (C = C0) (bnd (l m σ) fun args σ => bnd (g (.obj i :: args) σ) fun _ σ => some ((.next, m), σ))
inductive Src where
  | seq (l : List PV) | lst (i : Nat) | enm (i : Nat)
noncomputable def Src.item (σ : AH) (j : Nat) : Src → Option (Option PV)
  | .seq l => some l[j]?
  | .lst i => gm (σ.get i) fun l => some l[j]?
  | .enm i => gm (σ.get i) fun l => some (l[j]?.map fun v => .tup [.int j, v])
noncomputable def Src.len (σ : AH) : Src → Nat
  | .seq l => l.length
  | .lst i => match σ.get i with | some (.list l) => l.length | _ => 0
  | .enm i => match σ.get i with | some (.list l) => l.length | _ => 0
abbrev IF := Loc → AH → Option (Src × AH)
noncomputable def gJ (a b : Int) : List PV := (List.range (b - a).toNat).map fun (i : Nat) => .int (a + i)
noncomputable def iC (v : PV) (σ : AH) : Option (Src × AH) := match v with
  | .tup l => some (.seq l, σ)
  | .rng a b => gd (b7 a = true ∧ b7 b = true) (some (.seq (gJ a b), σ))
  | .obj i => gm (σ.get i) fun _ => some (.lst i, σ)
  | _ => none
noncomputable def gU (f : EF) : IF := fun m σ => bnd (f m σ) iC
noncomputable def oA (l : List PV) (σ : AH) : Option (Src × AH) := w1 l fun v => hZ v σ fun i _ => some (.enm i, σ)
noncomputable def zI (l : List PV) (σ : AH) : Option (Src × AH) := w1 l fun v => j1 v fun l => gd (l.length ≤ 100000) (some (.seq l.reverse, σ))
noncomputable def um (a : AF) (b g : SF) (src : Src) : Nat → Nat → SF
  | 0, _ => fun _ _ => none
  | n + 1, j => fun m σ => match src.item σ j with
    | none => none
    | some none => g m σ
    | some (some v) => bnd (a v m σ) fun m σ => bnd (b m σ) fun p σ => match p.1 with
      | .next | .cont => um a b g src n (j + 1) p.2 σ
      | .brk => some ((.next, p.2), σ)
      | .ret v => some ((.ret v, p.2), σ)
noncomputable def gt (f : IF) (a : AF) (b g : SF) : SF := fun m σ => bnd (f m σ) fun src σ => um a b g src (src.len σ + 1) 0 m σ
noncomputable def cG (t : TF) (b g : SF) : Nat → SF
  | 0 => fun _ _ => none
  | n + 1 => fun m σ => bnd (t m σ) fun c σ => if c then bnd (b m σ) fun p σ => match p.1 with
      | .next | .cont => cG t b g n p.2 σ
      | .brk => some ((.next, p.2), σ)
      | .ret v => some ((.ret v, p.2), σ)
    else g m σ
open Classical in
noncomputable def g6 (t : TF) (b g : SF) : SF := fun m σ => if h : ∃ n r, cG t b g n m σ = some r then some h.choose_spec.choose else none
noncomputable def dH (elt : EF) : CF := fun ys m σ => gd (ys.length ≤ 100000) (bnd (elt m σ) fun v σ => some ((ys ++ [v], m), σ))
noncomputable def gT (a : AF) (t : TF) (b : CF) (src : Src) : Nat → Nat → CF
  | 0, _ => fun _ _ _ => none
  | n + 1, j => fun ys m σ => match src.item σ j with
    | none => none
    | some none => some ((ys, m), σ)
    | some (some v) => bnd (a v m σ) fun m σ => bnd (t m σ) fun c σ => bnd (if c then b ys m σ else some ((ys, m), σ)) fun p σ => gT a t b src n (j + 1) p.1 p.2 σ
noncomputable def uk (f : IF) (a : AF) (t : TF) (b : CF) : CF := fun ys m σ => bnd (f m σ) fun src σ => gT a t b src (src.len σ + 1) 0 ys m σ
noncomputable def jI (caps : List String) (m : Loc) : Loc := fun y => if y ∈ caps then m y else none
noncomputable def dR (caps : List String) (f : IF) (a : AF) (t : TF) (b : CF) : EF := fun m σ => bnd (f m σ) fun src σ => bnd (gT a t b src (src.len σ + 1) 0 [] (jI caps m) σ) fun p σ => bK p.1 σ
noncomputable def gH : List PV → Option (List Int)
  | [] => some []
  | .int i :: r => (gH r).map (i :: ·)
  | _ => none
noncomputable def jB {β : Type} (l : List PV) (f : List Int → Option β) : Option β := match gH l with | some ns => f ns | none => none
noncomputable def vA (a : Int) : List Int → List Int
  | [] => [a]
  | b :: r => if a ≤ b then a :: b :: r else b :: vA a r
noncomputable def gY : List Int → List Int
  | [] => []
  | a :: r => vA a (gY r)
noncomputable def gX : List Int → Option Int
  | [] => none
  | a :: r => match gX r with | none => some a | some b => some (if b < a then b else a)
noncomputable def yE (ns : List Int) : Int := ns.foldl (· + ·) 0
noncomputable def ni (ns : List Int) (σ : AH) : PV × AH := (.obj σ.next, σ.new (.list (ns.map .int)))
noncomputable def lJ (l l2 : List (Int × PV)) : List (Int × PV) := l2.foldl (fun a p => jd a p.1 p.2) l
noncomputable def wO : FF := fun args σ => w1 args fun v => cr v fun a => some (.int (if a < 0 then -a else a), σ)
noncomputable def wY : FF := fun args σ => w2 args fun v w => cr v fun a => cr w fun b => some (.int (if b > a then b else a), σ)
noncomputable def t6 : FF := fun args σ => match args with
  | [v, w] => cr v fun a => cr w fun b => some (.int (if b < a then b else a), σ)
  | [v] => j7 v σ fun _ es => io ((gX (es.map (·.1))).map PV.int) σ
  | _ => none
noncomputable def zS (n : Nat) (σ : AH) : Option (PV × AH) := gd (n ≤ 100000) (some (.int n, σ))
noncomputable def cO : FF := fun args σ => w1 args fun v => match v with
  | .tup l => zS l.length σ
  | .obj i => match σ.get i with
    | some (.list l) => zS l.length σ
    | some (.idict l) => zS l.length σ
    | _ => none
  | _ => none
noncomputable def ee : FF := fun args σ => match args with
  | [v] => cr v fun b => some (.rng 0 b, σ)
  | [v, w] => cr v fun a => cr w fun b => some (.rng a b, σ)
  | _ => none
noncomputable def yY : FF := fun args σ => w1 args fun v => hZ v σ fun _ l => jB l fun ns => gd (ns.length ≤ 100000 ∧ ns.all b7 = true) (some (.int (yE ns), σ))
noncomputable def j9 : FF := fun args σ => w1 args fun v => gP v fun i => match σ.get i with
  | some (.list l) => jB l fun ns => gd (ns.length < 64) (some (ni (gY ns) σ))
  | some (.idict es) => gd (es.length < 64) (some (ni (gY (es.map (·.1))) σ))
  | _ => none
noncomputable def dG : FF := fun args σ => w1 args fun v => match v with
  | .tup l => some (.tup l, σ)
  | .obj i => gm (σ.get i) fun l => gd (l.length ≤ 100000) (some (.tup l, σ))
  | _ => none
noncomputable def lY : FF := fun args σ => w1 args fun v => hZ v σ fun _ l => gd (l.length ≤ 100000) (some (.obj σ.next, σ.new (.list l)))
noncomputable def uF : FF := fun args σ => w1 args fun v => j7 v σ fun _ l => gd (l.length ≤ 100000) (some (.obj σ.next, σ.new (.idict l)))
noncomputable def bP : FF := fun args σ => w2 args fun o v => hZ o σ fun i l => gd (l.length ≤ 100000) (some (.none, σ.set i (.list (l ++ [v]))))
noncomputable def rS : FF := fun args σ => w1 args fun o => hZ o σ fun i l => gd (l.length ≤ 100000) (match l.getLast? with | some v => some (v, σ.set i (.list l.dropLast)) | none => none)
noncomputable def uM : FF := fun args σ => w2 args fun o v => hZ o σ fun i l => Ab v fun a b => gd (l.length ≤ 100000 ∧ b7 a = true ∧ b7 b = true ∧ b - a ≤ 100000) (some (.none, σ.set i (.list (l ++ gJ a b))))
noncomputable def vD : FF := fun args σ => w3 args fun o k d => j7 o σ fun _ l => cr k fun x => some ((dq l x).getD d, σ)
noncomputable def eK : FF := fun args σ => w3 args fun o k d => j7 o σ fun i l => cr k fun x => gd (l.length ≤ 100000) (match dq l x with
  | some v => some (v, σ)
  | none => some (d, σ.set i (.idict (jd l x d))))
noncomputable def mG : FF := fun args σ => w2 args fun o p => j7 o σ fun i l => j7 p σ fun j l2 => gd (i ≠ j ∧ l.length + l2.length ≤ 100000) (some (.none, σ.set i (.idict (lJ l l2))))
noncomputable def nX : FF := fun args σ => w3 args fun o k d => j7 o σ fun i l => cr k fun x => gd (l.length ≤ 100000) (match dq l x with
  | some v => some (v, σ.set i (.idict (qO l x)))
  | none => some (d, σ))
noncomputable def wJ (x : Int) : Bool := decide (-2 ≤ x ∧ x ≤ 3)
noncomputable def cX (v : PV) (σ : AH) : Option (PV × AH) := hZ v σ fun _ l => jB l fun ns => gd (ns.length < 64 ∧ ns.all wJ = true ∧ ns.eraseDups.length ≤ 3) (some (ni (gY ns.eraseDups) σ))
noncomputable def jR : List PV → Option (List (Int × Int))
  | [] => some []
  | v :: r => j1 v fun l => w2 l fun a b => cr a fun a => cr b fun b => (jR r).map ((a, b) :: ·)
noncomputable def cg (p : Int × Int) : PV := .tup [.int p.1, .int p.2]
noncomputable def uW (p q : Int × Int) : Bool := if p.1 = q.1 then decide (p.2 < q.2) else decide (p.1 < q.1)
noncomputable def iQ : FF := fun args σ => w2 args fun c s => j1 c fun c => w2 c fun a b => cr a fun a => cr b fun b => j1 s fun s => w2 s fun x y => cr x fun x => cr y fun y =>
  gd (x ≠ y ∧ a ≠ 0 ∧ b ≠ 0) (some (.obj σ.next, σ.new (.list [.tup [.int a, .int x], .tup [.int b, .int y]])))
noncomputable def uu (a0 : Addr) (ns : List Int) : FF := fun args σ => w1 args fun v => vv v fun b => gd (b = a0) (some (.int ns.length, σ))
noncomputable def kX (a0 : Addr) (ns : List Int) (a b : PV) (σ : AH) : Option (PV × AH) := vv a fun c => cr b fun k => gd (c = a0 ∧ 0 ≤ k) (some (.obj σ.next, σ.new (.list ((ns.take k.toNat).map .int))))
noncomputable abbrev σN : AH := ⟨0, fun _ => none⟩
noncomputable def nob0 : PV → Bool
  | .none => true
  | .bool _ => true
  | .int _ => true
  | .str _ => true
  | _ => false
noncomputable def nob1 : PV → Bool
  | .tup l => l.all nob0
  | v => nob0 v
noncomputable def nob : PV → Bool
  | .tup l => l.all nob1
  | v => nob0 v
noncomputable def fP (f : FF) : FF := fun args σ => gd (args.all nob = true) (match f args σN with
    | some (v, τ) => if nob v = true then some (v, σ) else gP v fun j => gm (τ.get j) fun l => gd (l.all nob = true) (some (.obj σ.next, σ.new (.list l)))
    | none => none)
noncomputable def fQ (f : FF) : FF := fun args σ => w1 args fun v => hZ v σ fun i l => gd (l.all nob = true) (match f [.obj 0] ⟨1, fun j => if j = 0 then some (.list l) else none⟩ with
    | some (v, τ) => gm (τ.get 0) fun l' => gd (l'.all nob = true ∧ l'.length = l.length ∧ nob v = true) (some (v, σ.set i (.list l')))
    | none => none)
noncomputable abbrev KK (w : World) : Frag := H.K0 w.params
structure ProgOk (p : Program) : Prop where
  file : p.main.file = "/claim/cut.py"
  top : (p.main.scope.names.lookup ("super" : Str)).isSome = false
structure Cxt where
  prog : Program
  w : World
  hb : Heap
  hp : Heap
  n0 : Nat
  kin0 : (KK w).In hb
  sub : ∀ b o, hb.get? b = some o → hp.get? b = some o
  top : ∃ p loose mg mb, TopRead p loose mg mb hp
  po : ProgOk prog
  lowb : hb.objs.size ≤ n0
  low : hp.objs.size ≤ n0
  big : 3 < n0
noncomputable abbrev Cxt.K (X : Cxt) : Frag := KK X.w
noncomputable abbrev Cxt.M (X : Cxt) : Model := model X.prog X.w
theorem Cxt.kin (X : Cxt) : X.K.In X.hp := X.kin0.keeps X.sub
structure Pt where
  ι : Nat → Addr
  σ : AH
  s : Shared
noncomputable abbrev Pt.h (P : Pt) : Heap := P.s.heap
noncomputable abbrev Pt.n (P : Pt) : Nat := P.σ.next
theorem nB {x y : String} (h : nm x = nm y) : x = y := by
  unfold nm at h
  rw [Str.ofString_eq_toList, Str.ofString_eq_toList] at h
  injection h with h
  exact String.toList_inj.mp (List.map_inj_right (fun a b e => Char.toNat_inj.mp e) |>.mp (congrArg Array.toList h))
inductive All2 {α β : Type} (R : α → β → Prop) : List α → List β → Prop
  | nil : All2 R [] []
  | cons {a b l r} : R a b → All2 R l r → All2 R (a :: l) (b :: r)
section
variable {α β : Type} {R R' : α → β → Prop} {l : List α} {r : List β}
@[elab_as_elim] theorem All2.nilK {C : List β → Prop} (h : All2 R [] r) (k : C []) : C r := by cases h; exact k
@[elab_as_elim] theorem All2.consK {C : List β → Prop} {a : α} (h : All2 R (a :: l) r) (k : ∀ b r, R a b → All2 R l r → C (b :: r)) : C r := by cases h with | cons x y => exact k _ _ x y
theorem All2.of_get : ∀ {l : List α} {r : List β}, l.length = r.length → (∀ (j : Nat) (a : α) (b : β), l[j]? = some a → r[j]? = some b → R a b) → All2 R l r
  | [], [], _, _ => .nil
  | _ :: _, _ :: _, h, f => .cons (f 0 _ _ rfl rfl) (All2.of_get (Nat.succ.inj h) fun j a b h1 h2 => f (j + 1) a b h1 h2)
theorem All2.length (h : All2 R l r) : l.length = r.length := h.rec rfl fun _ _ ih => congrArg Nat.succ ih
theorem All2.mono (h : All2 R l r) (f : ∀ a b, R a b → R' a b) : All2 R' l r := h.rec .nil fun a _ ih => .cons (f _ _ a) ih
theorem All2.get (h : All2 R l r) : ∀ {j : Nat} {a : α}, l[j]? = some a → ∃ b, r[j]? = some b ∧ R a b :=
  h.rec (motive := fun l r _ => ∀ {j : Nat} {a : α}, l[j]? = some a → ∃ b, r[j]? = some b ∧ R a b) (fun e => nomatch e) fun {_ b _ _} x _ ih => fun {j _} e => match j, e with
    | 0, e => ⟨b, rfl, Option.some.inj e ▸ x⟩
    | _ + 1, e => ih e
theorem All2.get' (h : All2 R l r) {j : Nat} {b : β} (e : r[j]? = some b) : ∃ a, l[j]? = some a ∧ R a b :=
  have hj : j < l.length := h.length ▸ (List.getElem?_eq_some_iff.mp e).1
  let ⟨_, hb, q⟩ := h.get (List.getElem?_eq_getElem hj)
  ⟨_, List.getElem?_eq_getElem hj, Option.some.inj (hb.symm.trans e) ▸ q⟩
theorem All2.both (h : All2 R l r) {j : Nat} {a : α} {b : β} (h1 : l[j]? = some a) (h2 : r[j]? = some b) : R a b := let ⟨_, hb, q⟩ := h.get h1; Option.some.inj (hb.symm.trans h2) ▸ q
theorem All2.append {l' : List α} {r' : List β} (h : All2 R l r) (h' : All2 R l' r') : All2 R (l ++ l') (r ++ r') := h.rec h' fun a _ ih => .cons a ih
theorem All2.snoc {a : α} {b : β} (h : All2 R l r) (x : R a b) : All2 R (l ++ [a]) (r ++ [b]) := h.append (.cons x .nil)
theorem All2.take (h : All2 R l r) (n : Nat) : All2 R (l.take n) (r.take n) := .of_get (by rw [List.length_take, List.length_take, h.length]) fun j a b h1 h2 => by
  rw [List.getElem?_take] at h1 h2
  split at h1
  · rw [if_pos (by assumption)] at h2; exact h.both h1 h2
  · cases h1
theorem All2.drop (h : All2 R l r) (n : Nat) : All2 R (l.drop n) (r.drop n) := .of_get (by rw [List.length_drop, List.length_drop, h.length]) fun j a b h1 h2 => h.both (List.getElem?_drop ▸ h1) (List.getElem?_drop ▸ h2)
theorem All2.set {a : α} {b : β} (h : All2 R l r) (x : R a b) : ∀ n, All2 R (l.set n a) (r.set n b) :=
  h.rec (fun _ => .nil) fun q h ih n => match n with | 0 => .cons x h | n + 1 => .cons q (ih n)
theorem All2.reverse (h : All2 R l r) : All2 R l.reverse r.reverse := h.rec .nil fun a _ ih => by rw [List.reverse_cons, List.reverse_cons]; exact ih.snoc a
end
noncomputable def iF (vs : List Value) (ep : Nat) : Obj := { cls := .type "tuple", data := .seq vs.toArray ep }
noncomputable def ef (vs : List Value) (ep : Nat) : Obj := { cls := .type "list", data := .seq vs.toArray ep }
noncomputable def sX (a b : Int) (ta tb tc : Tok) : Obj := { cls := .type "range", data := .fields #[.int a ta, .int b tb, .int 1 tc] }
noncomputable def Bq : Data → Bool
  | .seq .. => true
  | .fields .. => true
  | _ => false
noncomputable def oU (o : Obj) : Prop := (o.cls = .type "tuple" ∨ o.cls = .type "range") ∧ Bq o.data = true
theorem nF (vs : List Value) (ep : Nat) : oU (iF vs ep) := ⟨.inl rfl, rfl⟩
theorem ez {o : Obj} {n : String} (h : o.cls = .type n) (h1 : n ≠ "tuple") (h2 : n ≠ "range") : ¬ oU o := fun q => q.1.elim (fun e => h1 (Value.type.inj (h.symm.trans e))) fun e => h2 (Value.type.inj (h.symm.trans e))
theorem ik {o : Obj} {d : Data} (h : o.data = d) (n : Bq d = false) : ¬ oU o := fun q => nomatch (h ▸ q.2).symm.trans n
theorem f7 (vs : List Value) (ep : Nat) : ¬ oU (ef vs ep) := ez rfl (by decide) (by decide)
inductive VRel (P : Pt) : PV → Value → Prop
  | none : VRel P .none .none
  | bool (b : Bool) : VRel P (.bool b) (.bool b)
  | int (i : Int) (t : Tok) : VRel P (.int i) (.int i t)
  | str (s : String) (t : Tok) : VRel P (.str s) (.str (nm s) t)
  | tup {a : Addr} {vs : List Value} {ep : Nat} {l : List PV} : P.h.get? a = some (iF vs ep) → l.length = vs.length →
      (∀ (j : Nat) (v : PV) (x : Value), l[j]? = some v → vs[j]? = some x → VRel P v x) → VRel P (.tup l) (.ref a)
  | obj (i : Nat) : i < P.n → VRel P (.obj i) (.ref (P.ι i))
  | rng {r : Addr} {ta tb tc : Tok} {a b : Int} : P.h.get? r = some (sX a b ta tb tc) → VRel P (.rng a b) (.ref r)
  | raw (a : Addr) : VRel P (.raw a) (.ref a)
abbrev VRels (P : Pt) : List PV → List Value → Prop := All2 (VRel P)
noncomputable def ql (h h' : Heap) : Prop := ∀ a o, h.get? a = some o → oU o → h'.get? a = some o
structure Ext (P P' : Pt) : Prop where
  tk : ql P.h P'.h
  ag : ∀ i, i < P.n → P'.ι i = P.ι i
  nx : P.n ≤ P'.n
section
variable {P P' P'' : Pt} {v : PV} {x : Value} {l : List PV} {xs : List Value} {C : Value → Prop}
theorem VRel.ext (r : VRel P v x) (e : Ext P P') : VRel P' v x := by
  induction r with
  | none => exact .none
  | bool b => exact .bool b
  | int i t => exact .int i t
  | str s t => exact .str s t
  | tup ho hl _ ih => exact .tup (e.tk _ _ ho (nF _ _)) hl ih
  | rng ho => exact .rng (e.tk _ _ ho ⟨.inr rfl, rfl⟩)
  | raw a => exact .raw a
  | obj i hi => rw [← e.ag i hi]; exact .obj i (Nat.lt_of_lt_of_le hi e.nx)
theorem VRels.ext (r : VRels P l xs) (e : Ext P P') : VRels P' l xs := r.mono fun _ _ q => q.ext e
theorem Ext.refl (P : Pt) : Ext P P := ⟨fun _ _ e _ => e, fun _ _ => rfl, Nat.le_refl _⟩
theorem Ext.trans (a : Ext P P') (b : Ext P' P'') : Ext P P'' := ⟨fun _ _ e i => b.tk _ _ (a.tk _ _ e i) i, fun i h => (b.ag i (Nat.lt_of_lt_of_le h a.nx)).trans (a.ag i h), Nat.le_trans a.nx b.nx⟩
@[elab_as_elim] theorem VRel.intK {i : Int} (r : VRel P (.int i) x) (k : ∀ t, C (.int i t)) : C x := by cases r; exact k _
@[elab_as_elim] theorem VRel.strK {s : String} (r : VRel P (.str s) x) (k : ∀ t, C (.str (nm s) t)) : C x := by cases r; exact k _
@[elab_as_elim] theorem VRel.boolK {b : Bool} (r : VRel P (.bool b) x) (k : C (.bool b)) : C x := by cases r; exact k
@[elab_as_elim] theorem VRel.noneK (r : VRel P .none x) (k : C .none) : C x := by cases r; exact k
@[elab_as_elim] theorem VRel.objK {i : Nat} (r : VRel P (.obj i) x) (k : i < P.n → C (.ref (P.ι i))) : C x := by cases r with | obj _ h => exact k h
@[elab_as_elim] theorem VRel.rngK {a b : Int} (r : VRel P (.rng a b) x) (k : ∀ r ta tb tc, P.h.get? r = some (sX a b ta tb tc) → C (.ref r)) : C x := by cases r with | rng h => exact k _ _ _ _ h
@[elab_as_elim] theorem VRel.rawK {a : Addr} (r : VRel P (.raw a) x) (k : C (.ref a)) : C x := by cases r; exact k
@[elab_as_elim] theorem VRel.tupK (r : VRel P (.tup l) x) (k : ∀ a vs ep, P.h.get? a = some (iF vs ep) → VRels P l vs → C (.ref a)) : C x := by cases r with | tup ho hl f => exact k _ _ _ ho (.of_get hl f)
theorem VRel.tup' {a : Addr} {vs : List Value} {ep : Nat} (ho : P.h.get? a = some (iF vs ep)) (r : VRels P l vs) : VRel P (.tup l) (.ref a) := .tup ho r.length fun _ _ _ h1 h2 => r.both h1 h2
end
noncomputable def ge (P : Pt) (p : Int × PV) (q : Int × Value) : Prop := p.1 = q.1 ∧ VRel P p.2 q.2
noncomputable def lH (P : Pt) (p : String × PV) (q : Str × Value) : Prop := nm p.1 = q.1 ∧ VRel P p.2 q.2
noncomputable def FEnt (P : Pt) (p : String × PV) (e : DictEntry) : Prop := (∃ t, e.key = .str (nm p.1) t) ∧ VRel P p.2 e.val
section
variable (X : Cxt) (P : Pt)
noncomputable def ORel (i : Nat) : AObj → Prop
  | .list l => ∃ vs ep, P.h.get? (P.ι i) = some (ef vs ep) ∧ VRels P l vs
  | .idict es => ∃ kvs, P.h.DictOf (intKind X.prog X.w) (P.ι i) kvs ∧ All2 (ge P) es kvs
  | .sdict es => ∃ kvs, P.h.DictOf (strKind X.prog X.w) (P.ι i) kvs ∧ All2 (lH P) es kvs
  | .inst C fs => i + 1 < P.n ∧ P.h.get? (P.ι i) = some (instObj C (P.ι (i + 1))) ∧ ∃ es ep, P.h.get? (P.ι (i + 1)) = some (dictOf es ep) ∧ All2 (FEnt P) fs es ∧ (fs.map (·.1)).Nodup
structure HRel : Prop where
  keep : ∀ b o, X.hp.get? b = some o → P.h.get? b = some o
  anch : (P.h.get? (X.n0 - 1)).isSome
  lo : ∀ i, i < P.n → X.n0 ≤ P.ι i
  inj : ∀ i j, i < P.n → j < P.n → P.ι i = P.ι j → i = j
  live : ∀ i, i < P.n → ∃ o, P.h.get? (P.ι i) = some o ∧ ¬ oU o
  objs : ∀ i o, P.σ.get i = some o → i < P.n ∧ ORel X P i o
  ins : ∀ i C fs, P.σ.get i = some (.inst C fs) → P.σ.get (i + 1) = none
end
structure Step (X : Cxt) (Y : Addr → Prop) (P P' : Pt) : Prop where
  ext : Ext P P'
  rel : HRel X P'
  fr : ∀ i, P.n ≤ i → i < P'.n → P.h.get? (P'.ι i) = none
  keep : ∀ b o, P.h.get? b = some o → (∀ i, i < P.n → b ≠ P.ι i) → ¬ Y b → P'.h.get? b = some o
  alive : ∀ b, (P.h.get? b).isSome → (P'.h.get? b).isSome
  gens : P'.s.gens = P.s.gens
  os : P'.s.os = P.s.os
abbrev ff : Addr → Prop := fun _ => False
noncomputable def vd (Y : Addr → Prop) (h : Heap) : Prop := ∀ b o, Y b → h.get? b = some o → ¬ oU o
theorem rf (h : Heap) : vd ff h := fun _ _ x => x.elim
theorem bA {α : Type} {o : Option α} {a : α} (h : o = some a) : o.isSome = true := h ▸ rfl
theorem cL (h : Heap) : h.get? h.objs.size = none := by
  cases e : h.get? h.objs.size with
  | none => rfl
  | some o => exact absurd (Heap.lt_size e) (Nat.lt_irrefl _)
theorem e8 {h : Heap} {b : Addr} (f : ∀ o, h.get? b = some o → False) : h.get? b = none := by
  cases e : h.get? b with
  | none => rfl
  | some o => exact (f o e).elim
theorem cK {h : Heap} {b : Addr} {o : Obj} {C : Prop} (e : h.get? b = none) (q : h.get? b = some o) : C := nomatch e.symm.trans q
theorem iB {h h' : Heap} (k : ∀ b o, h.get? b = some o → h'.get? b = some o) (b : Addr) (e : (h.get? b).isSome) : (h'.get? b).isSome := let ⟨_, q⟩ := Option.isSome_iff_exists.mp e; bA (k _ _ q)
theorem iT {h h' : Heap} {a : Addr} {o : Obj} (ha : h'.get? a = some o) (k : ∀ b o, b ≠ a → h.get? b = some o → h'.get? b = some o) (b : Addr) (e : (h.get? b).isSome) : (h'.get? b).isSome :=
  if q : b = a then q ▸ bA ha else let ⟨_, z⟩ := Option.isSome_iff_exists.mp e; bA (k _ _ q z)
theorem mZ {a : Addr} {h h' : Heap} (hs : Heap.SameBut a h h') (b : Addr) (o : Obj) (n : b ≠ a) (e : h.get? b = some o) : h'.get? b = some o := (hs.2 b n).trans e
section
variable {X : Cxt} {P P' P'' : Pt} {Y Z : Addr → Prop} {i k : Nat} {o o' : AObj} {s' : Shared} {h' : Heap} {tk : Nat} {a : Addr} {ob : Obj} {v : PV} {x : Value}
theorem HRel.size (R : HRel X P) : X.n0 ≤ P.h.objs.size := by
  obtain ⟨o, e⟩ := Option.isSome_iff_exists.mp R.anch
  have h1 := X.big
  have h3 : X.n0 - 1 < P.h.objs.size := Heap.lt_size e
  lia
theorem HRel.above (R : HRel X P) (f : ∀ b, (P.h.get? b).isSome → b < a) : X.n0 ≤ a := by
  have h1 := X.big
  have h2 : X.n0 - 1 < a := f _ R.anch
  lia
theorem HRel.lt (R : HRel X P) (hi : i < P.n) : P.ι i < P.h.objs.size := let ⟨_, ho, _⟩ := R.live i hi; Heap.lt_size ho
theorem HRel.ne_none (R : HRel X P) (e : P.h.get? a = none) (i : Nat) (hi : i < P.n) : P.ι i ≠ a := fun q => let ⟨_, ho, _⟩ := R.live i hi; cK e (q ▸ ho)
theorem HRel.fresh (R : HRel X P) : ∀ i, i < P.n → P.ι i ≠ P.h.objs.size := R.ne_none (cL _)
theorem HRel.base (R : HRel X P) (e : P.h.get? a = none) : X.hp.get? a = none := e8 fun _ q => cK e (R.keep _ _ q)
theorem HRel.base_ne (R : HRel X P) (e : X.hp.get? a = some ob) (hi : i < P.n) : a ≠ P.ι i := fun q => absurd (Nat.lt_of_lt_of_le (Heap.lt_size e) X.low) (Nat.not_lt.mpr (q ▸ R.lo i hi))
theorem HRel.K (R : HRel X P) : X.K.In P.h := X.kin.keeps R.keep
theorem Step.refl (R : HRel X P) : Step X Y P P := ⟨.refl P, R, fun _ h1 h2 => absurd h2 (Nat.not_lt.mpr h1), fun _ _ e _ _ => e, fun _ e => e, rfl, rfl⟩
theorem Step.trans (a : Step X Y P P') (b : Step X Y P' P'') : Step X Y P P'' where
  ext := a.ext.trans b.ext
  rel := b.rel
  fr := fun i h1 h2 => if h : i < P'.n then b.ext.ag i h ▸ a.fr i h1 h else e8 fun o e => nomatch (b.fr i (Nat.not_lt.mp h) h2) ▸ a.alive _ (bA e)
  keep := fun c o e n x => b.keep c o (a.keep c o e n x) (fun i hi => if h : i < P.n then a.ext.ag i h ▸ n i h else fun q => cK (a.fr i (Nat.not_lt.mp h) hi) (q ▸ e)) x
  alive := fun c e => b.alive c (a.alive c e)
  gens := b.gens.trans a.gens
  os := b.os.trans a.os
theorem Step.monoX (a : Step X Y P P') (f : ∀ b, (P.h.get? b).isSome → Y b → Z b) : Step X Z P P' := { a with keep := fun b o e n x => a.keep b o e n fun q => x (f b (bA e) q) }
theorem Step.any (a : Step X ff P P') : Step X Y P P' := a.monoX fun _ _ q => q.elim
theorem VRel.step (r : VRel P v x) (a : Step X Y P P') : VRel P' v x := r.ext a.ext
theorem Step.gone (a : Step X Y P P') {b : Addr} (e : P'.h.get? b = none) : P.h.get? b = none := e8 fun _ q => nomatch e ▸ a.alive _ (bA q)
theorem Step.ne (a : Step X Y P P') {b : Addr} {ob : Obj} (e : P.h.get? b = some ob) (n : ∀ i, i < P.n → P.ι i ≠ b) (i : Nat) (hi : i < P'.n) : P'.ι i ≠ b :=
  if h : i < P.n then a.ext.ag i h ▸ n i h else fun q => cK (a.fr i (Nat.not_lt.mp h) hi) (q ▸ e)
theorem ORel.mono (r : ORel X P i o) (hi : i < P.n) (e : Ext P P') (k0 : ∀ ob, P.h.get? (P.ι i) = some ob → P'.h.get? (P.ι i) = some ob)
    (k1 : ∀ C fs, o = .inst C fs → ∀ ob, P.h.get? (P.ι (i + 1)) = some ob → P'.h.get? (P.ι (i + 1)) = some ob) : ORel X P' i o := by
  have e0 := e.ag i hi
  cases o with
  | list vs =>
    obtain ⟨xs, ep, ho, hr⟩ := r
    exact ⟨xs, ep, e0 ▸ k0 _ ho, VRels.ext hr e⟩
  | idict es =>
    obtain ⟨kvs, ⟨ob, es', ep, ho, r'⟩, hr⟩ := r
    exact ⟨kvs, ⟨ob, es', ep, e0 ▸ k0 _ ho, r'⟩, hr.mono fun _ _ q => ⟨q.1, q.2.ext e⟩⟩
  | sdict es =>
    obtain ⟨kvs, ⟨ob, es', ep, ho, r'⟩, hr⟩ := r
    exact ⟨kvs, ⟨ob, es', ep, e0 ▸ k0 _ ho, r'⟩, hr.mono fun _ _ q => ⟨q.1, q.2.ext e⟩⟩
  | inst C fs =>
    obtain ⟨h1, ho, es, ep, hd, hr, hn⟩ := r
    have e1 := e.ag _ h1
    exact ⟨Nat.lt_of_lt_of_le h1 e.nx, e0 ▸ e1 ▸ k0 _ ho, es, ep, e1 ▸ k1 C fs rfl _ hd, hr.mono fun _ _ q => ⟨q.1, q.2.ext e⟩, hn⟩
theorem Step.onlyX (R : HRel X P) (hs : ∀ b ob, P.h.get? b = some ob → ¬ Y b → s'.heap.get? b = some ob) (x1 : ∀ i, i < P.n → ¬ Y (P.ι i)) (x2 : ∀ b ob, X.hp.get? b = some ob → ¬ Y b)
    (x3 : vd Y P.h) (al : ∀ b, (P.h.get? b).isSome → (s'.heap.get? b).isSome) (g : s'.gens = P.s.gens) (os : s'.os = P.s.os) : Step X Y P ⟨P.ι, P.σ, s'⟩ :=
  have e : Ext P ⟨P.ι, P.σ, s'⟩ := ⟨fun b ob e im => hs b ob e fun q => x3 b ob q e im, fun _ _ => rfl, Nat.le_refl _⟩
  ⟨e, ⟨fun b ob z => hs b ob (R.keep b ob z) (x2 b ob z), al _ R.anch, R.lo, R.inj, fun i hi => let ⟨o, ho, hc⟩ := R.live i hi; ⟨o, hs _ _ ho (x1 i hi), hc⟩,
    fun i o z => let ⟨hi, r⟩ := R.objs i o z; ⟨hi, r.mono hi e (fun ob z => hs _ _ z (x1 i hi)) fun C fs q ob y => hs _ _ y (x1 _ (by subst q; exact r.1))⟩, R.ins⟩,
   fun _ h1 h2 => absurd h2 (Nat.not_lt.mpr h1), fun b ob z _ x => hs b ob z x, al, g, os⟩
theorem Step.grow (R : HRel X P) (k : ∀ b o, P.h.get? b = some o → s'.heap.get? b = some o) (g : s'.gens = P.s.gens) (os : s'.os = P.s.os) : Step X Y P ⟨P.ι, P.σ, s'⟩ :=
  (Step.onlyX (Y := ff) R (fun b o e _ => k b o e) (fun _ _ => id) (fun _ _ _ => id) (rf _) (iB k) g os).any
theorem Step.kept (R : HRel X P) (k : ∀ b o, P.h.get? b = some o → h'.get? b = some o) : Step X Y P ⟨P.ι, P.σ, { P.s with heap := h', toks := tk }⟩ := .grow R k rfl rfl
theorem Step.push (R : HRel X P) (ob : Obj) : Step X Y P ⟨P.ι, P.σ, { P.s with heap := P.h.push ob, toks := tk }⟩ := .kept R fun b o' e => Heap.get?_push_of_some ob e
theorem Step.tok (R : HRel X P) : Step X Y P ⟨P.ι, P.σ, { P.s with toks := tk }⟩ := .grow R (fun b o' e => e) rfl rfl
theorem Step.updX (R : HRel X P) (hi : P.σ.get i = some o) (hk : k < P.n) (hki : k = i ∨ (k = i + 1 ∧ ∃ C fs, o = .inst C fs))
    (hs : ∀ b ob, P.h.get? b = some ob → b ≠ P.ι k → ¬ Y b → s'.heap.get? b = some ob) (x1 : ∀ i, i < P.n → ¬ Y (P.ι i)) (x2 : ∀ b ob, X.hp.get? b = some ob → ¬ Y b) (x3 : vd Y P.h) (al : ∀ b, (P.h.get? b).isSome → (s'.heap.get? b).isSome)
    (hl : ∃ ob, s'.heap.get? (P.ι k) = some ob ∧ ¬ oU ob) (hr : Ext P ⟨P.ι, P.σ.set i o', s'⟩ → ORel X ⟨P.ι, P.σ.set i o', s'⟩ i o')
    (hin : (∃ C fs, o' = .inst C fs) → (∃ C fs, o = .inst C fs)) (g : s'.gens = P.s.gens) (os : s'.os = P.s.os) : Step X Y P ⟨P.ι, P.σ.set i o', s'⟩ := by
  obtain ⟨ob0, hob0, hc0⟩ := R.live k hk
  have e : Ext P ⟨P.ι, P.σ.set i o', s'⟩ := ⟨fun b ob e im => hs b ob e (fun q => by rw [q, hob0] at e; cases e; exact hc0 im) fun q => x3 b ob q e im, fun _ _ => rfl, Nat.le_refl _⟩
  have hin' : i < P.n := (R.objs i o hi).1
  refine ⟨e, ⟨fun b ob z => hs b ob (R.keep b ob z) (R.base_ne z hk) (x2 b ob z), al _ R.anch, R.lo, R.inj, fun j hj => ?_, fun j oj z0 => ?_, fun j C fs z0 => ?_⟩, fun _ h1 h2 => absurd h2 (Nat.not_lt.mpr h1), fun b ob z nb x => hs b ob z (nb k hk) x, al, g, os⟩
  · by_cases q : P.ι j = P.ι k
    · show ∃ o, s'.heap.get? (P.ι j) = some o ∧ _
      rw [q]; exact hl
    · obtain ⟨oj, hoj, hcj⟩ := R.live j hj
      exact ⟨oj, hs _ _ hoj q (x1 j hj), hcj⟩
  · have z : (if j = i then some o' else P.σ.get j) = some oj := z0
    clear z0
    by_cases q : j = i
    · rw [if_pos q] at z
      cases z; subst q
      exact ⟨hin', hr e⟩
    · rw [if_neg q] at z
      obtain ⟨hj, rj⟩ := R.objs j oj z
      refine ⟨hj, rj.mono hj e (fun ob y => hs _ _ y (fun qq => ?_) (x1 j hj)) fun C fs ej ob y => ?_⟩
      · have hjk := R.inj _ _ hj hk qq
        rcases hki with rfl | ⟨rfl, C, fs, rfl⟩
        · exact q hjk
        · rw [hjk, R.ins i C fs hi] at z; cases z
      · subst ej
        refine hs _ _ y (fun qq => ?_) (x1 _ rj.1)
        have hjk := R.inj _ _ rj.1 hk qq
        rcases hki with rfl | ⟨rfl, _⟩
        · have := R.ins j C fs z; rw [hjk, hi] at this; cases this
        · exact q (Nat.succ.inj hjk)
  · have z : (if j = i then some o' else P.σ.get j) = some (.inst C fs) := z0
    clear z0
    have no : P.σ.get (j + 1) = none := by
      by_cases q : j = i
      · rw [if_pos q] at z
        obtain ⟨C0, fs0, rfl⟩ := hin ⟨C, fs, Option.some.inj z⟩
        exact q ▸ R.ins i C0 fs0 hi
      · rw [if_neg q] at z
        exact R.ins j C fs z
    show (if j + 1 = i then some o' else P.σ.get (j + 1)) = none
    rw [if_neg fun q => by rw [q, hi] at no; cases no]; exact no
theorem Step.upd (R : HRel X P) (hi : P.σ.get i = some o) (hs : ∀ b ob, b ≠ P.ι i → P.h.get? b = some ob → s'.heap.get? b = some ob) (hn : s'.heap.get? (P.ι i) = some ob) (hm : ¬ oU ob) (hr : Ext P ⟨P.ι, P.σ.set i o', s'⟩ → ORel X ⟨P.ι, P.σ.set i o', s'⟩ i o')
    (hin : ∀ C fs, o' ≠ .inst C fs) (g : s'.gens = P.s.gens) (os : s'.os = P.s.os) : Step X ff P ⟨P.ι, P.σ.set i o', s'⟩ :=
  .updX R hi (R.objs i _ hi).1 (.inl rfl) (fun b ob e n _ => hs b ob n e) (fun _ _ => id) (fun _ _ _ => id) (rf _) (iT hn hs) ⟨_, hn, hm⟩ hr (fun ⟨C, fs, e⟩ => (hin C fs e).elim) g os
noncomputable def Pt.add (P : Pt) (a : Addr) (o : AObj) (s' : Shared) : Pt := ⟨fun j => if j = P.n then a else P.ι j, P.σ.new o, s'⟩
theorem Pt.add_self (P : Pt) (a : Addr) (o : AObj) (s' : Shared) : (P.add a o s').ι P.n = a := if_pos rfl
theorem Pt.add_rel (P : Pt) (a : Addr) (o : AObj) (s' : Shared) : VRel (P.add a o s') (.obj P.n) (.ref a) := by
  have := VRel.obj (P := P.add a o s') P.n (Nat.lt_succ_self _)
  rwa [P.add_self] at this
theorem Step.own {P0 : Pt} (S : Step X Y P0 P) (fr : P0.h.get? a = none) (k : ∀ b o, P.h.get? b = some o → s'.heap.get? b = some o) (lt : ∀ j, j < P.n → P.ι j ≠ a) (hb : X.n0 ≤ a) (hn : s'.heap.get? a = some ob) (hm : ¬ oU ob)
    (hr : Ext P (P.add a o s') → ORel X (P.add a o s') P.n o) (hni : ∀ C fs, o ≠ .inst C fs) (g : s'.gens = P.s.gens) (os : s'.os = P.s.os) : Step X Y P0 (P.add a o s') := by
  have old : ∀ j, j < P.n → (P.add a o s').ι j = P.ι j := fun j hj => if_neg (Nat.ne_of_lt hj)
  have e : Ext P (P.add a o s') := ⟨fun b ob e _ => k b ob e, old, Nat.le_succ _⟩
  have R := S.rel
  have cs : ∀ j, j < (P.add a o s').n → j = P.n ∨ j < P.n := fun j hj => (Nat.lt_succ_iff_lt_or_eq.mp hj).symm
  refine ⟨S.ext.trans e, ⟨fun b ob z => k _ _ (R.keep b ob z), iB k _ R.anch, fun j hj => ?_, fun i j hi hj q => ?_, fun j hj => ?_, fun j oj z0 => ?_, fun j C fs z0 => ?_⟩, fun i h1 h2 => ?_, fun b ob z n x => k _ _ (S.keep b ob z n x), fun b z => iB k b (S.alive b z), g.trans S.gens, os.trans S.os⟩
  · rcases cs j hj with rfl | q
    · rw [P.add_self]; exact hb
    · rw [old j q]; exact R.lo j q
  · rcases cs i hi with rfl | qi <;> rcases cs j hj with rfl | qj
    · rfl
    · rw [P.add_self, old j qj] at q; exact absurd q.symm (lt j qj)
    · rw [P.add_self, old i qi] at q; exact absurd q (lt i qi)
    · rw [old i qi, old j qj] at q; exact R.inj i j qi qj q
  · rcases cs j hj with rfl | q
    · rw [P.add_self]; exact ⟨ob, hn, hm⟩
    · rw [old j q]; obtain ⟨ob, ho, hc⟩ := R.live j q; exact ⟨ob, k _ _ ho, hc⟩
  · have z : (if j = P.n then some o else P.σ.get j) = some oj := z0
    clear z0
    by_cases q : j = P.n
    · rw [if_pos q] at z
      cases z; subst q
      exact ⟨Nat.lt_succ_self _, hr e⟩
    · rw [if_neg q] at z
      obtain ⟨hj, rj⟩ := R.objs j oj z
      exact ⟨Nat.lt_succ_of_lt hj, rj.mono hj e (fun _ q => k _ _ q) fun _ _ _ _ q => k _ _ q⟩
  · have z : (if j = P.n then some o else P.σ.get j) = some (.inst C fs) := z0
    clear z0
    by_cases q : j = P.n
    · rw [if_pos q] at z
      exact absurd (Option.some.inj z) (hni _ _)
    · rw [if_neg q] at z
      have h2 : j + 1 < P.n := (R.objs j _ z).2.1
      show (if j + 1 = P.n then some o else P.σ.get (j + 1)) = none
      rw [if_neg (Nat.ne_of_lt h2)]; exact R.ins j C fs z
  · rcases cs i h2 with rfl | q
    · rw [P.add_self]; exact fr
    · rw [old i q]; exact S.fr i h1 q
theorem Step.newList {l : List PV} {vs : List Value} {ep : Nat} (R : HRel X P) (k : ∀ b o, P.h.get? b = some o → s'.heap.get? b = some o) (ha : P.h.get? a = none) (hb : X.n0 ≤ a) (ho : s'.heap.get? a = some (ef vs ep)) (r : VRels P l vs) (g : s'.gens = P.s.gens) (os : s'.os = P.s.os) :
    Step X ff P (P.add a (.list l) s') :=
  (Step.refl R).own ha k (R.ne_none ha) hb ho (f7 _ _) (fun e => ⟨vs, ep, by rw [P.add_self]; exact ho, VRels.ext r e⟩) (fun _ _ e => nomatch e) g os
theorem gZ {K : Type} [DecidableEq K] {knd : PySem.KeyKind X.prog X.w K} {h : Heap} {a : Addr} {kvs : List (K × Value)} (x : h.DictOf knd a kvs) : ∃ ob, h.get? a = some ob ∧ ¬ oU ob := let ⟨o, _, _, ho, he, _⟩ := x; ⟨o, ho, ez he.1 (by decide) (by decide)⟩
theorem Step.newDict {es : List (Int × PV)} {kvs : List (Int × Value)} (R : HRel X P) (k : ∀ b o, P.h.get? b = some o → s'.heap.get? b = some o) (ha : P.h.get? a = none) (hb : X.n0 ≤ a) (ho : s'.heap.DictOf (intKind X.prog X.w) a kvs) (r : All2 (ge P) es kvs) (g : s'.gens = P.s.gens) (os : s'.os = P.s.os) :
    Step X ff P (P.add a (.idict es) s') :=
  let ⟨_, h1, h2⟩ := gZ ho
  (Step.refl R).own ha k (R.ne_none ha) hb h1 h2 (fun e => ⟨kvs, by rw [P.add_self]; exact ho, r.mono fun _ _ q => ⟨q.1, q.2.ext e⟩⟩) (fun _ _ e => nomatch e) g os
theorem Step.updList {l l' : List PV} {vs' : List Value} {ep : Nat} (R : HRel X P) (hl : P.σ.get i = some (.list l)) (hs : Heap.SameBut (P.ι i) P.h h') (hn : h'.get? (P.ι i) = some (ef vs' ep)) (r : VRels P l' vs') :
    Step X ff P ⟨P.ι, P.σ.set i (.list l'), { P.s with heap := h', toks := tk }⟩ :=
  .upd R hl (mZ hs) hn (f7 _ _) (fun e => ⟨_, _, hn, VRels.ext r e⟩) (fun _ _ e => nomatch e) rfl rfl
theorem Step.updDict {l l' : List (Int × PV)} {kvs' : List (Int × Value)} (R : HRel X P) (hl : P.σ.get i = some (.idict l)) (hs : Heap.SameBut (P.ι i) P.h h') (hn : h'.DictOf (intKind X.prog X.w) (P.ι i) kvs') (r : All2 (ge P) l' kvs') :
    Step X ff P ⟨P.ι, P.σ.set i (.idict l'), { P.s with heap := h', toks := tk }⟩ :=
  let ⟨_, h1, h2⟩ := gZ hn
  .upd R hl (mZ hs) h1 h2 (fun e => ⟨_, hn, r.mono fun _ _ q => ⟨q.1, q.2.ext e⟩⟩) (fun _ _ e => nomatch e) rfl rfl
theorem Step.drop {J : List Addr} (R : HRel X P) (S : Step X (fun b => Y b ∨ b ∈ J) P P') (fr : ∀ b ∈ J, P.h.get? b = none) (hi : ∀ b ∈ J, ∀ i, i < P'.n → P'.ι i ≠ b) (im : ∀ b ∈ J, ∀ o, P'.h.get? b = some o → ¬ oU o)
    (k : ∀ b o, b ∉ J → P'.h.get? b = some o → s'.heap.get? b = some o) (g : s'.gens = P'.s.gens) (os : s'.os = P'.s.os) : Step X Y P ⟨P'.ι, P'.σ, s'⟩ := by
  have nb : ∀ {b : Addr} {o : Obj}, P.h.get? b = some o → b ∉ J := fun e q => cK (fr _ q) e
  have e : Ext P' ⟨P'.ι, P'.σ, s'⟩ := ⟨fun b o e i => k b o (fun q => im b q o e i) e, fun _ _ => rfl, Nat.le_refl _⟩
  have al : ∀ b, (P.h.get? b).isSome → (s'.heap.get? b).isSome := fun b z =>
    let ⟨_, q⟩ := Option.isSome_iff_exists.mp z
    let ⟨_, q'⟩ := Option.isSome_iff_exists.mp (S.alive b z)
    bA (k _ _ (nb q) q')
  refine ⟨S.ext.trans e, ⟨fun b o e => k b o (nb (R.keep b o e)) (S.rel.keep b o e), al _ R.anch, S.rel.lo, S.rel.inj, fun i h => ?_, fun i o z => ?_, S.rel.ins⟩, S.fr, fun b o e n x => k b o (nb e) (S.keep b o e n fun q => q.elim x (nb e)), al, g.trans S.gens, os.trans S.os⟩
  · obtain ⟨o, ho, hc⟩ := S.rel.live i h
    exact ⟨o, k _ _ (fun q => hi _ q i h rfl) ho, hc⟩
  · obtain ⟨h, r⟩ := S.rel.objs i o z
    exact ⟨h, r.mono h e (fun ob z => k _ _ (fun q => hi _ q i h rfl) z) fun C fs eq ob y => k _ _ (fun q => hi _ q _ (by subst eq; exact r.1) rfl) y⟩
end
noncomputable def On {α : Type} (r : Option (α × AH)) (K : α → AH → Prop) : Prop := match r with | some (a, σ) => K a σ | none => False
section
variable {α β : Type} {r : Option (α × AH)} {f : α → AH → Option (β × AH)} {K : β → AH → Prop} {P : Prop}
theorem c9 (h : On (bnd r f) K) : On r fun a σ => On (f a σ) K := match r, h with | some (_, _), h => h
theorem Ac (h : On r fun _ _ => True) : ∃ a, r = some a := match r, h with | some a, _ => ⟨a, rfl⟩
theorem yo {α : Type} {r : Option (α × AH)} {C : Prop} (h : On r fun _ _ => C) : C := match r, h with | some (_, _), h => h
theorem On.mono {K' : α → AH → Prop} {K : α → AH → Prop} (h : On r K) (f : ∀ a σ, K a σ → K' a σ) : On r K' := match r, h with | some (a, σ), h => f a σ h
theorem cF {p : Prop} [Decidable p] {x : Option (β × AH)} (h : On (gd p x) K) (k : p → On x K → P) : P := by
  by_cases q : p
  · exact k q (show On x K from if_pos (c := p) (t := x) (e := none) q ▸ h)
  · exact (show On none K from if_neg (c := p) (t := x) (e := none) q ▸ h).elim
end
structure Ar (h : Nat) (A : Around) : Prop where
  hd : A.handled = none
  dp : A.depth + 10 * h ≤ 701
  un : A.units + 100 * h ≤ 4040
theorem Ar.le {h h' : Nat} {A : Around} (a : Ar h A) (l : h' ≤ h) : Ar h' A := ⟨a.hd, Nat.le_trans (Nat.add_le_add_left (Nat.mul_le_mul_left _ l) _) a.dp, Nat.le_trans (Nat.add_le_add_left (Nat.mul_le_mul_left _ l) _) a.un⟩
noncomputable def Holds (env : Env) (h : Heap) (mc : Str → Option Value) (x : Str) (v : Value) : Prop :=
  (env.kindOf x = some .local ∧ mc x = some v) ∨ ((env.kindOf x = some .cell ∨ env.kindOf x = some .free) ∧ ∃ c, env.cells.lookup x = some c ∧ h.IsCell c (some v))
structure FrS (X : Cxt) (env : Env) : Prop where
  low : X.hb.objs.size ≤ env.locals
  loc : X.hp.get? env.locals = none
  capart : ∀ x y c, env.cells.lookup x = some c → env.cells.lookup y = some c → x = y
  cmine : ∀ x, env.kindOf x = some .cell → ∃ c, env.cells.lookup x = some c ∧ X.hp.get? c = none
  kind : env.scope.kind = .function
  glob : env.globals = mainGlobals
  bi : env.builtins = builtinsNs
structure Fr (X : Cxt) (env : Env) (m : Loc) (P : Pt) : Prop where
  rel : HRel X P
  st : FrS X env
  vars : ∃ mc, P.h.Ns env.locals mc ∧ ∀ x v, m x = some v → ∃ xv, VRel P v xv ∧ Holds env P.h mc (nm x) xv
  locI : ∀ i, i < P.n → P.ι i ≠ env.locals
  cell : ∀ x c, env.cells.lookup x = some c → (∃ v, P.h.IsCell c v) ∧ c ≠ env.locals ∧ ∀ i, i < P.n → P.ι i ≠ c
theorem fZ {h h' : Heap} {c : Addr} {v : Option Value} (x : h.IsCell c v) (k : ∀ o, h.get? c = some o → h'.get? c = some o) : h'.IsCell c v := let ⟨o, ho, hd⟩ := x; ⟨o, k _ ho, hd⟩
theorem wZ {h h' : Heap} {c : Addr} {m : Str → Option Value} (x : h.Ns c m) (k : ∀ o, h.get? c = some o → h'.get? c = some o) : h'.Ns c m := let ⟨o, es, ep, ho, r⟩ := x; ⟨o, es, ep, k _ ho, r⟩
section
variable {X : Cxt} {Y : Addr → Prop} {env : Env} {m : Loc} {P P' : Pt}
theorem Holds.keep {h h' : Heap} {mc : Str → Option Value} {x : Str} {v : Value} (p : Holds env h mc x v) (k : ∀ c o, env.cells.lookup x = some c → h.get? c = some o → h'.get? c = some o) : Holds env h' mc x v :=
  p.imp id fun ⟨a, c, b, d⟩ => ⟨a, c, b, fZ d fun o e => k c o b e⟩
theorem Fr.locAt (F : Fr X env m P) : ∃ o, P.h.get? env.locals = some o ∧ ¬ oU o := let ⟨_, ⟨o, _, _, ho, hd, _⟩, _⟩ := F.vars; ⟨o, ho, ik hd rfl⟩
theorem Fr.cellAt (F : Fr X env m P) {x : Str} {c : Addr} (l : env.cells.lookup x = some c) : ∃ o, P.h.get? c = some o ∧ ¬ oU o := let ⟨⟨_, o, ho, hd⟩, _⟩ := F.cell x c l; ⟨o, ho, ik hd rfl⟩
theorem Fr.at (F : Fr X env m P) (R : HRel X P') (e : Ext P P') (ne : ∀ b o, P.h.get? b = some o → (∀ i, i < P.n → P.ι i ≠ b) → ∀ i, i < P'.n → P'.ι i ≠ b)
    (x1 : ∀ o, P.h.get? env.locals = some o → P'.h.get? env.locals = some o) (x2 : ∀ x c o, env.cells.lookup x = some c → P.h.get? c = some o → P'.h.get? c = some o) : Fr X env m P' := by
  obtain ⟨mc, hns, hv⟩ := F.vars
  obtain ⟨_, ho, _⟩ := F.locAt
  refine ⟨R, F.st, ⟨mc, wZ hns x1, fun x v e' => ?_⟩, ne _ _ ho F.locI, fun x c l => ?_⟩
  · obtain ⟨xv, r, p⟩ := hv x v e'
    exact ⟨xv, r.ext e, p.keep fun c o l => x2 _ c o l⟩
  · obtain ⟨⟨v, hc⟩, h2, h3⟩ := F.cell x c l
    obtain ⟨_, ho, _⟩ := F.cellAt l
    exact ⟨⟨v, fZ hc fun o => x2 x c o l⟩, h2, ne _ _ ho h3⟩
theorem Fr.step (F : Fr X env m P) (S : Step X Y P P') (x1 : ¬ Y env.locals) (x2 : ∀ x c, env.cells.lookup x = some c → ¬ Y c) : Fr X env m P' :=
  F.at S.rel S.ext (fun _ _ e n => S.ne e n) (fun o e => S.keep _ o e (fun i hi q => F.locI i hi q.symm) x1) fun x c o l e => S.keep _ o e (fun i hi q => (F.cell x c l).2.2 i hi q.symm) (x2 x c l)
theorem Fr.stepN (F : Fr X env m P) (S : Step X ff P P') : Fr X env m P' := F.step S id fun _ _ _ => id
end
inductive Ret {α β : Type} (X : Cxt) (P : Pt) (rel : Pt → α → β → Prop) (K : α → AH → Prop) : β → Shared → Prop
  | mk (P' : Pt) (a : α) {x : β} : Step X ff P P' → rel P' a x → K a P'.σ → Ret X P rel K x P'.s
noncomputable abbrev jm : Value → Shared → Prop := fun _ _ => False
noncomputable def W {α β : Type} (X : Cxt) (A : Around) (t : Sem β) (P : Pt) (rel : Pt → α → β → Prop) (K : α → AH → Prop) : Prop := wpAny X.M A t (Ret X P rel K) jm P.s
section
variable {α β : Type} {X : Cxt} {A : Around} {t : Sem β} {P P1 : Pt} {rel : Pt → α → β → Prop} {K : α → AH → Prop} {Q : β → Shared → Prop} {E : Value → Shared → Prop}
theorem W.go (h : W X A t P rel K) (f : ∀ P' a x, Step X ff P P' → rel P' a x → K a P'.σ → Q x P'.s) : wpAny X.M A t Q E P.s :=
  wpAny_mono h (fun _ _ z => z.rec fun P' a x S r k => f P' a _ S r k) fun _ _ z => z.elim
theorem W.back (h : W X A t P1 rel K) (S : Step X ff P P1) : wpAny X.M A t (Ret X P rel K) E P1.s := h.go fun P' a _ S' r k => .mk P' a (S.trans S') r k
theorem Ret.back {x : β} {s : Shared} (h : Ret X P1 rel K x s) (S : Step X ff P P1) : Ret X P rel K x s := h.rec fun P' a _ S' r k => .mk P' a (S.trans S') r k
theorem Ret.here {a : α} {x : β} (R : HRel X P) (r : rel P a x) (k : K a P.σ) : Ret X P rel K x P.s := .mk P a (.refl R) r k
theorem Ret.tok {a : α} {x : β} {tk : Nat} (R : HRel X P) (r : rel ⟨P.ι, P.σ, { P.s with toks := tk }⟩ a x) (k : K a P.σ) : Ret X P rel K x { P.s with toks := tk } := .mk ⟨P.ι, P.σ, { P.s with toks := tk }⟩ a (.tok R) r k
theorem Ret.kept {a : α} {x : β} {h' : Heap} {tk : Nat} (R : HRel X P) (kp : ∀ b o, P.h.get? b = some o → h'.get? b = some o) (r : rel ⟨P.ι, P.σ, { P.s with heap := h', toks := tk }⟩ a x) (k : K a P.σ) : Ret X P rel K x { P.s with heap := h', toks := tk } := .mk ⟨P.ι, P.σ, { P.s with heap := h', toks := tk }⟩ a (.kept R kp) r k
theorem Ret.tokV {v : PV} {x : Value} {tk : Nat} {K : PV → AH → Prop} (R : HRel X P) (r : VRel P v x) (k : K v P.σ) : Ret X P VRel K x { P.s with toks := tk } := have S : Step X ff P ⟨P.ι, P.σ, { P.s with toks := tk }⟩ := .tok R; .mk _ v S (r.step S) k
theorem Ret.keptV {v : PV} {x : Value} {h' : Heap} {tk : Nat} {K : PV → AH → Prop} (R : HRel X P) (kp : ∀ b o, P.h.get? b = some o → h'.get? b = some o) (r : VRel P v x) (k : K v P.σ) : Ret X P VRel K x { P.s with heap := h', toks := tk } := have S : Step X ff P ⟨P.ι, P.σ, { P.s with heap := h', toks := tk }⟩ := .kept R kp; .mk _ v S (r.step S) k
theorem Ret.list {l : List PV} {vs : List Value} {ep : Nat} {a : Addr} {s' : Shared} {K : PV → AH → Prop} (R : HRel X P) (k : ∀ b o, P.h.get? b = some o → s'.heap.get? b = some o) (ha : P.h.get? a = none) (hb : X.n0 ≤ a) (ho : s'.heap.get? a = some (ef vs ep)) (r : VRels P l vs)
    (g : s'.gens = P.s.gens) (os : s'.os = P.s.os) (q : K (.obj P.n) (P.σ.new (.list l))) : Ret X P VRel K (.ref a) s' := .mk (P.add a (.list l) s') (.obj P.n) (.newList R k ha hb ho r g os) (P.add_rel _ _ _) q
theorem Ret.listP {l : List PV} {vs : List Value} {ep tk : Nat} {K : PV → AH → Prop} (R : HRel X P) (r : VRels P l vs) (q : K (.obj P.n) (P.σ.new (.list l))) : Ret X P VRel K (.ref P.h.objs.size) { P.s with heap := P.h.push (ef vs ep), toks := tk } :=
  .list R (fun _ _ => Heap.get?_push_of_some _) (cL _) R.size (Heap.get?_push_size _ rfl) r rfl rfl q
theorem Ret.tupP {l : List PV} {vs : List Value} {ep tk : Nat} {K : PV → AH → Prop} (R : HRel X P) (r : VRels P l vs) (q : K (.tup l) P.σ) : Ret X P VRel K (.ref P.h.objs.size) { P.s with heap := P.h.push (iF vs ep), toks := tk } :=
  have S : Step X ff P ⟨P.ι, P.σ, { P.s with heap := P.h.push (iF vs ep), toks := tk }⟩ := .push R _
  .mk _ (.tup l) S (.tup' (Heap.get?_push_size _ rfl) (r.ext S.ext)) q
end
noncomputable def B5 (_ : Pt) (b x : Bool) : Prop := x = b
section
variable (X : Cxt)
noncomputable def bD (h : Nat) (env : Env) (e : Expr) (f : EF) : Prop := ∀ A P m K, Ar h A → Fr X env m P → On (f m P.σ) K → W X A (eval e env) P VRel K
noncomputable def fI (h : Nat) (env : Env) (e : Expr) (f : TF) : Prop := ∀ A P m K, Ar h A → Fr X env m P → On (f m P.σ) K → W X A (isTrue e env (eval e env)) P B5 K
noncomputable def gK (h : Nat) (env : Env) (es : List Expr) (f : LF) : Prop := ∀ A P m K pos, Ar h A → Fr X env m P → On (f m P.σ) K → W X A (spliced (backTo pos (starEach es env))) P VRels K
noncomputable def yF (h : Nat) (t : Value → Sem Value) (op : PV → AH → Option (PV × AH)) : Prop := ∀ A P a x K, Ar h A → HRel X P → VRel P a x → On (op a P.σ) K → W X A (t x) P VRel K
noncomputable def gf (h : Nat) (t : Value → Value → Sem Value) (op : PV → PV → AH → Option (PV × AH)) : Prop := ∀ A P a b x y K, Ar h A → HRel X P → VRel P a x → VRel P b y → On (op a b P.σ) K → W X A (t x y) P VRel K
end
section
variable {X : Cxt} {h : Nat} {env : Env}
theorem zx {x : String} {m : Loc} {σ : AH} {K : PV → AH → Prop} {P : Prop} (q : On (af x m σ) K) (k : ∀ v, m x = some v → K v σ → P) : P := by
  unfold af at q
  cases e : m x with
  | none => rw [e] at q; exact q.elim
  | some v => rw [e] at q; exact k v e q
theorem aa {x : String} {pos : Pos} (hd : (nm x == ("__debug__" : Str)) = false) (hn : (nm x == ("__classdict__" : Str)) = false) : bD X h env (.Name (nm x) pos) (af x) := fun A P m K _ F q => zx q fun v hv k => by
  obtain ⟨mc, hns, hvs⟩ := F.vars
  obtain ⟨xv, r, p⟩ := hvs x _ hv
  have fin : Ret X P VRel K xv P.s := .here F.rel r k
  rcases p with ⟨hk, hm⟩ | ⟨hk | hk, c, hc, hcell⟩
  · exact wpAny_Name (wpAny_loadName_local F.st.kind hk hns hm fin) hd
  · exact wpAny_Name (wpAny_loadName_cell F.st.kind hk hc hcell fin) hd
  · exact wpAny_Name (wpAny_loadName_free F.st.kind hk hc hcell fin hn) hd
theorem au {i : Int} {kd : Nat} {pos : Pos} : bD X h env (.Constant (.int i) kd pos) (an (.int i)) := fun _ _ _ _ _ F q => wpAny_Constant_int (.tok F.rel (.int i _) q)
theorem aZ {x : String} {kd : Nat} {pos : Pos} : bD X h env (.Constant (.str (nm x)) kd pos) (an (.str x)) := fun _ _ _ _ _ F q => wpAny_Constant_str (.tok F.rel (.str x _) q)
theorem bj {b : Bool} {kd : Nat} {pos : Pos} : bD X h env (.Constant (.bool b) kd pos) (an (.bool b)) := fun _ _ _ _ _ F q => wpAny_Constant_bool (.here F.rel (.bool b) q)
theorem cA {kd : Nat} {pos : Pos} : bD X h env (.Constant .none kd pos) (an .none) := fun _ _ _ _ _ F q => wpAny_Constant_none (.here F.rel .none q)
theorem two {A : Around} {P : Pt} {m : Loc} {l r : Expr} {f g : EF} {op : PV → PV → AH → Option (PV × AH)} {t : Value → Value → Sem Value} {K : PV → AH → Prop}
    (hl : bD X h env l f) (hr : bD X h env r g) (ho : gf X h t op) (hA : Ar h A) (F : Fr X env m P) (q : On (e2 op f g m P.σ) K) :
    wpAny X.M A (eval l env) (fun a s₁ => wpAny X.M A (eval r env) (fun b s₂ => wpAny X.M A (t a b) (Ret X P VRel K) jm s₂) jm s₁) jm P.s :=
  (hl A P m _ hA F (c9 q)).go fun _ _ _ S1 r1 q => (hr A _ m _ hA (F.stepN S1) (c9 q)).go fun _ _ _ S2 r2 q => (ho A _ _ _ _ _ K hA S2.rel (r1.step S2) r2 q).back (S1.trans S2)
theorem aM {l r : Expr} {o : Operator} {pos : Pos} {f g : EF} {op : PV → PV → AH → Option (PV × AH)} (ho : gf X h (binaryOp o) op) (hl : bD X h env l f) (hr : bD X h env r g) :
    bD X h env (.BinOp l o r pos) (e2 op f g) := fun _ _ _ _ hA F q => wpAny_BinOp (two hl hr ho hA F q)
theorem bh {l r : Expr} {o : CmpOp} {pos : Pos} {f g : EF} {op : PV → PV → AH → Option (PV × AH)} (hm : behindInMarks o r = false) (ho : gf X h (compareOp o) op) (hl : bD X h env l f) (hr : bD X h env r g) :
    bD X h env (.Compare l [o] [r] pos) (e2 op f g) := fun _ _ _ _ hA F q => wpAny_Compare1 (two hl hr ho hA F q) hm
theorem one {A : Around} {P : Pt} {m : Loc} {l : Expr} {f : EF} {op : PV → AH → Option (PV × AH)} {t : Value → Sem Value} {K : PV → AH → Prop}
    (hl : bD X h env l f) (ho : yF X h t op) (hA : Ar h A) (F : Fr X env m P) (q : On (e1 op f m P.σ) K) :
    wpAny X.M A (eval l env) (fun a s₁ => wpAny X.M A (t a) (Ret X P VRel K) jm s₁) jm P.s :=
  (hl A P m _ hA F (c9 q)).go fun _ _ _ S1 r1 q => (ho A _ _ _ K hA S1.rel r1 q).back S1
theorem ba {x : Expr} {o : UnaryOp} {pos : Pos} {f : EF} {op : PV → AH → Option (PV × AH)} (ho : yF X h (unaryOp o) op) (hl : bD X h env x f) : bD X h env (.UnaryOp o x pos) (e1 op f) := fun A P m K hA F q => by
  show wpAny _ _ (do let v ← eval x env; standAt pos; holding [v] (unaryOp o v)) _ _ _
  exact wpAny_bind (wpAny_mono (one hl ho hA F q) (fun a s₁ z => wpAny_bind (wpAny_standAt (wpAny_holding z))) fun _ _ z => z)
theorem eQ {A : Around} {b : Bool} {Q : Bool → Shared → Prop} {E : Value → Shared → Prop} {s : Shared} (h : Q b s) : wpAny X.M A (truthy (.bool b)) Q E s := by
  unfold truthy; exact wpAny_pure h
@[elab_as_elim] theorem boolK {P : Pt} {v : PV} {x : Value} {σ : AH} {K : Bool → AH → Prop} {C : Value → Prop} (q : On (lN v σ) K) (r : VRel P v x) (k : ∀ b, K b σ → C (.bool b)) : C x := by
  cases v <;> first | exact q.elim | exact r.boolK (k _ q)
theorem bW {e : Expr} {f : EF} (he : ∀ whole, isTrue e env whole = (do let v ← whole; standAt e.pos; holding [v] (truthy v))) (hf : bD X h env e f) : fI X h env e (bL f) := fun A P m K hA F q => by
  show wpAny _ _ (isTrue e env (eval e env)) _ _ _
  rw [he]
  exact wpAny_bind ((hf A P m _ hA F (c9 q)).go fun P1 a x S1 r1 q => boolK q r1 fun b k => wpAny_bind (wpAny_standAt (wpAny_holding (eQ (.mk P1 b S1 rfl k)))))
theorem aq {l r : Expr} {o : CmpOp} {pos : Pos} {f g : EF} {op : PV → PV → AH → Option (PV × AH)} (hm : behindInMarks o r = false) (ho : gf X h (compareOp o) op) (hl : bD X h env l f) (hr : bD X h env r g) :
    fI X h env (.Compare l [o] [r] pos) (bL (e2 op f g)) := fun A P m K hA F q =>
  wpAny_isTrue_Compare1 (wpAny_mono (two hl hr ho hA F (c9 q)) (fun _ _ z => wpAny_mono z (fun _ _ z => wpAny_mono z (fun _ _ z => z.rec fun P' a x S r k => boolK k r fun b k => eQ (.mk P' b S rfl k)) fun _ _ z => z) fun _ _ z => z) fun _ _ z => z) hm
theorem cJ {x : Expr} {pos : Pos} {t : TF} (ht : fI X h env x t) : fI X h env (.UnaryOp .Not x pos) (fU t) := fun A P m K hA F q =>
  isTrue_not ((ht A P m _ hA F (c9 q)).go fun P1 a x S e k => .mk P1 (!a) S (congrArg _ e) k)
theorem Do {β : Type} {b : Bool} {x y : Option β} {P : Option β → Prop} (q : P (if b then x else y)) : match b with | true => P x | false => P y := by cases b <;> exact q
theorem fm {x y : Expr} {pos : Pos} {t u : TF} (ht : fI X h env x t) (hu : fI X h env y u) : fI X h env (.BoolOp .And [x, y] pos) (hU t u) := fun A P m K hA F q =>
  isTrue_and ((ht A P m _ hA F (c9 q)).go fun P1 a x S e q => by
    cases e
    cases a with
    | true => exact isTrue_and ((hu A P1 m K hA (F.stepN S) q).go fun P2 b x S2 e k => by
        cases e
        cases b with
        | true => exact isTrue_and_nil (.mk P2 _ (S.trans S2) rfl k)
        | false => exact .mk P2 _ (S.trans S2) rfl k)
    | false => exact .mk P1 _ S rfl q)
theorem g8 {x y : Expr} {pos : Pos} {t u : TF} (ht : fI X h env x t) (hu : fI X h env y u) : fI X h env (.BoolOp .Or [x, y] pos) (o9 t u) := fun A P m K hA F q =>
  isTrue_or ((ht A P m _ hA F (c9 q)).go fun P1 a x S e q => by
    cases e
    cases a with
    | false => exact isTrue_or ((hu A P1 m K hA (F.stepN S) q).go fun P2 b x S2 e k => by
        cases e
        cases b with
        | false => exact isTrue_or_nil (.mk P2 _ (S.trans S2) rfl k)
        | true => exact .mk P2 _ (S.trans S2) rfl k)
    | true => exact .mk P1 _ S rfl q)
theorem di {c a b : Expr} {pos : Pos} {t : TF} {f g : EF} (ht : fI X h env c t) (hf : bD X h env a f) (hg : bD X h env b g) : bD X h env (.IfExp c a b pos) (sS t f g) := fun A P m K hA F q =>
  wpAny_IfExp ((ht A P m _ hA F (c9 q)).go fun P1 a x S e q => by
    cases e
    cases a with
    | true => exact (hf A P1 m K hA (F.stepN S) q).back S
    | false => exact (hg A P1 m K hA (F.stepN S) q).back S)
theorem mF {x y : Expr} {pos : Pos} {f g : EF} (hf : bD X h env x f) (hg : bD X h env y g) : bD X h env (.BoolOp .And [x, y] pos) (tG f g) := fun A P m K hA F q =>
  BoolOp_and ((hf A P m _ hA F (c9 q)).go fun P1 a x S r q => boolK (c9 q) r fun b q => eQ (by
    cases b with
    | true => exact BoolOp_one ((hg A P1 m K hA (F.stepN S) q).back S)
    | false => exact .mk P1 _ S (.bool _) q))
theorem wR {x y : Expr} {pos : Pos} {f g : EF} (hf : bD X h env x f) (hg : bD X h env y g) : bD X h env (.BoolOp .Or [x, y] pos) (B6 f g) := fun A P m K hA F q =>
  BoolOp_or ((hf A P m _ hA F (c9 q)).go fun P1 a x S r q => boolK (c9 q) r fun b q => eQ (by
    cases b with
    | false => exact BoolOp_one ((hg A P1 m K hA (F.stepN S) q).back S)
    | true => exact .mk P1 _ S (.bool _) q))
theorem xl {x : Expr} {pos : Pos} {f : EF} (hf : bD X h env x f) : bD X h env (.UnaryOp .Not x pos) (AT f) := fun A P m K hA F q => by
  show wpAny _ _ (do let v ← eval x env; standAt pos; holding [v] (unaryOp .Not v)) _ _ _
  exact wpAny_bind ((hf A P m _ hA F (c9 q)).go fun P1 a x S r q => boolK (c9 q) r fun b q => wpAny_bind (wpAny_standAt (wpAny_holding (not_of (eQ (.mk P1 _ S (.bool _) q))))))
theorem ai : gK X h env [] ao := fun _ _ _ _ _ _ F q => wpAny_pure (.here F.rel .nil q)
theorem ae {e : Expr} {es : List Expr} {f : EF} {g : LF} (hs : starEach (e :: es) env = (false, eval e env) :: starEach es env) (hf : bD X h env e f) (hg : gK X h env es g) : gK X h env (e :: es) (aj f g) := fun A P m K pos hA F q => by
  show wpAny _ _ (spliced (backTo pos (starEach (e :: es) env))) _ _ _
  rw [hs]
  exact Calls.spliced_cons ((hf A P m _ hA F (c9 q)).go fun P1 a x S1 r1 q => (hg A P1 m _ pos hA (F.stepN S1) (c9 q)).go fun P2 l y S2 r2 q => .mk P2 _ (S1.trans S2) (.cons (r1.step S2) r2) q)
theorem wz {n : Nat} (h : n ≤ 100000) : n ≤ sizeLine := Nat.le_trans h (by decide)
theorem zr {P : Pt} {l : List PV} {vs : List Value} (r : VRels P l vs) (h : l.length ≤ 100000) : vs.toArray.size ≤ sizeLine := by rw [List.size_toArray, ← r.length]; exact wz h
theorem az {es : List Expr} {kd : Nat} {pos : Pos} {f : LF} (hf : gK X h env es f) : bD X h env (.Tuple es kd pos) (eL aX f) := fun A P m K hA F q =>
  Tuple_ ((hf A P m _ pos hA F (c9 q)).go fun P1 l vs S1 r1 q => cF q fun hz q => wpAny_newObj_type ((Ret.tupP (ep := 0) S1.rel r1 q).back S1) (zr r1 hz))
theorem bN {es : List Expr} {pos : Pos} {f : LF} (hf : gK X h env es f) : bD X h env (.List es pos) (eL bK f) := fun A P m K hA F q =>
  List_ ((hf A P m _ pos hA F (c9 q)).go fun P1 l vs S1 r1 q => cF q fun hz q => wpAny_newObj_type ((Ret.listP (ep := 0) S1.rel r1 q).back S1) (zr r1 hz))
end
section
variable {α : Type} {P : Pt} {v : PV} {x : Value} {K : α → AH → Prop} {C : Value → Prop}
@[elab_as_elim] theorem onInt {f : Int → Option (α × AH)} (q : On (cr v f) K) (r : VRel P v x) (k : ∀ i t, On (f i) K → C (.int i t)) : C x := by cases v <;> first | exact q.elim | exact r.intK fun t => k _ t q
@[elab_as_elim] theorem onTup {f : List PV → Option (α × AH)} (q : On (j1 v f) K) (r : VRel P v x) (k : ∀ l a vs ep, P.h.get? a = some (iF vs ep) → VRels P l vs → On (f l) K → C (.ref a)) : C x := by cases v <;> first | exact q.elim | exact r.tupK fun a vs ep h1 h2 => k _ a vs ep h1 h2 q
@[elab_as_elim] theorem onStr {f : String → Option (α × AH)} (q : On (zd v f) K) (r : VRel P v x) (k : ∀ s t, On (f s) K → C (.str (nm s) t)) : C x := by cases v <;> first | exact q.elim | exact r.strK fun t => k _ t q
@[elab_as_elim] theorem onRng {f : Int → Int → Option (α × AH)} (q : On (Ab v f) K) (r : VRel P v x) (k : ∀ a b r ta tb tc, P.h.get? r = some (sX a b ta tb tc) → On (f a b) K → C (.ref r)) : C x := by cases v <;> first | exact q.elim | exact r.rngK fun r ta tb tc h => k _ _ r ta tb tc h q
@[elab_as_elim] theorem onRaw {f : Addr → Option (α × AH)} (q : On (vv v f) K) (r : VRel P v x) (k : ∀ a, On (f a) K → C (.ref a)) : C x := by cases v <;> first | exact q.elim | exact r.rawK (k _ q)
@[elab_as_elim] theorem onObj {f : Nat → Option (α × AH)} (q : On (gP v f) K) (r : VRel P v x) (k : ∀ i, i < P.n → On (f i) K → C (.ref (P.ι i))) : C x := by cases v <;> first | exact q.elim | exact r.objK fun h => k _ h q
theorem pe {o : Option AObj} {f : List PV → Option (α × AH)} {C : Prop} (q : On (gm o f) K) (k : ∀ l, o = some (.list l) → On (f l) K → C) : C := match o, q with | some (.list l), q => k l rfl q
theorem Bp {o : Option AObj} {f : List (Int × PV) → Option (α × AH)} {C : Prop} (q : On (wI o f) K) (k : ∀ l, o = some (.idict l) → On (f l) K → C) : C := match o, q with | some (.idict l), q => k l rfl q
theorem vm {o : Option AObj} {f : Addr → List (String × PV) → Option (α × AH)} {C : Prop} (q : On (oX o f) K) (k : ∀ D fs, o = some (.inst D fs) → On (f D fs) K → C) : C := match o, q with | some (.inst D fs), q => k D fs rfl q
theorem yB {o : Option α} {σ : AH} {C : Prop} (q : On (io o σ) K) (k : ∀ a, o = some a → K a σ → C) : C := match o, q with | some a, q => k a rfl q
end
theorem HRel.notSys {X : Cxt} {P : Pt} (R : HRel X P) {i : Nat} (hi : i < P.n) : (P.ι i == sysModules) = false :=
  beq_eq_false_iff_ne.mpr fun e => absurd (Nat.lt_of_lt_of_le X.big (e ▸ R.lo i hi)) (by decide)
section
variable {α : Type} {X : Cxt} {P : Pt} {v : PV} {x : Value} {K : α → AH → Prop} {C : Value → Prop}
theorem HRel.list (R : HRel X P) {i : Nat} {l : List PV} (e : P.σ.get i = some (.list l)) {C : Prop} (k : ∀ vs ep, P.h.get? (P.ι i) = some (ef vs ep) → VRels P l vs → C) : C := (R.objs i _ e).2.elim fun vs z => z.elim fun ep z => k vs ep z.1 z.2
theorem HRel.idict (R : HRel X P) {i : Nat} {l : List (Int × PV)} (e : P.σ.get i = some (.idict l)) {C : Prop} (k : ∀ kvs, P.h.DictOf (intKind X.prog X.w) (P.ι i) kvs → All2 (ge P) l kvs → C) : C := (R.objs i _ e).2.elim fun kvs z => k kvs z.1 z.2
theorem HRel.sdict (R : HRel X P) {i : Nat} {l : List (String × PV)} (e : P.σ.get i = some (.sdict l)) {C : Prop} (k : ∀ kvs, P.h.DictOf (strKind X.prog X.w) (P.ι i) kvs → All2 (lH P) l kvs → C) : C := (R.objs i _ e).2.elim fun kvs z => k kvs z.1 z.2
@[elab_as_elim] theorem onVL {f : Nat → List PV → Option (α × AH)} (R : HRel X P) (q : On (hZ v P.σ f) K) (r : VRel P v x) (k : ∀ i l vs ep, i < P.n → P.σ.get i = some (.list l) → P.h.get? (P.ι i) = some (ef vs ep) → VRels P l vs → On (f i l) K → C (.ref (P.ι i))) : C x :=
  onObj q r fun i hi q => pe q fun l e q => R.list e fun vs ep ho rr => k i l vs ep hi e ho rr q
@[elab_as_elim] theorem onVD {f : Nat → List (Int × PV) → Option (α × AH)} (R : HRel X P) (q : On (j7 v P.σ f) K) (r : VRel P v x) (k : ∀ i l kvs, i < P.n → P.σ.get i = some (.idict l) → P.h.DictOf (intKind X.prog X.w) (P.ι i) kvs → All2 (ge P) l kvs → On (f i l) K → C (.ref (P.ι i))) : C x :=
  onObj q r fun i hi q => Bp q fun l e q => R.idict e fun kvs ho rr => k i l kvs hi e ho rr q
end
section
variable {X : Cxt} {h : Nat} {env : Env}
theorem cn : gf X h (binaryOp .Sub) (c7 (· - ·)) := fun _ _ _ _ _ _ _ _ R ra rb q => onInt q ra fun _ _ q => onInt q rb fun _ _ q => sub_int (.tok R (.int _ _) q)
theorem gu : gf X h (compareOp .Lt) (bU fun a b => decide (a < b)) := fun _ _ _ _ _ _ _ _ R ra rb q => onInt q ra fun _ _ q => onInt q rb fun _ _ q => lt_int (.here R (.bool _) q)
theorem g7 : gf X h (compareOp .LtE) (bU fun a b => decide (a ≤ b)) := fun _ _ _ _ _ _ _ _ R ra rb q => onInt q ra fun _ _ q => onInt q rb fun _ _ q => le_int (.here R (.bool _) q)
theorem dI : gf X h (compareOp .Gt) (bU fun a b => decide (b < a)) := fun _ _ _ _ _ _ _ _ R ra rb q => onInt q ra fun _ _ q => onInt q rb fun _ _ q => gt_int (.here R (.bool _) q)
theorem kv : gf X h (compareOp .GtE) (bU fun a b => decide (b ≤ a)) := fun _ _ _ _ _ _ _ _ R ra rb q => onInt q ra fun _ _ q => onInt q rb fun _ _ q => ge_int (.here R (.bool _) q)
theorem bB : yF X h (unaryOp .USub) cM := fun _ _ _ _ _ _ R ra q => onInt q ra fun _ _ q => neg_int (.tok R (.int _ _) q)
theorem ii : gf X h (binaryOp .Mod) lX := fun _ _ _ _ _ _ _ _ R ra rb q => onInt q ra fun _ _ q => onInt q rb fun _ _ q => cF q fun hb q => mod_int hb (.tok R (.int _ _) q)
theorem vK {a : Int} (h : b7 a = true) : a.natAbs < 2 ^ 20 := by have := of_decide_eq_true h; omega
theorem pG {a : Int} (h : b7 a = true) : a.natAbs.log2 ≤ 20 := by
  by_cases z : a.natAbs = 0
  · rw [z]; decide
  · exact Nat.le_of_lt ((Nat.log2_lt z).mpr (vK h))
theorem n6 {a : Int} (h : b7 a = true) : decide (Builtin.Int.intBits a > shortFactorBits) = false := by
  have := pG h
  refine decide_eq_false ?_
  unfold Builtin.Int.intBits shortFactorBits
  split <;> omega
theorem dO : gf X h (binaryOp .Mult) gk := fun _ _ _ _ _ _ _ _ R ra rb q => onInt q ra fun i _ q => onInt q rb fun j _ q => cF q fun hs q => mul_int (.tok R (.int _ _) q) (by
  unfold IntMulOk
  rcases hs with hs | hs
  · rw [n6 hs]; simp
  · rw [n6 hs]; simp)
theorem mS : gf X h (binaryOp .FloorDiv) mU := fun _ _ _ _ _ _ _ _ R ra rb q => onInt q ra fun i _ q => onInt q rb fun j _ q => cF q fun hs q => floordiv_int hs.1 (.tok R (.int _ _) q) (.inl (by
  have := pG hs.2
  unfold Builtin.divisionGoesByPylong
  refine Bool.and_eq_false_iff.mpr (.inl (decide_eq_false ?_))
  dsimp only
  split <;> omega))
theorem iO (a b : List Value) : a.toArray ++ b.toArray = (a ++ b).toArray := List.append_toArray ..
theorem BM {P : Pt} {l l' : List PV} {vs vs' : List Value} (r : VRels P l vs) (r' : VRels P l' vs') (h : l.length + l'.length ≤ 100000) : vs.toArray.size + vs'.toArray.size ≤ sizeLine := by rw [List.size_toArray, List.size_toArray, ← r.length, ← r'.length]; exact wz h
theorem xO {vs : List Value} (h : vs.toArray.isEmpty = true) : vs = [] := by simpa using h
theorem bw : gf X h (binaryOp .Add) bM := fun A P a b x y K hA R ra rb q => by
  cases a <;> try exact q.elim
  · exact ra.intK fun _ => onInt q rb fun _ _ q => add_int (.tok R (.int _ _) q)
  · refine ra.tupK fun a1 va ea ha rra => onTup q rb fun lb b1 vb eb hb rrb q => cF q fun hz q => ?_
    by_cases h1 : va.toArray.isEmpty = true
    · refine concat_meets ⟨_, ha, rfl⟩ ⟨_, hb, rfl⟩ noFill_tuple_add seq_tuple_add F.slot_tuple_add F.entry_tuple_add (F.args_tuple_add_2 _ _) (AutoSeq1.tuple___add___tuple_tuple_0 _ _ _ _ _ _ h1) ⟨ha, hb, ?_⟩
      have e1 := xO h1
      subst e1
      have e2 := List.length_eq_zero_iff.mp rra.length
      subst e2
      exact .here R (.tup' hb rrb) q
    · by_cases h2 : vb.toArray.isEmpty = true
      · refine concat_meets ⟨_, ha, rfl⟩ ⟨_, hb, rfl⟩ noFill_tuple_add seq_tuple_add F.slot_tuple_add F.entry_tuple_add (F.args_tuple_add_2 _ _) (AutoSeq1.tuple___add___tuple_tuple_1 _ _ _ _ _ _ h1 h2) ⟨ha, hb, ?_⟩
        have e1 := xO h2
        subst e1
        have e2 := List.length_eq_zero_iff.mp rrb.length
        subst e2
        rw [List.append_nil] at q
        exact .here R (.tup' ha rra) q
      · refine PySem.P.add_tuple ha hb h1 h2 ?_ (BM rra rrb hz)
        rw [iO]
        exact Ret.tupP (ep := 0) R (rra.append rrb) q
  · exact ra.objK fun _ => pe q fun la e q => R.list e fun va ea ha rra => onVL R q rb fun _ lb vb eb _ _ hb rrb q => cF q fun hz q => PySem.P.add_list ha hb (by
      rw [iO]
      exact Ret.listP (ep := 0) R (rra.append rrb) q) (BM rra rrb hz)
theorem Bi {l : List PV} {i : Int} {v : PV} {C : Prop} (q : yi l i = some v) (k : b7 i = true → ∀ j, seqIndex? i l.length = some j → l[j]? = some v → C) : C := by
  unfold yi gd at q
  split at q
  · rename_i hs
    obtain ⟨j, h1, h2⟩ := Option.bind_eq_some_iff.mp q
    exact k hs j h1 h2
  · cases q
theorem eO {i : Int} (h : b7 i = true) : -2 ^ 63 ≤ i ∧ i < 2 ^ 63 := by have := of_decide_eq_true h; omega
theorem rC {α β : Type} {P : Pt} {E : α × PV → β × Value → Prop} {l : List (α × PV)} {kvs : List (β × Value)} {p : α → Bool} {p' : β → Bool} (r : All2 E l kvs) (he : ∀ a b, E a b → p a.1 = p' b.1 ∧ VRel P a.2 b.2) :
    (∃ v x, (l.find? fun a => p a.1).map (·.2) = some v ∧ (kvs.find? fun b => p' b.1).map (·.2) = some x ∧ VRel P v x) ∨ ((l.find? fun a => p a.1).map (·.2) = none ∧ (kvs.find? fun b => p' b.1).map (·.2) = none) := by
  induction r with
  | nil => exact .inr ⟨rfl, rfl⟩
  | @cons a b l r hr _ ih =>
    obtain ⟨h1, h2⟩ := he _ _ hr
    rw [List.find?_cons, List.find?_cons, ← h1]
    cases p a.1
    · exact ih
    · exact .inl ⟨_, _, rfl, rfl, h2⟩
theorem xJ (a b : String) : decide (a = b) = decide (nm a = nm b) := decide_eq_decide.mpr ⟨fun e => e ▸ rfl, nB⟩
theorem ft {P : Pt} {l : List (Int × PV)} {kvs : List (Int × Value)} (r : All2 (ge P) l kvs) (i : Int) : (∃ v x, dq l i = some v ∧ valueAt kvs i = some x ∧ VRel P v x) ∨ (dq l i = none ∧ valueAt kvs i = none) :=
  rC (p := fun a => decide (a = i)) (p' := fun a => decide (a = i)) r fun a b q => ⟨by rw [q.1], q.2⟩
theorem vF {P : Pt} {l : List (String × PV)} {kvs : List (Str × Value)} (r : All2 (lH P) l kvs) (i : String) : (∃ v x, gl l i = some v ∧ valueAt kvs (nm i) = some x ∧ VRel P v x) ∨ (gl l i = none ∧ valueAt kvs (nm i) = none) :=
  rC (p := fun a => decide (a = i)) (p' := fun a => decide (a = nm i)) r fun a b q => ⟨by rw [xJ, q.1], q.2⟩
theorem lG {P : Pt} {o : Option PV} {o' : Option Value} {v : PV} {C : Prop} (r : (∃ v x, o = some v ∧ o' = some x ∧ VRel P v x) ∨ (o = none ∧ o' = none)) (e : o = some v) (k : ∀ x, o' = some x → VRel P v x → C) : C := by
  rcases r with ⟨v', x, h1, h2, h3⟩ | ⟨h1, _⟩
  · rw [e] at h1; cases h1; exact k x h2 h3
  · rw [e] at h1; cases h1
theorem cw {K : Type} [DecidableEq K] {knd : PySem.KeyKind X.prog X.w K} {h : Heap} {a : Addr} {kvs : List (K × Value)} (x : h.DictOf knd a kvs) : h.MapOf knd a (valueAt kvs) := by
  obtain ⟨o, es, ep, ho, he, hd, hk, hp, hn⟩ := x
  refine ⟨o, es, ep, ho, he, hd, hk, fun k => ?_⟩
  rw [← hp.find k]
  unfold findBy
  rw [← Array.find?_toList]
theorem lD {i : Int} {n k : Nat} {C : Prop} (h : seqIndex? i n = some k) (kp : ∀ (_ : 0 ≤ i), k < n → k = i.toNat → C) (kn : i < 0 → k < n → i + n = (k : Int) → C) : C := by
  have key : ∀ j : Int, (if (decide (0 ≤ j) && decide (j < (n : Int))) = true then some j.toNat else none) = some k → k < n ∧ j = k := fun j h => by
    by_cases c : (decide (0 ≤ j) && decide (j < (n : Int))) = true
    · rw [if_pos c] at h
      rw [Bool.and_eq_true] at c
      have h1 := of_decide_eq_true c.1
      have h2 := of_decide_eq_true c.2
      have e := Option.some.inj h
      omega
    · rw [if_neg c] at h; cases h
  unfold seqIndex? at h
  by_cases q : i < 0
  · simp only [if_pos q] at h
    obtain ⟨h1, h2⟩ := key _ h
    exact kn q h1 h2
  · simp only [if_neg q] at h
    obtain ⟨h1, h2⟩ := key _ h
    exact kp (Int.not_lt.mp q) h1 (by omega)
theorem qK : gf X h getItem aK := fun A P a b x y K hA R ra rb q => by
  cases a <;> try exact q.elim
  · refine ra.tupK fun a1 va ea ha rra => onInt q rb fun i t q => yB q fun v e q => Bi e fun hs j hj hv => ?_
    obtain ⟨xv, hx, r⟩ := rra.get hv
    exact PySem.P.getItem_tuple ha (eO hs).1 (eO hs).2 (by rw [List.size_toArray, ← rra.length]; exact hj) (by rw [List.getElem?_toArray]; exact hx) (.here R r q)
  · rename_i o
    refine ra.objK fun hi => ?_
    unfold aK at q
    dsimp only at q
    cases e : P.σ.get o with
    | none => rw [e] at q; exact q.elim
    | some ob =>
      rw [e] at q
      cases ob with
      | list l =>
        refine onInt q rb fun i t q => yB q fun v e1 q => Bi e1 fun hs j hj hv => R.list e fun va ea ha rra => ?_
        obtain ⟨xv, hx, r⟩ := rra.get hv
        have hL : P.h.IsList (P.ι o) va.toArray := ⟨_, ha, rfl, ea, rfl⟩
        have hx : va.toArray[j]? = some xv := by rw [List.getElem?_toArray]; exact hx
        refine lD hj (fun h0 _ ej => ?_) fun h0 _ ej => ?_
        · subst ej
          exact wpAny_getItem_list hL h0 (eO hs).2 hx (.here R r q)
        · have hlen : va.toArray.size = l.length := by rw [List.size_toArray, rra.length]
          exact wpAny_getItem_list_neg hL h0 (by rw [hlen]; omega) (eO hs).1 (by rw [hlen, ej]; exact hx) (.here R r q)
      | idict l => exact onInt q rb fun i t q => yB q fun v e1 q => R.idict e fun kvs hd r => lG (ft r i) e1 fun x2 e2 r2 => wpAny_getItem_of (intKind_is X.prog X.w _ _) (cw hd) e2 (.tokV R r2 q)
      | sdict l => exact onStr q rb fun i t q => yB q fun v e1 q => R.sdict e fun kvs hd r => lG (vF r i) e1 fun x2 e2 r2 => wpAny_getItem_of (strKind_is X.prog X.w _ _) (cw hd) e2 (.tokV R r2 q)
      | inst => exact q.elim
end
theorem xf (x : String) : PyData.strOk (nm x) = true := by
  unfold PyData.strOk nm
  rw [Str.ofString_eq_toList, ← Array.all_toList]
  refine List.all_eq_true.mpr fun a ha => ?_
  obtain ⟨c, _, rfl⟩ := List.mem_map.mp ha
  exact decide_eq_true (by have := c.valid; unfold UInt32.isValidChar Nat.isValidChar at this; show c.val.toNat < 0x110000; lia)
structure DeepOk (P : Pt) (k : Nat) (v : PV) (d : PyData) : Prop where
  rd : ∀ x, VRel P v x → ∃ as, Reads P.h x d as
  lay : d.canLay0 = true
  dep : d.depth ≤ k
structure DeepA (P : Pt) (k : Nat) (l : List PV) (ds : List PyData) : Prop where
  rd : ∀ xs, VRels P l xs → ∃ as, ReadsAll P.h xs ds as
  lay : PyData.canLayAll0 ds = true
  dep : PyData.depthAll ds ≤ k
theorem mV {P : Pt} {k : Nat} {f : PV → Option PyData} (hf : ∀ v d, f v = some d → DeepOk P k v d) : ∀ {l : List PV} {ds : List PyData}, eP f l = some ds → DeepA P k l ds
  | [], ds, e => by
    cases e
    exact ⟨fun xs r => r.nilK ⟨[], .nil⟩, by simp [PyData.canLayAll0], by simp [PyData.depthAll]⟩
  | v :: l, ds, e => by
    unfold eP at e
    cases e1 : f v with
    | none => rw [e1] at e; cases e
    | some d =>
      cases e2 : eP f l with
      | none => rw [e1, e2] at e; cases e
      | some ds' =>
        rw [e1, e2] at e
        cases e
        have a := hf v d e1
        have b := mV hf e2
        refine ⟨fun xs r => r.consK fun y ys r1 r2 => (a.rd _ r1).elim fun as x1 => (b.rd _ r2).elim fun bs x2 => ⟨_, .cons x1 x2⟩, by unfold PyData.canLayAll0; rw [a.lay, b.lay]; rfl, ?_⟩
        have h1 := a.dep
        have h2 := b.dep
        unfold PyData.depthAll; lia
theorem fR {X : Cxt} {P : Pt} (R : HRel X P) : ∀ (k : Nat) (v : PV) (d : PyData), deep P.σ k v = some d → DeepOk P k v d
  | 0, _, _, e => by cases e
  | k + 1, v, d, e => by
    cases v with
    | none => cases e; exact ⟨fun x r => r.noneK ⟨_, .none⟩, by simp [PyData.canLay0], by simp [PyData.depth]⟩
    | bool b => cases e; exact ⟨fun x r => r.boolK ⟨_, .bool _⟩, by simp [PyData.canLay0], by simp [PyData.depth]⟩
    | int b => cases e; exact ⟨fun x r => r.intK fun _ => ⟨_, .int _ _⟩, by simp [PyData.canLay0], by simp [PyData.depth]⟩
    | str b => cases e; exact ⟨fun x r => r.strK fun _ => ⟨_, .str _ _⟩, by unfold PyData.canLay0; exact xf b, by simp [PyData.depth]⟩
    | tup l =>
      obtain ⟨ds, e1, rfl⟩ := Option.map_eq_some_iff.mp e
      have a := mV (fR R k) e1
      refine ⟨fun x r => r.tupK fun a1 vs ep ho rr => (a.rd vs rr).elim fun as ra => ⟨as, .tuple ho rfl rfl (by simpa using ra)⟩, by unfold PyData.canLay0; exact a.lay, ?_⟩
      have := a.dep
      unfold PyData.depth; lia
    | obj i =>
      unfold deep gm at e
      dsimp only at e
      split at e
      · rename_i l hl
        obtain ⟨ds, e1, rfl⟩ := Option.map_eq_some_iff.mp e
        have a := mV (fR R k) e1
        refine ⟨fun x r => r.objK fun _ => R.list hl fun vs ep ho rr => (a.rd vs rr).elim fun as ra => ⟨_, .list ho rfl rfl (by simpa using ra)⟩, by unfold PyData.canLay0; exact a.lay, ?_⟩
        have := a.dep
        unfold PyData.depth; lia
      · cases e
    | rng a b => cases e
    | raw a => cases e
theorem DeepOk.shaped {P : Pt} {v : PV} {d : PyData} {k : Nat} (a : DeepOk P k v d) (hk : k ≤ 64) : SeqAt.shaped d = true := by
  unfold SeqAt.shaped
  rw [a.lay, Bool.true_and]
  exact decide_eq_true (Nat.le_trans a.dep (Nat.le_trans hk (by decide)))
section
variable {X : Cxt} {h : Nat} {env : Env}
theorem zG {σ : AH} {a b : PV} {g : PyData → PyData → Option (PV × AH)} {K : PV → AH → Prop} {C : Prop} (q : On (match deep σ 8 a, deep σ 8 b with | some x, some y => g x y | _, _ => none) K) (k : ∀ x y, deep σ 8 a = some x → deep σ 8 b = some y → On (g x y) K → C) : C := by
  cases e1 : deep σ 8 a with
  | none => rw [e1] at q; exact q.elim
  | some x =>
    cases e2 : deep σ 8 b with
    | none => rw [e1, e2] at q; exact q.elim
    | some y => rw [e1, e2] at q; exact k x y e1 e2 q
theorem Ar.c8 {A : Around} (a : Ar h A) : A.units + 1 + 8 < cLine := by have := a.un; unfold cLine; lia
theorem bF : gf X h (compareOp .Eq) cz := fun A P a b x y K hA R ra rb q => zG q fun da db e1 e2 q => by
  have a1 := fR R 8 _ _ e1
  have b1 := fR R 8 _ _ e2
  obtain ⟨as, r1⟩ := a1.rd x ra
  obtain ⟨bs, r2⟩ := b1.rd y rb
  exact SeqAt.compareEq_shaped r1 r2 (a1.shaped (by decide)) (b1.shaped (by decide)) (by have := hA.un; unfold cLine; lia) (.here R (.bool _) q)
theorem cu : gf X h (compareOp .NotEq) dE := fun A P a b x y K hA R ra rb q => zG q fun da db e1 e2 q => by
  have a1 := fR R 8 _ _ e1
  have b1 := fR R 8 _ _ e2
  obtain ⟨as, r1⟩ := a1.rd x ra
  obtain ⟨bs, r2⟩ := b1.rd y rb
  exact SeqAt.compareNe_shaped r1 r2 (a1.shaped (by decide)) (b1.shaped (by decide)) (by have := hA.un; unfold cLine; lia) (.here R (.bool _) q)
theorem oy (a b i : Int) : (Builtin.Range.rangePlace? a b 1 i).isSome = (decide (a ≤ i) && decide (i < b)) := by
  unfold Builtin.Range.rangePlace?
  simp [Int.emod_one]
  split <;> simp_all
theorem jg {A : Around} {s : Shared} {r : Addr} {a b i : Int} {ta tb tc t : Tok} {Q : Value → Shared → Prop} {E : Value → Shared → Prop} (ho : s.heap.get? r = some (sX a b ta tb tc))
    (hq : Q (.bool (decide (a ≤ i) && decide (i < b))) s) : wpAny X.M A (call (.builtin "range.__contains__") [.ref r, .int i t]) Q E s := by
  refine wpAny_call_entry F.slot_range_contains ⟨_, ho, rfl⟩ F.entry_range_contains ?_ (F.args_range_contains_2 _ _)
  unfold Builtin.«range.__contains__»
  refine wpAny_bind (wpAny_pure ?_)
  show wpAny _ _ (rule _ >>= fun _ => Builtin.Range.rangeFields (.ref r) >>= fun x => ret (.bool (Builtin.Range.rangePlace? x.1 x.2.1 x.2.2 i).isSome)) _ _ _
  refine wpAny_bind (wpAny_rule (wpAny_bind ?_))
  unfold Builtin.Range.rangeFields
  refine wpAny_bind (wpAny_field ho rfl (i := 0) rfl (wpAny_bind (wpAny_pure (wpAny_bind (wpAny_field ho rfl (i := 1) rfl (wpAny_bind (wpAny_pure (wpAny_bind (wpAny_field ho rfl (i := 2) rfl (wpAny_bind (wpAny_pure ?_)))))))))))
  refine wpAny_pure (wpAny_pure ⟨_, rfl, ?_⟩)
  dsimp only
  rw [oy]
  exact hq
noncomputable def Cl (c : Bool) : CmpOp := if c then .In else .NotIn
theorem zR {d : PyData} {xs : List PyData} (e : xR d = some xs) : d = .list xs ∨ d = .tuple xs := by cases d <;> first | (cases e; done) | exact .inl (Option.some.inj e ▸ rfl) | exact .inr (Option.some.inj e ▸ rfl)
theorem CG {σ : AH} {a c : PV} {b : Bool} {C : Prop} (e : yj σ a c = some b) (k1 : ∀ i x y, a = .int i → c = .rng x y → b = (decide (x ≤ i) && decide (i < y)) → C)
    (k2 : ∀ d xs, deep σ 8 a = some d → deep σ 8 c = some (.list xs) ∨ deep σ 8 c = some (.tuple xs) → b = (xs.any fun y => PyData.eqv y d) → C) : C := by
  unfold yj at e
  split at e
  · cases c <;> try cases e
    cases a <;> try cases e
    exact k1 _ _ _ rfl rfl rfl
  · cases e1 : deep σ 8 a with
    | none => rw [e1] at e; cases e
    | some d =>
      cases e2 : (deep σ 8 c).bind xR with
      | none => rw [e1, e2] at e; cases e
      | some xs =>
        rw [e1, e2] at e
        obtain ⟨d', h1, h2⟩ := Option.bind_eq_some_iff.mp e2
        exact k2 d xs e1 ((zR h2).imp (fun z => by rw [h1, z]) fun z => by rw [h1, z]) (Option.some.inj e).symm
theorem lV {A : Around} {P : Pt} {a c : PV} {x y : Value} {b : Bool} {Q : Value → Shared → Prop} (yes : Bool) (hA : Ar h A) (R : HRel X P) (ra : VRel P a x) (rc : VRel P c y) (e : yj P.σ a c = some b)
    (q : Q (.bool (bif yes then b else !b)) P.s) : wpAny X.M A (compareOp (Cl yes) x y) Q jm P.s := CG e (fun i u v e1 e2 eb => by
    subst e1; subst e2; subst eb
    exact ra.intK fun t => rc.rngK fun r ta tb tc ho => by
      have go : ∀ (f : Bool → Value), Q (f (decide (u ≤ i) && decide (i < v))) P.s → wpAny X.M A (contains (.ref r) (.int i t) >>= fun b => pure (f b)) Q jm P.s := fun f q => wpAny_bind (wpAny_contains_slot ⟨_, ho, rfl⟩ F.slot_range_contains (jg ho (eQ (wpAny_pure q))))
      cases yes
      · exact go (fun b => .bool (!b)) q
      · exact go .bool q)
  fun d xs e1 e2 eb => by
    subst eb
    have a1 := fR R 8 _ _ e1
    obtain ⟨as, r1⟩ := a1.rd x ra
    have hl : A.units + 1 + min (PyData.depthAll xs) d.depth < cLine := Nat.lt_of_le_of_lt (Nat.add_le_add_left (Nat.le_trans (Nat.min_le_right _ _) a1.dep) _) hA.c8
    rcases e2 with e2 | e2
    · have b1 := fR R 8 _ _ e2
      obtain ⟨bs, r2⟩ := b1.rd y rc
      have c2 : PyData.canLayAll0 xs = true := by have := b1.lay; unfold PyData.canLay0 at this; exact this
      cases yes
      · exact SeqAt.notIn_list_reads r2 r1 c2 a1.lay hl q
      · exact SeqAt.in_list_reads r2 r1 c2 a1.lay hl q
    · have b1 := fR R 8 _ _ e2
      obtain ⟨bs, r2⟩ := b1.rd y rc
      have c2 : PyData.canLayAll0 xs = true := by have := b1.lay; unfold PyData.canLay0 at this; exact this
      cases yes
      · exact SeqAt.notIn_tuple_reads r2 r1 c2 a1.lay hl q
      · exact SeqAt.in_tuple_reads r2 r1 c2 a1.lay hl q
theorem p9 : gf X h (compareOp .In) ng := fun A P a b x y K hA R ra rb q => yB q fun v e q => (Option.map_eq_some_iff.mp e).elim fun t z => lV true hA R ra rb z.1 (.here R (.bool _) (by rw [cond_true, z.2]; exact q))
theorem jG : gf X h (compareOp .NotIn) e6 := fun A P a b x y K hA R ra rb q => yB q fun v e q => (Option.map_eq_some_iff.mp e).elim fun t z => lV false hA R ra rb z.1 (.here R (.bool _) (by rw [cond_false, z.2]; exact q))
theorem nK {P : Pt} {a : PV} {x : Value} (r : VRel P a x) : (x == Value.none) = lO a := by cases r <;> rfl
theorem hJ : gf X h (compareOp .Is) jX := fun A P a b x y K hA R ra rb q => by
  cases b <;> first | exact q.elim | exact rb.noneK (is_none (nK ra ▸ .here R (.bool _) q))
theorem jW : gf X h (compareOp .IsNot) iR := fun A P a b x y K hA R ra rb q => by
  cases b <;> first | exact q.elim | exact rb.noneK (isNot_none (nK ra ▸ .here R (.bool _) q))
end
section
variable {X : Cxt} {h : Nat} {env : Env}
theorem lr {a b : Expr} {pos : Pos} {f g : EF} {op : PV → PV → AH → Option (PV × AH)} (ho : gf X h (subscriptTail a b) op) (hf : bD X h env a f) (hg : bD X h env b g) : bD X h env (.Subscript a b pos) (e2 op f g) := fun _ _ _ _ hA F q => Subscript_ (two hf hg ho hA F q)
theorem aI {a b : Expr} {pos : Pos} {f g : EF} (hs : ∀ o i, ∃ ops, subscripted b false o i = operate ops (getItem o i)) (hf : bD X h env a f) (hg : bD X h env b g) : bD X h env (.Subscript a b pos) (e2 aK f g) :=
  lr (fun A P p q x y K hA R rp rq e => by
    have hg := qK A P p q x y K hA R rp rq e
    obtain ⟨ops, ho⟩ := hs x y
    cases p <;> try exact e.elim
    · revert hg ho
      exact rp.tupK fun a1 va ea ha rra hg ho => tail_any ⟨_, ha, rfl⟩ PySem.F.slot_tuple_getitem.lookup hg ho
    · rename_i o
      revert hg ho
      refine rp.objK fun hi hg ho => ?_
      unfold aK at e
      dsimp only at e
      cases z : P.σ.get o with
      | none => rw [z] at e; exact e.elim
      | some ob =>
        rw [z] at e
        cases ob with
        | list l => exact R.list z fun va ea ha _ => tail_any ⟨_, ha, rfl⟩ slot_list_getitem.lookup hg ho
        | idict l => exact R.idict z fun kvs hd _ => tail_any (cw hd).typeIs slot_dict_getitem.lookup hg ho
        | sdict l => exact R.sdict z fun kvs hd _ => tail_any (cw hd).typeIs slot_dict_getitem.lookup hg ho
        | inst => exact e.elim) hf hg
theorem pH (vs : List Value) (b : Int) (h : 0 ≤ b) : slicePick vs.toArray none (some b) none = (vs.take b.toNat).toArray := by
  obtain ⟨n, rfl⟩ := Int.eq_ofNat_of_zero_le h
  by_cases q : n ≤ vs.toArray.size
  · exact slicePick_upto vs.toArray n q
  · have e : sliceBounds none (some ((n : Nat) : Int)) none vs.toArray.size = sliceBounds none none none vs.toArray.size := by
      unfold sliceBounds
      simp only [Option.getD_none]
      have h1 : ¬ ((n : Nat) : Int) < 0 := by lia
      have h2 : max 0 (min ((n : Nat) : Int) (vs.toArray.size : Int)) = vs.toArray.size := by lia
      simp [h1]
      simp at h2
      exact h2
    have e2 := slicePick_all vs.toArray
    unfold slicePick at e2 ⊢
    rw [e, e2]
    have : vs.length ≤ n := by simp at q; lia
    simp [List.take_of_length_le this]
noncomputable abbrev Bk (l u : Value) : Obj := { cls := .type "slice", data := .fields #[l, u, .none] }
theorem m9 {A : Around} {P : Pt} {a : Expr} {lower upper : Option Expr} {p : Pos} {ad : Addr} {l l' : List PV} {vs vs' : List Value} {ep : Nat} {vl vu : Value} {lo hi : Option Int} {K : PV → AH → Prop} (R : HRel X P)
    (ho : P.h.get? ad = some (ef vs ep)) (pl : IsPart vl lo) (pu : IsPart vu hi) (rr : VRels P l vs) (hz : l.length ≤ 100000) (e : slicePick vs.toArray lo hi none = vs'.toArray) (r' : VRels P l' vs') (q : K (.obj P.n) (P.σ.new (.list l'))) :
    wpAny X.M A (subscriptTail a (.Slice lower upper none p) (.ref ad) (.ref P.h.objs.size)) (Ret X P VRel K) jm { P.s with heap := P.h.push (Bk vl vu) } :=
  have S : Step X ff P ⟨P.ι, P.σ, { P.s with heap := P.h.push (Bk vl vu), toks := P.s.toks }⟩ := .push R _
  tail_any (ops := [.ref P.h.objs.size, .ref (ad)]) ⟨_, Heap.get?_push_of_some _ ho, rfl⟩ list_getitem_lookup
    (wpAny_getItem_list_slice ⟨_, Heap.get?_push_of_some _ ho, rfl, ep, rfl⟩ (Heap.IsSliceOf.new ..) pl pu .none (by simp) (by rw [e]; exact (Ret.listP (ep := 0) S.rel (r'.ext S.ext) q).back S) (zr rr hz)) rfl
theorem nP {a b : Expr} {p pos : Pos} {f g : EF} (hf : bD X h env a f) (hg : bD X h env b g) : bD X h env (.Subscript a (.Slice none (some b) none p) pos) (e2 fJ f g) := fun A P m K hA F q =>
  have go : ∀ {P x y xv yv}, HRel X P → VRel P x xv → VRel P y yv → On (fJ x y P.σ) K → wpAny X.M A (subscriptTail a (.Slice none (some b) none p) xv (.ref P.h.objs.size)) (Ret X P VRel K) jm { P.s with heap := P.h.push (Bk .none yv) } := fun R rx ry q =>
    onVL R q rx fun i l vs ep hi hl ho rr q => onInt q ry fun b' t q => cF q fun hz q => m9 R ho .none (.int _ _) rr hz.2 (pH _ _ hz.1) (rr.take _) q
  Subscript_ ((hf A P m _ hA F (c9 q)).go fun P1 x xv S1 r1 q => wpAny_Slice (wpAny_pure ((hg A P1 m _ hA (F.stepN S1) (c9 q)).go fun P2 y yv S2 r2 q => wpAny_pure (wpAny_mono (go S2.rel (r1.step S2) r2 q) (fun _ _ z => z.back (S1.trans S2)) fun _ _ z => z))))
theorem sH {a b : Expr} {p pos : Pos} {f g : EF} (hf : bD X h env a f) (hg : bD X h env b g) : bD X h env (.Subscript a (.Slice (some b) none none p) pos) (e2 iN f g) := fun A P m K hA F q =>
  have go : ∀ {P x y xv yv}, HRel X P → VRel P x xv → VRel P y yv → On (iN x y P.σ) K → wpAny X.M A (subscriptTail a (.Slice (some b) none none p) xv (.ref P.h.objs.size)) (Ret X P VRel K) jm { P.s with heap := P.h.push (Bk yv .none) } := fun R rx ry q =>
    onVL R q rx fun i l vs ep hi hl ho rr q => onInt q ry fun b' t q => cF q fun hz q => m9 R ho (.int _ _) .none rr hz.2.2 (by
      obtain ⟨n, rfl⟩ := Int.eq_ofNat_of_zero_le hz.1
      exact slicePick_from _ n (by rw [List.size_toArray, ← rr.length]; exact hz.2.1)) (rr.drop _) q
  Subscript_ ((hf A P m _ hA F (c9 q)).go fun P1 x xv S1 r1 q => wpAny_Slice ((hg A P1 m _ hA (F.stepN S1) (c9 q)).go fun P2 y yv S2 r2 q => wpAny_pure (wpAny_pure (wpAny_mono (go S2.rel (r1.step S2) r2 q) (fun _ _ z => z.back (S1.trans S2)) fun _ _ z => z))))
theorem sF {A : Around} {s : Shared} {l : Addr} {vs : List Value} {ep : Nat} {i : Int} {t : Tok} {v : Value} {k : Nat} {Q : Unit → Shared → Prop} {E : Value → Shared → Prop} (ho : s.heap.get? l = some (ef vs ep)) (hs : b7 i = true)
    (hk : seqIndex? i vs.length = some k) (hQ : Q () { s with heap := s.heap.update l (Obj.mapSeq fun x => x.setIfInBounds k v) }) : wpAny X.M A (setItem (.ref l) (.int i t) v) Q E s := by
  have hT : s.TypeIs (.ref l) "list" := ⟨_, ho, rfl⟩
  have hfit : Builtin.List.listFitsIndex i = true := Bool.and_eq_true_iff.mpr ⟨decide_eq_true (eO hs).1, decide_eq_true (eO hs).2⟩
  unfold setItem
  refine wpAny_holding (wpAny_bind (wpAny_sequenceKey hT (by decide) (wpAny_bind (wpAny_callSpecial?_slot (name := Str.ofString "__setitem__") hT slot_list_setitem (wpAny_call_entry slot_list_setitem hT entry_list_setitem ?_ (args_list_setitem _ _ _))))))
  show wpAny _ _ (Builtin.List.listSubscript? (.int i t) >>= _) _ _ s
  refine wpAny_bind (wpAny_listSubscript_int hfit ?_)
  have fin : wpAny X.M A.in1 (setSeqItemAt l k v >>= fun _ => ret .none) (fun fin s' => ∃ x, fin = Fin.done (Flow.ret x) ∧ wpAny X.M A (match some x with | some _ => pure () | none => do
      if (← specialOf (.ref l) "__delitem__").isSome then rule "setitem.delitem-only"; raiseError "AttributeError" "__setitem__"
      let _ ← takenAsIndex (.ref l) (.int i t)
      rule "setitem.unsupported"
      raiseError "TypeError" s!"'{← typeNameOf (.ref l)}' object does not support item assignment") Q E s') E s :=
    wpAny_bind (wpAny_setSeqItemAt ho rfl (wpAny_pure ⟨.none, rfl, wpAny_pure hQ⟩))
  have hlt : k < vs.length := lD hk (fun _ z _ => z) fun _ z _ => z
  have hx : vs.toArray[k]? = some vs[k] := by rw [List.getElem?_toArray]; exact List.getElem?_eq_getElem hlt
  cases i with
  | ofNat n =>
    have hkn : n = k := lD hk (fun _ _ z => z.symm) fun z _ _ => absurd z (Int.not_lt.mpr (Int.natCast_nonneg n))
    subst hkn
    show wpAny _ _ ((seqItemAt l n >>= fun r => pure (r.map (n, ·))) >>= _) _ _ s
    refine wpAny_bind (wpAny_bind (wpAny_seqItemAt ho rfl (wpAny_pure ?_)))
    rw [hx]
    exact fin
  | negSucc n =>
    show wpAny _ _ ((Builtin.List.listItems (.ref l) >>= fun xs => pure ((seqIndex? (Int.negSucc n) xs.size).bind fun j => xs[j]?.map (j, ·))) >>= _) _ _ s
    refine wpAny_bind (wpAny_bind (wpAny_listItems ho rfl (wpAny_pure ?_)))
    rw [List.size_toArray, hk, Option.bind_some, hx]
    exact fin
theorem uI {α β : Type} {E : α × PV → β × Value → Prop} {es : List (α × PV)} {kvs : List (β × Value)} {p : α → Bool} {p' : β → Bool} (r : All2 E es kvs) (he : ∀ a b, E a b → p a.1 = p' b.1) {v : PV} {x : Value} (hn : ∀ a b, E a b → E (a.1, v) (b.1, x)) {k : α} {k' : β} (hk : E (k, v) (k', x)) :
    All2 E (if es.any (fun a => p a.1) then es.map (fun a => if p a.1 = true then (a.1, v) else a) else es ++ [(k, v)]) (if kvs.any (fun b => p' b.1) then kvs.map (fun b => if p' b.1 = true then (b.1, x) else b) else kvs ++ [(k', x)]) := by
  have ea : es.any (fun a => p a.1) = kvs.any (fun b => p' b.1) := by
    induction r with
    | nil => rfl
    | cons hr _ ih => rw [List.any_cons, List.any_cons, ih, he _ _ hr]
  rw [ea]
  split
  · clear ea
    rename_i hh; clear hh
    induction r with
    | nil => exact .nil
    | @cons a b _ _ hr _ ih =>
      refine .cons ?_ ih
      show E (if p a.1 = true then _ else _) (if p' b.1 = true then _ else _)
      rw [he _ _ hr]
      split
      · exact hn _ _ hr
      · exact hr
  · exact r.snoc hk
theorem nO {P : Pt} {es : List (Int × PV)} {kvs : List (Int × Value)} (r : All2 (ge P) es kvs) (k : Int) {v : PV} {x : Value} (rv : VRel P v x) : All2 (ge P) (jd es k v) (stored kvs k x) := by
  have := uI (p := fun a => decide (a = k)) (p' := fun b => decide (b = k)) r (fun a b q => by rw [q.1]) (fun a b q => ⟨q.1, rv⟩) (k := k) (k' := k) ⟨rfl, rv⟩
  unfold jd stored
  simpa only [decide_eq_true_eq] using this
theorem qL {P : Pt} {es : List (String × PV)} {kvs : List (Str × Value)} (r : All2 (lH P) es kvs) (k : String) {v : PV} {x : Value} (rv : VRel P v x) : All2 (lH P) (tR es k v) (stored kvs (nm k) x) := by
  have := uI (p := fun a => decide (a = k)) (p' := fun b => decide (b = nm k)) r (fun a b q => by rw [xJ, q.1]) (fun a b q => ⟨q.1, rv⟩) (k := k) (k' := nm k) ⟨rfl, rv⟩
  unfold tR stored
  simpa only [decide_eq_true_eq] using this
noncomputable def oN (_ : Pt) (_ : Unit) (_ : Unit) : Prop := True
theorem v3 {A : Around} {P : Pt} {o i v : PV} {xo xi xv : Value} {K : Unit → AH → Prop} (R : HRel X P) (ro : VRel P o xo) (ri : VRel P i xi) (rv : VRel P v xv) (q : On (oz o i v P.σ) K) : W X A (setItem xo xi xv) P oN K :=
  onObj q ro fun o ho q => by
    cases z : P.σ.get o with
    | none => rw [z] at q; exact q.elim
    | some ob =>
      rw [z] at q
      cases ob with
      | list l =>
        refine onInt q ri fun j t q => cF q fun hs q => R.list z fun vs ep ho rr => ?_
        cases hk : seqIndex? j l.length with
        | none => rw [hk] at q; exact q.elim
        | some k =>
          rw [hk] at q
          have hn : (P.h.update (P.ι o) (Obj.mapSeq fun x => x.setIfInBounds k xv)).get? (P.ι o) = some (ef (vs.set k xv) ep) := by
            rw [Heap.get?_update_self (Obj.mapSeq fun x => x.setIfInBounds k xv) ho rfl]
            unfold ef Obj.mapSeq
            simp
          exact sF ho hs (by rw [← rr.length]; exact hk) (.mk _ () (.updList (tk := P.s.toks) R z (Heap.SameBut.update _ _ _) hn (rr.set rv k)) trivial q)
      | idict es => exact onInt q ri fun j t q => cF q fun hz q => R.idict z fun kvs hd rr => wpAny_setItem_pairs (intKind_is X.prog X.w _ _) hd (fun h' hd' hs => .mk _ () (.updDict R z hs hd' (nO rr _ rv)) trivial q) (by rw [← rr.length]; exact wz hz)
      | sdict es => exact onStr q ri fun j t q => cF q fun hz q => R.sdict z fun kvs hd rr => wpAny_setItem_pairs (strKind_is X.prog X.w _ _) hd (fun h' hd' hs => (gZ hd').elim fun _ y => .mk ⟨P.ι, P.σ.set o (.sdict (tR es j v)), { P.s with heap := h', toks := _ }⟩ () (.upd R z (mZ hs) y.1 y.2 (fun e => ⟨_, hd', (qL rr _ rv).mono fun _ _ q => ⟨q.1, q.2.ext e⟩⟩) (fun _ _ e => nomatch e) rfl rfl) trivial q) (by rw [← rr.length]; exact wz hz)
      | inst => exact q.elim
end
noncomputable def wS (K : Frag) (C : Addr) (x : String) : Prop := plainGet K C (nm x) = true ∧ hasDictIn K C = true ∧ findIn K (.ref C) (nm x) = some none
noncomputable def zt (K : Frag) (C : Addr) (x : String) : Prop :=
  findIn K (.ref C) (Str.ofString "__setattr__") = some (some (.builtin "object.__setattr__")) ∧ plainOver K C = true ∧ takerIn K C (nm x) = some none ∧ hasDictIn K C = true
section
variable {X : Cxt} {P : Pt} {fs : List (String × PV)} {es : List DictEntry}
theorem FEnt.isStr {p : String × PV} {e : DictEntry} (q : FEnt P p e) (x : String) : e.key.isStr (nm x) = decide (p.1 = x) := q.1.elim fun t hk => by
  rw [hk]
  exact (Bool.eq_iff_iff.mpr ⟨fun z => decide_eq_true (nB (beq_iff_eq.mp z)), fun z => beq_iff_eq.mpr (congrArg nm (of_decide_eq_true z))⟩ : (nm p.1 == nm x) = _)
theorem pB (r : All2 (FEnt P) fs es) (x : String) : (∃ v e, gl fs x = some v ∧ es.find? (·.key.isStr (nm x)) = some e ∧ VRel P v e.val) ∨ (gl fs x = none ∧ es.find? (·.key.isStr (nm x)) = none) := by
  unfold gl
  induction r with
  | nil => exact .inr ⟨rfl, rfl⟩
  | @cons p e _ _ hr _ ih =>
    rw [List.find?_cons, List.find?_cons, hr.isStr x]
    cases decide (p.1 = x)
    · exact ih
    · exact .inl ⟨_, _, rfl, rfl, hr.2⟩
theorem nY (r : All2 (FEnt P) fs es) : es.any (·.refKey) = false := r.rec rfl fun {p e _ _} hr _ ih => hr.1.elim fun t hk => by
  rw [List.any_cons, ih, Bool.or_false]
  unfold DictEntry.refKey
  rw [hk]
theorem wf (r : All2 (FEnt P) fs es) (x : String) : (getL (nm x) es).isSome = true := by
  unfold getL
  split
  · rfl
  · rw [nY r]; rfl
theorem vG (r : All2 (FEnt P) fs es) {x : String} {v : PV} {xv : Value} (rv : VRel P v xv) (hsh : Int) (t : Tok) : All2 (FEnt P) (jV x v fs) (putL (nm x) hsh (.str (nm x) t) xv es) := by
  induction r with
  | nil => exact .cons ⟨⟨t, rfl⟩, rv⟩ .nil
  | @cons p e l r hr r' ih =>
    unfold jV putL
    rw [hr.isStr x]
    by_cases q : p.1 = x
    · rw [if_pos q, if_pos (decide_eq_true q)]
      exact .cons ⟨hr.1, rv⟩ r'
    · rw [if_neg q, if_neg (by rw [decide_eq_false q]; decide)]
      exact .cons hr ih
theorem qX {x : String} {v : PV} {y : String} : ∀ {l : List (String × PV)}, y ∈ (jV x v l).map (·.1) → y = x ∨ y ∈ l.map (·.1)
  | [], h => .inl (List.mem_singleton.mp h)
  | p :: l, h => by
    unfold jV at h
    split at h
    · exact .inr h
    · exact (List.mem_cons.mp h).elim (fun e => .inr (e ▸ .head _)) fun e => (qX e).imp id fun z => .tail _ z
theorem nj {x : String} {v : PV} : ∀ {fs : List (String × PV)}, (fs.map (·.1)).Nodup → ((jV x v fs).map (·.1)).Nodup
  | [], _ => List.pairwise_singleton _ _
  | p :: r, hn => by
    have hn' := List.nodup_cons.mp hn
    unfold jV
    split
    · exact hn
    · rename_i q
      exact List.nodup_cons.mpr ⟨fun hm => (qX hm).elim q hn'.1, nj hn'.2⟩
theorem sP (x : String) (v : PV) : ∀ fs : List (String × PV), (jV x v fs).length ≤ fs.length + 1
  | [] => Nat.le_refl _
  | p :: r => by
    unfold jV
    split
    · exact Nat.le_succ _
    · exact Nat.succ_le_succ (sP x v r)
theorem HRel.inst (R : HRel X P) {i : Nat} {C : Addr} {C' : Prop} (e : P.σ.get i = some (.inst C fs)) (k : i + 1 < P.n → P.h.get? (P.ι i) = some (instObj C (P.ι (i + 1))) → ∀ es ep, P.h.get? (P.ι (i + 1)) = some (dictOf es ep) → All2 (FEnt P) fs es → (fs.map (·.1)).Nodup → C') : C' :=
  (R.objs i _ e).2.2.2.elim fun es z => z.elim fun ep z => k (R.objs i _ e).2.1 (R.objs i _ e).2.2.1 es ep z.1 z.2.1 z.2.2
theorem tT {v : PV} {x : Value} (r : VRel P v x) : handedIn x = true := by cases r <;> rfl
theorem vX {v : PV} {x : String} {C : Prop} (r : All2 (FEnt P) fs es) (e : gl fs x = some v) (k : ∀ d, es.find? (·.key.isStr (nm x)) = some d → VRel P v d.val → C) : C := by
  rcases pB r x with ⟨v2, d, e1, e2, rv⟩ | ⟨e1, _⟩
  · rw [e] at e1; cases e1; exact k d e2 rv
  · rw [e] at e1; cases e1
end
section
variable {X : Cxt} {h : Nat} {env : Env}
theorem qD {cs : List Addr} {x : String} {ex : Bool} (hc : ∀ D ∈ cs, wS X.K D x) : yF X h (fun v => getAttr v (nm x) ex) (aU cs x) := fun A P a xv K hA R ra q =>
  onObj q ra fun i hi q => vm q fun D fs e q => cF q fun hm q => yB q fun v e1 q => R.inst e fun _ ho es ep hd hr _ => vX hr e1 fun d e2 rv => by
    obtain ⟨g1, g2, g3⟩ := hc D (List.contains_iff_mem.mp hm)
    refine get_value R.K (od := some (dictOf es ep)) ⟨ho, rfl, rfl, hd⟩ (plainGet_of g1).1 (findObj_own g2 g3 rfl ?_) (tT rv) (.tokV R rv q)
    rw [lookIn_dict]
    unfold getL
    rw [e2]
theorem aN {e : Expr} {x : String} {pos : Pos} {cs : List Addr} {f : EF} (hc : ∀ D ∈ cs, wS X.K D x) (hb : attributeBase e (nm x) env (eval e env) = eval e env) (hf : bD X h env e f) : bD X h env (.Attribute e (nm x) pos) (e1 (aU cs x) f) := fun A P m K hA F q =>
  Attribute_any_ (one hf (qD hc) hA F q) (show (do
      let o ← attributeBase e (nm x) env (eval e env)
      standAt pos.atName
      let r ← holding [o] (getAttr o (nm x) true)
      letTemporaryGo e o r
      pure r) = _ by rw [hb])
noncomputable def FX (env : Env) : Addr → Prop := fun b => b = env.locals ∨ ∃ x, env.kindOf x = some .cell ∧ env.cells.lookup x = some b
variable {P P' : Pt} {m : Loc}
theorem vp (F : Fr X env m P) {b : Addr} (q : FX env b) : ∃ o, P.h.get? b = some o ∧ ¬ oU o := q.elim (fun e => e ▸ F.locAt) fun ⟨_, _, l⟩ => F.cellAt l
theorem wu (F : Fr X env m P) : vd (FX env) P.h := fun b o q ho => (vp F q).elim fun _ z => Option.some.inj (z.1.symm.trans ho) ▸ z.2
theorem z6 (F : Fr X env m P) (i : Nat) (hi : i < P.n) : ¬ FX env (P.ι i) := fun q => q.elim (F.locI i hi) fun ⟨x, _, l⟩ => (F.cell x _ l).2.2 i hi rfl
theorem uz (F : Fr X env m P) (b : Addr) (o : Obj) (e : X.hp.get? b = some o) : ¬ FX env b := fun q => q.elim (fun z => cK F.st.loc (z ▸ e)) fun ⟨x, hk, l⟩ => (F.st.cmine x hk).elim fun c z => by
  rw [l] at z; cases z.1; exact cK z.2 e
inductive RetS {α β : Type} (X : Cxt) (Y : Addr → Prop) (env : Env) (P : Pt) (rel : Pt → α → β → Prop) (K : α → Loc → AH → Prop) : β → Shared → Prop
  | mk (P' : Pt) (m' : Loc) (a : α) {x : β} : Step X Y P P' → Fr X env m' P' → rel P' a x → K a m' P'.σ → RetS X Y env P rel K x P'.s
noncomputable def WS {α β : Type} (X : Cxt) (Y : Addr → Prop) (env : Env) (A : Around) (t : Sem β) (P : Pt) (rel : Pt → α → β → Prop) (K : α → Loc → AH → Prop) : Prop := wpAny X.M A t (RetS X Y env P rel K) jm P.s
inductive FlowRel (P : Pt) : Res → Flow → Prop
  | next : FlowRel P .next .next
  | cont : FlowRel P .cont .cont
  | brk : FlowRel P .brk .brk
  | ret {v : PV} {x : Value} : VRel P v x → FlowRel P (.ret v) (.ret x)
section
variable {α β : Type} {A : Around} {Y : Addr → Prop} {t : Sem β} {P1 : Pt} {rel : Pt → α → β → Prop} {K : α → Loc → AH → Prop} {Q : β → Shared → Prop} {E : Value → Shared → Prop} {x : β} {a : α} {s : Shared}
theorem WS.go (h : WS X Y env A t P rel K) (f : ∀ P' m' a x, Step X Y P P' → Fr X env m' P' → rel P' a x → K a m' P'.σ → Q x P'.s) : wpAny X.M A t Q E P.s :=
  wpAny_mono h (fun _ _ z => z.rec fun P' m' a _ S F r k => f P' m' a _ S F r k) fun _ _ z => z.elim
theorem RetS.back (h : RetS X Y env P1 rel K x s) (S : Step X Y P P1) : RetS X Y env P rel K x s := h.rec fun P' m' a _ S' F r k => .mk P' m' a (S.trans S') F r k
theorem WS.back (h : WS X Y env A t P1 rel K) (S : Step X Y P P1) : wpAny X.M A t (RetS X Y env P rel K) E P1.s := wpAny_mono h (fun _ _ z => z.back S) fun _ _ z => z.elim
theorem RetS.ofN (F : Fr X env m P) (S : Step X ff P P1) (r : rel P1 a x) (k : K a m P1.σ) : RetS X Y env P rel K x P1.s := .mk P1 m a S.any (F.stepN S) r k
theorem RetS.here (F : Fr X env m P) (r : rel P a x) (k : K a m P.σ) : RetS X Y env P rel K x P.s := .mk P m a (.refl F.rel) F r k
end
noncomputable abbrev KL (K : Loc → AH → Prop) (_ : Unit) (m : Loc) (σ : AH) : Prop := K m σ
noncomputable abbrev KS (K : Res × Loc → AH → Prop) (r : Res) (m : Loc) (σ : AH) : Prop := K (r, m) σ
noncomputable abbrev LX (env : Env) : Addr → Prop := fun b => b = env.locals
section
variable (X)
noncomputable def h7 (h : Nat) (env : Env) (st : Stmt) (f : SF) : Prop := ∀ A P m K, Ar h A → Fr X env m P → On (f m P.σ) K → WS X (FX env) env A (exec st env) P FlowRel (KS K)
noncomputable def hX (h : Nat) (env : Env) (b : List Stmt) (f : SF) : Prop := ∀ A P m K, Ar h A → Fr X env m P → On (f m P.σ) K → WS X (FX env) env A (execs b env) P FlowRel (KS K)
noncomputable def lm (Y : Addr → Prop) (h : Nat) (env : Env) (t : Expr) (f : AF) : Prop := ∀ A P m v x K, Ar h A → Fr X env m P → VRel P v x → On (f v m P.σ) K → WS X Y env A (assign t env x) P oN (KL K)
noncomputable def vh (Y : Addr → Prop) (h : Nat) (env : Env) (ts : List Expr) (f : yh) : Prop := ∀ A P m vs xs K, Ar h A → Fr X env m P → VRels P vs xs → On (f vs m P.σ) K → WS X Y env A (assignInOrder ((assignEach ts env).map (·.2)) xs) P oN (KL K) ∧ vs.length = ts.length
end
theorem pL {Y : Addr → Prop} {x : String} {v : PV} {xv : Value} {h' : Heap} {tk : Nat} {K : Loc → AH → Prop} {mc mc' : Str → Option Value} (F : Fr X env m P) (r : VRel P v xv) (hY : ∀ b, Y b → FX env b) (hv : ∀ y v, m y = some v → ∃ yv, VRel P v yv ∧ Holds env P.h mc (nm y) yv)
    (hs : ∀ b ob, P.h.get? b = some ob → ¬ Y b → h'.get? b = some ob) (al : ∀ b, (P.h.get? b).isSome → (h'.get? b).isSome)
    (hn : h'.Ns env.locals mc') (hx : Holds env h' mc' (nm x) xv) (old : ∀ y yv, nm y ≠ nm x → Holds env P.h mc (nm y) yv → Holds env h' mc' (nm y) yv) (cells : ∀ y c, env.cells.lookup y = some c → ∃ v, h'.IsCell c v) (q : K (m.put x v) P.σ) :
    RetS X Y env P oN (KL K) () { P.s with heap := h', toks := tk } := by
  have S : Step X Y P ⟨P.ι, P.σ, { P.s with heap := h', toks := tk }⟩ := Step.onlyX F.rel hs (fun i hi q => z6 F i hi (hY _ q)) (fun b ob e q => uz F b ob e (hY _ q)) (fun b o q => wu F b o (hY _ q)) al rfl rfl
  refine .mk _ (m.put x v) () S ⟨S.rel, F.st, ⟨mc', hn, fun y v' e => ?_⟩, F.locI, fun y c l => ⟨cells y c l, (F.cell y c l).2⟩⟩ trivial q
  have e : (if y = x then some v else m y) = some v' := e
  by_cases z : y = x
  · rw [if_pos z] at e
    cases e; subst z
    exact ⟨xv, r.step S, hx⟩
  · rw [if_neg z] at e
    exact (hv y v' e).elim fun yv w => ⟨yv, w.1.step S, old y yv (fun a => z (nB a)) w.2⟩
theorem pn {A : Around} {Y : Addr → Prop} {x : String} {v : PV} {xv : Value} {K : Loc → AH → Prop} (F : Fr X env m P) (r : VRel P v xv) (hY : ∀ b, Y b → FX env b) (hY' : Y env.locals) (hx : env.kindOf (nm x) = some .local) (q : K (m.put x v) P.σ) :
    WS X Y env A (storeName env (nm x) xv) P oN (KL K) := by
  obtain ⟨mc, hns, hv⟩ := F.vars
  refine wpAny_storeName_local hx hns (fun h' hns' hs => ?_) (by rw [F.st.kind]; rfl)
  have kp : ∀ c, c ≠ env.locals → ∀ o, P.h.get? c = some o → h'.get? c = some o := fun c n o e => (hs.2 c n).trans e
  refine pL F r hY hv (fun b ob e n => kp b (fun z => n (z ▸ hY')) ob e) ?_ hns' (.inl ⟨hx, if_pos rfl⟩) (fun y yv n p => p.elim (fun p => .inl ⟨p.1, (if_neg n).trans p.2⟩) fun p => Holds.keep (.inr p) fun c o l e => kp c (F.cell _ c l).2.1 o e) (fun y c l => ?_) q
  · obtain ⟨o, _, _, ho, _⟩ := hns'
    exact iT ho fun b o n e => kp b n o e
  · exact (F.cell y c l).1.elim fun v0 hc => ⟨v0, fZ hc (kp c (F.cell y c l).2.1)⟩
theorem s8 {A : Around} {x : String} {v : PV} {xv : Value} {K : Loc → AH → Prop} (F : Fr X env m P) (r : VRel P v xv) (hx : env.kindOf (nm x) = some .cell) (q : K (m.put x v) P.σ) : WS X (FX env) env A (storeName env (nm x) xv) P oN (KL K) := by
  obtain ⟨mc, hns, hv⟩ := F.vars
  obtain ⟨c, hc, hb⟩ := F.st.cmine _ hx
  obtain ⟨⟨v0, hcell⟩, hcl, _⟩ := F.cell _ c hc
  refine wpAny_storeName_cell F.st.kind hx hc hcell fun h' hcell' hs => ?_
  have kp : ∀ b, b ≠ c → ∀ o, P.h.get? b = some o → h'.get? b = some o := fun b n o e => (hs.2 b n).trans e
  refine pL (tk := P.s.toks) F r (fun _ => id) hv (fun b ob e n => kp b (fun z => n (.inr ⟨_, hx, z ▸ hc⟩)) ob e) ?_ (wZ hns (kp _ hcl.symm)) (.inr ⟨.inl hx, c, hc, hcell'⟩) (fun y yv n p => p.keep fun c' o l e => kp c' (fun z => n (F.st.capart _ _ c (z ▸ l) hc)) o e) (fun y c' l => ?_) q
  · obtain ⟨o, ho, _⟩ := hcell'
    exact iT ho fun b o n e => kp b n o e
  · by_cases z : c' = c
    · exact ⟨_, z ▸ hcell'⟩
    · exact (F.cell y c' l).1.elim fun v1 h1 => ⟨v1, fZ h1 (kp c' z)⟩
theorem kO {A : Around} {x : String} {v : PV} {xv : Value} {K : Loc → AH → Prop} (F : Fr X env m P) (r : VRel P v xv) (hx : env.kindOf (nm x) = some .local ∨ env.kindOf (nm x) = some .cell) (q : K (m.put x v) P.σ) : WS X (FX env) env A (storeName env (nm x) xv) P oN (KL K) :=
  hx.elim (fun h => pn F r (fun _ => id) (.inl rfl) h q) fun h => s8 F r h q
theorem aO {x : String} {pos : Pos} (hx : env.kindOf (nm x) = some .local ∨ env.kindOf (nm x) = some .cell) : lm X (FX env) h env (.Name (nm x) pos) (aF x) := fun _ _ _ _ _ _ _ F r q => wpAny_assign_Name (kO F r hx q)
theorem bv {x : String} {pos : Pos} (hx : env.kindOf (nm x) = some .local) : lm X (LX env) h env (.Name (nm x) pos) (aF x) := fun _ _ _ _ _ _ _ F r q => wpAny_assign_Name (pn F r (fun _ => .inl) rfl hx q)
theorem cS {e i : Expr} {pos : Pos} {f g : EF} (hf : bD X h env e f) (hg : bD X h env i g) : lm X (FX env) h env (.Subscript e i pos) (fG f g) := fun A P m v xv K hA F r q => by
  unfold WS
  rw [arm_assign_Subscript]
  exact wpAny_bind (wpAny_holding ((hf A P m _ hA F (c9 q)).go fun P1 o ov S1 r1 q => wpAny_bind (wpAny_holding ((hg A P1 m _ hA (F.stepN S1) (c9 q)).go fun P2 j iv S2 r2 q =>
    wpAny_bind (wpAny_standAt (wpAny_bind (wpAny_holding ((v3 S2.rel (r1.step S2) r2 ((r.step S1).step S2) (c9 q)).go fun P3 _ _ S3 _ q => wpAny_release (.ofN (a := ()) F ((S1.trans S2).trans S3) trivial q)))))))))
theorem bl {Y : Addr → Prop} : vh X Y h env [] ch := fun _ _ _ vs xs _ _ F r q => by
  cases vs with
  | nil => exact r.nilK ⟨wpAny_pure (.here (a := ()) F trivial q), rfl⟩
  | cons => exact q.elim
theorem aC {Y : Addr → Prop} {t : Expr} {ts : List Expr} {a : AF} {f : yh} (hst : (assignEach (t :: ts) env).map (·.2) = assign t env :: (assignEach ts env).map (·.2)) (ha : lm X Y h env t a) (hf : vh X Y h env ts f)
    (hl : ∀ (vs : List PV) m σ r, f vs m σ = some r → vs.length = ts.length) : vh X Y h env (t :: ts) (aQ a f) := fun A P m vs xs K hA F r q => by
  cases vs with
  | nil => exact q.elim
  | cons v vs =>
    refine r.consK fun x xs r1 r2 => ⟨?_, ?_⟩
    · show wpAny _ _ (assignInOrder ((assignEach (t :: ts) env).map (·.2)) (x :: xs)) _ _ _
      rw [hst]
      show wpAny _ _ (do holding xs (assign t env x); assignInOrder ((assignEach ts env).map (·.2)) xs) _ _ _
      exact wpAny_bind (wpAny_holding ((ha A P m v x _ hA F r1 (c9 q)).go fun P1 m1 _ _ S1 F1 _ q => (hf A P1 m1 vs xs _ hA F1 (VRels.ext r2 S1.ext) q).1.back S1))
    · exact yo ((c9 q).mono fun _ _ q => (Ac (q.mono fun _ _ _ => trivial)).elim fun _ e => congrArg Nat.succ (hl _ _ _ _ e))
theorem bf {Y : Addr → Prop} {elts : List Expr} {kd : Nat} {pos : Pos} {f : yh} (hlen : (assignEach elts env).length = elts.length) (hstar : (assignEach elts env).findIdx? (·.1) = none) (hf : vh X Y h env elts f) :
    lm X Y h env (.Tuple elts kd pos) (dm f) := fun A P m v x K hA F r q => onTup q r fun l a vs ep ho rr q => by
  refine assign_Tuple_tuple hA.hd ⟨_, ho, rfl, ep, rfl⟩ (by rw [hlen, List.size_toArray, ← rr.length, (hf A P m l vs _ hA F rr q).2]) hstar fun h' he => ?_
  have S : Step X ff P ⟨P.ι, P.σ, { P.s with heap := h' }⟩ := .grow F.rel (fun b o e => he b o (Nat.ne_of_lt (Heap.lt_size e)) e) rfl rfl
  exact (hf A _ m l _ K hA (F.stepN S) (VRels.ext rr S.ext) q).1.back S.any
end
noncomputable def tC (h B : Heap) (L dx : Addr) : List (Addr × Obj) := (List.range h.objs.size).filterMap fun a => if a = L ∨ a = dx ∨ (B.get? a).isSome then none else (h.get? a).map (a, ·)
theorem pb {h B : Heap} {L dx : Addr} {p : Addr × Obj} (q : p ∈ tC h B L dx) : h.get? p.1 = some p.2 ∧ p.1 ≠ L ∧ p.1 ≠ dx ∧ B.get? p.1 = none := by
  obtain ⟨a, _, e⟩ := List.mem_filterMap.mp q
  split at e
  · cases e
  · rename_i n
    obtain ⟨o, ho, rfl⟩ := Option.map_eq_some_iff.mp e
    exact ⟨ho, fun z => n (.inl z), fun z => n (.inr (.inl z)), e8 fun o z => n (.inr (.inr (bA z)))⟩
theorem ui {h B : Heap} {L dx a : Addr} {o : Obj} (h1 : h.get? a = some o) (h2 : a ≠ L) (h3 : a ≠ dx) (h4 : B.get? a = none) : (a, o) ∈ tC h B L dx :=
  List.mem_filterMap.mpr ⟨a, List.mem_range.mpr (Heap.lt_size h1), by rw [if_neg (by rintro (z | z | z); exact h2 z; exact h3 z; rw [h4] at z; cases z), h1]; rfl⟩
section
variable {X : Cxt} {h : Nat} {env : Env} {P P' : Pt} {m : Loc}
theorem te {A : Around} {cs : List Addr} {x : String} {o v : PV} {xo xv : Value} {K : Loc → AH → Prop} (hc : ∀ D ∈ cs, zt X.K D x) (F : Fr X env m P) (ro : VRel P o xo) (rv : VRel P v xv) (q : On (xg cs x o v P.σ) fun _ σ => K m σ) :
    WS X (FX env) env A (setAttr xo (nm x) xv) P oN (KL K) := onObj q ro fun i hlt q => vm q fun D fs hi q => cF q fun hm q => F.rel.inst hi fun hlt1 ho es ep hd hr hn => by
  have R := F.rel
  obtain ⟨g1, g2, g3, g4⟩ := hc D (List.contains_iff_mem.mp hm.1)
  obtain ⟨mc, hns, hv⟩ := F.vars
  have kb : ∀ b o, X.hb.get? b = some o → P.h.get? b = some o := fun b o e => R.keep b o (X.sub b o e)
  have bnone : X.hb.get? (P.ι (i + 1)) = none := e8 fun _ e => R.base_ne (X.sub _ _ e) hlt1 rfl
  have hr' : ∀ (t : Tok) (hsh : Int), All2 (FEnt P) (jV x v fs) (putL (nm x) hsh (.str (nm x) t) xv es) := fun t hsh => vG hr rv hsh t
  refine set_dict (es := es) (h₀ := X.hb) (L := env.locals) (m := mc) (news := (P.ι (i + 1), dictOf es ep) :: tC P.h X.hb env.locals (P.ι (i + 1))) ⟨hns, kb, F.st.low⟩ X.kin0 (fun p hp => ?_) ⟨ho, rfl, rfl, hd⟩ rfl g1 g2 g3 g4 (wf hr x) rfl (Upd.head fun p hp => (pb hp).2.2.1) ?_ fun h' Fr' N' => ?_
  · rcases List.mem_cons.mp hp with rfl | hp
    · exact ⟨hd, F.locI _ hlt1, bnone⟩
    · exact (pb hp).imp id fun z => ⟨z.1, z.2.2⟩
  · rw [← (hr' (P.s.toks + 1) (PyData.keyHash X.w.params (nm x))).length]
    exact Nat.le_trans (sP x v fs) (Nat.le_trans (Nat.succ_le_succ hm.2) (by decide))
  · have ks : ∀ b ob, P.h.get? b = some ob → b ≠ P.ι (i + 1) → b ≠ env.locals → h'.get? b = some ob := fun b ob e n1 n2 => by
      cases eb : X.hb.get? b with
      | some ob' => rw [← e, kb b ob' eb]; exact Fr'.keep b ob' eb
      | none => exact (N' (b, ob) (.tail _ (ui e n2 n1 eb))).1
    have hd' := (N' _ (.head _)).1
    have S : Step X (LX env) P ⟨P.ι, P.σ.set i (.inst D (jV x v fs)), { P.s with heap := h', toks := P.s.toks + 2 }⟩ :=
      .updX R hi hlt1 (.inr ⟨rfl, D, fs, rfl⟩) ks (fun j hj e => F.locI j hj e) (fun b ob e q => uz F b ob e (.inl q)) (fun b ob q => wu F b ob (.inl q)) (fun b e => by
        by_cases q : b = env.locals
        · obtain ⟨ob, _, _, ho', _⟩ := Fr'.ns
          exact q ▸ bA ho'
        · by_cases q1 : b = P.ι (i + 1)
          · exact q1 ▸ bA hd'
          · obtain ⟨ob, z⟩ := Option.isSome_iff_exists.mp e
            exact bA (ks b ob z q1 q)) ⟨_, hd', ez rfl (by decide) (by decide)⟩
        (fun e => ⟨hlt1, ks _ _ ho (fun e => absurd (R.inj _ _ hlt hlt1 e) (Nat.ne_of_lt (Nat.lt_succ_self _))) (F.locI i hlt), _, _, hd', (hr' _ _).mono fun _ _ q => ⟨q.1, q.2.ext e⟩, nj hn⟩) (fun _ => ⟨_, _, rfl⟩) rfl rfl
    have kc : ∀ y c ob, env.cells.lookup y = some c → P.h.get? c = some ob → h'.get? c = some ob := fun y c ob l e => ks c ob e (fun z => (F.cell y c l).2.2 _ hlt1 z.symm) (F.cell y c l).2.1
    exact .mk _ m () (S.monoX fun b _ e => .inl e) ⟨S.rel, F.st, ⟨mc, Fr'.ns, fun y v' e => (hv y v' e).elim fun yv z => ⟨yv, z.1.step S, z.2.keep fun c ob l e => kc _ c ob l e⟩⟩, F.locI, fun y c l => ⟨(F.cell y c l).1.elim fun v0 h0 => ⟨v0, fZ h0 fun ob e => kc y c ob l e⟩, (F.cell y c l).2⟩⟩ trivial q
theorem aW {e : Expr} {x : String} {pos : Pos} {cs : List Addr} {f : EF} (hc : ∀ D ∈ cs, zt X.K D x) (hf : bD X h env e f) : lm X (FX env) h env (.Attribute e (nm x) pos) (bR cs x f) := fun A P m v xv K hA F r q => by
  show wpAny _ _ (do
    let ov ← holding [xv] (eval e env)
    standAt pos.atName
    holding [xv, ov] (setAttr ov (nm x) xv)
    release [xv, ov] []) _ _ _
  exact wpAny_bind (wpAny_holding ((hf A P m _ hA F (c9 q)).go fun P1 o ov S1 r1 q => wpAny_bind (wpAny_standAt (wpAny_bind (wpAny_holding (wpAny_mono ((te hc (F.stepN S1) r1 (r.step S1) (c9 q)).back S1.any) (fun _ _ z => wpAny_release z) fun _ _ z => z))))))
theorem aw {e : Expr} {pos : Pos} {f : EF} (hf : bD X h env e f) : h7 X h env (.Return (some e) pos) (bk f) := fun A P m K hA F q => wpAny_Return_some ((hf A P m _ hA F (c9 q)).go fun P1 v x S r q => .ofN (K := KS K) F S (.ret r) q)
theorem rK {pos : Pos} : h7 X h env (.Return none pos) (fun m σ => some ((.ret .none, m), σ)) := fun A P m K hA F q => wpAny_Return_none (.here (K := KS K) F (.ret .none) q)
theorem bp {e : Expr} {pos : Pos} {f : EF} (hi : interactive env = false) (hs : swapsWith e none pos.line env = pure false) (hf : bD X h env e f) : h7 X h env (.Expr e pos) (bO f) := fun A P m K hA F q => wpAny_Expr_any ((hf A P m _ hA F (c9 q)).go fun P1 v x S r q => .ofN (K := KS K) F S .next q) hi hs
theorem Bl {pos : Pos} : h7 X h env (.Pass pos) Bd := fun A P m K hA F q => wpAny_Pass (.here (K := KS K) F .next q)
theorem kg {pos : Pos} : h7 X h env (.Continue pos) qU := fun A P m K hA F q => (wpAny_bind (wpAny_standAt (wpAny_pure (.here (K := KS K) F .cont q))) : wpAny _ _ (standAt pos >>= fun _ => pure Flow.cont) _ _ _)
theorem bc {c : Expr} {a b : List Stmt} {pos : Pos} {t : TF} {f g : SF} (ht : fI X h env c t) (hf : hX X h env a f) (hg : hX X h env b g) : h7 X h env (.If c a b pos) (df t f g) := fun A P m K hA F q =>
  wpAny_If ((ht A P m _ hA F (c9 q)).go fun P1 b x S e q => by
    cases e
    cases b with
    | true => exact (hf A P1 m K hA (F.stepN S) q).back S.any
    | false => exact (hg A P1 m K hA (F.stepN S) q).back S.any)
theorem ak : hX X h env [] aB := fun A P m K hA F q => wpAny_execs_nil (.here (K := KS K) F .next q)
theorem ah {st : Stmt} {b : List Stmt} {f g : SF} (hf : h7 X h env st f) (hg : hX X h env b g) : hX X h env (st :: b) (am f g) := fun A P m K hA F q =>
  wpAny_execs_cons ((hf A P m _ hA F (c9 q)).go fun P1 m1 r fl S F1 fr q => by
    cases fr with
    | next => exact (hg A P1 m1 K hA F1 q).back S
    | cont => exact .mk P1 m1 _ S F1 .cont q
    | brk => exact .mk P1 m1 _ S F1 .brk q
    | ret r => exact .mk P1 m1 _ S F1 (.ret r) q)
theorem qa {A : Around} {t : Sem Unit} {K : Res × Loc → AH → Prop} {P1 : Pt} {Q : Flow → Shared → Prop} (h : WS X (FX env) env A t P1 oN (KL fun m σ => K (.next, m) σ)) (S : Step X ff P P1) (f : ∀ s, RetS X (FX env) env P FlowRel (KS K) .next s → Q .next s) : wpAny X.M A t (fun _ s => Q .next s) jm P1.s :=
  h.go fun P2 m2 _ _ S2 F2 _ q => f _ (.mk P2 m2 .next (S.any.trans S2) F2 .next q)
theorem aE {x : String} {p pos : Pos} {e : Expr} {f : EF} (hx : env.kindOf (nm x) = some .local ∨ env.kindOf (nm x) = some .cell) (hs : swapsWith e (some (.Name (nm x) p)) pos.line env = pure false) (hf : bD X h env e f) :
    h7 X h env (.Assign [.Name (nm x) p] e pos) (a6 f (aF x)) := fun A P m K hA F q =>
  wpAny_Assign_Name ((hf A P m _ hA F (c9 q)).go fun P1 v xv S1 r1 q => qa (kO (F.stepN S1) r1 hx q) S1 fun _ z => z) hs
theorem cf {elts : List Expr} {kd : Nat} {p pos : Pos} {e : Expr} {f : EF} {a : AF} (hs : swapsWithSole [.Tuple elts kd p] e pos.line env = pure false) (hw : swappedStores [.Tuple elts kd p] e env = pure none) (hf : bD X h env e f) (ha : lm X (FX env) h env (.Tuple elts kd p) a) :
    h7 X h env (.Assign [.Tuple elts kd p] e pos) (a6 f a) := fun A P m K hA F q =>
  Assign_Tuple ((hf A P m _ hA F (c9 q)).go fun P1 v xv S1 r1 q => qa (ha A P1 m v xv _ hA (F.stepN S1) r1 (c9 q)) S1 fun _ z => z) hs hw
theorem aP {t e : Expr} {pos : Pos} {f : EF} {a : AF} (hs : swapsWithSole [t] e pos.line env = pure false) (hw : swappedStores [t] e env = pure none) (ht : (assignEach [t] env).map (·.2) = [assign t env]) (ha : lm X (FX env) h env t a) (hf : bD X h env e f) :
    h7 X h env (.Assign [t] e pos) (a6 f a) := fun A P m K hA F q => by
  unfold WS
  rw [PyProof.Rows.exec_Assign]
  refine wpAny_bind (wpAny_standAt ?_)
  rw [hs]
  refine wpAny_bind (wpAny_pure ?_)
  rw [if_neg (by decide)]
  refine wpAny_bind ((hf A P m _ hA F (c9 q)).go fun P1 v xv S1 r1 q => ?_)
  rw [hw, ht]
  refine wpAny_bind (wpAny_pure ?_)
  show wpAny _ _ (assign t env xv >>= fun _ => pure Flow.next) _ _ _
  exact wpAny_bind (qa (Q := fun fl s => wpAny X.M A (pure fl) (RetS X (FX env) env P FlowRel (KS K)) jm s) (ha A P1 m v xv _ hA (F.stepN S1) r1 (c9 q)) S1 fun _ z => wpAny_pure z)
theorem pj {A : Around} : ∀ {ps : List (String × PV)} {xs : List Value} {P : Pt} {m : Loc} {K : Loc → AH → Prop}, (∀ p ∈ ps, env.kindOf (nm p.1) = some .local) → Fr X env m P → VRels P (ps.map (·.2)) xs → K (ps.foldl (fun m p => m.put p.1 p.2) m) P.σ →
    WS X (FX env) env A (assignInOrder ((ps.map fun p => nm p.1).map fun n => bindName env n) xs) P oN (KL K)
  | [], xs, P, m, K, _, F, r, q => r.nilK (wpAny_pure (.here (a := ()) F trivial q))
  | p :: ps, xs, P, m, K, hk, F, r, q => r.consK fun x xs r1 r2 => by
    show wpAny _ _ (do holding xs (bindName env (nm p.1) x); assignInOrder ((ps.map fun p => nm p.1).map fun n => bindName env n) xs) _ _ _
    exact wpAny_bind (wpAny_holding (wpAny_bindName ((kO (K := fun m σ => K (ps.foldl (fun m p => m.put p.1 p.2) m) σ) F r1 (.inl (hk p (.head _))) q).go fun P1 m1 _ _ S1 F1 _ q => (pj (fun q hq => hk q (.tail _ hq)) F1 (VRels.ext r2 S1.ext) q).back S1)))
theorem rT {β : Type} (f : String → β) : ∀ (xs : List String) (l : List PV), l.length = xs.length → ((xs.zip l).map fun p => f p.1) = xs.map f ∧ (xs.zip l).map (·.2) = l
  | [], [], _ => ⟨rfl, rfl⟩
  | x :: xs, v :: l, h => (rT f xs l (Nat.succ.inj h)).imp (congrArg _) (congrArg _)
theorem bV {elts : List Expr} {kd : Nat} {p pos : Pos} {e : Expr} {f : EF} (xs : List String) (hs : swapsWithSole [.Tuple elts kd p] e pos.line env = pure false) (hw : swappedStores [.Tuple elts kd p] e env = pure (some (xs.map nm)))
    (hx : ∀ x ∈ xs, env.kindOf (nm x) = some .local) (hf : bD X h env e f) : h7 X h env (.Assign [.Tuple elts kd p] e pos) (gw f (dF xs)) := fun A P m K hA F q =>
  Assign_Tuple_swapped (names := xs.map nm) ((hf A P m _ hA F (c9 q)).go fun P1 v xv S1 r1 q => onTup q r1 fun l a vs ep ho rr q => by
    by_cases hlen : l.length = xs.length
    · unfold dF at q
      rw [Ah hlen] at q
      have el : (xs.map nm).length = vs.toArray.size := by rw [List.length_map, List.size_toArray, ← rr.length, hlen]
      rw [el]
      refine unpackItems_tuple hA.hd ⟨_, ho, rfl, ep, rfl⟩ fun h' he => ?_
      have S2 : Step X ff P1 ⟨P1.ι, P1.σ, { P1.s with heap := h' }⟩ := .grow S1.rel (fun b o e => he b o (Nat.ne_of_lt (Heap.lt_size e)) e) rfl rfl
      have S := S1.trans S2
      have z := rT nm xs l hlen
      have em : (xs.map nm).reverse = ((xs.zip l).reverse.map fun p => nm p.1) := by rw [List.map_reverse, z.1]
      have r3 : VRels ⟨P1.ι, P1.σ, { P1.s with heap := h' }⟩ ((xs.zip l).reverse.map (·.2)) vs.reverse := by rw [List.map_reverse, z.2]; exact (VRels.ext rr S2.ext).reverse
      have ev : vs.toArray.toList.reverse = vs.reverse := rfl
      rw [em, ev]
      exact (pj (K := fun m σ => K (.next, m) σ) (fun p hp => hx _ (List.of_mem_zip (List.mem_reverse.mp hp)).1) (F.stepN S) r3 q).go fun P3 m3 _ _ S3 F3 _ q => .mk P3 m3 .next (S.any.trans S3) F3 .next q
    · unfold dF gd at q
      rw [if_neg hlen] at q
      exact q.elim) hs hw
theorem l7 {l : List (Int × PV)} {k : List (Int × Value)} (r : All2 (ge P) l k) (x : Int) : All2 (ge P) (qO l x) (PySem.without k x) := by
  unfold qO PySem.without
  induction r with
  | nil => exact .nil
  | @cons a b l k hab _ ih =>
    by_cases e : a.1 = x
    · rw [List.filter_cons_of_neg (by simpa using e), List.filter_cons_of_neg (by simpa using hab.1 ▸ e)]; exact ih
    · rw [List.filter_cons_of_pos (by simpa using e), List.filter_cons_of_pos (by simpa using hab.1 ▸ e)]; exact .cons hab ih
theorem yW {a b : Expr} {p pos : Pos} {f g : EF} (hf : bD X h env a f) (hg : bD X h env b g) : h7 X h env (.Delete [.Subscript a b p] pos) (zX f g) := fun A P m K hA F q =>
  wpAny_Delete (wpAny_deleteEach_cons (delete_Subscript ((hf A P m _ hA F (c9 q)).go fun P1 o xo S1 r1 q => (hg A P1 m _ hA (F.stepN S1) (c9 q)).go fun P2 i xi S2 r2 q => by
    exact onVD S2.rel (c9 q) (r1.step S2) fun j l kvs hj hl hd hr q => onInt q r2 fun x t q => cF q fun hz q => by
      have hv : (valueAt kvs x).isSome = true := by
        rcases ft hr x with ⟨v, y, e1, e2, _⟩ | ⟨e1, e2⟩
        · rw [e2]; rfl
        · rw [e1] at hz; cases hz.2
      unfold delItem
      exact wpAny_holding (wpAny_bind (wpAny_sequenceKey hd.typeIs (by decide) (wpAny_bind (wpAny_callSpecial?_slot (name := Str.ofString "__delitem__") hd.typeIs PySem.F.slot_dict_delitem
        (call_meetsIn PySem.F.slot_dict_delitem hd.typeIs PySem.F.entry_dict_delitem (PySem.F.args_dict_delitem_2 _ _) (meets_dict_delitem_pairs (intKind X.prog X.w) (P2.ι j) (intKind_is X.prog X.w _ _)) ⟨kvs, hd, by rw [← hr.length]; exact wz hz.1, hv, fun h' hd' hs =>
          wpAny_pure (wpAny_deleteEach_nil (.ofN (K := KS K) F ((S1.trans S2).trans (.updDict S2.rel hl hs hd' (l7 hr x))) .next q))⟩))))))))
theorem tU {st : Stmt} : h7 X h env st AV := fun _ _ _ _ _ _ e => e.elim
theorem tn {b : List Stmt} : hX X h env b AV := fun _ _ _ _ _ _ e => e.elim
theorem tz {e : Expr} : bD X h env e AV := fun _ _ _ _ _ _ e => e.elim
theorem AU {e : Expr} : fI X h env e AV := fun _ _ _ _ _ _ e => e.elim
end
noncomputable def AD (X : Cxt) (P : Pt) (K : PV → AH → Prop) (r : Result) (s' : Shared) : Prop := match r with
  | .ok (.ret x) => Ret X P VRel K x s'
  | _ => False
noncomputable def SndF (X : Cxt) (h : Nat) (a : Addr) (f : FF) : Prop := ∀ A P args xs K, Ar h A → HRel X P → VRels P args xs → On (f args P.σ) K → codeAny X.M A (.call (.ref a) ⟨xs, []⟩) (AD X P K) P.s
noncomputable def gr (X : Cxt) (h : Nat) (v : Value) (f : FF) : Prop := ∀ A P args xs K, Ar h A → HRel X P → VRels P args xs → On (f args P.σ) K → W X A (call v xs) P VRel K
structure DefOk (K : Frag) (a : Addr) (fd : FuncData) (ps : List String) (body : List Stmt) : Prop where
  code : codeIn K fd.code fd.qualname = true
  body : fd.body = .stmts body
  bind : ∀ xs : List Value, xs.length = ps.length → bindArgs fd ⟨xs, []⟩ = pure ((ps.map nm).zip xs)
  kinds : ∀ p ∈ ps, fd.scope.names.lookup (nm p) = some .local ∨ fd.scope.names.lookup (nm p) = some .cell
  glob : fd.globals = mainGlobals
  bi : fd.builtins = builtinsNs
  co : fd.scope.isCoroutine = false
  gen : fd.scope.isGenerator = false
  kind : fd.scope.kind = .function
section
variable {X : Cxt} {h : Nat} {env : Env} {P P1 : Pt} {m : Loc} {A : Around}
theorem SndF.mono {a : Addr} {f : FF} {h' : Nat} (x : SndF X h a f) (l : h ≤ h') : SndF X h' a f := fun A P args xs K hA => x A P args xs K (hA.le l)
noncomputable def BC (K : PV → AH → Prop) (p : Res × Loc) (σ : AH) : Prop := match p.1 with | .ret v => K v σ | .next => K .none σ | _ => False
theorem zq {r : Option ((Res × Loc) × AH)} {K : PV → AH → Prop} (q : On (qQ r) K) : On r (BC K) := match r, q with
  | some ((.ret _, _), _), q => q
  | some ((.next, _), _), q => q
theorem so {body : List Stmt} {f : SF} {K : PV → AH → Prop} (hb : hX X h env body f) (hA : Ar h A) (F : Fr X env m P1) (S : Step X ff P P1) (fresh : ∀ b, (P.h.get? b).isSome → ¬ FX env b) (q : On (f m P1.σ) (BC K)) {E : Value → Shared → Prop} :
    wpAny X.M A (execs body env) (fun fl s' => AD X P K (.ok (.ret (match fl with | .ret v => v | _ => .none))) s') E P1.s :=
  (hb A P1 m _ hA F q).go fun P' m' r fl S' F' fr k => by
    have S2 : Step X ff P P' := (S.any.trans S').monoX fun b hb q => fresh b hb q
    cases fr with
    | ret r => exact .mk P' _ S2 r k
    | next => exact .mk P' _ S2 .none k
    | cont => exact k.elim
    | brk => exact k.elim
noncomputable def zy (P : Pt) (kindOf : Str → Option NameKind) (m : Loc) (mL mC : Str → Option Value) : Prop :=
  ∀ y v, m y = some v → ∃ x, VRel P v x ∧ ((kindOf (nm y) = some .local ∧ mL (nm y) = some x) ∨ (kindOf (nm y) = some .cell ∧ mC (nm y) = some x))
theorem jZ {kindOf : Str → Option NameKind} : ∀ {ps : List String} {args : List PV} {xs : List Value} {m : Loc} {mL mC : Str → Option Value}, VRels P args xs →
    (∀ p ∈ ps, kindOf (nm p) = some .local ∨ kindOf (nm p) = some .cell) → zy P kindOf m mL mC → zy P kindOf ((ps.zip args).foldl (fun m p => m.put p.1 p.2) m) (bindL kindOf ((ps.map nm).zip xs) mL) (bindC kindOf ((ps.map nm).zip xs) mC)
  | [], args, xs, m, mL, mC, _, _, b => b
  | p :: ps, [], xs, m, mL, mC, r, _, b => r.nilK b
  | p :: ps, v :: args, xs, m, mL, mC, r, hk, b => r.consK fun x xs r1 r2 => by
    refine jZ (ps := ps) (args := args) r2 (fun q hq => hk q (.tail _ hq)) fun y v' e => ?_
    have e : (if y = p then some v else m y) = some v' := e
    by_cases q : y = p
    · rw [if_pos q] at e
      cases e; subst q
      refine ⟨x, r1, ?_⟩
      rcases hk _ (.head _) with hl | hc
      · exact .inl ⟨hl, by rw [if_pos hl]; exact if_pos rfl⟩
      · exact .inr ⟨hc, by rw [if_neg (by rw [hc]; exact fun z => nomatch z)]; exact if_pos rfl⟩
    · rw [if_neg q] at e
      obtain ⟨x', rx, hx⟩ := b y v' e
      refine ⟨x', rx, ?_⟩
      have nq : ¬ nm y = nm p := fun z => q (nB z)
      rcases hx with ⟨h1, h2⟩ | ⟨h1, h2⟩
      · refine .inl ⟨h1, ?_⟩
        split
        · exact (if_neg nq).trans h2
        · exact h2
      · refine .inr ⟨h1, ?_⟩
        split
        · exact h2
        · exact (if_neg nq).trans h2
theorem Ar.room (a : Ar h A) : A.depth < recursionLimit := by
  have := a.dp
  unfold recursionLimit; lia
theorem Ar.deeper (a : Ar (h + 1) A) (env : Env) : Ar h (A.deeper env) := ⟨a.hd, by have := a.dp; simp [Around.deeper]; lia, by have := a.un; simp [Around.deeper]; lia⟩
theorem lW {L : Addr} (hL : P.h.objs.size = L) (hl : ∀ b, FX env b → L ≤ b) (b : Addr) (hb : (P.h.get? b).isSome) (q : FX env b) : False := by
  obtain ⟨o, z⟩ := Option.isSome_iff_exists.mp hb
  exact absurd (Heap.lt_size z) (Nat.not_lt.mpr (hL ▸ hl b q))
theorem aY {a : Addr} {o : Obj} {fd : FuncData} {ps : List String} {body : List Stmt} {f : SF} (hl : X.K.lookup a = some o) (hd : o.data = .func fd) (D : DefOk X.K a fd ps body) (hc : fd.closure = [])
    (hb : ∀ L, hX X h (callEnvC fd L a) body f) : SndF X (h + 1) a (bo ps f) := fun A P args xs K hA R r q => cF q fun hlen q => by
  obtain ⟨p, loose, mg, mb, T⟩ := X.top
  refine codeAny_call_cells hA.room (R.keep _ _ (X.kin _ _ hl)) hd (T.nolimit.keeps R.keep) (codeRec_of R.K D.code) D.body (D.bind xs (by rw [← r.length]; exact hlen)) hc (fun x hx => ?_) (fun s₁ I => ?_) D.co D.gen D.kind
  · obtain ⟨p, hp, e⟩ := List.mem_map.mp (List.of_mem_zip hx).1
    exact (D.kinds p hp).imp (fun q1 => e ▸ q1) fun q1 => ⟨e ▸ q1, cellsFrom_some _ _ _ (.inl (e ▸ q1))⟩
  · obtain ⟨h', tk, rfl, k1⟩ := I.done
    have S : Step X ff P ⟨P.ι, P.σ, { P.s with heap := h', toks := tk }⟩ := .kept R k1
    have bd := jZ (kindOf := (callEnvC fd P.h.objs.size a).kindOf) (ps := ps) (m := fun _ => none) (mL := fun _ => none) (mC := fun _ => none) (VRels.ext r S.ext) (fun p hp => D.kinds p hp) (fun y v e => nomatch e)
    have hB : X.hp.objs.size ≤ P.h.objs.size := Nat.le_trans X.low R.size
    have ab : ∀ x c, (callEnvC fd P.h.objs.size a).cells.lookup x = some c → P.h.objs.size < c := fun x c hc => I.above x c (mem_of_lookup hc)
    have cs : ∀ {x}, (callEnvC fd P.h.objs.size a).kindOf x = some .cell → ∃ c, (callEnvC fd P.h.objs.size a).cells.lookup x = some c := fun hx => Option.isSome_iff_exists.mp (cellsFrom_some fd.scope.names (P.h.objs.size + 1) [] (.inl hx))
    have F : Fr X (callEnvC fd P.h.objs.size a) (nh ps args) ⟨P.ι, P.σ, { P.s with heap := h', toks := tk }⟩ :=
      ⟨S.rel, ⟨Nat.le_trans X.lowb R.size, R.base (cL _), fun x y c h1 h2 => name_of_addr I.apart (mem_of_lookup h1) (mem_of_lookup h2), fun x hx => (cs hx).elim fun c hcc => ⟨c, hcc, e8 fun o z => absurd (Heap.lt_size z) (Nat.not_lt.mpr (Nat.le_trans hB (Nat.le_of_lt (ab _ c hcc))))⟩, D.kind, D.glob, D.bi⟩,
       ⟨_, I.toInCall.ns, fun y v e => (bd y v e).elim fun x z => ⟨x, z.1, z.2.elim .inl fun q => .inr ((cs q.1).elim fun c hcc => ⟨.inl q.1, c, hcc, q.2 ▸ I.cell _ c hcc⟩)⟩⟩,
       fun i hi e => absurd (R.lt hi) (e ▸ Nat.lt_irrefl _), fun x c hc => ⟨⟨_, I.cell x c hc⟩, Nat.ne_of_gt (ab x c hc), fun i hi e => absurd (Nat.lt_trans (e ▸ R.lt hi) (ab x c hc)) (Nat.lt_irrefl _)⟩⟩
    exact so (hb _) (hA.deeper _) F S (lW rfl fun b q => q.elim (fun e => e ▸ Nat.le_refl _) fun ⟨x, _, hx⟩ => Nat.le_of_lt (ab x b hx)) (zq q)
noncomputable def ec (es : List Expr) (env : Env) : Prop := starEach es env = es.map fun e => (false, eval e env)
theorem fM {es : List Expr} {pos : Pos} (hp : ec es env) : backTo pos (starEach es env) = es.map fun e => (false, eval e env) := by
  unfold backTo
  rw [hp, List.map_map]
  rfl
theorem n9 {f : Value} {es : List Expr} {pos : Pos} {l : LF} {K : List PV → AH → Prop} {Q : Args → Shared → Prop} {E : Value → Shared → Prop} (hp : ec es env) (hl : gK X h env es l) (hA : Ar h A) (F : Fr X env m P) (q : On (l m P.σ) K)
    (hq : ∀ P1 args xs, Step X ff P P1 → VRels P1 args xs → K args P1.σ → Q ⟨xs, []⟩ P1.s) : wpAny X.M A (evalArgs f true (backTo pos (starEach es env)) []) Q E P.s := by
  have hs := hl A P m K pos hA F q
  cases es with
  | nil =>
    show wpAny _ _ (evalArgs f true [] []) _ _ _
    unfold evalArgs
    show wpAny _ _ (spliced [] >>= _) _ _ _
    exact wpAny_bind (hs.go fun P1 args xs S r k => wpAny_bind (wpAny_pure (wpAny_holding (wpAny_bind (wpAny_pure (wpAny_bind (wpAny_pure (wpAny_pure (hq P1 args xs S r k)))))))))
  | cons e es =>
    rw [fM hp] at hs ⊢
    exact Calls.evalArgs_plain (hs.go fun P1 args xs S r k => hq P1 args xs S r k)
noncomputable def wN (K : Frag) (v : Value) : Prop := keepIn K v = true ∨ ∀ a, v ≠ .ref a
theorem uV {M : Model} {K : Frag} {f : Value} (hk : wN K f) (h : Heap) (X : K.In h) : ∃ k, (k = Keeper.frame ∨ k = Keeper.machine ∨ k = Keeper.boundFrame) ∧ Looks M h (keeperOf f) k :=
  hk.elim (fun hk => keeps_K hk h X) fun hk => ⟨.machine, .inr (.inl rfl), Looks.of_pure (by cases f <;> first | rfl | exact absurd rfl (hk _))⟩
theorem gn {f : Value} {first : List Value} {es : List Expr} {pos : Pos} {l : LF} {K : List PV → AH → Prop} {Q : Value → Shared → Prop} {E : Value → Shared → Prop} (hkp : wN X.K f) (hp : ec es env) (hl : gK X h env es l) (hA : Ar h A) (F : Fr X env m P) (q : On (l m P.σ) K)
    (hq : ∀ P1 args xs, Step X ff P P1 → VRels P1 args xs → K args P1.σ → wpAny X.M A (call f (first ++ xs)) Q E P1.s) : wpAny X.M A (callWith pos f first (backTo pos (starEach es env)) []) Q E P.s :=
  callWith_of (P := fun h => X.K.In h) (by rw [fM hp]; simp) (uV hkp) (n9 hp hl hA F q fun P1 args xs S r k => ⟨S.rel.K, hq P1 args xs S r k⟩)
theorem lU {x : String} {pos : Pos} {v : Value} {Q : Value → Shared → Prop} {E : Value → Shared → Prop} (hg : nsIn X.K mainGlobals (nm x) = some (some v)) (hx : env.kindOf (nm x) = some .globalImplicit) (hd : (nm x == ("__debug__" : Str)) = false) (F : Fr X env m P) (hq : Q v P.s) :
    wpAny X.M A (eval (.Name (nm x) pos) env) Q E P.s :=
  let ⟨_, _, _, _, T⟩ := X.top
  Calls.Name_function_global F.st.kind hx (Calls.loadGlobal_global (F.st.glob ▸ T.g.keeps F.rel.keep) (mg_of X.kin T.g hg) hq) hd
theorem kA {x : String} {pos : Pos} {v : Value} {Q : Value → Shared → Prop} {E : Value → Shared → Prop} (hg : nsIn X.K mainGlobals (nm x) = some none) (hb : bootBuiltins (nm x) = some v) (hn : nm x ≠ "__name__") (hx : env.kindOf (nm x) = some .globalImplicit)
    (hd : (nm x == ("__debug__" : Str)) = false) (F : Fr X env m P) (hq : Q v P.s) : wpAny X.M A (eval (.Name (nm x) pos) env) Q E P.s :=
  let ⟨_, _, _, _, T⟩ := X.top
  Calls.Name_function_global F.st.kind hx (Calls.loadGlobal_builtin (F.st.glob ▸ T.g.keeps F.rel.keep) (mg_none_of X.kin T.g hg) (F.st.bi ▸ T.b.keeps F.rel.keep) ((T.builtins _ hn).trans hb) hq) hd
theorem to {f : Value} {xs : List Value} {K : PV → AH → Prop} (h : codeAny X.M A (.call f ⟨xs, []⟩) (AD X P K) P.s) : W X A (call f xs) P VRel K := wpAny_call (codeAny_mono h fun r s' z => by
  cases r with
  | error e => exact z
  | ok fl => cases fl <;> exact z)
theorem ax {x : String} {a : Addr} {np pos : Pos} {es : List Expr} {f : FF} {l : LF} {h' : Nat} (hg : nsIn X.K mainGlobals (nm x) = some (some (.ref a))) (hx : env.kindOf (nm x) = some .globalImplicit) (hd : (nm x == ("__debug__" : Str)) = false)
    (hkp : keepIn X.K (.ref a) = true) (hf : SndF X h' a f) (hh : h' ≤ h) (hp : ec es env) (hl : gK X h env es l) : bD X h env (.Call (.Name (nm x) np) es [] pos) (aD f l) := fun A P m K hA F q =>
  wpAny_Call_ofName (lU hg hx hd F (gn (first := []) (.inl hkp) hp hl hA F (c9 q) fun P1 args xs S r q => (to (hf A P1 args xs K (hA.le hh) S.rel r q)).back S))
structure BName (K : Frag) (env : Env) (x : String) (v : Value) : Prop where
  hg : nsIn K mainGlobals (nm x) = some none
  hb : bootBuiltins (nm x) = some v
  hn : nm x ≠ "__name__"
  hx : env.kindOf (nm x) = some .globalImplicit
  hd : (nm x == ("__debug__" : Str)) = false
  hk : wN K v
theorem eY {x : String} {v : Value} {np pos : Pos} {es : List Expr} {l : LF} {K : List PV → AH → Prop} {Q : Value → Shared → Prop} {E : Value → Shared → Prop} (N : BName X.K env x v) (hp : ec es env) (hl : gK X h env es l) (hA : Ar h A) (F : Fr X env m P) (q : On (l m P.σ) K)
    (hq : ∀ P1 args xs, Step X ff P P1 → VRels P1 args xs → K args P1.σ → wpAny X.M A (call v xs) Q E P1.s) : wpAny X.M A (eval (.Call (.Name (nm x) np) es [] pos) env) Q E P.s :=
  wpAny_Call_ofName (kA N.hg N.hb N.hn N.hx N.hd F (gn (first := []) N.hk hp hl hA F q hq))
theorem aH {x : String} {v : Value} {np pos : Pos} {es : List Expr} {f : FF} {l : LF} (N : BName X.K env x v) (hf : gr X h v f) (hp : ec es env) (hl : gK X h env es l) : bD X h env (.Call (.Name (nm x) np) es [] pos) (aD f l) := fun A P m K hA F q =>
  eY N hp hl hA F (c9 q) fun P1 args xs S r q => (hf A P1 args xs K hA S.rel r q).back S
structure MethOk (K : Frag) (C : Addr) (x : String) (f : Addr) : Prop where
  ga : findIn K (.ref C) (Str.ofString "__getattribute__") = some (some (.builtin "object.__getattribute__"))
  gh : findIn K (.ref C) (Str.ofString "__getattr__") = some none
  at_ : findIn K (.ref C) (nm x) = some (some (.ref f))
  ty : typeIn K (.ref f) = some (.type "function")
  kp : keepIn K (.ref f) = true
noncomputable def km (env : Env) (o : Expr) (name : Str) (apos : Pos) (args : List Expr) (pos : Pos) : Prop := ∃ pl, eval (.Call (.Attribute o name apos) args [] pos) env = (do
      let ov ← eval o env
      standAt apos.atName
      let (f, first) ← holding [ov] (getMethod ov name pl)
      callWith pos f first (backTo pos (starEach args env)) [])
theorem tE {o : Expr} {x : Str} {apos pos : Pos} {es : List Expr} {f : EF} {l : LF} {K : PV → AH → Prop} (hm : km env o x apos es pos) (hp : ec es env) (hf : bD X h env o f) (hl : gK X h env es l) (hA : Ar h A) (F : Fr X env m P)
    {Kf : PV → AH → Prop} (q : On (f m P.σ) Kf) (go : ∀ P1 o x', Step X ff P P1 → VRel P1 o x' → Kf o P1.σ → ∀ pl, wpAny X.M A (getMethod x' x pl) (fun r s => wpAny X.M A (callWith pos r.1 r.2 (backTo pos (starEach es env)) []) (Ret X P VRel K) jm s) jm P1.s) :
    W X A (eval (.Call (.Attribute o x apos) es [] pos) env) P VRel K := by
  obtain ⟨pl, he⟩ := hm
  unfold W
  rw [he]
  exact wpAny_bind ((hf A P m _ hA F q).go fun P1 o x' S r k => wpAny_bind (wpAny_standAt (wpAny_bind (wpAny_holding (go P1 o x' S r k pl)))))
theorem r8 {i : Nat} {D : Addr} {fs : List (String × PV)} {x : String} {f : Addr} {pl : Sem Bool} {Q : Value × List Value → Shared → Prop} {E : Value → Shared → Prop} (R : HRel X P) (hi : P.σ.get i = some (.inst D fs)) (hm : MethOk X.K D x f) (hn : gl fs x = none) (hq : Q (.ref f, [.ref (P.ι i)]) P.s) :
    wpAny X.M A (getMethod (.ref (P.ι i)) (nm x) pl) Q E P.s := R.inst hi fun _ ho es ep hd hr _ => by
  refine method_fn R.K (od := some (dictOf es ep)) ⟨ho, rfl, rfl, hd⟩ hm.ga hm.gh hm.at_ hm.ty ?_ hq
  unfold shadowIn
  dsimp only
  rw [lookIn_dict]
  unfold getL
  rcases pB hr x with ⟨v, e, e1, _⟩ | ⟨_, e2⟩
  · rw [hn] at e1; cases e1
  · rw [e2, nY hr]; rfl
theorem ay {o : Expr} {x : String} {apos pos : Pos} {es : List Expr} {tab : List (Addr × FF)} {f : EF} {l : LF} {h' : Nat} (ht : ∀ D g, tab.lookup D = some g → ∃ a, MethOk X.K D x a ∧ SndF X h' a g) (hh : h' ≤ h)
    (hm : km env o (nm x) apos es pos) (hp : ec es env) (hf : bD X h env o f) (hl : gK X h env es l) : bD X h env (.Call (.Attribute o (nm x) apos) es [] pos) (a9 x tab f l) := fun A P m K hA F q =>
  tE hm hp hf hl hA F (c9 q) fun P1 o x' S1 r1 q pl => onObj q r1 fun i hi' q => vm q fun D fs hi q => by
    cases hg : tab.lookup D with
    | none => rw [hg] at q; exact q.elim
    | some g =>
      rw [hg] at q
      cases hn : gl fs x with
      | some _ => rw [hn] at q; exact q.elim
      | none =>
        rw [hn] at q
        obtain ⟨a, hmo, hsf⟩ := ht D g hg
        exact r8 S1.rel hi hmo hn (gn (first := [.ref (P1.ι i)]) (.inl hmo.kp) hp hl hA (F.stepN S1) (c9 q) fun P2 args xs S2 r2 q => (to (hsf A P2 (.obj i :: args) _ K (hA.le hh) S2.rel (.cons ((VRel.obj i hi').step S2) r2) q)).back (S1.trans S2))
theorem br {o : Expr} {x id : String} {apos pos : Pos} {es : List Expr} {f : EF} {l : LF} {g : FF} (sl : Slot "list" (nm x) id) (ty : typeOf (.builtin id) = pure (.type "method_descriptor")) (hg : gr X h (.builtin id) g)
    (hm : km env o (nm x) apos es pos) (hp : ec es env) (hf : bD X h env o f) (hl : gK X h env es l) : bD X h env (.Call (.Attribute o (nm x) apos) es [] pos) (jA f l g) := fun A P m K hA F q =>
  tE hm hp hf hl hA F (c9 q) fun P1 o x' S1 r1 q pl => onVL S1.rel q r1 fun i ll vs ep hi' hi ho rr q =>
    getMethod_builtin (T := "list") (id := id) ⟨_, ho, rfl⟩ PySem.F.plainAttrs_list sl ty (fun a e => by cases e; exact ⟨_, ho, rfl⟩)
      (gn (first := [.ref (P1.ι i)]) (.inr fun a e => nomatch e) hp hl hA (F.stepN S1) (c9 q) fun P2 args xs S2 r2 q => (hg A P2 (.obj i :: args) _ K hA S2.rel (.cons ((VRel.obj i hi').step S2) r2) q).back (S1.trans S2))
theorem gg {o : Expr} {x id : String} {apos pos : Pos} {es : List Expr} {f : EF} {l : LF} {g : FF} (sl : Slot "dict" (nm x) id) (ty : typeOf (.builtin id) = pure (.type "method_descriptor")) (hg : gr X h (.builtin id) g)
    (hm : km env o (nm x) apos es pos) (hp : ec es env) (hf : bD X h env o f) (hl : gK X h env es l) : bD X h env (.Call (.Attribute o (nm x) apos) es [] pos) (ym f l g) := fun A P m K hA F q =>
  tE hm hp hf hl hA F (c9 q) fun P1 o x' S1 r1 q pl => onVD S1.rel q r1 fun i ll kvs hi' hi hd rr q => by
    obtain ⟨ob, es', ep, ho, hex, _⟩ := hd
    exact getMethod_builtin (T := "dict") (id := id) ⟨_, ho, hex.1⟩ PySem.F.plainAttrs_dict sl ty (fun a e => by cases e; exact ⟨_, ho, hex.2.1⟩)
      (gn (first := [.ref (P1.ι i)]) (.inr fun a e => nomatch e) hp hl hA (F.stepN S1) (c9 q) fun P2 args xs S2 r2 q => (hg A P2 (.obj i :: args) _ K hA S2.rel (.cons ((VRel.obj i hi').step S2) r2) q).back (S1.trans S2))
end
structure NewOk (K : Frag) (C : Addr) (i : Addr) : Prop where
  makes : makesIn K C = true
  init : findIn K (.ref C) (Str.ofString "__init__") = some (some (.ref i))
  ty : typeIn K (.ref i) = some (.type "function")
section
variable {X : Cxt} {h : Nat} {env : Env} {P P1 : Pt} {m : Loc} {A : Around}
theorem Ar.make (a : Ar (h + 1) A) (C : Addr) (xs : List Value) : Ar h (A.under (.builtin "type.__call__" ⟨.ref C :: xs, []⟩)) :=
  ⟨a.hd, by rw [depth_under_make]; have := a.dp; lia, by rw [units_under_make]; have := a.un; lia⟩
noncomputable abbrev h2 (hp : Heap) (D : Addr) : Heap := (hp.push emptyDict).push (instObj D hp.objs.size)
noncomputable def P2 (P : Pt) (D : Addr) : Pt := ⟨fun j => if j = P.n then P.h.objs.size + 1 else if j = P.n + 1 then P.h.objs.size else P.ι j, P.σ.newI (.inst D []), { P.s with heap := h2 P.h D }⟩
theorem Step.inst (R : HRel X P) (D : Addr) : Step X ff P (P2 P D) ∧ VRel (P2 P D) (.obj P.n) (.ref (P.h.objs.size + 1)) := by
  have kp : ∀ b o, P.h.get? b = some o → (h2 P.h D).get? b = some o := fun b o e => Heap.get?_push_of_some _ (Heap.get?_push_of_some _ e)
  have hx : (h2 P.h D).get? (P.h.objs.size + 1) = some (instObj D P.h.objs.size) := Heap.size_push P.h emptyDict ▸ Heap.get?_push_size (P.h.push emptyDict) (o := instObj D P.h.objs.size) rfl
  have hd : (h2 P.h D).get? P.h.objs.size = some emptyDict := Heap.get?_push_of_some _ (Heap.get?_push_size _ rfl)
  have n0 : (P2 P D).ι P.n = P.h.objs.size + 1 := if_pos rfl
  have n1 : (P2 P D).ι (P.n + 1) = P.h.objs.size := (if_neg (Nat.ne_of_gt (Nat.lt_succ_self _))).trans (if_pos rfl)
  have old : ∀ j, j < P.n → (P2 P D).ι j = P.ι j := fun j hj => (if_neg (Nat.ne_of_lt hj)).trans (if_neg (Nat.ne_of_lt (Nat.lt_succ_of_lt hj)))
  have e : Ext P (P2 P D) := ⟨fun b o z _ => kp b o z, old, Nat.le_add_right _ 2⟩
  have cs : ∀ j, j < (P2 P D).n → j < P.n ∨ j = P.n ∨ j = P.n + 1 := fun j hj => by have hj : j < P.n + 2 := hj; lia
  have sz := R.size
  have lt := fun j (hj : j < P.n) => R.lt hj
  have nz : P.h.objs.size + 1 ≠ P.h.objs.size := Nat.succ_ne_self _
  have R1 : HRel X (P2 P D) := by
    refine ⟨fun b o z => kp b o (R.keep b o z), iB kp _ R.anch, fun j hj => ?_, fun i j hi hj q => ?_, fun j hj => ?_, fun j oj z0 => ?_, fun j C fs z0 => ?_⟩
    · rcases cs j hj with q | rfl | rfl
      · rw [old j q]; exact R.lo j q
      · rw [n0]; exact Nat.le_succ_of_le sz
      · rw [n1]; exact sz
    · rcases cs i hi with qi | rfl | rfl <;> rcases cs j hj with qj | rfl | rfl
      · rw [old i qi, old j qj] at q; exact R.inj i j qi qj q
      · rw [old i qi, n0] at q; exact absurd (lt i qi) (q ▸ Nat.not_lt.mpr (Nat.le_succ _))
      · rw [old i qi, n1] at q; exact absurd (lt i qi) (q ▸ Nat.lt_irrefl _)
      · rw [n0, old j qj] at q; exact absurd (lt j qj) (q ▸ Nat.not_lt.mpr (Nat.le_succ _))
      · rfl
      · rw [n0, n1] at q; exact absurd q nz
      · rw [n1, old j qj] at q; exact absurd (lt j qj) (q ▸ Nat.lt_irrefl _)
      · rw [n0, n1] at q; exact absurd q.symm nz
      · rfl
    · rcases cs j hj with q | rfl | rfl
      · obtain ⟨o, ho, hc⟩ := R.live j q
        rw [old j q]; exact ⟨o, kp _ _ ho, hc⟩
      · rw [n0]; exact ⟨_, hx, ik (d := (instObj D P.h.objs.size).data) rfl rfl⟩
      · rw [n1]; exact ⟨_, hd, ez rfl (by decide) (by decide)⟩
    · have z : (if j = P.n then some (.inst D []) else P.σ.get j) = some oj := z0
      clear z0
      by_cases q : j = P.n
      · rw [if_pos q] at z
        cases z; subst q
        exact ⟨Nat.lt_succ_of_lt (Nat.lt_succ_self _), Nat.lt_succ_self _, by rw [n0, n1]; exact hx, [], 0, by rw [n1]; exact hd, .nil, .nil⟩
      · rw [if_neg q] at z
        obtain ⟨hj, rj⟩ := R.objs j oj z
        exact ⟨Nat.lt_succ_of_lt (Nat.lt_succ_of_lt hj), rj.mono hj e (fun _ q => kp _ _ q) fun _ _ _ _ q => kp _ _ q⟩
    · have z : (if j = P.n then some (.inst D []) else P.σ.get j) = some (.inst C fs) := z0
      clear z0
      show (if j + 1 = P.n then some (.inst D []) else P.σ.get (j + 1)) = none
      by_cases q : j = P.n
      · subst q
        rw [if_neg (Nat.succ_ne_self _)]
        cases z : P.σ.get (P.n + 1) with
        | none => rfl
        | some o => exact absurd (R.objs _ o z).1 (Nat.not_lt.mpr (Nat.le_succ _))
      · rw [if_neg q] at z
        rw [if_neg (Nat.ne_of_lt (R.objs j _ z).2.1)]
        exact R.ins j C fs z
  refine ⟨⟨e, R1, fun j h1 h2 => ?_, fun b o z _ _ => kp b o z, iB kp, rfl, rfl⟩, ?_⟩
  · rcases cs j h2 with q | rfl | rfl
    · exact absurd q (Nat.not_lt.mpr h1)
    · rw [n0]; exact e8 fun o z => absurd (Heap.lt_size z) (Nat.not_lt.mpr (Nat.le_succ _))
    · rw [n1]; exact cL P.h
  · have := VRel.obj (P := P2 P D) P.n (Nat.lt_succ_of_lt (Nat.lt_succ_self _))
    rwa [n0] at this
theorem kZ {D i : Addr} {f : FF} (hn : NewOk X.K D i) (hf : SndF X h i f) : SndF X (h + 1) D (eC D f) := fun A P args xs K hA R r q => by
  obtain ⟨S1, r0⟩ := Step.inst R D
  refine make_core (makes_of R.K hn.makes) (looks_findIn R.K hn.init) (fun self => bind_fn R.K self hn.ty) (.inl rfl) ?_
  have q : On (f (.obj P.n :: args) (P.σ.newI (.inst D []))) fun v σ' => v = .none ∧ K (.obj P.n) σ' := by
    unfold eC at q
    cases z : f (.obj P.n :: args) (P.σ.newI (.inst D [])) with
    | none => rw [z] at q; exact q.elim
    | some p =>
      rw [z] at q
      obtain ⟨v, σ'⟩ := p
      cases v <;> first | exact q.elim | exact ⟨rfl, q⟩
  refine codeAny_mono (hf _ (P2 P D) (.obj P.n :: args) (.ref (P.h.objs.size + 1) :: xs) _ (hA.make D xs) S1.rel (.cons r0 (VRels.ext r S1.ext)) q) fun rr s' z => ?_
  cases rr with
  | error e => exact z.elim
  | ok fl =>
    cases fl <;> try exact z.elim
    exact z.rec fun P' v _ S' rv k => by
      obtain ⟨rfl, k⟩ := k
      exact rv.noneK ⟨rfl, .mk P' (.obj P.n) (S1.trans S') (r0.step S') k⟩
theorem wm : gK X h env [] (sE []) := ai
theorem bg {i : Int} {kd : Nat} {p : Pos} {es : List Expr} {is : List Int} (r : gK X h env es (sE is)) : gK X h env (.Constant (.int i) kd p :: es) (sE (i :: is)) := fun A P m K pos hA F q => ae rfl au r A P m K pos hA F q
theorem aL {P : Addr → Prop} : ∀ D ∈ ([] : List Addr), P D := fun _ h => nomatch h
theorem av {P : Addr → Prop} {a : Addr} {l : List Addr} (h : P a) (r : ∀ D ∈ l, P D) : ∀ D ∈ a :: l, P D := fun D hd => (List.mem_cons.mp hd).elim (fun e => e ▸ h) (r D)
theorem be {P : Addr → FF → Prop} : ∀ D g, ([] : List (Addr × FF)).lookup D = some g → P D g := fun _ _ e => nomatch e
theorem aV {P : Addr → FF → Prop} {a : Addr} {f : FF} {l : List (Addr × FF)} (h : P a f) (r : ∀ D g, l.lookup D = some g → P D g) : ∀ D g, ((a, f) :: l).lookup D = some g → P D g := fun D g e => by
  unfold List.lookup at e
  cases q : D == a with
  | true => rw [q] at e; cases e; exact beq_iff_eq.mp q ▸ h
  | false => rw [q] at e; exact r D g e
@[elab_as_elim] theorem lenS {C : List Value → Prop} {xs : List Value} {n : Nat} (e : xs.length = n + 1) (k : ∀ v r, r.length = n → C (v :: r)) : C xs := by cases xs with
  | nil => cases e
  | cons v r => exact k v r (Nat.succ.inj e)
@[elab_as_elim] theorem len0 {C : List Value → Prop} {xs : List Value} (e : xs.length = 0) (k : C []) : C xs := by cases xs with
  | nil => exact k
  | cons => cases e
theorem C4 {fd : FuncData} (h : bindArgs fd ⟨[], []⟩ = pure []) (xs : List Value) (e : xs.length = ([] : List String).length) : bindArgs fd ⟨xs, []⟩ = pure ((([] : List String).map nm).zip xs) := len0 e h
theorem fL {fd : FuncData} {p : String} (h : ∀ v, bindArgs fd ⟨[v], []⟩ = pure [(nm p, v)]) (xs : List Value) (e : xs.length = [p].length) : bindArgs fd ⟨xs, []⟩ = pure (([p].map nm).zip xs) := lenS e fun v r e => len0 e (h v)
theorem cW {fd : FuncData} {p q : String} (h : ∀ u v, bindArgs fd ⟨[u, v], []⟩ = pure [(nm p, u), (nm q, v)]) (xs : List Value) (e : xs.length = [p, q].length) : bindArgs fd ⟨xs, []⟩ = pure (([p, q].map nm).zip xs) := lenS e fun u r e => lenS e fun v r e => len0 e (h u v)
theorem ju {fd : FuncData} {p q r : String} (h : ∀ u v x, bindArgs fd ⟨[u, v, x], []⟩ = pure [(nm p, u), (nm q, v), (nm r, x)]) (xs : List Value) (e : xs.length = [p, q, r].length) : bindArgs fd ⟨xs, []⟩ = pure (([p, q, r].map nm).zip xs) := lenS e fun u _ e => lenS e fun v _ e => lenS e fun x _ e => len0 e (h u v x)
theorem wM {fd : FuncData} {p q r t : String} (h : ∀ u v x y, bindArgs fd ⟨[u, v, x, y], []⟩ = pure [(nm p, u), (nm q, v), (nm r, x), (nm t, y)]) (xs : List Value) (e : xs.length = [p, q, r, t].length) : bindArgs fd ⟨xs, []⟩ = pure (([p, q, r, t].map nm).zip xs) := lenS e fun u _ e => lenS e fun v _ e => lenS e fun x _ e => lenS e fun y _ e => len0 e (h u v x y)
theorem B2 {fd : FuncData} {p q r t z : String} (h : ∀ u v x y o, bindArgs fd ⟨[u, v, x, y, o], []⟩ = pure [(nm p, u), (nm q, v), (nm r, x), (nm t, y), (nm z, o)]) (xs : List Value) (e : xs.length = [p, q, r, t, z].length) : bindArgs fd ⟨xs, []⟩ = pure (([p, q, r, t, z].map nm).zip xs) :=
  lenS e fun u _ e => lenS e fun v _ e => lenS e fun x _ e => lenS e fun y _ e => lenS e fun o _ e => len0 e (h u v x y o)
noncomputable def AM (fd : FuncData) (ps : List String) : Bool := ps.all fun p => fd.scope.names.lookup (nm p) == some .local || fd.scope.names.lookup (nm p) == some .cell
theorem aR {fd : FuncData} {ps : List String} (e : AM fd ps = true) : ∀ p ∈ ps, fd.scope.names.lookup (nm p) = some .local ∨ fd.scope.names.lookup (nm p) = some .cell := fun p hp => (Bool.or_eq_true_iff.mp (List.all_eq_true.mp e p hp)).imp beq_iff_eq.mp beq_iff_eq.mp
noncomputable def zm (env : Env) (xs : List String) : Bool := xs.all fun x => env.kindOf (nm x) == some .local
theorem dB {xs : List String} (e : zm env xs = true) : ∀ x ∈ xs, env.kindOf (nm x) = some .local := fun x hx => beq_iff_eq.mp (List.all_eq_true.mp e x hx)
theorem aG : ∀ (vs : List PV) m σ r, ch vs m σ = some r → vs.length = ([] : List Expr).length
  | [], _, _, _, _ => rfl
theorem aA {t : Expr} {ts : List Expr} {a : AF} {f : yh} (hl : ∀ (vs : List PV) m σ r, f vs m σ = some r → vs.length = ts.length) : ∀ (vs : List PV) m σ r, aQ a f vs m σ = some r → vs.length = (t :: ts).length
  | v :: vs, m, σ, r, e => by
    have e : bnd (a v m σ) (fun m σ => f vs m σ) = some r := e
    cases z : a v m σ with
    | none => rw [z] at e; cases e
    | some p => rw [z] at e; exact congrArg Nat.succ (hl _ _ _ _ e)
theorem jD {x : String} {pos : Pos} {i : Int} {t : Tok} (hg : nsIn X.K mainGlobals (nm x) = some (some (.int i t))) (hx : env.kindOf (nm x) = some .globalImplicit) (hd : (nm x == ("__debug__" : Str)) = false) : bD X h env (.Name (nm x) pos) (an (.int i)) := fun _ _ _ _ _ F q => lU hg hx hd F (.here F.rel (.int i t) q)
theorem sf {x y z : Expr} {pos : Pos} {t u v : TF} (ht : fI X h env x t) (hu : fI X h env y u) (hv : fI X h env z v) : fI X h env (.BoolOp .Or [x, y, z] pos) (o9 t (o9 u v)) := fun A P m K hA F q =>
  isTrue_or ((ht A P m _ hA F (c9 q)).go fun P1 a x S e q => by
    cases e
    cases a with
    | true => exact .mk P1 _ S rfl q
    | false => exact isTrue_or ((hu A P1 m _ hA (F.stepN S) (c9 q)).go fun P2 b x S2 e q => by
        cases e
        cases b with
        | true => exact .mk P2 _ (S.trans S2) rfl q
        | false => exact isTrue_or ((hv A P2 m K hA (F.stepN (S.trans S2)) q).go fun P3 c x S3 e k => by
            cases e
            cases c with
            | false => exact isTrue_or_nil (.mk P3 _ ((S.trans S2).trans S3) rfl k)
            | true => exact .mk P3 _ ((S.trans S2).trans S3) rfl k)))
theorem vy {x y z : Expr} {pos : Pos} {t u v : TF} (ht : fI X h env x t) (hu : fI X h env y u) (hv : fI X h env z v) : fI X h env (.BoolOp .And [x, y, z] pos) (hU t (hU u v)) := fun A P m K hA F q =>
  isTrue_and ((ht A P m _ hA F (c9 q)).go fun P1 a x S e q => by
    cases e
    cases a with
    | false => exact .mk P1 _ S rfl q
    | true => exact isTrue_and ((hu A P1 m _ hA (F.stepN S) (c9 q)).go fun P2 b x S2 e q => by
        cases e
        cases b with
        | false => exact .mk P2 _ (S.trans S2) rfl q
        | true => exact isTrue_and ((hv A P2 m K hA (F.stepN (S.trans S2)) q).go fun P3 c x S3 e k => by
            cases e
            cases c with
            | true => exact isTrue_and_nil (.mk P3 _ ((S.trans S2).trans S3) rfl k)
            | false => exact .mk P3 _ ((S.trans S2).trans S3) rfl k)))
end
noncomputable abbrev Pt.at (P : Pt) (s : Shared) : Pt := ⟨P.ι, P.σ, s⟩
structure Free (X : Cxt) (J : List Addr) (P : Pt) : Prop where
  own : ∀ b ∈ J, ∀ i, i < P.n → P.ι i ≠ b
  base : ∀ b ∈ J, X.hp.get? b = none
structure It (X : Cxt) (A : Around) (target : Expr) (J : List Addr) (I : Addr) (src : Src) (St : Nat → Pt → Prop) : Prop where
  item : ∀ j P v (Q : Value → Shared → Prop), HRel X P → St j P → Free X J P → src.item P.σ j = some (some v) → (∀ x s', Step X (· ∈ J) P (P.at s') → VRel (P.at s') v x → St (j + 1) (P.at s') → Q x s') →
    wpAny X.M A (pyNext (.ref I)) (fun r s => ∃ x, r = some x ∧ wpAny X.M A (letOwnedTupleGo target (.ref I) x) (fun _ s' => Q x s') jm s) jm P.s
  done : ∀ j P (Q : Option Value → Shared → Prop), HRel X P → St j P → Free X J P → src.item P.σ j = some none → (∀ s', (∀ b o, b ∉ J → P.h.get? b = some o → s'.heap.get? b = some o) → s'.gens = P.s.gens → s'.os = P.s.os → Q none s') →
    wpAny X.M A (pyNext (.ref I)) Q jm P.s
  frame : ∀ j P P', St j P → (∀ b ∈ J, ∀ o, P.h.get? b = some o → P'.h.get? b = some o) → Ext P P' → St j P'
  alive : ∀ j P, St j P → ∀ b ∈ J, ∃ o, P.h.get? b = some o ∧ ¬ oU o
  self : ∀ j P (Q : Value → Shared → Prop) (E : Value → Shared → Prop), St j P → Q (.ref I) P.s → wpAny X.M A (pyIter (.ref I)) Q E P.s
inductive RetI (X : Cxt) (A : Around) (target : Expr) (P : Pt) (K : Src → AH → Prop) : Value → Shared → Prop
  | mk (P' : Pt) (J : List Addr) (I : Addr) (src : Src) (St : Nat → Pt → Prop) : Step X ff P P' → It X A target J I src St → St 0 P' → (∀ b ∈ J, P.h.get? b = none ∧ ∀ i, i < P'.n → P'.ι i ≠ b) → K src P'.σ → RetI X A target P K (.ref I) P'.s
noncomputable def rY (X : Cxt) (h : Nat) (env : Env) (target e : Expr) (f : IF) : Prop := ∀ A P m K, Ar h A → Fr X env m P → On (f m P.σ) K →
  wpAny X.M A (eval e env) (fun x s₁ => wpAny X.M A (pyIter x) (RetI X A target P K) jm s₁) jm P.s
section
variable {X : Cxt} {h : Nat} {env : Env} {P P1 : Pt} {m : Loc} {A : Around}
noncomputable def ownTypes : List String := ["enumerate", "zip", "dict_itemiterator", "dict_reverseitemiterator", "odict_iterator", "itertools.zip_longest", "itertools.pairwise"]
theorem oE {M : Model} {E : Value → Shared → Prop} {s : Shared} {target : Expr} {I : Addr} {x : Value} {o : Obj} {n : String} {Q : Unit → Shared → Prop} (ho : s.heap.get? I = some o) (hc : o.cls = .type n) (hn : ownTypes.contains n = false) (hQ : Q () s) :
    wpAny M A (letOwnedTupleGo target (.ref I) x) Q E s := by
  have tup : wpAny M A (do
    let (.ref r, .ref a) := ((Value.ref I, x) : Value × Value) | return
    let o ← load r
    match o.cls, o.data with
    | .type n, .fields vs =>
      if ["enumerate", "zip", "dict_itemiterator", "dict_reverseitemiterator", "odict_iterator", "itertools.zip_longest", "itertools.pairwise"].contains n && vs[0]? == some (rawInt a) then
        rule "for.unpacks-the-owned-tuple"
        updateField r 0 .none
    | _, _ => pure ()) Q E s := by
    cases x with
    | ref a =>
      refine wpAny_bind (wpAny_load ho ?_)
      obtain ⟨oc, od, oda, osl⟩ := o
      dsimp only at hc
      subst hc
      cases oda with
      | fields vs =>
        dsimp only
        rw [show (["enumerate", "zip", "dict_itemiterator", "dict_reverseitemiterator", "odict_iterator", "itertools.zip_longest", "itertools.pairwise"] : List String).contains n = false from hn]
        exact wpAny_pure hQ
      | _ => exact wpAny_pure hQ
    | _ => exact wpAny_pure hQ
  unfold letOwnedTupleGo
  cases target <;> first | exact wpAny_pure hQ | exact tup
structure I1 (X : Cxt) (A : Around) (I : Addr) (src : Src) (S : Nat → Heap → Prop) (D : Pt → Prop) : Prop where
  typ : ∀ j h, S j h → ∃ o n, h.get? I = some o ∧ o.cls = .type n ∧ n ≠ "tuple" ∧ n ≠ "range" ∧ ownTypes.contains n = false
  loc : ∀ j h h', S j h → (∀ o, h.get? I = some o → h'.get? I = some o) → S j h'
  ext : ∀ P P', D P → Ext P P' → D P'
  item : ∀ j P v (Q : Option Value → Shared → Prop), HRel X P → S j P.h → D P → src.item P.σ j = some (some v) → (∀ x h' tk, VRel P v x → S (j + 1) h' → Heap.SameBut I P.h h' → Q (some x) { P.s with heap := h', toks := tk }) → wpAny X.M A (pyNext (.ref I)) Q jm P.s
  done : ∀ j P (Q : Option Value → Shared → Prop), HRel X P → S j P.h → D P → src.item P.σ j = some none → (∀ h', Heap.ExtBut I P.h h' → Q none { P.s with heap := h' }) → wpAny X.M A (pyNext (.ref I)) Q jm P.s
  self : ∀ j s (Q : Value → Shared → Prop) (E : Value → Shared → Prop), S j s.heap → Q (.ref I) s → wpAny X.M A (pyIter (.ref I)) Q E s
theorem Step.iter {J : List Addr} {s' : Shared} (R : HRel X P) (f : Free X J P) (im : ∀ b ∈ J, ∀ o, P.h.get? b = some o → ¬ oU o) (k : ∀ b o, b ∉ J → P.h.get? b = some o → s'.heap.get? b = some o) (al : ∀ b ∈ J, (s'.heap.get? b).isSome) (g : s'.gens = P.s.gens) (os : s'.os = P.s.os) : Step X (· ∈ J) P (P.at s') :=
  .onlyX R (fun b ob e n => k b ob n e) (fun i hi e => f.own _ e i hi rfl) (fun b ob e q => cK (f.base b q) e) (fun b o q e => im b q o e) (fun b e => if q : b ∈ J then al b q else let ⟨o, z⟩ := Option.isSome_iff_exists.mp e; bA (k b o q z)) g os
theorem gC {J : Addr → Prop} {I : Addr} (h : J I) : ∀ b ∈ [I], J b := fun b hb => List.mem_singleton.mp hb ▸ h
theorem I1.it {target : Expr} {I : Addr} {src : Src} {S : Nat → Heap → Prop} {D : Pt → Prop} (T : I1 X A I src S D) : It X A target [I] I src (fun j P => S j P.h ∧ D P) where
  item := fun j P v Q R st f e hQ => T.item j P v _ R st.1 st.2 e fun x h' tk rx st' hs => ⟨x, rfl, by
    obtain ⟨o, n, ho, hc, h1, h2, h3⟩ := T.typ _ _ st.1
    obtain ⟨o', n', ho', hc', _, _, h3'⟩ := T.typ _ _ st'
    have S : Step X (· ∈ [I]) P (P.at { P.s with heap := h', toks := tk }) := .iter R f (gC fun o' e => Option.some.inj (ho.symm.trans e) ▸ ez hc h1 h2) (fun b o n e => (hs.2 b fun q => n (q ▸ .head _)).trans e) (gC (bA ho')) rfl rfl
    exact oE ho' hc' h3' (hQ x _ S (rx.step S) ⟨st', T.ext _ _ st.2 S.ext⟩)⟩
  done := fun j P Q R st f e hQ => T.done j P Q R st.1 st.2 e fun h' he => hQ _ (fun b o n e => he b o (fun q => n (q ▸ .head _)) e) rfl rfl
  frame := fun j P P' st k e => ⟨T.loc _ _ _ st.1 (k I (.head _)), T.ext _ _ st.2 e⟩
  alive := fun j P st => gC (let ⟨o, n, ho, hc, h1, h2, _⟩ := T.typ _ _ st.1; ⟨o, ho, ez hc h1 h2⟩)
  self := fun j P Q E st q => T.self j P.s Q E st.1 q
theorem tq (S : Step X ff P P1) : ∀ b ∈ [P1.h.objs.size], P.h.get? b = none ∧ ∀ i, i < P1.n → P1.ι i ≠ b := gC ⟨S.gone (cL _), S.rel.fresh⟩
theorem I1.start {target : Expr} {src : Src} {S : Nat → Heap → Prop} {D : Pt → Prop} {ob : Obj} {K : Src → AH → Prop} (S1 : Step X ff P P1) (T : I1 X A P1.h.objs.size src S D) (st : S 0 (P1.h.push ob)) (d : D P1) (k : K src P1.σ) {tk : Nat} : RetI X A target P K (.ref P1.h.objs.size) { P1.s with heap := P1.h.push ob, toks := tk } :=
  have S2 : Step X ff P1 ⟨P1.ι, P1.σ, { P1.s with heap := P1.h.push ob, toks := tk }⟩ := .push S1.rel _
  .mk _ [P1.h.objs.size] _ src _ (S1.trans S2) T.it ⟨st, T.ext _ _ d S2.ext⟩ (tq S1) k
theorem gV {l : List PV} {vs : List Value} {j : Nat} (r : VRels P l vs) (e : l[j]? = none) : vs.toArray[j]? = none := by
  rw [List.getElem?_toArray, List.getElem?_eq_none_iff, ← r.length]
  exact List.getElem?_eq_none_iff.mp e
theorem It.tuple {I a : Addr} {vs : List Value} {ep : Nat} {l : List PV} (hh : A.handled = none) : I1 X A I (.seq l) (fun j h => h.IsTupleIter I a j) (fun P => P.h.get? a = some (iF vs ep) ∧ VRels P l vs) where
  typ := fun j h ⟨o, ho, hc, _⟩ => ⟨o, _, ho, hc, by decide, by decide, by decide⟩
  loc := fun j h h' st k => st.at k
  ext := fun P P' d e => ⟨e.tk _ _ d.1 (nF _ _), VRels.ext d.2 e⟩
  item := fun j P v Q R st d e hQ => by
    obtain ⟨x, hx, rx⟩ := d.2.get (Option.some.inj e)
    exact wpAny_pyNext_tuple_item st ⟨_, d.1, rfl, ep, rfl⟩ (by rw [List.getElem?_toArray]; exact hx) fun h' st' hs => hQ x h' _ rx st' hs
  done := fun j P Q R st d e hQ => wpAny_pyNext_tuple_end hh st ⟨_, d.1, rfl, ep, rfl⟩ (gV d.2 (Option.some.inj e)) hQ
  self := fun j s Q E st q => wpAny_pyIter_tupleiter st q
theorem kU (a b : Int) (j : Nat) : (gJ a b)[j]? = if j < (b - a).toNat then some (.int (a + j)) else none := by
  unfold gJ
  rw [List.getElem?_map]
  split
  · rename_i h; rw [List.getElem?_range h]; rfl
  · rename_i h; rw [List.getElem?_eq_none (by simpa using h)]; rfl
theorem It.range {I : Addr} {a b : Int} (hh : A.handled = none) : I1 X A I (.seq (gJ a b)) (fun j h => IsRangeIter h I (a + j) (((b - a).toNat : Int) - j) 1) (fun _ => True) where
  typ := fun j h st => ⟨_, _, st, rfl, by decide, by decide, by decide⟩
  loc := fun j h h' st k => k _ st
  ext := fun _ _ _ _ => trivial
  item := fun j P v Q R st d e hQ => by
    have e := (kU a b j).symm.trans (Option.some.inj e)
    split at e
    · cases e
      refine wpAny_pyNext_range_item st (by lia) fun h' st' hs => hQ _ h' _ (.int _ _) ?_ hs
      have e1 : a + (j : Int) + 1 = a + ((j + 1 : Nat) : Int) := by lia
      have e2 : ((b - a).toNat : Int) - j - 1 = ((b - a).toNat : Int) - ((j + 1 : Nat) : Int) := by lia
      exact e1 ▸ e2 ▸ st'
    · cases e
  done := fun j P Q R st d e hQ => by
    have e := (kU a b j).symm.trans (Option.some.inj e)
    split at e
    · cases e
    · exact wpAny_pyNext_range_end hh st (by lia) hQ
  self := fun j s Q E st q => wpAny_pyIter_rangeiter st q
theorem BY {σ : AH} {i j : Nat} {r : Option PV} {C : Prop} (e : Src.item σ j (.lst i) = some r) (k : ∀ l, σ.get i = some (.list l) → l[j]? = r → C) : C := by
  unfold Src.item gm at e
  dsimp only at e
  split at e
  · rename_i l hl; exact k l hl (Option.some.inj e)
  · cases e
theorem It.list {I : Addr} {i : Nat} {a : Addr} (hh : A.handled = none) : I1 X A I (.lst i) (fun j h => h.IsListIter I a j) (fun P => i < P.n ∧ P.ι i = a) where
  typ := fun j h ⟨o, ho, hc, _⟩ => ⟨o, _, ho, hc, by decide, by decide, by decide⟩
  loc := fun j h h' st k => st.at k
  ext := fun P P' d e => ⟨Nat.lt_of_lt_of_le d.1 e.nx, (e.ag i d.1).trans d.2⟩
  item := fun j P v Q R st d e hQ => BY e fun l hl e => R.list hl fun vs ep ho hr => by
    obtain ⟨x, hx, rx⟩ := hr.get e
    exact wpAny_pyNext_list_item st ⟨_, d.2 ▸ ho, rfl, ep, rfl⟩ (by rw [List.getElem?_toArray]; exact hx) fun h' st' hs => hQ x h' _ rx st' hs
  done := fun j P Q R st d e hQ => BY e fun l hl e => R.list hl fun vs ep ho hr => wpAny_pyNext_list_end hh st ⟨_, d.2 ▸ ho, rfl, ep, rfl⟩ (gV hr e) hQ
  self := fun j s Q E st q => wpAny_pyIter_listiter st q
theorem kJ {a b : Int} (ha : b7 a = true) (hb : b7 b = true) : Builtin.Range.small a b 1 = true := by
  have ha := of_decide_eq_true ha
  have hb := of_decide_eq_true hb
  have fit : ∀ x : Int, -10000000 ≤ x → x ≤ 10000000 → Builtin.Range.rangeFitsLong x = true := fun x h1 h2 => Bool.and_eq_true_iff.mpr ⟨decide_eq_true (by lia), decide_eq_true (by lia)⟩
  unfold Builtin.Range.small
  rw [rangeSize_one]
  rw [fit a (by lia) (by lia), fit b (by lia) (by lia), fit 1 (by lia) (by lia), fit _ (by split <;> lia) (by split <;> lia)]
  have c : (1 : Int) > 0 := by decide
  rw [if_pos c, fit _ (by lia) (by lia)]
  simp
theorem jw (a b : Int) : Builtin.Range.rangeSize a b 1 = ((b - a).toNat : Int) := by rw [rangeSize_one]; split <;> lia
theorem qW {target : Expr} {a b : Int} {r : Addr} {ta tb tc : Tok} {K : Src → AH → Prop} (hh : A.handled = none) (S1 : Step X ff P P1) (ho : P1.h.get? r = some (sX a b ta tb tc)) (hs : b7 a = true ∧ b7 b = true) (q : K (.seq (gJ a b)) P1.σ) : wpAny X.M A (pyIter (.ref r)) (RetI X A target P K) jm P1.s :=
  wpAny_pyIter_range ho (kJ hs.1 hs.2) (I1.start (tk := P1.s.toks) S1 (It.range hh) (show IsRangeIter _ _ _ _ _ by
    rw [jw, show a + ((0 : Nat) : Int) = a from Int.add_zero a, show ((b - a).toNat : Int) - ((0 : Nat) : Int) = ((b - a).toNat : Int) from Int.sub_zero _]
    exact Heap.get?_push_size _ rfl) trivial q)
theorem vw {target : Expr} {v : PV} {x : Value} {K : Src → AH → Prop} (hh : A.handled = none) (S1 : Step X ff P P1) (r : VRel P1 v x) (q : On (iC v P1.σ) K) : wpAny X.M A (pyIter x) (RetI X A target P K) jm P1.s := by
  cases v <;> try exact q.elim
  · exact r.tupK fun a vs ep ho rr => wpAny_pyIter_tuple ⟨_, ho, rfl, ep, rfl⟩ (I1.start (tk := P1.s.toks) S1 (It.tuple (a := a) (vs := vs) (ep := ep) hh) ⟨_, Heap.get?_push_size _ rfl, rfl, rfl⟩ ⟨ho, rr⟩ q)
  · exact r.objK fun hi => pe q fun l hl q => S1.rel.list hl fun vs ep ho hr => wpAny_pyIter_list ⟨_, ho, rfl, ep, rfl⟩ (I1.start (tk := P1.s.toks) S1 (It.list hh) ⟨_, Heap.get?_push_size _ rfl, rfl, rfl⟩ ⟨hi, rfl⟩ q)
  · exact r.rngK fun r ta tb tc ho => cF q fun hs q => qW hh S1 ho hs q
theorem bJ {target e : Expr} {f : EF} (hf : bD X h env e f) : rY X h env target e (gU f) := fun A P m K hA F q => (hf A P m _ hA F (c9 q)).go fun P1 v x S1 r1 q => vw hA.hd S1 r1 q
end
theorem gz {t : TF} {b g : SF} : ∀ {n : Nat} {m : Loc} {σ : AH} {K : Res × Loc → AH → Prop}, On (cG t b g n m σ) K → ∀ {n'}, n ≤ n' → cG t b g n' m σ = cG t b g n m σ
  | 0, _, _, _, q, _, _ => q.elim
  | n + 1, m, σ, K, q, 0, l => absurd l (Nat.not_succ_le_zero _)
  | n + 1, m, σ, K, q, n' + 1, l => by
    unfold cG at q ⊢
    cases e1 : t m σ with
    | none => rfl
    | some p =>
      obtain ⟨c, σ1⟩ := p
      rw [e1] at q
      cases c with
      | false => rfl
      | true =>
        have q : On (bnd (b m σ1) _) K := q
        show bnd (b m σ1) _ = bnd (b m σ1) _
        cases e2 : b m σ1 with
        | none => rfl
        | some p =>
          obtain ⟨⟨r, m2⟩, σ2⟩ := p
          rw [e2] at q
          cases r with
          | next => exact gz q (Nat.le_of_succ_le_succ l)
          | cont => exact gz q (Nat.le_of_succ_le_succ l)
          | brk => rfl
          | ret v => rfl
theorem vI {t : TF} {b g : SF} {n : Nat} {m : Loc} {σ : AH} {r} (e : cG t b g n m σ = some r) : g6 t b g m σ = some r := by
  have h : ∃ n r, cG t b g n m σ = some r := ⟨n, r, e⟩
  have q : cG t b g h.choose m σ = some h.choose_spec.choose := h.choose_spec.choose_spec
  have on : ∀ {k x}, cG t b g k m σ = some x → On (cG t b g k m σ) fun _ _ => True := fun e => by rw [e]; trivial
  unfold g6
  rw [dif_pos h, ← e, ← q]
  exact (gz (on q) (Nat.le_max_left h.choose n)).symm.trans (gz (on e) (Nat.le_max_right h.choose n))
theorem zk {t : TF} {b g : SF} {m : Loc} {σ : AH} {K : Res × Loc → AH → Prop} (q : On (g6 t b g m σ) K) : ∃ n, On (cG t b g n m σ) K := by
  unfold g6 at q
  split at q
  · rename_i h
    exact ⟨_, by rw [h.choose_spec.choose_spec]; exact q⟩
  · exact q.elim
theorem xc {α : Type} {M : Model} {A : Around} {t : Sem α} {Q : α → Shared → Prop} {E : Value → Shared → Prop} {s : Shared} (h : wpAny M A t Q jm s) : wpAny M A t Q E s := wpAny_mono h (fun _ _ z => z) fun _ _ z => z.elim
section
variable {X : Cxt} {h : Nat} {env : Env}
structure Jn (X : Cxt) (env : Env) (J : List Addr) (P : Pt) : Prop where
  fr : ∀ b ∈ J, P.h.get? b = none
  fx : ∀ b, FX env b → b ∉ J
  cl : ∀ x c, env.cells.lookup x = some c → c ∉ J
theorem Jn.of {J : List Addr} {P : Pt} {m : Loc} (F : Fr X env m P) (fr : ∀ b ∈ J, P.h.get? b = none) : Jn X env J P :=
  ⟨fr, fun b q hb => (vp F q).elim fun o z => cK (fr b hb) z.1, fun x c l hb => (F.cellAt l).elim fun o z => cK (fr c hb) z.1⟩
theorem It.nt {A : Around} {target : Expr} {J : List Addr} {I : Addr} {src : Src} {St : Nat → Pt → Prop} (T : It X A target J I src St) {j : Nat} {P : Pt} (st : St j P) : ∀ b ∈ J, ∀ o, P.h.get? b = some o → ¬ oU o := fun b hb o e => (T.alive j P st b hb).elim fun o' z => Option.some.inj (z.1.symm.trans e) ▸ z.2
theorem It.next {A : Around} {target : Expr} {J : List Addr} {I : Addr} {src : Src} {St : Nat → Pt → Prop} (T : It X A target J I src St) {Y : Addr → Prop} {j : Nat} {P P' : Pt} (jx : ∀ b, Y b → b ∉ J) (st : St j P) (f : Free X J P) (S : Step X Y P P') : St j P' ∧ Free X J P' :=
  ⟨T.frame j P P' st (fun b hb o e => S.keep b o e (fun i hi q => f.own b hb i hi q.symm) fun q => jx b q hb) S.ext, fun b hb => (T.alive j P st b hb).elim fun o z => S.ne z.1 (f.own b hb), f.base⟩
theorem It.next' {A : Around} {target : Expr} {J : List Addr} {I : Addr} {src : Src} {St : Nat → Pt → Prop} (T : It X A target J I src St) (j : Nat) (P : Pt) (v : PV) {n : Shared → Prop} {q : Value → Shared → Prop} {E E' : Value → Shared → Prop} (R : HRel X P) (st : St j P) (f : Free X J P) (e : src.item P.σ j = some (some v))
    (k : ∀ x s', Step X (· ∈ J) P (P.at s') → VRel (P.at s') v x → St (j + 1) (P.at s') → q x s') : wpAny X.M A (pyNext (.ref I)) (fun r s => match r with | none => n s | some x => wpAny X.M A (letOwnedTupleGo target (.ref I) x) (fun _ s' => q x s') E' s) E P.s :=
  wpAny_mono (T.item j P v q R st f e k) (fun r s ⟨x, e, z⟩ => by subst e; exact xc z) fun _ _ z => z.elim
theorem cN {target iter : Expr} {body orelse : List Stmt} {pos : Pos} {f : IF} {a : AF} {b g : SF} (hs : ∀ x, foldedSetIterable iter env x = pure x) (hf : rY X h env target iter f) (ha : lm X (FX env) h env target a) (hb : hX X h env body b) (hg : hX X h env orelse g) :
    h7 X h env (.For target iter body orelse pos) (gt f a b g) := fun A P m K hA F q => by
  refine wpAny_For (wpAny_mono (hf A P m _ hA F (c9 q)) (fun x s₁ hx => wpAny_mono hx (fun it s₂ hx => ?_) fun _ _ z => z) fun _ _ z => z) hs
  refine hx.rec fun P1 J I src St S1 T st fj q => ?_
  have jn := Jn.of F fun b hb => (fj b hb).1
  let Y : Addr → Prop := fun b => FX env b ∨ b ∈ J
  let Inv : Nat → Shared → Prop := fun n s' => ∃ j P2 m2, P2.s = s' ∧ Step X Y P P2 ∧ Fr X env m2 P2 ∧ St j P2 ∧ Free X J P2 ∧ On (um a b g src n j m2 P2.σ) K
  refine codeAny_forLoop_any Inv ?_ (src.len P1.σ + 1) ⟨0, P1, m, rfl, S1.any, F.stepN S1, st, ⟨fun b hb => (fj b hb).2, fun b hb => F.rel.base (jn.fr b hb)⟩, q⟩
  rintro n s₃ ⟨j, P2, m2, rfl, S, F2, st, fe, q⟩
  cases n with
  | zero => exact q.elim
  | succ n =>
  have dropJ : ∀ {P' : Pt} {j' : Nat} {s' : Shared}, Step X Y P P' → St j' P' → Free X J P' → (∀ b o, b ∉ J → P'.h.get? b = some o → s'.heap.get? b = some o) → s'.gens = P'.s.gens → s'.os = P'.s.os → Step X (FX env) P (P'.at s') := fun S st fe k g os => .drop F.rel S jn.fr fe.own (T.nt st) k g os
  unfold um at q
  cases hitem : src.item P2.σ j with
  | none => rw [hitem] at q; exact q.elim
  | some o =>
    rw [hitem] at q
    cases o with
    | none =>
      refine xc (T.done j P2 _ S.rel st fe hitem fun s' hk hg' ho => ?_)
      have S4 := dropJ S st fe hk hg' ho
      have F4 : Fr X env m2 (P2.at s') := F2.at S4.rel ⟨fun b o e i => hk b o (fun q => T.nt st b q o e i) e, fun _ _ => rfl, Nat.le_refl _⟩ (fun _ _ _ n => n) (fun o e => hk _ o (jn.fx _ (.inl rfl)) e) fun x c o l e => hk _ o (jn.cl x c l) e
      exact xc ((hg A _ m2 K hA F4 q).back S4)
    | some v =>
      refine T.next' j P2 v S.rel st fe hitem fun x s' S5 r5 st5 => ?_
      have F5 : Fr X env m2 (P2.at s') := F2.step S5 (jn.fx _ (.inl rfl)) jn.cl
      have SJ : Step X Y P (P2.at s') := S.trans (S5.monoX fun b _ q => .inr q)
      refine (ha A _ m2 v x _ hA F5 r5 (c9 q)).go fun P6 m6 _ _ S6 F6 _ q => ?_
      have st6 := T.next jn.fx st5 ⟨fe.own, fe.base⟩ S6
      refine (hb A P6 m6 _ hA F6 (c9 q)).go fun P7 m7 r fl S7 F7 fr q => ?_
      have st7 := T.next jn.fx st6.1 st6.2 S7
      have SE : Step X Y P P7 := SJ.trans ((S6.trans S7).monoX fun _ _ q => .inl q)
      cases fr with
      | next => exact ⟨n, Nat.lt_succ_self _, j + 1, P7, m7, rfl, SE, F7, st7.1, st7.2, q⟩
      | cont => exact ⟨n, Nat.lt_succ_self _, j + 1, P7, m7, rfl, SE, F7, st7.1, st7.2, q⟩
      | brk => exact .mk P7 m7 Res.next (dropJ SE st7.1 st7.2 (fun _ _ _ e => e) rfl rfl) F7 .next (show K _ _ from q)
      | ret rr => exact .mk P7 m7 (Res.ret _) (dropJ SE st7.1 st7.2 (fun _ _ _ e => e) rfl rfl) F7 (.ret rr) (show K _ _ from q)
theorem n7 {test : Expr} {body orelse : List Stmt} {pos : Pos} {t : TF} {b g : SF} (ht : fI X h env test t) (hb : hX X h env body b) (hg : hX X h env orelse g) {A : Around} {P : Pt} {m : Loc} {K : Res × Loc → AH → Prop} (hA : Ar h A) (F : Fr X env m P) (n : Nat) (q : On (cG t b g n m P.σ) K) :
    WS X (FX env) env A (exec (.While test body orelse pos) env) P FlowRel (KS K) := by
  refine wpAny_While ?_
  let Inv : Nat → Shared → Prop := fun n s' => ∃ P2 m2, P2.s = s' ∧ Step X (FX env) P P2 ∧ Fr X env m2 P2 ∧ On (cG t b g n m2 P2.σ) K
  refine codeAny_whileLoop Inv ?_ n ⟨P, m, rfl, .refl F.rel, F, q⟩
  rintro n s₁ ⟨P1, m1, rfl, S1, F1, q⟩
  cases n with
  | zero => exact q.elim
  | succ n =>
  unfold cG at q
  refine (ht A P1 m1 _ hA F1 (c9 q)).go fun P2 c x S2 e q => ?_
  cases e
  have S12 := S1.trans S2.any
  cases c with
  | false => exact (hg A P2 m1 K hA (F1.stepN S2) q).back S12
  | true =>
    refine (hb A P2 m1 _ hA (F1.stepN S2) (c9 q)).go fun P7 m7 r fl S7 F7 fr q => ?_
    have SE := S12.trans S7
    cases fr with
    | next => exact ⟨n, Nat.lt_succ_self _, P7, m7, rfl, SE, F7, q⟩
    | cont => exact ⟨n, Nat.lt_succ_self _, P7, m7, rfl, SE, F7, q⟩
    | brk => exact .mk P7 m7 Res.next SE F7 .next (show K _ _ from q)
    | ret rr => exact .mk P7 m7 (Res.ret _) SE F7 (.ret rr) (show K _ _ from q)
theorem lF {test : Expr} {body orelse : List Stmt} {pos : Pos} {t : TF} {b g : SF} (ht : fI X h env test t) (hb : hX X h env body b) (hg : hX X h env orelse g) : h7 X h env (.While test body orelse pos) (g6 t b g) := fun A P m K hA F q => (zk q).elim fun n q => n7 ht hb hg hA F n q
theorem tP {test : Expr} {body orelse : List Stmt} {pos : Pos} {t : TF} {b g : SF} {n : Nat} (ht : fI X h env test t) (hb : hX X h env body b) (hg : hX X h env orelse g) : h7 X h env (.While test body orelse pos) (cG t b g n) := fun A P m K hA F q => n7 ht hb hg hA F n q
end
noncomputable def CX (env : Env) (D : Addr) : Addr → Prop := fun b => b = env.locals ∨ b = D
structure AccAt (X : Cxt) (env : Env) (D : Addr) : Prop where
  loc : D ≠ env.locals
  cell : ∀ x c, env.cells.lookup x = some c → c ≠ D
  base : X.hp.get? D = none
structure Acc (D : Addr) (P : Pt) (ys : List PV) : Prop where
  at_ : ∃ yv ep, P.h.get? D = some (ef yv ep) ∧ VRels P ys yv
  own : ∀ i, i < P.n → P.ι i ≠ D
inductive RetC (X : Cxt) (env : Env) (D : Addr) (P : Pt) (K : List PV × Loc → AH → Prop) : Shared → Prop
  | mk (P' : Pt) (m' : Loc) (ys' : List PV) : Step X (CX env D) P P' → Fr X env m' P' → Acc D P' ys' → K (ys', m') P'.σ → RetC X env D P K P'.s
section
variable (X : Cxt) (h : Nat) (env : Env)
noncomputable def qZ (D : Addr) (t : Sem PySem.Fin → Sem PySem.Fin) (f : CF) : Prop := ∀ A P m ys K, Ar h A → Fr X env m P → Acc D P ys → On (f ys m P.σ) K →
  ∀ (c : Sem PySem.Fin) (Q : PySem.Fin → Shared → Prop) (E : Value → Shared → Prop), (∀ s', RetC X env D P K s' → wpAny X.M A c Q E s') → wpAny X.M A (t c) Q E P.s
noncomputable def sa (ifs : List Expr) (f : TF) : Prop := ∀ A P m K, Ar h A → Fr X env m P → On (f m P.σ) K →
  W X A (forIn ifs true fun c r => if r = true then do let ok ← isTrue c env (eval c env); pure (ForInStep.yield ok) else pure (ForInStep.yield r)) P B5 K
end
section
variable {X : Cxt} {h : Nat} {env : Env} {D : Addr} {P P' : Pt} {m : Loc} {Y : Addr → Prop} {ys : List PV}
theorem Acc.step (a : Acc D P ys) (S : Step X Y P P') (hx : ¬ Y D) : Acc D P' ys := let ⟨yv, ep, hd, r⟩ := a.at_; ⟨⟨yv, ep, S.keep D _ hd (fun i h q => a.own i h q.symm) hx, VRels.ext r S.ext⟩, S.ne hd a.own⟩
theorem dS : sa X h env [] eN := fun A P m K hA F q => wpAny_tests_nil (.here F.rel rfl q)
theorem gS {c : Expr} {t : TF} (ht : fI X h env c t) : sa X h env [c] t := fun A P m K hA F q => wpAny_tests_one (ht A P m K hA F q)
noncomputable def sM (elt : Expr) (acc : Value) (env : Env) (c : Sem PySem.Fin) : Sem PySem.Fin := (do let _ ← call (.builtin "list.append") [acc, ← eval elt env]) >>= fun _ => c
theorem cv {elt : Expr} {f : EF} (hf : bD X h env elt f) (hD : AccAt X env D) : qZ X h env D (sM elt (.ref D) env) (dH f) := fun A P m ys K hA F a q c Q E hc => cF q fun hz q =>
  wpAny_bind (wpAny_bind ((hf A P m _ hA F (c9 q)).go fun P1 v x S1 r1 q => by
    have a1 := a.step S1 id
    obtain ⟨yv, ep, hd, rr⟩ := a1.at_
    refine wpAny_bind (wpAny_list_append_plain (items := yv.toArray) ⟨ep, hd⟩ (fun h' hl hs => wpAny_pure (hc _ ?_)) (zr rr hz))
    obtain ⟨ep', ho'⟩ := hl
    have ho2 : h'.get? D = some (ef (yv ++ [x]) ep') := by rw [ho']; simp [ef]
    have S2 : Step X (· = D) P1 ⟨P1.ι, P1.σ, { P1.s with heap := h' }⟩ := .onlyX S1.rel (fun b ob e n => (hs.2 b n).trans e) (fun i hi e => a1.own i hi e) (fun b ob e q => cK (q ▸ hD.base) e) (fun b o q e => Option.some.inj (hd.symm.trans (q ▸ e)) ▸ f7 _ _) (iT ho2 fun b o n e => (hs.2 b n).trans e) rfl rfl
    exact .mk _ m _ (S1.any.trans (S2.monoX fun b _ q => Or.inr q)) ((F.stepN S1).step S2 (fun q => hD.loc q.symm) fun x c l => hD.cell x c l) ⟨⟨yv ++ [x], ep', ho2, (VRels.ext rr S2.ext).snoc (r1.step S2)⟩, a1.own⟩ q))
noncomputable def ot (elt : Expr) (gens : List Comprehension) (scope : Scope) (pos : Pos) (d : Nat) (target iter : Expr) (ifs : List Expr) (T : Value → Env → Sem PySem.Fin → Sem PySem.Fin) : Prop :=
  ∀ (it acc : Value) (env : Env), compTurn (.ListComp elt gens scope pos) d it acc env = (do
      standAt iter.pos
      match ← pyNext it with
      | none => pure (.done .next)
      | some v =>
        letOwnedTupleGo target it v
        assign target env v
        let mut ok := true
        for c in ifs do
          if ok then ok ← isTrue c env (eval c env)
        if ok then
          T acc env (again (.compLoop (.ListComp elt gens scope pos) d it acc env))
        else
          again (.compLoop (.ListComp elt gens scope pos) d it acc env))
structure Began (env : Env) (D : Addr) (J : List Addr) (P : Pt) : Prop where
  fr : ∀ b ∈ J, P.h.get? b = none
  loc : env.locals ∉ J
  cell : ∀ x c, env.cells.lookup x = some c → c ∉ J
  acc : D ∉ J
theorem It.nextB {A : Around} {target : Expr} {J : List Addr} {I : Addr} {src : Src} {St : Nat → Pt → Prop} (T : It X A target J I src St) (j : Nat) (P : Pt) (v : PV) {n : Sem PySem.Fin} {c : Value → Sem PySem.Fin} {Q : PySem.Fin → Shared → Prop} {E E' : Value → Shared → Prop} (R : HRel X P) (st : St j P) (f : Free X J P) (e : src.item P.σ j = some (some v))
    (k : ∀ x s', Step X (· ∈ J) P (P.at s') → VRel (P.at s') v x → St (j + 1) (P.at s') → wpAny X.M A (c x) Q E s') : wpAny X.M A (pyNext (.ref I)) (fun r s => wpAny X.M A (match r with | none => n | some x => letOwnedTupleGo target (.ref I) x >>= fun _ => c x) Q E s) E' P.s :=
  wpAny_mono (T.item j P v (fun x s => wpAny X.M A (c x) Q E s) R st f e k) (fun r s ⟨x, e, z⟩ => by subst e; exact wpAny_bind (xc z)) fun _ _ z => z.elim
theorem zE {elt : Expr} {gens : List Comprehension} {scope : Scope} {pos : Pos} {d : Nat} {target iter : Expr} {ifs : List Expr} {T : Value → Env → Sem PySem.Fin → Sem PySem.Fin} {a : AF} {t : TF} {b : CF} (hT : ot elt gens scope pos d target iter ifs T)
    (ha : lm X (LX env) h env target a) (ht : sa X h env ifs t) (hb : qZ X h env D (T (.ref D) env) b) (hD : AccAt X env D)
    {A : Around} {P0 P1 : Pt} {m1 : Loc} {ys1 : List PV} {src : Src} {I : Addr} {J : List Addr} {St : Nat → Pt → Prop} {fuel : Nat} {R : Result → Shared → Prop} {K : List PV × Loc → AH → Prop}
    (hA : Ar h A) (R0 : HRel X P0) (N : It X A target J I src St) (Z : Began env D J P0) (S1 : Step X (fun b => CX env D b ∨ b ∈ J) P0 P1) (F1 : Fr X env m1 P1) (a1 : Acc D P1 ys1) (st1 : St 0 P1) (f1 : Free X J P1) (q : On (gT a t b src fuel 0 ys1 m1 P1.σ) K)
    (hR : ∀ s', RetC X env D P0 K s' → R (.ok .next) s') : codeAny X.M A (.compLoop (.ListComp elt gens scope pos) d (.ref I) (.ref D) env) R P1.s := by
  have jx : ∀ b, CX env D b → b ∉ J := fun b q => q.elim (fun q => q ▸ Z.loc) fun q => q ▸ Z.acc
  let Y : Addr → Prop := fun b => CX env D b ∨ b ∈ J
  let Inv : Nat → Shared → Prop := fun n s' => ∃ j P2 m2 ys2, P2.s = s' ∧ Step X Y P0 P2 ∧ Fr X env m2 P2 ∧ Acc D P2 ys2 ∧ St j P2 ∧ Free X J P2 ∧ On (gT a t b src n j ys2 m2 P2.σ) K
  refine codeAny_loop rfl Inv ?_ fuel ⟨0, P1, m1, ys1, rfl, S1, F1, a1, st1, f1, q⟩
  rintro n s₃ ⟨j, P2, m2, ys2, rfl, S, F2, a2, st, f2, q⟩
  cases n with
  | zero => exact q.elim
  | succ n =>
  unfold gT at q
  show wpAny _ A ((compTurn (.ListComp elt gens scope pos) d (.ref I) (.ref D) env).onRaise (fun x => do noteFrame x env; theTreesLotGoes x)) _ _ P2.s
  refine wpAny_noted ?_
  rw [hT]
  refine wpAny_bind (wpAny_standAt (wpAny_bind ?_))
  cases hitem : src.item P2.σ j with
  | none => rw [hitem] at q; exact q.elim
  | some o =>
    rw [hitem] at q
    cases o with
    | none =>
      refine xc (N.done j P2 _ S.rel st f2 hitem fun s' hk hg ho => wpAny_pure (hR _ ?_))
      have e : Ext P2 (P2.at s') := ⟨fun b o e i => hk b o (fun q => N.nt st b q o e i) e, fun _ _ => rfl, Nat.le_refl _⟩
      have S4 : Step X (CX env D) P0 (P2.at s') := .drop R0 S Z.fr f2.own (N.nt st) hk hg ho
      obtain ⟨yv, ep, hd, rr⟩ := a2.at_
      exact .mk (P2.at s') m2 ys2 S4 (F2.at S4.rel e (fun _ _ _ n => n) (fun o e => hk _ o Z.loc e) fun x c o l e => hk _ o (Z.cell x c l) e) ⟨⟨yv, ep, hk _ _ Z.acc hd, VRels.ext rr e⟩, a2.own⟩ q
    | some v =>
      refine N.nextB j P2 v S.rel st f2 hitem fun x s' S5 r5 st5 => ?_
      have F5 : Fr X env m2 (P2.at s') := F2.step S5 Z.loc Z.cell
      have a5 := a2.step S5 Z.acc
      refine wpAny_bind ((ha A _ m2 v x _ hA F5 r5 (c9 q)).go fun P6 m6 _ _ S6 F6 _ q => wpAny_bind ((ht A P6 m6 _ hA F6 (c9 q)).go fun P7 ok _ S7 e7 q => ?_))
      cases e7
      have st6 := N.next (Y := LX env) (fun b q => q ▸ Z.loc) st5 ⟨f2.own, f2.base⟩ S6
      have st7 := N.next (Y := ff) (fun b q => q.elim) st6.1 st6.2 S7
      have a7 := (a5.step S6 hD.loc).step S7 id
      have F7 := F6.stepN S7
      have SJ : Step X Y P0 P7 := (S.trans (S5.monoX fun b _ q => .inr q)).trans ((S6.monoX (Z := Y) fun b _ q => .inl (.inl q)).trans S7.any)
      have q := c9 q
      cases ok with
      | false => exact wpAny_pure ⟨rfl, n, Nat.lt_succ_self _, j + 1, P7, _, _, rfl, SJ, F7, a7, st7.1, st7.2, q⟩
      | true =>
        refine hb A P7 m6 ys2 _ hA F7 a7 q _ _ _ fun s' z => z.rec fun P8 m8 ys8 S8 F8 A8 q => ?_
        have st8 := N.next jx st7.1 st7.2 S8
        exact wpAny_pure ⟨rfl, n, Nat.lt_succ_self _, j + 1, P8, _, _, rfl, SJ.trans (S8.monoX fun b _ q => .inl q), F8, A8, st8.1, st8.2, q⟩
theorem dA {elt target iter : Expr} {ifs : List Expr} {scope : Scope} {pos : Pos} : ot elt [⟨target, iter, ifs, 0⟩] scope pos 0 target iter ifs (sM elt) := fun it acc env => rfl
noncomputable def xS (elt : Expr) (gens : List Comprehension) (scope : Scope) (pos : Pos) (iter : Expr) (acc : Value) (env : Env) (c : Sem PySem.Fin) : Sem PySem.Fin := do
  let x ← eval iter env
  standAt iter.pos
  let x ← foldedSetIterable iter env x
  let _ ← runOwn (.compStart (.ListComp elt gens scope pos) 1 (← holding [x] (pyIter x)) acc env) env
  c
theorem nD {elt target iter t2 i2 : Expr} {ifs f2 : List Expr} {scope : Scope} {pos : Pos} : ot elt [⟨target, iter, ifs, 0⟩, ⟨t2, i2, f2, 0⟩] scope pos 0 target iter ifs (xS elt [⟨target, iter, ifs, 0⟩, ⟨t2, i2, f2, 0⟩] scope pos i2) := fun it acc env => rfl
theorem uq {elt target iter t2 i2 : Expr} {ifs f2 : List Expr} {scope : Scope} {pos : Pos} : ot elt [⟨target, iter, ifs, 0⟩, ⟨t2, i2, f2, 0⟩] scope pos 1 t2 i2 f2 (sM elt) := fun it acc env => rfl
theorem h8 {A : Around} {R : Result → Shared → Prop} {s : Shared} {elt t1 i1 t2 i2 : Expr} {f1 f2 : List Expr} {scope : Scope} {pos : Pos} {it acc : Value} {env : Env}
    (h0 : codeAny X.M A (.compLoop (.ListComp elt [⟨t1, i1, f1, 0⟩, ⟨t2, i2, f2, 0⟩] scope pos) 1 it acc env) R s)
    (h : wpAny X.M A (pyIter it) (fun it' s' => codeAny X.M A (.compLoop (.ListComp elt [⟨t1, i1, f1, 0⟩, ⟨t2, i2, f2, 0⟩] scope pos) 1 it' acc env) R s') (notedBy X.M A env fun x s' => R (.error x) s') s) :
    codeAny X.M A (.compStart (.ListComp elt [⟨t1, i1, f1, 0⟩, ⟨t2, i2, f2, 0⟩] scope pos) 1 it acc env) R s := by
  refine codeAny_of_tree ?_
  show wpAny _ _ ((compStart (.ListComp elt [⟨t1, i1, f1, 0⟩, ⟨t2, i2, f2, 0⟩] scope pos) 1 it acc env).onRaise (fun x => do noteFrame x env; standAt theWindowsPlace)) _ _ s
  refine wpAny_notedAt ?_
  unfold compStart
  show wpAny _ _ (ask >>= _) _ _ s
  refine wpAny_bind (wpAny_askSetting (wpAny_ite ?_))
  split
  · first
      | exact wpAny_bind (wpAny_pure (wpAny_pure (And.intro rfl h0)))
      | exact wpAny_pure (And.intro rfl h0)
  · first
      | exact wpAny_bind (wpAny_rule (wpAny_bind (wpAny_standAt (wpAny_bind (wpAny_mono h (fun it' s' h' => wpAny_pure (And.intro rfl h')) fun _ _ x => x)))))
      | (refine wpAny_bind (wpAny_rule ?_); show wpAny _ _ (standAt i2.pos >>= _) _ _ s; exact wpAny_bind (wpAny_standAt (wpAny_bind (wpAny_mono h (fun it' s' h' => wpAny_pure (And.intro rfl h')) fun _ _ x => x))))
theorem pA {elt t1 i1 t2 i2 : Expr} {f1 f2 : List Expr} {scope : Scope} {pos : Pos} {f : IF} {a : AF} {t : TF} {b : CF} (hs : ∀ x, foldedSetIterable i2 env x = pure x)
    (hf : rY X h env t2 i2 f) (ha : lm X (LX env) h env t2 a) (ht : sa X h env f2 t) (hb : qZ X h env D (sM elt (.ref D) env) b) (hD : AccAt X env D) :
    qZ X h env D (xS elt [⟨t1, i1, f1, 0⟩, ⟨t2, i2, f2, 0⟩] scope pos i2 (.ref D) env) (uk f a t b) := fun A P m ys K hA F ac q c Q E hc => by
  unfold xS
  refine wpAny_bind (wpAny_mono (hf A P m _ hA F (c9 q)) (fun x s₁ hx => wpAny_bind (wpAny_standAt (wpAny_bind (wpAny_of_eq (hs x) (wpAny_bind (wpAny_holding (wpAny_mono hx (fun it s₂ hx => ?_) fun _ _ z => z.elim))))))) fun _ _ z => z.elim)
  refine hx.rec fun P1 J I src St S1 N st fj q => ?_
  have jn := Jn.of F fun b hb => (fj b hb).1
  have loop := zE (R := fun r s' => match r with | .ok _ => wpAny X.M A c Q E s' | .error e => cameBackBy X.M A env E e s') (uq (elt := elt) (target := t1) (iter := i1) (t2 := t2) (i2 := i2) (ifs := f1) (f2 := f2) (scope := scope) (pos := pos))
    ha ht hb hD hA F.rel N ⟨jn.fr, jn.fx _ (.inl rfl), jn.cl, fun hb => ac.at_.elim fun _ z => z.elim fun _ z => cK (jn.fr _ hb) z.1⟩ S1.any (F.stepN S1) (ac.step S1 id) st ⟨fun b hb => (fj b hb).2, fun b hb => F.rel.base (jn.fr b hb)⟩ q hc
  exact wpAny_bind (wpAny_runOwn (h8 loop (N.self 0 P1 _ _ st loop)))
end
noncomputable def oY (env : Env) : List (Str × NameKind) → List (Str × Addr)
  | [] => []
  | (n, k) :: r => oY env r ++ (if k == .free then ((env.cells.lookup n).map fun c => (n, c)).toList else [])
structure CompOk (env : Env) (scope : Scope) (caps : List String) : Prop where
  kind : scope.kind = .function
  nocell : ∀ p ∈ scope.names, p.2 ≠ .cell
  free : ∀ p ∈ scope.names, p.2 = .free → env.kindOf p.1 = some .cell
  loc : ∀ p ∈ scope.names, p.2 = .local → scope.names.lookup p.1 = some .local
  caps : ∀ x ∈ caps, (nm x, NameKind.free) ∈ scope.names ∧ scope.names.lookup (nm x) = some .free
noncomputable def u9 (env : Env) (scope : Scope) (caps : List String) : Bool :=
  (scope.kind == .function) && scope.names.all (fun p => p.2 != .cell) && scope.names.all (fun p => p.2 != .free || env.kindOf p.1 == some .cell) &&
    scope.names.all (fun p => p.2 != .local || scope.names.lookup p.1 == some .local) && caps.all (fun x => scope.names.any (fun p => p.1 == nm x && p.2 == .free) && scope.names.lookup (nm x) == some .free)
theorem BI {a b : NameKind} {c : Bool} (h : (a != b || c) = true) (e : a = b) : c = true := by subst e; simpa using h
theorem cQ {env : Env} {scope : Scope} {caps : List String} (e : u9 env scope caps = true) : CompOk env scope caps := by
  unfold u9 at e
  simp only [Bool.and_eq_true, List.all_eq_true] at e
  obtain ⟨⟨⟨⟨e1, e2⟩, e3⟩, e4⟩, e5⟩ := e
  refine ⟨beq_iff_eq.mp e1, fun p hp => bne_iff_ne.mp (e2 p hp), fun p hp q => beq_iff_eq.mp (BI (e3 p hp) q), fun p hp q => beq_iff_eq.mp (BI (e4 p hp) q), fun x hx => ⟨?_, beq_iff_eq.mp (e5 x hx).2⟩⟩
  obtain ⟨p, hp, hpe⟩ := List.any_eq_true.mp (e5 x hx).1
  obtain ⟨h1, h2⟩ := Bool.and_eq_true_iff.mp hpe
  exact (beq_iff_eq.mp h1) ▸ (beq_iff_eq.mp h2) ▸ hp
section
variable {X : Cxt} {h : Nat} {env : Env} {D : Addr} {P : Pt} {m : Loc}
theorem sN {x : Str} {c : Addr} : ∀ {l : List (Str × NameKind)}, (x, c) ∈ oY env l → env.cells.lookup x = some c
  | (n, k) :: r, h => (List.mem_append.mp h).elim sN fun h => by
    split at h
    · cases e : env.cells.lookup n with
      | none => rw [e] at h; cases h
      | some c' =>
        rw [e] at h
        cases List.mem_singleton.mp h
        exact e
    · cases h
theorem rA {x : Str} {c : Addr} (hc : env.cells.lookup x = some c) : ∀ {l : List (Str × NameKind)}, (x, NameKind.free) ∈ l → ∃ c, (x, c) ∈ oY env l
  | (n, k) :: r, h => (List.mem_cons.mp h).elim (fun h => by cases h; exact ⟨c, List.mem_append_right _ (by rw [hc]; exact .head _)⟩) fun h => (rA hc h).elim fun c e => ⟨c, List.mem_append_left _ e⟩
theorem js {x : Str} {c : Addr} : ∀ {l : List (Str × Addr)}, (x, c) ∈ l → ∃ c', l.lookup x = some c'
  | (n, d) :: r, h => by
    unfold List.lookup
    cases q : x == n with
    | true => exact ⟨d, rfl⟩
    | false => exact (List.mem_cons.mp h).elim (fun h => by cases h; exact absurd rfl (beq_eq_false_iff_ne.mp q)) js
theorem dM {x : Str} {c : Addr} {l : List (Str × NameKind)} (h : (oY env l).lookup x = some c) : env.cells.lookup x = some c := sN (mem_of_lookup h)
theorem pM {x : Str} {c : Addr} {l : List (Str × NameKind)} (hc : env.cells.lookup x = some c) (h : (x, NameKind.free) ∈ l) : (oY env l).lookup x = some c := (rA hc h).elim fun c' h => (js h).elim fun c'' e => by
  rw [e, ← dM e, hc]
theorem jK : ∀ (l : List (Str × NameKind)) (cs : List (Str × Addr)), (∀ p ∈ l, p.2 = .free → (env.cells.lookup p.1).isSome) →
    (forIn l cs fun (p : Str × NameKind) (cs : List (Str × Addr)) => if (p.2 == .free) = true then do let c ← cellOf env p.1; pure (ForInStep.yield ((p.1, c) :: cs)) else pure (ForInStep.yield cs) : Sem (List (Str × Addr))) = pure (oY env l ++ cs)
  | [], cs, _ => rfl
  | (n, k) :: r, cs, h => by
    rw [List.forIn_cons]
    by_cases q : (k == NameKind.free) = true
    · obtain ⟨c, e⟩ := Option.isSome_iff_exists.mp (h (n, k) (.head _) (beq_iff_eq.mp q))
      have e : env.cells.lookup n = some c := e
      have e1 : cellOf env n = pure c := by unfold cellOf; rw [e]
      have ih := jK r ((n, c) :: cs) fun p hp => h p (.tail _ hp)
      dsimp only
      rw [if_pos q, e1]
      unfold oY
      rw [if_pos q, e, List.append_assoc]
      exact ih
    · have ih := jK r cs fun p hp => h p (.tail _ hp)
      dsimp only
      rw [if_neg q]
      unfold oY
      rw [if_neg q, List.append_nil]
      exact ih
theorem oL {scope : Scope} (h : ∀ p ∈ scope.names, p.2 = .free → (env.cells.lookup p.1).isSome) : closureFor scope env = pure (oY env scope.names) := by
  have := jK scope.names [] h
  rw [List.append_nil] at this
  unfold closureFor
  exact (congrArg (fun t => t >>= pure) this).trans rfl
theorem qh {x : Str} {l : List (Str × NameKind)} (hn : ∀ p ∈ l, p.2 ≠ NameKind.cell) (hf : env.scope.kind = .function) :
    ((l.map fun (n, k) => if (k == NameKind.free && env.scope.kind == .function && env.kindOf n == some .cell) then (n, NameKind.cell) else (n, k)).lookup x = some .cell → (x, NameKind.free) ∈ l ∧ env.kindOf x = some .cell) ∧
    (env.kindOf x = some .cell → l.lookup x = some .free → (l.map fun (n, k) => if (k == NameKind.free && env.scope.kind == .function && env.kindOf n == some .cell) then (n, NameKind.cell) else (n, k)).lookup x = some .cell) := by
  refine ⟨fun h => ?_, fun hk h => ?_⟩
  · obtain ⟨⟨n', k'⟩, hm, e⟩ := List.mem_map.mp (mem_of_lookup h)
    dsimp only at e
    split at e
    · rename_i q
      cases e
      obtain ⟨q, q3⟩ := Bool.and_eq_true_iff.mp q
      exact ⟨(beq_iff_eq.mp (Bool.and_eq_true_iff.mp q).1) ▸ hm, beq_iff_eq.mp q3⟩
    · cases e
      exact absurd rfl (hn _ hm)
  · clear hn
    induction l with
    | nil => cases h
    | cons p r ih =>
      obtain ⟨n, k⟩ := p
      unfold List.lookup at h
      rw [List.map_cons]
      cases q : x == n with
      | true =>
        rw [q] at h
        cases h
        have e := beq_iff_eq.mp q
        subst e
        dsimp only
        rw [if_pos (by rw [hf, hk]; decide)]
        unfold List.lookup
        rw [beq_self_eq_true]
      | false =>
        rw [q] at h
        have ih := ih h
        dsimp only
        split <;> (unfold List.lookup; rw [q]; exact ih)
noncomputable abbrev p4 (scope : Scope) (env : Env) (C : Addr) : Env := compEnvC scope (oY env scope.names) C env
structure CompAll (X : Cxt) (h : Nat) (env : Env) (scope : Scope) (caps : List String) (target iter : Expr) (ifs : List Expr) (T : Value → Env → Sem PySem.Fin → Sem PySem.Fin) (f : IF) (a : AF) (t : TF) (b : CF) : Prop where
  ok : CompOk env scope caps
  hs : ∀ x, foldedSetIterable iter env x = pure x
  hf : rY X h env target iter f
  ha : ∀ C, lm X (LX (p4 scope env C)) h (p4 scope env C) target a
  ht : ∀ C, sa X h (p4 scope env C) ifs t
  hb : ∀ C D, AccAt X (p4 scope env C) D → qZ X h (p4 scope env C) D (T (.ref D) (p4 scope env C)) b
structure Made (X : Cxt) (P P1 : Pt) (D C : Addr) (ys : List PV) : Prop where
  step : Step X ff P P1
  fD : P.h.get? D = none
  fC : P.h.get? C = none
  ne : C ≠ D
  acc : Acc D P1 ys
  ownC : ∀ i, i < P1.n → P1.ι i ≠ C
  above : X.n0 ≤ D
  ns : ∃ mm, P1.h.Ns C mm
theorem lp {elt target iter : Expr} {ifs : List Expr} {rest : List Comprehension} {scope : Scope} {pos p2 : Pos} {caps : List String} {T : Value → Env → Sem PySem.Fin → Sem PySem.Fin} {f : IF} {a : AF} {t : TF} {b : CF}
    (hT : ot elt (⟨target, iter, ifs, 0⟩ :: rest) scope pos 0 target iter ifs T) (U : CompAll X h env scope caps target iter ifs T f a t b)
    {A : Around} {use : Option (Value → Sem Unit)} {Q : Value → Shared → Prop} {K : PV → AH → Prop} (hA : Ar h A) (F : Fr X env m P) (q : On (dR caps f a t b m P.σ) K)
    (hQ : ∀ ys P1 D C, Made X P P1 D C ys → K (.obj P1.n) (P1.σ.new (.list ys)) → compPost X.M A jm use Q (.ref D) C (.ok .next) P1.s) :
    wpAny X.M A (comprehension (.ListComp elt (⟨target, iter, ifs, 0⟩ :: rest) scope pos) scope env p2 (newList []) false (eval iter env) use) Q jm P.s := by
  obtain ⟨K1, K2, K3, K4, K5⟩ := U.ok
  refine wpAny_comprehension_free (g := ⟨target, iter, ifs, 0⟩) (gs := rest) rfl U.hs (oL fun p hp e => (F.st.cmine _ (K3 p hp e)).elim fun c z => bA z.1) K1 K4 ?_
  refine wpAny_mono (U.hf A P m _ hA F (c9 q)) (fun x s₁ hx => wpAny_mono hx (fun it s₂ hx => ?_) fun _ _ z => z) fun _ _ z => z
  refine hx.rec fun P1 J I src St S1 N st fj q => ?_
  refine wpAny_newList ?_ (by decide)
  have S2 : Step X ff P1 ⟨P1.ι, P1.σ, { P1.s with heap := P1.h.push (ef [] 0), toks := P1.s.toks }⟩ := .push S1.rel _
  refine wpAny_newFunctionEnv K2 (fun x hx => nomatch hx) (fun h' hns hsb => ?_) K1
  have hsz : (P1.h.push (ef [] 0)).objs.size = P1.h.objs.size + 1 := Heap.size_push _ _
  have S3 : Step X ff ⟨P1.ι, P1.σ, { P1.s with heap := P1.h.push (ef [] 0), toks := P1.s.toks }⟩ ⟨P1.ι, P1.σ, { P1.s with heap := h', toks := P1.s.toks + ([] : List (Str × Value)).length }⟩ :=
    .kept S2.rel fun b o e => (hsb.2 b (Nat.ne_of_lt (Heap.lt_size e))).trans (Heap.get?_push_of_some _ e)
  have S13 := S2.trans S3
  have S := S1.trans S13
  have hD3 : h'.get? P1.h.objs.size = some (ef [] 0) := (hsb.2 _ (hsz ▸ Nat.ne_of_lt (Nat.lt_succ_self _))).trans (Heap.get?_push_of_some _ (Heap.get?_push_size _ rfl))
  have fC : P.h.get? (P1.h.push (ef [] 0)).objs.size = none := (S1.trans S2).gone (cL _)
  have fD : P.h.get? P1.h.objs.size = none := S1.gone (cL _)
  have CD : (P1.h.push (ef [] 0)).objs.size ≠ P1.h.objs.size := hsz ▸ Nat.succ_ne_self _
  have ne : ∀ {x c b}, env.cells.lookup x = some c → P.h.get? b = none → c ≠ b := fun l e q => (F.cellAt l).elim fun o z => cK e (q ▸ z.1)
  have F1 := F.stepN S
  have hR := qh (x := ("" : Str)) K2 F.st.kind
  have FC : Fr X (p4 scope env (P1.h.push (ef [] 0)).objs.size) (jI caps m) ⟨P1.ι, P1.σ, { P1.s with heap := h', toks := P1.s.toks + ([] : List (Str × Value)).length }⟩ := by
    obtain ⟨mc, _, hv⟩ := F1.vars
    refine ⟨S.rel, ⟨Nat.le_trans X.lowb (hsz ▸ Nat.le_succ_of_le S1.rel.size), F.rel.base fC, fun x y c l1 l2 => F.st.capart x y c (dM l1) (dM l2), fun x hx => ?_, K1, F.st.glob, F.st.bi⟩, ⟨_, hns, fun x v e => ?_⟩, S2.rel.fresh, fun x c l => ?_⟩
    · obtain ⟨h1, h2⟩ := (qh K2 F.st.kind).1 hx
      exact (F.st.cmine _ h2).elim fun c z => ⟨c, pM z.1 h1, z.2⟩
    · unfold jI at e
      split at e
      · rename_i hm
        obtain ⟨xv, r, p⟩ := hv x v e
        obtain ⟨c1, c2⟩ := K5 x hm
        have kc := K3 _ c1 rfl
        refine ⟨xv, r, ?_⟩
        rcases p with ⟨p1, _⟩ | ⟨p1, c, p2, p3⟩
        · exact nomatch kc.symm.trans p1
        · exact .inr ⟨.inl ((qh K2 F.st.kind).2 kc c2), c, pM p2 c1, p3⟩
      · cases e
    · have z := F1.cell x c (dM l)
      exact ⟨z.1, ne (dM l) fC, z.2.2⟩
  have aJ : ∀ b ∈ J, b < P1.h.objs.size := fun b hb => (N.alive _ _ st b hb).elim fun o z => Heap.lt_size z.1
  have Z : Began (p4 scope env (P1.h.push (ef [] 0)).objs.size) P1.h.objs.size J P := ⟨fun b hb => (fj b hb).1, fun hb => absurd (hsz ▸ aJ _ hb) (Nat.not_lt.mpr (Nat.le_succ _)), fun x c l hb => ne (dM l) (fj c hb).1 rfl, fun hb => absurd (aJ _ hb) (Nat.lt_irrefl _)⟩
  have hDa : AccAt X (p4 scope env (P1.h.push (ef [] 0)).objs.size) P1.h.objs.size := ⟨CD.symm, fun x c l => ne (dM l) fD, F.rel.base fD⟩
  have st3 := N.next (Y := ff) (fun _ q => q.elim) st ⟨fun b hb => (fj b hb).2, fun b hb => F.rel.base (fj b hb).1⟩ S13
  have loop := zE (R := compPost X.M A jm use Q (.ref P1.h.objs.size) (P1.h.push (ef [] 0)).objs.size) hT (U.ha _) (U.ht _) (U.hb _ _ hDa) hDa hA F.rel N Z S.any FC ⟨⟨[], 0, hD3, .nil⟩, S1.rel.fresh⟩ st3.1 st3.2 (c9 q) fun s' z => z.rec fun P' m' ys S' F' A' q => cF q fun hz q =>
    hQ ys P' _ _ ⟨S'.monoX fun b hb q => (by rcases q with rfl | rfl
                                             · exact nomatch fC ▸ hb
                                             · exact nomatch fD ▸ hb), fD, fC, CD, A', F'.locI, S1.rel.size, F'.vars.elim fun mc z => ⟨mc, z.1⟩⟩ q
  exact codeAny_compStart_list loop (N.self 0 ⟨P1.ι, P1.σ, { P1.s with heap := h', toks := P1.s.toks + ([] : List (Str × Value)).length }⟩ _ _ st3.1 loop)
theorem Made.own {P1 : Pt} {C : Addr} {ys : List PV} {h' : Heap} (M : Made X P P1 D C ys) (R : HRel X P) (hs : Heap.SameBut C P1.h h') : Step X ff P (P1.add D (.list ys) { P1.s with heap := h' }) := by
  obtain ⟨yv, ep, hd, rr⟩ := M.acc.at_
  obtain ⟨mm, oC, es, epC, hoC, hdC, _⟩ := M.ns
  have im : ∀ b ∈ [C], ∀ o, P1.h.get? b = some o → ¬ oU o := gC fun o e => Option.some.inj (hoC.symm.trans e) ▸ ik hdC rfl
  have k : ∀ b o, b ∉ [C] → P1.h.get? b = some o → h'.get? b = some o := fun b o n e => (hs.2 b fun q => n (q ▸ .head _)).trans e
  have S2 : Step X ff P (P1.at { P1.s with heap := h' }) := .drop R (M.step.monoX fun _ _ q => q.elim) (gC M.fC) (gC M.ownC) im k rfl rfl
  have e1 : Ext P1 (P1.at { P1.s with heap := h' }) := ⟨fun b o e i => k b o (fun q => im b q o e i) e, fun _ _ => rfl, Nat.le_refl _⟩
  have hd' : h'.get? D = some (ef yv ep) := (hs.2 D M.ne.symm).trans hd
  exact S2.own (s' := { P1.s with heap := h' }) M.fD (fun _ _ e => e) M.acc.own M.above hd' (f7 _ _) (fun e => ⟨yv, ep, by rw [Pt.add_self]; exact hd', VRels.ext rr (e1.trans e)⟩) (fun _ _ e => nomatch e) rfl rfl
theorem cB {elt target iter : Expr} {ifs : List Expr} {rest : List Comprehension} {scope : Scope} {pos : Pos} {caps : List String} {T : Value → Env → Sem PySem.Fin → Sem PySem.Fin} {f : IF} {a : AF} {t : TF} {b : CF}
    (hT : ot elt (⟨target, iter, ifs, 0⟩ :: rest) scope pos 0 target iter ifs T) (U : CompAll X h env scope caps target iter ifs T f a t b) : bD X h env (.ListComp elt (⟨target, iter, ifs, 0⟩ :: rest) scope pos) (dR caps f a t b) := fun A P m K hA F q => by
  unfold W
  rw [eval_ListComp]
  exact lp hT U hA F q fun ys P1 D C M q => M.ns.elim fun mm hns => ⟨mm, hns, fun h' hs => .mk (P1.add D (.list ys) { P1.s with heap := h' }) _ (M.own F.rel hs) (P1.add_rel _ _ _) q⟩
theorem iA {x : String} {p ps : Pos} {elt target iter : Expr} {ifs : List Expr} {rest : List Comprehension} {scope : Scope} {pos : Pos} {caps : List String} {T : Value → Env → Sem PySem.Fin → Sem PySem.Fin} {f : IF} {a : AF} {t : TF} {b : CF}
    (hT : ot elt (⟨target, iter, ifs, 0⟩ :: rest) scope pos 0 target iter ifs T) (U : CompAll X h env scope caps target iter ifs T f a t b)
    (hx : env.kindOf (nm x) = some .local) (hs : swapsWith (.ListComp elt (⟨target, iter, ifs, 0⟩ :: rest) scope pos) (some (.Name (nm x) p)) ps.line env = pure true) :
    h7 X h env (.Assign [.Name (nm x) p] (.ListComp elt (⟨target, iter, ifs, 0⟩ :: rest) scope pos) ps) (a6 (dR caps f a t b) (aF x)) := fun A P m K hA F q => by
  unfold WS
  rw [exec_Assign_Name_used _ _ _ _ hs]
  refine wpAny_bind (wpAny_standAt (wpAny_bind (wpAny_bind (wpAny_mono (Q := fun _ s' => RetS X (FX env) env P FlowRel (KS K) .next s') ?_ (fun _ s' z => wpAny_pure (wpAny_pure z)) fun _ _ z => z))))
  refine lp hT U hA F (c9 q) fun ys P1 D C M q => ?_
  obtain ⟨yv, ep, hd, rr⟩ := M.acc.at_
  have S2 : Step X ff P (P1.add D (.list ys) P1.s) := M.step.own M.fD (fun _ _ e => e) M.acc.own M.above hd (f7 _ _) (fun e => ⟨yv, ep, by rw [Pt.add_self]; exact hd, VRels.ext rr e⟩) (fun _ _ e => nomatch e) rfl rfl
  have F2 := F.stepN S2
  show wpAny _ _ (assign (.Name (nm x) p) env (.ref D)) _ _ _
  refine wpAny_assign_Name ((kO (K := fun m σ => K (.next, m) σ) F2 (P1.add_rel D (.list ys) P1.s) (.inl hx) q).go fun P3 m3 _ _ S3 F3 _ q => ?_)
  obtain ⟨mm, oC, es, epC, hoC, hdC, hrest⟩ := M.ns
  have iC2 : ∀ i, i < (P1.add D (.list ys) P1.s).n → (P1.add D (.list ys) P1.s).ι i ≠ C := fun i hi q => by
    have q : (if i = P1.n then D else P1.ι i) = C := q
    split at q
    · exact M.ne q.symm
    · rename_i n
      exact M.ownC i (Nat.lt_of_le_of_ne (Nat.le_of_lt_succ hi) n) q
  have xC : ¬ FX env C := fun q => (vp F q).elim fun o z => cK M.fC z.1
  have hoC3 : P3.h.get? C = some oC := S3.keep C oC hoC (fun i hi q => iC2 i hi q.symm) xC
  refine ⟨mm, ⟨oC, es, epC, hoC3, hdC, hrest⟩, fun h' hs => ?_⟩
  have im : ∀ b ∈ [C], ∀ o, P3.h.get? b = some o → ¬ oU o := gC fun o e => Option.some.inj (hoC3.symm.trans e) ▸ ik hdC rfl
  have k : ∀ b o, b ∉ [C] → P3.h.get? b = some o → h'.get? b = some o := fun b o n e => (hs.2 b fun q => n (q ▸ .head _)).trans e
  have S4 : Step X (FX env) P (P3.at { P3.s with heap := h' }) := .drop F.rel ((S2.any.trans S3).monoX fun _ _ => .inl) (gC M.fC) (gC (S3.ne hoC iC2)) im k rfl rfl
  have jn := Jn.of F (gC M.fC)
  exact .mk (P3.at { P3.s with heap := h' }) m3 Res.next S4 (F3.at S4.rel ⟨fun b o e i => k b o (fun q => im b q o e i) e, fun _ _ => rfl, Nat.le_refl _⟩ (fun _ _ _ n => n) (fun o e => k _ o (jn.fx _ (.inl rfl)) e) fun y c o l e => k _ o (jn.cl y c l) e) .next q
end
structure SupOk (K : Frag) (C0 D cc g cda : Addr) (fd : FuncData) : Prop where
  cell : ∃ cl cld csl, K.lookup cc = some ⟨cl, cld, .cell (some (.ref D)), csl⟩
  cD : ∃ cd, clsIn K D = some cd
  cC : ∃ cd, clsIn K C0 = some cd
  mro : mroIn K C0 (.ref D) = some true
  sup : ks_superIn K C0 D (nm "__init__") = some (some (.ref g))
  ty : typeIn K (.ref g) = some (.type "function")
  fn : fnIn K g = true
  opq : nsIn K cStatics "thirdparty.any" = some none
  nsup : nsIn K mainGlobals "super" = some none
  clo : fd.closure = [(("__class__" : Str), cc)]
  ks : fd.scope.names.lookup ("super" : Str) = some .globalImplicit
  kc : fd.scope.names.lookup ("__class__" : Str) = some .free
  kself : fd.scope.names.lookup (nm "self") = some .local
  nocell : (fd.scope.names.all fun x => x.2 != .cell) = true
  head : ∃ ar, (fd.params.posonlyargs ++ fd.params.args).head? = some ar ∧ ar.arg = nm "self"
  code : fd.code = .ref cda
  cvs : ∃ ccl cdd vs ccs tf, K.lookup cda = some ⟨ccl, cdd, .fields vs, ccs⟩ ∧ vs[2]? = some (.str ("/claim/cut.py" : Str) tf)
theorem tw : bootBuiltins "super" = some (.type "super") := by kernel_rfl
theorem ko (x : Str) : ∀ (bs : List (Str × Value)) (m : Str → Option Value), bindL (fun _ => some .local) bs m x = (bs.reverse.lookup x).or (m x)
  | [], m => rfl
  | (n, v) :: r, m => by
    rw [List.reverse_cons, List.lookup_append]
    show bindL (fun _ => some .local) r (fun y => if y = n then some v else m y) x = _
    rw [ko x r]
    cases r.reverse.lookup x with
    | some y => rfl
    | none =>
      show (if x = n then some v else m x) = ((match x == n with | true => some v | false => none) : Option Value).or (m x)
      by_cases q : x = n
      · rw [if_pos q, beq_iff_eq.mpr q]; rfl
      · rw [if_neg q, beq_eq_false_iff_ne.mpr q]; rfl
theorem w6 {K : Frag} {C : Addr} {cd : ClassData} {h : Heap} (X : K.In h) (e : clsIn K C = some cd) : ∃ o, K.lookup C = some o ∧ h.get? C = some o ∧ o.data = .cls cd := by
  unfold clsIn at e
  split at e
  · rename_i ho
    cases e
    exact ⟨_, ho, X _ _ ho, rfl⟩
  · cases e
section
variable {X : Cxt} {h : Nat} {env : Env} {P P1 : Pt} {m : Loc} {A : Around}
theorem Ao {C0 : Addr} {l : LF} {g : FF} {f : SF} {m : Loc} {σ : AH} {K : Res × Loc → AH → Prop} {C : Prop} (q : On (am (jO C0 l g) f m σ) K)
    (k : ∀ i fs, m "self" = some (.obj i) → σ.get i = some (.inst C0 fs) → On (l m σ) (fun args σ => On (g (.obj i :: args) σ) fun _ σ => On (f m σ) K) → C) : C := zx (c9 (c9 q)) fun v hv q => by
  cases v <;> try exact q.elim
  exact vm q fun D fs hi q => cF q fun e q => k _ fs hv (e ▸ hi) ((c9 q).mono fun _ _ q => (c9 q).mono fun _ _ q => q)
theorem hH {C0 D cc g cda a : Addr} {h' : Nat} {o : Obj} {fd : FuncData} {ps : List String} {body : List Stmt} {l : LF} {f : SF} {fg : FF} {e0 : Expr} {es : List Expr} {ap p0 p1 ap2 p2 : Pos}
    (Z : SupOk X.K C0 D cc g cda fd) (hh : h' ≤ h) (hl : X.K.lookup a = some o) (hd : o.data = .func fd) (DD : DefOk X.K a fd ps (.Expr (.Call (.Attribute (.Call (.Name "super" p0) [] [] p1) (nm "__init__") ap) (e0 :: es) [] ap2) p2 :: body))
    (hpl : ∀ L, ec (e0 :: es) (callEnv fd L a)) (hsw : ∀ L, swapsWith (.Call (.Attribute (.Call (.Name "super" p0) [] [] p1) (nm "__init__") ap) (e0 :: es) [] ap2) none p2.line (callEnv fd L a) = pure false) (hint : ∀ L, interactive (callEnv fd L a) = false)
    (hform : ∀ L, ∃ pl, eval (.Call (.Attribute (.Call (.Name "super" p0) [] [] p1) (nm "__init__") ap) (e0 :: es) [] ap2) (callEnv fd L a) = (do
      let ov ← attributeBase (.Call (.Name "super" p0) [] [] p1) (nm "__init__") (callEnv fd L a) (eval (.Call (.Name "super" p0) [] [] p1) (callEnv fd L a))
      standAt ap.atName
      let (f, first) ← holding [ov] (getMethod ov (nm "__init__") pl)
      callWith ap2 f first (backTo ap2 (starEach (e0 :: es) (callEnv fd L a))) []))
    (hg : SndF X h' g fg) (hls : ∀ L, gK X h (callEnv fd L a) (e0 :: es) l) (hb : ∀ L, hX X h (callEnv fd L a) body f) : SndF X (h + 1) a (bo ps (am (jO C0 l fg) f)) := fun A P args xs K hA R r q => cF q fun hlen q => by
  obtain ⟨p, loose, mg, mb, T⟩ := X.top
  obtain ⟨cl, cld, csl, hcell⟩ := Z.cell
  obtain ⟨cdD, hcD⟩ := Z.cD
  obtain ⟨cdC, hcC⟩ := Z.cC
  obtain ⟨ar, har, hself⟩ := Z.head
  obtain ⟨ccl, cdd, cvs, ccs, tf, hcode, hvs⟩ := Z.cvs
  have noc : ∀ x, fd.scope.names.lookup x ≠ some .cell := fun x q => nomatch (List.all_eq_true.mp Z.nocell _ (mem_of_lookup q))
  have hbl : ∀ y ∈ (ps.map nm).zip xs, fd.scope.names.lookup y.1 = some .local := fun y hy => by
    obtain ⟨q, hq, e⟩ := List.mem_map.mp (List.of_mem_zip hy).1
    exact e ▸ (DD.kinds q hq).resolve_right (noc _)
  refine ks_codeAny_call_defAt (binds := (ps.map nm).zip xs) hA.room (R.keep _ _ (X.kin _ _ hl)) hd (T.nolimit.keeps R.keep) (codeRec_of R.K DD.code) DD.body (fun M A E Q q => wpAny_of_eq (DD.bind xs (by rw [← r.length]; exact hlen)) q) (fun x hx => bne_iff_ne.mp (List.all_eq_true.mp Z.nocell x hx)) hbl (fun h₀ hns k1 => ?_) DD.co DD.gen DD.kind
  have S : Step X ff P ⟨P.ι, P.σ, { P.s with heap := h₀, toks := P.s.toks + ((ps.map nm).zip xs).length }⟩ := .kept R k1
  have hB : X.hp.objs.size ≤ P.h.objs.size := Nat.le_trans X.low R.size
  have hBcc : X.hp.get? cc = some ⟨cl, cld, .cell (some (.ref D)), csl⟩ := X.kin _ _ hcell
  have one : ∀ {x c}, (callEnv fd P.h.objs.size a).cells.lookup x = some c → x = ("__class__" : Str) ∧ c = cc := fun {x c} hc => by
    have hc : fd.closure.lookup x = some c := hc
    rw [Z.clo] at hc
    cases List.mem_singleton.mp (mem_of_lookup hc)
    exact ⟨rfl, rfl⟩
  have F : Fr X (callEnv fd P.h.objs.size a) (nh ps args) ⟨P.ι, P.σ, { P.s with heap := h₀, toks := P.s.toks + ((ps.map nm).zip xs).length }⟩ := by
    have bd := jZ (kindOf := fun _ => some .local) (ps := ps) (m := fun _ => none) (mL := fun _ => none) (mC := fun _ => none) (VRels.ext r S.ext) (fun p hp => .inl rfl) (fun y v e => nomatch e)
    refine ⟨S.rel, ⟨Nat.le_trans X.lowb R.size, R.base (cL _), fun x y c h1 h2 => (one h1).1.trans (one h2).1.symm, fun x hx => absurd hx (noc x), DD.kind, DD.glob, DD.bi⟩, ⟨_, hns, fun y v e => ?_⟩, fun i hi e => absurd (R.lt hi) (e ▸ Nat.lt_irrefl _), fun x c hc => ?_⟩
    · obtain ⟨x, rx, hx⟩ := bd y v e
      refine ⟨x, rx, .inl ?_⟩
      rcases hx with ⟨_, q2⟩ | ⟨q1, _⟩
      · rw [ko, Option.or_none] at q2
        exact ⟨hbl _ (List.mem_reverse.mp (mem_of_lookup q2)), q2⟩
      · cases q1
    · obtain ⟨_, rfl⟩ := one hc
      exact ⟨⟨some (.ref D), _, S.rel.keep _ _ hBcc, rfl⟩, Nat.ne_of_lt (Nat.lt_of_lt_of_le (Heap.lt_size hBcc) hB), fun i hi q => R.base_ne hBcc hi q.symm⟩
  have fresh : ∀ b, (P.h.get? b).isSome → ¬ FX (callEnv fd P.h.objs.size a) b := lW rfl fun b q => q.elim (fun q => q ▸ Nat.le_refl _) fun ⟨x, hx, _⟩ => absurd hx (noc x)
  refine Ao (zq q) fun i fs hself0 hi q => ks_wpAt_execs_cons ?_
  generalize hL : P.h.objs.size = L at *
  generalize hs1 : ({ P.s with heap := h₀, toks := P.s.toks + ((ps.map nm).zip xs).length } : Shared) = s₁ at *
  obtain ⟨mc, hmc, hv⟩ := F.vars
  obtain ⟨xself, rself, hold⟩ := hv "self" _ hself0
  have hms : mc (nm "self") = some (.ref (P.ι i)) ∧ i < P.n := by
    have e : mc (nm "self") = some xself := by
      rcases hold with ⟨_, q⟩ | ⟨q | q, _⟩
      · exact q
      · exact nomatch Z.kself.symm.trans q
      · exact nomatch Z.kself.symm.trans q
    revert e
    exact rself.objK fun hi e => ⟨e, hi⟩
  have X1 : X.K.In s₁.heap := S.rel.K
  have hoi : s₁.heap.get? (P.ι i) = some (instObj C0 (P.ι (i + 1))) := S.rel.inst (i := i) hi fun _ z _ _ _ _ _ => z
  obtain ⟨oD, _, hD1, hD2⟩ := w6 X1 hcD
  obtain ⟨pl, he⟩ := hform L
  refine ks_wpAt_Expr_any ?_ (hint L) (hsw L)
  refine ks_wpAt_MethodCall (pl := pl) ?_ he
  refine ks_wpAt_super_base (env := callEnv fd L a) Z.ks Z.kc (by decide +kernel) rfl (S.rel.keep _ _ (X.kin _ _ hl)) hd har Z.code (X1 _ _ hcode) rfl hvs (by rw [X.po.file]; decide +kernel) X.po.top ?_
  refine ks_loadName_global DD.kind Z.ks (Calls.loadGlobal_builtin (env := callEnv fd L a) (by show Heap.Ns _ fd.globals _; rw [DD.glob]; exact T.g.keeps S.rel.keep) (mg_none_of X.kin T.g Z.nsup) (by show Heap.Ns _ fd.builtins _; rw [DD.bi]; exact T.b.keeps S.rel.keep) ((T.builtins _ (by decide +kernel)).trans tw) ⟨rfl, ?_⟩)
  refine wpAny_loadName_free (env := callEnv fd L a) DD.kind Z.kc (by show List.lookup _ fd.closure = _; rw [Z.clo]; rfl) ⟨_, X1 _ _ hcell, rfl⟩ ?_
  rw [hself]
  refine wpAny_loadName_local (env := callEnv fd L a) DD.kind Z.kself hmc hms.1 ?_
  obtain ⟨hp, g1, d1, t1, os1⟩ := s₁
  refine ks_wpAny_isType_cls hD1 hD2 ⟨rfl, ?_⟩
  refine ks_wpAny_call_super hD1 hD2 hoi rfl (fun c e => by cases e) (looks_mroIn X1 Z.mro) (fun h2 hso k2 => ?_)
  have S2 : Step X ff ⟨P.ι, P.σ, ⟨hp, g1, d1, t1, os1⟩⟩ ⟨P.ι, P.σ, ⟨h2, g1, d1, t1, os1⟩⟩ := .grow S.rel k2 rfl rfl
  have X2 : X.K.In h2 := S2.rel.K
  have hsup := Z.sup
  unfold ks_superIn at hsup
  rw [hcC] at hsup
  obtain ⟨of, hof, hofc⟩ : ∃ of, h2.get? g = some of ∧ of.cls = .type "function" := by
    have ht' : (X.K.lookup g).map (·.cls) = some (.type "function") := Z.ty
    obtain ⟨of, z, e⟩ := Option.map_eq_some_iff.mp ht'
    exact ⟨of, X2 _ _ z, e⟩
  have hne : P.ι i ≠ C0 := (w6 (h := X.hp) X.kin hcC).elim fun o z => fun q => R.base_ne z.2.1 hms.2 q.symm
  refine ks_wpAny_getMethod_super hso (looks_opaque X2 Z.opq) (l₀ := cdC.mro) (fun A Q E s k q => wpAny_bind ((looks_clsIn X2 hcC) A _ E s k (wpAny_pure q))) rfl X2 hsup hof hofc hne (by decide +kernel) ?_
  have S3 : Step X ff ⟨P.ι, P.σ, ⟨h2, g1, d1, t1, os1⟩⟩ ⟨P.ι, P.σ, ⟨h2.push (methodObj (.ref g) (.ref (P.ι i))), g1, d1, t1 + 1, os1⟩⟩ := .push S2.rel _
  have S13 := (S.trans S2).trans S3
  have F3 := F.stepN (S2.trans S3)
  have hA' := hA.deeper (callEnv fd L a)
  have hq : (h2.push (methodObj (.ref g) (.ref (P.ι i)))).get? h2.objs.size = some (methodObj (.ref g) (.ref (P.ι i))) := Heap.get?_push_size _ rfl
  have iq : ∀ j, j < P.n → h2.objs.size ≠ P.ι j := fun j hj q => S2.rel.fresh j hj q.symm
  refine callWith_of (P := fun h => MethP X.K h2.objs.size g (.ref (P.ι i)) h) (by rw [fM (hpl L)]; simp) (keeps_M Z.fn) ?_
  refine n9 (P := ⟨P.ι, P.σ, ⟨h2.push (methodObj (.ref g) (.ref (P.ι i))), g1, d1, t1 + 1, os1⟩⟩) (hpl L) (hls L) hA' F3 q fun P4 args axs S4 r4 q => ?_
  have hq4 := S4.keep _ _ hq iq id
  refine ⟨⟨hq4, S4.rel.K⟩, wpAny_call (method_call hq4 (codeAny_mono (hg _ P4 (.obj i :: args) (.ref (P.ι i) :: axs) _ (hA'.le hh) S4.rel (.cons ((VRel.obj (P := ⟨P.ι, P.σ, ⟨h2.push (methodObj (.ref g) (.ref (P.ι i))), g1, d1, t1 + 1, os1⟩⟩) i hms.2).step S4) r4) q) fun rr s₅ z => ?_))⟩
  cases rr with
  | error e => exact z.elim
  | ok fl =>
    cases fl <;> try exact z.elim
    refine z.rec fun P5 v _ S5 _ q => ?_
    show _root_.PySem.wpAt _ _ _ (execs body (callEnv fd L a)) _ _ _
    exact _root_.PySem.wpAt_of_wpAny (so (hb L) hA' (F3.stepN (S4.trans S5)) ((S13.trans S4).trans S5) fresh q)
end
section
variable {α : Type} {P : Pt} {v : PV} {K : α → AH → Prop} {C : List Value → Prop} {args : List PV} {xs : List Value}
@[elab_as_elim] theorem on1 {f : PV → Option (α × AH)} (q : On (w1 args f) K) (r : VRels P args xs) (k : ∀ a x, VRel P a x → On (f a) K → C [x]) : C xs := by
  cases args with
  | nil => exact q.elim
  | cons a l => cases l with
    | nil => exact r.consK fun x ys r1 r2 => r2.nilK (k a x r1 q)
    | cons => exact q.elim
@[elab_as_elim] theorem on2 {f : PV → PV → Option (α × AH)} (q : On (w2 args f) K) (r : VRels P args xs) (k : ∀ a b x y, VRel P a x → VRel P b y → On (f a b) K → C [x, y]) : C xs := by
  cases args with
  | nil => exact q.elim
  | cons a l => cases l with
    | nil => exact q.elim
    | cons b l => cases l with
      | nil => exact r.consK fun x ys r1 r2 => r2.consK fun y ys r2 r3 => r3.nilK (k a b x y r1 r2 q)
      | cons => exact q.elim
@[elab_as_elim] theorem on3 {f : PV → PV → PV → Option (α × AH)} (q : On (w3 args f) K) (r : VRels P args xs) (k : ∀ a b c x y z, VRel P a x → VRel P b y → VRel P c z → On (f a b c) K → C [x, y, z]) : C xs := by
  cases args with
  | nil => exact q.elim
  | cons a l => cases l with
    | nil => exact q.elim
    | cons b l => cases l with
      | nil => exact q.elim
      | cons c l => cases l with
        | nil => exact r.consK fun x ys r1 r2 => r2.consK fun y ys r2 r3 => r3.consK fun z ys r3 r4 => r4.nilK (k a b c x y z r1 r2 r3 q)
        | cons => exact q.elim
@[elab_as_elim] theorem on12 {f : PV → Option (α × AH)} {g : PV → PV → Option (α × AH)} (q : On (match args with | [a, b] => g a b | [a] => f a | _ => none) K) (r : VRels P args xs) (k1 : ∀ a x, VRel P a x → On (f a) K → C [x]) (k2 : ∀ a b x y, VRel P a x → VRel P b y → On (g a b) K → C [x, y]) : C xs := by
  cases args with
  | nil => exact q.elim
  | cons a l => cases l with
    | nil => exact r.consK fun x ys r1 r2 => r2.nilK (k1 a x r1 q)
    | cons b l => cases l with
      | nil => exact r.consK fun x ys r1 r2 => r2.consK fun y ys r2 r3 => r3.nilK (k2 a b x y r1 r2 q)
      | cons => exact q.elim
end
theorem mQ {n : Nat} (h : n ≤ 100000) : (n : Int) < 2 ^ 63 := by lia
section
variable {X : Cxt} {h : Nat} {env : Env} {P P1 : Pt} {m : Loc} {A : Around}
theorem mW {α : Type} {l : List PV} {vs : List Value} {f : List Int → Option (α × AH)} {K : α → AH → Prop} {C : Prop} (q : On (jB l f) K) (r : VRels P l vs) (k : ∀ ns, l = ns.map .int → IntsAre vs ns → On (f ns) K → C) : C := by
  have key : ∀ {l : List PV} {vs : List Value} {ns : List Int}, gH l = some ns → VRels P l vs → l = ns.map .int ∧ IntsAre vs ns := by
    intro l
    induction l with
    | nil => intro vs ns e r; cases e; exact r.nilK ⟨rfl, .nil⟩
    | cons v l ih =>
      intro vs ns e r
      cases v <;> try cases e
      obtain ⟨ms, e1, rfl⟩ := Option.map_eq_some_iff.mp e
      exact r.consK fun x ys r1 r2 => r1.intK fun t => ⟨congrArg _ (ih e1 r2).1, .cons _ _ (ih e1 r2).2⟩
  unfold jB at q
  cases e : gH l with
  | none => rw [e] at q; exact q.elim
  | some ns => rw [e] at q; exact k ns (key e r).1 (key e r).2 q
theorem n8 : gr X h (.builtin "abs") wO := fun A P args xs K hA R r q => on1 q r fun a x r q => onInt q r fun i t q => call_abs_int fun u tk => .tok R (.int _ _) q
theorem uC {c : Prop} [Decidable c] {a b : Int} {t u : Tok} {P : Pt} : VRel P (.int (if c then a else b)) (if c then .int a t else .int b u) := by split <;> exact .int _ _
theorem nU : gr X h (.builtin "max") wY := fun A P args xs K hA R r q => on2 q r fun a b x y r1 r2 q => onInt q r1 fun i t q => onInt q r2 fun j u q => max_two_ints hA.hd fun h' tk hk => .kept R hk uC q
theorem dQ : gr X h (.type "range") ee := fun A P args xs K hA R r q => by
  cases args with
  | nil => exact q.elim
  | cons a l => cases l with
    | nil => exact r.consK fun x ys r1 r2 => r2.nilK (onInt q r1 fun b t q => call_range_1 (.kept R (fun _ _ => Heap.get?_push_of_some _) (.rng (Heap.get?_push_size _ rfl)) q))
    | cons b l => cases l with
      | nil => exact r.consK fun x ys r1 r2 => r2.consK fun y ys r2 r3 => r3.nilK (onInt q r1 fun b t q => onInt q r2 fun c u q => call_range_2 (.kept R (fun _ _ => Heap.get?_push_of_some _) (.rng (Heap.get?_push_size _ rfl)) q))
      | cons => exact q.elim
theorem bz : gr X h (.builtin "len") cO := fun A P args xs K hA R r q => on1 q r fun a x r q => by
  cases a <;> try exact q.elim
  · exact r.tupK fun a vs ep ho rv => cF q fun hl q => PySem.P.len_tuple (items := vs.toArray) (n := ep) ho (by rw [List.size_toArray, ← rv.length]; exact Int.not_le.mpr (mQ hl)) (by rw [List.size_toArray, ← rv.length]; exact .tok R (.int _ _) q)
  · rename_i i
    refine r.objK fun hi => ?_
    dsimp only at q
    cases e : P.σ.get i with
    | none => rw [e] at q; exact q.elim
    | some ob =>
      rw [e] at q
      cases ob <;> try exact q.elim
      · exact cF q fun hz q => R.list e fun vs ep ho rv => PySem.Calls.call_len_list (items := vs.toArray) ⟨_, ho, rfl, ep, rfl⟩ (by rw [List.size_toArray, ← rv.length]; exact mQ hz) (by rw [List.size_toArray, ← rv.length]; exact .tok R (.int _ _) q)
      · exact cF q fun hz q => R.idict e fun kvs hd rv => call_len_dict (R.notSys hi) hd (by rw [← rv.length]; exact mQ hz) (by rw [← rv.length]; exact .tok R (.int _ _) q)
theorem bZ : gr X h (.type "tuple") dG := fun A P args xs K hA R r q => on1 q r fun a x r q => by
  cases a <;> try exact q.elim
  · exact r.tupK fun a vs ep ho rv => call_tuple_same (items := vs.toArray) ⟨_, ho, rfl, ep, rfl⟩ (.here R (.tup' ho rv) q)
  · exact r.objK fun hi => pe q fun l hl q => cF q fun hz q => R.list hl fun vs ep ho rv => call_tuple_list (items := vs.toArray) ⟨_, ho, rfl, ep, rfl⟩ (fun h' hk => by
      have S : Step X ff P ⟨P.ι, P.σ, { P.s with heap := h'.push (iF vs 0) }⟩ := .grow R (fun b o e => Heap.get?_push_of_some _ (hk b o e)) rfl rfl
      exact .mk ⟨P.ι, P.σ, { P.s with heap := h'.push (iF vs 0) }⟩ _ S (.tup' (Heap.get?_push_size _ rfl) (VRels.ext rv S.ext)) q) (zr rv hz)
theorem lR : gr X h (.type "list") lY := fun A P args xs K hA R r q => on1 q r fun a x r q => onVL R q r fun i l vs ep hi hl ho rv q => cF q fun hz q =>
  call_list_seq (items := vs.toArray) (P.ι i) (.inl rfl) ho rfl rfl (fun h' c' hk hn => .list (s' := { P.s with heap := h', toks := _ }) R hk (cL _) R.size hn rv rfl rfl q) (zr rv hz)
theorem Ret.dict {es : List (Int × PV)} {kvs : List (Int × Value)} {a : Addr} {s' : Shared} {K : PV → AH → Prop} (R : HRel X P) (k : ∀ b o, P.h.get? b = some o → s'.heap.get? b = some o) (ha : P.h.get? a = none) (hb : X.n0 ≤ a) (ho : s'.heap.DictOf (intKind X.prog X.w) a kvs) (r : All2 (ge P) es kvs)
    (g : s'.gens = P.s.gens) (os : s'.os = P.s.os) (q : K (.obj P.n) (P.σ.new (.idict es))) : Ret X P VRel K (.ref a) s' := .mk (P.add a (.idict es) s') (.obj P.n) (.newDict R k ha hb ho r g os) (P.add_rel _ _ _) q
theorem v5 : gr X h (.type "dict") uF := fun A P args xs K hA R r q => on1 q r fun a x r q => onVD R q r fun i l kvs hi hl hd hr q => cF q fun hz q =>
  kt_call_dict (R.notSys hi) hd (by rw [← hr.length]; exact wz hz) fun h' hn hs => .dict (s' := { P.s with heap := h', toks := _ }) R (fun b o e => (hs.2 b (Nat.ne_of_lt (Heap.lt_size e))).trans (Heap.get?_push_of_some _ e)) (cL _) R.size hn hr rfl rfl q
theorem bE : gr X h (.builtin "list.append") bP := fun A P args xs K hA R r q => on2 q r fun a b x y r1 r2 q => onVL R q r1 fun i l vs ep hi hl ho rv q => cF q fun hz q =>
  wpAny_list_append_plain (items := vs.toArray) ⟨ep, ho⟩ (fun h' hl' hs => hl'.elim fun ep' ho' => .mk ⟨P.ι, P.σ.set i (.list (l ++ [b])), { P.s with heap := h' }⟩ _ (.updList (tk := P.s.toks) (vs' := vs ++ [y]) (ep := ep') R hl hs (by rw [ho']; simp [ef]) (rv.snoc r2)) .none q) (zr rv hz)
theorem nJ : gr X h (.builtin "list.pop") rS := fun A P args xs K hA R r q => on1 q r fun a x r q => onVL R q r fun i l vs ep hi hl ho rv q => cF q fun hz q => by
  cases hv : l.getLast? with
  | none => rw [hv] at q; exact q.elim
  | some v =>
    rw [hv] at q
    rw [List.getLast?_eq_getElem?] at hv
    obtain ⟨y, hy, ry⟩ := rv.get hv
    have rd : VRels P l.dropLast vs.dropLast := by rw [List.dropLast_eq_take, List.dropLast_eq_take, rv.length]; exact rv.take _
    refine PyProof.Rows.Copied.pop_at (its := vs.toArray) (y := y) ho (by rw [List.getElem?_toArray, List.size_toArray, ← rv.length]; exact hy) (fun h' hs ho' => ?_) (zr rv hz)
    have S : Step X ff P ⟨P.ι, P.σ.set i (.list l.dropLast), { P.s with heap := h' }⟩ := .updList (tk := P.s.toks) (vs' := vs.dropLast) (ep := ep + 1) R hl hs (by rw [ho']; simp [ef]) rd
    exact .mk ⟨P.ι, P.σ.set i (.list l.dropLast), { P.s with heap := h' }⟩ _ S (ry.step S) q
theorem rH : gr X h (.builtin "dict.get") vD := fun A P args xs K hA R r q => on3 q r fun a b d x y z r1 r2 r3 q => onVD R q r1 fun i l kvs hi hl hd hr q => onInt q r2 fun j t q =>
  call_meetsIn PySem.F.slot_dict_get hd.typeIs PySem.F.entry_dict_get (PySem.F.args_dict_get_3 _ _ _) (meets_dict_get_default (intKind X.prog X.w) (P.ι i) (intKind_is X.prog X.w _ _) (R.notSys hi) _) ⟨_, cw hd, .tokV R (by
    rcases ft hr j with ⟨v, y, e1, e2, rv⟩ | ⟨e1, e2⟩
    · rw [e1, e2]; exact rv
    · rw [e1, e2]; exact r3) q⟩
theorem mf : gr X h (.builtin "dict.setdefault") eK := fun A P args xs K hA R r q => on3 q r fun a b d x y z r1 r2 r3 q => onVD R q r1 fun i l kvs hi hl hd hr q => onInt q r2 fun j t q => cF q fun hz q => by
  refine call_meetsIn PySem.F.slot_dict_setdefault hd.typeIs PySem.F.entry_dict_setdefault (PySem.F.args_dict_setdefault_3 _ _ _) (kt_meets_setdefault (intKind X.prog X.w) (P.ι i) (intKind_is X.prog X.w _ _) (R.notSys hi) _) ⟨kvs, hd, by rw [← hr.length]; exact wz hz, fun v hv => ?_, fun hv h' hd' hs => ?_⟩
  · rcases ft hr j with ⟨v', y, e1, e2, rv⟩ | ⟨e1, e2⟩
    · rw [e1] at q
      exact .tokV R (Option.some.inj (e2.symm.trans hv) ▸ rv) q
    · exact nomatch e2.symm.trans hv
  · rcases ft hr j with ⟨v', y, e1, e2, rv⟩ | ⟨e1, e2⟩
    · exact nomatch e2.symm.trans hv
    · rw [e1] at q
      have S : Step X ff P ⟨P.ι, P.σ.set i (.idict (jd l j d)), { P.s with heap := h', toks := P.s.toks + 1 }⟩ := .updDict R hl hs hd' (nO hr j r3)
      exact .mk ⟨P.ι, P.σ.set i (.idict (jd l j d)), { P.s with heap := h', toks := P.s.toks + 1 }⟩ _ S (r3.step S) q
theorem tY {l2 : List (Int × PV)} {k2 : List (Int × Value)} (r2 : All2 (ge P) l2 k2) : ∀ {l : List (Int × PV)} {k : List (Int × Value)}, All2 (ge P) l k → All2 (ge P) (lJ l l2) (merged k k2) :=
  r2.rec (motive := fun l2 k2 _ => ∀ {l : List (Int × PV)} {k : List (Int × Value)}, All2 (ge P) l k → All2 (ge P) (lJ l l2) (merged k k2)) (fun r => r) fun {a b _ _} (hab : ge P a b) _ ih {l k} r => ih (show All2 (ge P) (jd l a.1 a.2) (stored k b.1 b.2) from (And.left hab) ▸ nO r a.1 (And.right hab))
theorem sD : gr X h (.builtin "dict.update") mG := fun A P args xs K hA R r q => on2 q r fun a b x y r1 r2 q => onVD R q r1 fun i l kvs hi hl hd hr q => onVD R q r2 fun j l2 kvs2 hj hl2 hd2 hr2 q => cF q fun hz q =>
  call_meetsIn PySem.F.slot_dict_update hd.typeIs PySem.F.entry_dict_update (PySem.F.args_dict_update_2 _ _) (meets_dict_update (intKind X.prog X.w) (P.ι i) (P.ι j) (fun e => hz.1 (R.inj i j hi hj e)) (R.notSys hj))
    ⟨kvs, kvs2, hd, hd2, by rw [← hr.length, ← hr2.length]; exact wz hz.2, fun h' hd' _ hs => .mk ⟨P.ι, P.σ.set i (.idict (lJ l l2)), { P.s with heap := h' }⟩ _ (.updDict (tk := P.s.toks) R hl hs hd' (tY hr2 hr)) .none q⟩
theorem v8 : gr X h (.builtin "dict.pop") nX := fun A P args xs K hA R r q => on3 q r fun a b d x y z r1 r2 r3 q => onVD R q r1 fun i l kvs hi hl hd hr q => onInt q r2 fun j t q => cF q fun hz q => by
  rcases ft hr j with ⟨v, y, e1, e2, rv⟩ | ⟨e1, e2⟩
  · rw [e1] at q
    refine call_meetsIn PySem.F.slot_dict_pop hd.typeIs PySem.F.entry_dict_pop (PySem.F.args_dict_pop_3 _ _ _) (meets_dict_pop_there (intKind X.prog X.w) (P.ι i) (intKind_is X.prog X.w _ _) _ (.inr ⟨_, rfl⟩) rfl) ⟨kvs, y, hd, by rw [← hr.length]; exact wz hz, e2, fun h' hd' hs => ?_⟩
    have S : Step X ff P ⟨P.ι, P.σ.set i (.idict (qO l j)), { P.s with heap := h', toks := P.s.toks + 1 }⟩ := .updDict R hl hs hd' (l7 hr j)
    exact .mk ⟨P.ι, P.σ.set i (.idict (qO l j)), { P.s with heap := h', toks := P.s.toks + 1 }⟩ _ S (rv.step S) q
  · rw [e1] at q
    exact call_meetsIn PySem.F.slot_dict_pop hd.typeIs PySem.F.entry_dict_pop (PySem.F.args_dict_pop_3 _ _ _) (meets_dict_pop_default (intKind X.prog X.w) (P.ι i) (intKind_is X.prog X.w _ _) (R.notSys hi) rfl _) ⟨kvs, hd, e2, .tokV R r3 q⟩
theorem og {K : Type} [DecidableEq K] {knd : PySem.KeyKind X.prog X.w K} {h : Heap} {a : Addr} (e : h.get? a = some { cls := .type "dict", data := .dict #[] }) : h.DictOf knd a [] := ⟨_, _, _, e, ⟨rfl, rfl, rfl⟩, rfl, fun _ he => by simp at he, Pairs.nil, List.nodup_nil⟩
theorem dU {pos : Pos} : bD X h env (.Dict [] [] pos) fv := fun A P m K hA F q =>
  wpAny_Dict_empty (.dict (s' := { P.s with heap := P.h.push { cls := .type "dict", data := .dict #[] } }) F.rel (fun b o e => Heap.get?_push_of_some _ e) (cL _) F.rel.size (og (Heap.get?_push_size _ rfl)) .nil rfl rfl q)
noncomputable def Cj (xs : List String) (P : Pt) (l : List PV) (ps : List (Value × Value)) : Prop := All2 (fun (x : String) (p : Value × Value) => ∃ t, p.1 = .str (nm x) t) xs ps ∧ VRels P l (ps.map (·.2))
noncomputable def yq (X : Cxt) (h : Nat) (env : Env) (ks : List (Option Expr)) (vs : List Expr) (xs : List String) (f : LF) : Prop := ∀ A P m K pos, Ar h A → Fr X env m P → On (f m P.σ) K → W X A (evalPairs (pairTrees ks vs env pos)) P (Cj xs) K
theorem qY : yq X h env [] [] [] ao := fun A P m K pos hA F q => evalPairs_nil (.here F.rel ⟨.nil, .nil⟩ q)
theorem fY {x : String} {kd : Nat} {kp : Pos} {e : Expr} {ks : List (Option Expr)} {vs : List Expr} {xs : List String} {f : EF} {g : LF} (hf : bD X h env e f) (hg : yq X h env ks vs xs g) :
    yq X h env (some (.Constant (.str (nm x)) kd kp) :: ks) (e :: vs) (x :: xs) (aj f g) := fun A P m K pos hA F q =>
  have S0 : Step X ff P ⟨P.ι, P.σ, { P.s with toks := P.s.toks + 1 }⟩ := .tok F.rel
  evalPairs_cons (wpAny_Constant_str (wpAny_bind ((hf A ⟨P.ι, P.σ, { P.s with toks := P.s.toks + 1 }⟩ m _ hA (F.stepN S0) (c9 q)).go fun P1 v xv S1 r1 q => wpAny_bind (wpAny_standAt (wpAny_pure
    ((hg A P1 m _ pos hA (F.stepN (S0.trans S1)) (c9 q)).go fun P2 l ps S2 r2 q => .mk P2 _ ((S0.trans S1).trans S2) ⟨.cons ⟨_, rfl⟩ r2.1, .cons (r1.step S2) r2.2⟩ q))))))
theorem tH {l2 : List (String × PV)} {k2 : List (Str × Value)} (r2 : All2 (lH P) l2 k2) : ∀ {l : List (String × PV)} {k : List (Str × Value)}, All2 (lH P) l k → All2 (lH P) (mR l l2) (merged k k2) :=
  r2.rec (motive := fun l2 k2 _ => ∀ {l : List (String × PV)} {k : List (Str × Value)}, All2 (lH P) l k → All2 (lH P) (mR l l2) (merged k k2)) (fun r => r) fun {a b _ _} (hab : lH P a b) _ ih {l k} r => ih (show All2 (lH P) (tR l a.1 a.2) (stored k b.1 b.2) from (And.left hab) ▸ qL r a.1 (And.right hab))
theorem vT {xs : List String} {ps : List (Value × Value)} (r : All2 (fun (x : String) (p : Value × Value) => ∃ t, p.1 = .str (nm x) t) xs ps) : ∀ {l : List PV}, VRels P l (ps.map (·.2)) → ∃ kvs, Carries (strKind X.prog X.w) ps kvs ∧ All2 (lH P) (xs.zip l) kvs := by
  induction r with
  | nil => intro l rl; exact ⟨[], trivial, by cases rl; exact .nil⟩
  | @cons x p xs ps hp _ ih =>
    intro l rl
    cases l with
    | nil => cases rl
    | cons v l =>
      have rv : VRel P v p.2 ∧ VRels P l (ps.map (·.2)) := by cases rl with | cons a b => exact ⟨a, b⟩
      obtain ⟨kvs, c, r⟩ := ih rv.2
      obtain ⟨t, e⟩ := hp
      obtain ⟨pk, pv⟩ := p
      have e : pk = .str (nm x) t := e
      subst e
      exact ⟨(nm x, pv) :: kvs, ⟨strKind_is X.prog X.w _ _, rfl, c⟩, .cons ⟨rfl, rv.1⟩ r⟩
theorem pf {ks : List (Option Expr)} {vs : List Expr} {xs : List String} {pos : Pos} {f : LF} (hall : ks.all (·.isSome) = true) (hl : ks.length = vs.length) (h0 : ks ≠ []) (hlen : ks.length ≤ 15) (hf : yq X h env ks vs xs f) : bD X h env (.Dict ks vs pos) (qx xs f) := fun A P m K hA F q => by
  refine wpAny_Dict_walk (knd := strKind X.prog X.w) hall hl h0 hlen ?_
  have S0 : Step X ff P ⟨P.ι, P.σ, { P.s with heap := P.h.push { cls := .type "dict", data := .dict #[] }, toks := P.s.toks }⟩ := .push F.rel _
  refine (hf A ⟨P.ι, P.σ, { P.s with heap := P.h.push { cls := .type "dict", data := .dict #[] }, toks := P.s.toks }⟩ m _ pos hA (F.stepN S0) (c9 q)).go fun P1 l ps S1 r1 q => ?_
  have hD0 : (P.h.push { cls := .type "dict", data := .dict #[] }).get? P.h.objs.size = some { cls := .type "dict", data := .dict #[] } := Heap.get?_push_size _ rfl
  have hD1 : P1.h.get? P.h.objs.size = some { cls := .type "dict", data := .dict #[] } := S1.keep _ _ hD0 (fun i hi e => F.rel.fresh i hi e.symm) id
  have i1 := S1.ne hD0 F.rel.fresh
  obtain ⟨kvs, c, r⟩ := vT (X := X) r1.1 r1.2
  refine ⟨kvs, c, og hD1, fun h' hd' hs => ?_⟩
  obtain ⟨ob, hob, hni⟩ := gZ hd'
  have im : ∀ b ∈ [P.h.objs.size], ∀ o, P1.h.get? b = some o → ¬ oU o := gC fun o e => Option.some.inj (hD1.symm.trans e) ▸ ez rfl (by decide) (by decide)
  have S2 : Step X ff P (P1.at { P1.s with heap := h', toks := P1.s.toks + ps.length }) := .drop F.rel (S0.trans S1).any (gC (cL _)) (gC i1) im (fun b o n e => (hs.2 b fun q => n (q ▸ .head _)).trans e) rfl rfl
  have e1 : Ext P1 (P1.at { P1.s with heap := h', toks := P1.s.toks + ps.length }) := ⟨fun b o e i => (hs.2 b fun q => im b (q ▸ .head _) o e i).trans e, fun _ _ => rfl, Nat.le_refl _⟩
  exact .mk (P1.add P.h.objs.size (.sdict (mR [] (xs.zip l))) { P1.s with heap := h', toks := P1.s.toks + ps.length }) _
    (S2.own (s' := { P1.s with heap := h', toks := P1.s.toks + ps.length }) (cL _) (fun _ _ e => e) i1 F.rel.size hob hni (fun e => ⟨merged [] kvs, by rw [Pt.add_self]; exact hd', (tH r .nil).mono fun _ _ q => ⟨q.1, q.2.ext (e1.trans e)⟩⟩) (fun _ _ e => nomatch e) rfl rfl) (P1.add_rel _ _ _) q
end
theorem lL (a : Int) : ∀ l, (vA a l).Perm (a :: l)
  | [] => .refl _
  | b :: r => by
    unfold vA
    split
    · exact .refl _
    · exact ((lL a r).cons b).trans (.swap a b r)
theorem fX : ∀ ns, (gY ns).Perm ns
  | [] => .refl _
  | a :: r => (lL a _).trans ((fX r).cons a)
theorem u8 (a : Int) : ∀ {l : List Int}, l.Pairwise (· ≤ ·) → (vA a l).Pairwise (· ≤ ·)
  | [], _ => List.pairwise_singleton _ _
  | b :: r, h => by
    obtain ⟨h1, h2⟩ := List.pairwise_cons.mp h
    unfold vA
    split
    · rename_i c
      exact List.pairwise_cons.mpr ⟨fun x hx => (List.mem_cons.mp hx).elim (fun e => e ▸ c) fun hx => Int.le_trans c (h1 x hx), h⟩
    · rename_i c
      exact List.pairwise_cons.mpr ⟨fun x hx => (List.mem_cons.mp ((lL a r).mem_iff.mp hx)).elim (fun e => e ▸ Int.le_of_lt (Int.not_le.mp c)) (h1 x), u8 a h2⟩
theorem uL : ∀ ns, (gY ns).Pairwise (· ≤ ·)
  | [] => .nil
  | a :: r => u8 a (uL r)
theorem uw {ns ms : List Int} (p : ms.Perm ns) (o : ms.Pairwise (· ≤ ·)) : ms = gY ns :=
  List.Perm.eq_of_pairwise (fun x y _ _ h1 h2 => Int.le_antisymm h1 h2) o (uL ns) (p.trans (fX ns).symm)
theorem iE : ∀ {l : List Int} {m : Int}, gX l = some m → m ∈ l ∧ ∀ x ∈ l, m ≤ x
  | a :: r, m, e => by
    unfold gX at e
    cases q : gX r with
    | none =>
      rw [q] at e
      cases e
      cases r with
      | nil => exact ⟨.head _, fun x hx => Int.le_of_eq (List.mem_singleton.mp hx).symm⟩
      | cons b r =>
        unfold gX at q
        split at q <;> cases q
    | some b =>
      rw [q] at e
      obtain ⟨h1, h2⟩ := iE q
      have e := Option.some.inj e
      by_cases c : b < a
      · rw [if_pos c] at e
        subst e
        exact ⟨.tail _ h1, fun x hx => (List.mem_cons.mp hx).elim (fun e => e ▸ Int.le_of_lt c) (h2 x)⟩
      · rw [if_neg c] at e
        subst e
        exact ⟨.head _, fun x hx => (List.mem_cons.mp hx).elim (fun e => e ▸ Int.le_refl _) fun hx => Int.le_trans (Int.not_lt.mp c) (h2 x hx)⟩
theorem lZ (f : Nat → Int) : ∀ k, ∀ j ≤ k, f (argBest (fun i j => decide (f i < f j)) k) ≤ f j
  | 0, j, hj => by cases Nat.le_zero.mp hj; exact Int.le_refl _
  | k + 1, j, hj => by
    have h2 := lZ f k
    unfold argBest
    by_cases c : f (k + 1) < f (argBest (fun i j => decide (f i < f j)) k)
    · rw [if_pos (decide_eq_true c)]
      exact (Nat.lt_or_eq_of_le hj).elim (fun q => Int.le_trans (Int.le_of_lt c) (h2 j (Nat.le_of_lt_succ q))) fun q => q ▸ Int.le_refl _
    · rw [if_neg (by rw [decide_eq_false c]; decide)]
      exact (Nat.lt_or_eq_of_le hj).elim (fun q => h2 j (Nat.le_of_lt_succ q)) fun q => q ▸ Int.not_lt.mp c
section
variable {X : Cxt} {h : Nat} {env : Env} {P P1 : Pt} {m : Loc} {A : Around}
theorem uP {es : List (Int × PV)} {kvs : List (Int × Value)} (r : All2 (ge P) es kvs) : es.map (·.1) = kvs.map (·.1) := r.rec rfl fun {a b _ _} (h : ge P a b) _ ih => by rw [List.map_cons, List.map_cons, ih, And.left h]
theorem lw {K : Type} [DecidableEq K] {knd : PySem.KeyKind X.prog X.w K} {h : Heap} {a : Addr} {kvs : List (K × Value)} (x : h.DictOf knd a kvs) : ∃ ep, h.DictAt knd a kvs ep := let ⟨o, es, ep, r⟩ := x; ⟨ep, o, es, r⟩
theorem fF {k : Int} {v : Value} (e : (intKind X.prog X.w).is k v = true) : ∃ t, v = .int k t := by
  cases v with
  | int i t => exact ⟨t, by rw [beq_iff_eq.mp (show (i == k) = true from e)]⟩
  | _ => cases e
theorem uT {kvs : List (Int × Value)} {i : Nat} {p : Int × Value} (h : kvs[i]? = some p) : (kvs.getD i (0, .none)).1 = p.1 := by rw [List.getD_eq_getElem?_getD, h]; rfl
theorem px {ob : Obj} {h' : Heap} (hk : ∀ b o, b ∉ [P.h.objs.size] → (P.h.push ob).get? b = some o → h'.get? b = some o) (b : Addr) (o : Obj) (e : P.h.get? b = some o) : h'.get? b = some o :=
  hk b o (fun q => absurd (Heap.lt_size e) (List.mem_singleton.mp q ▸ Nat.lt_irrefl _)) (Heap.get?_push_of_some _ e)
theorem ux {ob : Obj} {a : Addr} (ha : a < P.h.objs.size) : ∀ b ∈ [P.h.objs.size, a], b < (P.h.push ob).objs.size := fun b hb => by
  rw [size_push']
  exact (List.mem_cons.mp hb).elim (fun e => e ▸ Nat.lt_succ_self _) fun hb => List.mem_singleton.mp hb ▸ Nat.lt_succ_of_lt ha
theorem oH : gr X h (.builtin "min") t6 := fun A P args xs K hA R r q => by
  unfold t6 at q
  cases args with
  | nil => exact q.elim
  | cons a l => cases l with
    | cons b l => cases l with
      | nil => exact r.consK fun x ys r1 r2 => r2.consK fun y ys r2 r3 => r3.nilK (onInt q r1 fun i t q => onInt q r2 fun j u q => min_two_ints hA.hd fun h' tk hk => .kept R hk uC q)
      | cons => exact q.elim
    | nil =>
      refine r.consK fun x ys r1 r2 => r2.nilK (onVD R q r1 fun i es kvs hi hl hd hr q => yB q fun v e q => ?_)
      obtain ⟨mk, e1, rfl⟩ := Option.map_eq_some_iff.mp e
      obtain ⟨hm, hmin⟩ := iE e1
      rw [uP hr] at hm hmin
      obtain ⟨p, hp, hpm⟩ := List.mem_map.mp hm
      obtain ⟨j, hj⟩ := List.getElem?_of_mem hp
      have hjl := (List.getElem?_eq_some_iff.mp hj).1
      obtain ⟨ep, hda⟩ := lw hd
      have hlt := R.lt hi
      have key : ∀ {i k x}, kvs[i]? = some (k, x) → (kvs.getD i (0, .none)).1 = k := fun h => uT h
      refine call_min_walk (wpAny_pyIter_dict (R.notSys hi) hda ⟨_, _, _, _, _, _, fun i j => decide ((kvs.getD i (0, .none)).1 < (kvs.getD j (0, .none)).1), rfl, Walks.dictKeys (by exact hA.hd) P.h.objs.size (P.ι i) (Nat.ne_of_lt hlt) kvs ep, ⟨⟨_, Heap.get?_push_size _ rfl, rfl, rfl⟩, hda.at' fun o e => Heap.get?_push_of_some _ e⟩, ux hlt, Nat.zero_lt_of_lt hjl, ?_, ?_⟩)
      · intro i j vi vj s Q E ⟨ki, xi, hi1, hi2⟩ ⟨kj, xj, hj1, hj2⟩ hQ
        obtain ⟨t, rfl⟩ := fF hi2
        obtain ⟨u, rfl⟩ := fF hj2
        exact lt_int (by rw [← key hi1, ← key hj1]; exact hQ)
      · intro v h' tk ⟨kb, xb, hb1, hb2⟩ hkeep
        obtain ⟨t, rfl⟩ := fF hb2
        have h2 := lZ (fun i => (kvs.getD i (0, .none)).1) (kvs.length - 1) j (Nat.le_sub_one_of_lt hjl)
        rw [key hb1, uT hj, hpm] at h2
        have e := Int.le_antisymm h2 (hmin kb (List.mem_map.mpr ⟨(kb, xb), List.mem_of_getElem? hb1, rfl⟩))
        subst e
        exact .kept R (px hkeep) (.int _ _) q
theorem kC (ns : List Int) : ∀ k, k ≤ ns.length → preSum (fun j => ns.getD j 0) k = (ns.take k).foldl (· + ·) 0
  | 0, _ => rfl
  | k + 1, hk => by
    unfold preSum
    rw [kC ns k (Nat.le_of_succ_le hk), List.take_succ, List.foldl_append, List.getD_eq_getElem?_getD, List.getElem?_eq_getElem hk]
    rfl
theorem kP (ns : List Int) (hs : ∀ j, j < ns.length → b7 (ns.getD j 0) = true) : ∀ k, k ≤ ns.length → -(1000000 * (k : Int)) ≤ preSum (fun j => ns.getD j 0) k ∧ preSum (fun j => ns.getD j 0) k ≤ 1000000 * (k : Int)
  | 0, _ => by unfold preSum; omega
  | k + 1, hk => by
    have ih := kP ns hs k (Nat.le_of_succ_le hk)
    have hm := of_decide_eq_true (hs k hk)
    unfold preSum
    omega
theorem e9 : ∀ {vs : List Value} {ns : List Int}, IntsAre vs ns → vs.length = ns.length
  | _, _, .nil => rfl
  | _, _, .cons _ _ r => congrArg Nat.succ (e9 r)
theorem fV : ∀ {vs : List Value} {ns : List Int}, IntsAre vs ns → VRels P (ns.map .int) vs
  | _, _, .nil => .nil
  | _, _, .cons n t r => .cons (.int n t) (fV r)
theorem uR : ∀ {vs : List Value} {ns : List Int}, IntsAre vs ns → ∀ (j : Nat) (v : Value), vs[j]? = some v → ∃ t, v = .int (ns.getD j 0) t
  | _, _, .cons n t r, 0, v, e => ⟨t, (Option.some.inj e).symm⟩
  | _, _, .cons n t r, j + 1, v, e => uR r j v e
theorem xN : gr X h (.builtin "sum") yY := fun A P args xs K hA R r q => on1 q r fun a x r q => onVL R q r fun i l vs ep hi hl ho rv q => mW q rv fun ns en hints q => cF q fun hz q => by
  have hlen := e9 hints
  have hlt := R.lt hi
  have hs : ∀ j, j < ns.length → b7 (ns.getD j 0) = true := fun j hj => by
    rw [List.getD_eq_getElem?_getD, List.getElem?_eq_getElem hj]
    exact List.all_eq_true.mp hz.2 _ (List.getElem_mem _)
  refine call_sum_walk (wpAny_pyIter_list ⟨_, ho, rfl, ep, rfl⟩ ⟨_, _, _, _, _, _, fun j => ns.getD j 0, rfl, Walks.list (by exact hA.hd) P.h.objs.size (P.ι i) (Nat.ne_of_lt hlt) vs.toArray, ⟨⟨_, Heap.get?_push_size _ rfl, rfl, rfl⟩, ⟨_, Heap.get?_push_of_some _ ho, rfl, ep, rfl⟩⟩, ux hlt, fun j v e => uR hints j v (by rw [← List.getElem?_toArray]; exact e), fun j hj => ?_, fun h' tk t' hkeep => ?_⟩)
  · rw [List.size_toArray, hlen] at hj
    have h1 := kP ns hs (j + 1) hj
    have hm := of_decide_eq_true (hs j hj)
    have hz1 := hz.1
    unfold InLong
    dsimp only
    omega
  · have e1 : preSum (fun j => ns.getD j 0) vs.toArray.size = yE ns := by
      rw [List.size_toArray, hlen, kC ns _ (Nat.le_refl _), List.take_length]; rfl
    rw [e1]
    exact .kept R (px hkeep) (.int _ _) q
theorem lA {r : Addr} {ns : List Int} {K : PV → AH → Prop} (R : HRel X P) (h64 : ns.length < 64)
    (hc : wpAny X.M A.in1 (collect (.ref r)) (fun vs s' => (∃ ms : List Int, IntsAre vs ms ∧ ms.Perm ns) ∧ ∃ h' tk, s' = { P.s with heap := h', toks := tk } ∧ ∀ b o, P.h.get? b = some o → h'.get? b = some o) jm P.s)
    (q : K (.obj P.n) (P.σ.new (.list ((gY ns).map .int)))) : wpAny X.M A (call (.builtin "sorted") [.ref r]) (Ret X P VRel K) jm P.s := by
  refine PySem.Calls.call_function_entry kind_sorted plain_sorted entry_sorted (args_sorted1 _) ?_
  unfold Builtin.«sorted»
  refine wpAny_bind (m := checkCount "sorted" 1 1 _) (wpAny_pure ?_)
  refine wpAny_bind (wpAny_mono hc (fun vs s' hx => ?_) fun _ _ e => e.elim)
  obtain ⟨⟨ms, hi, hp⟩, h', tk, rfl, hk⟩ := hx
  have hlen : vs.length < 64 := by rw [e9 hi, hp.length_eq]; exact h64
  refine wpAny_bind (wpAny_newList ?_ (by rw [sizeLine_eq]; omega))
  have hoL : (h'.push (seqObj "list" vs.toArray 0)).get? h'.objs.size = some (seqObj "list" vs.toArray 0) := Heap.get?_push_size _ rfl
  have above : ∀ b, (P.h.get? b).isSome → b < h'.objs.size := fun b e => let ⟨o, z⟩ := Option.isSome_iff_exists.mp e; Heap.lt_size (hk b o z)
  refine wpAny_bind (wpAny_holding (wpAny_call_entry slot_list_sort ⟨_, hoL, rfl⟩ entry_list_sort ?body (args_list_sort _)))
  case body =>
    refine list_sort_tree (s := { P.s with heap := h'.push (seqObj "list" vs.toArray 0), toks := tk }) hoL hi hlen fun out ns' a1 a2 a3 => ⟨_, rfl, wpAny_pure ⟨_, rfl, ?_⟩⟩
    have e := uw (a2.trans hp) a3
    subst e
    obtain ⟨e, he⟩ := sortedHeap_at (out := out) hoL
    refine .list (ep := e) R (fun b o z => ?_)
      (e8 fun o z => absurd (above _ (bA z)) (Nat.lt_irrefl _)) (R.above above) (by rw [he]; simp [ef]) (fV a1) rfl rfl q
    have hlt := Heap.lt_size (hk b o z)
    rw [sortedHeap_old (Nat.ne_of_lt hlt) (by rw [size_push']; exact Nat.lt_succ_of_lt hlt)]
    exact Heap.get?_push_of_some _ (hk b o z)
theorem ir : ∀ {vs : List Value} {ns : List Int}, vs.length = ns.length → (∀ (j : Nat) (v : Value), vs[j]? = some v → ∃ t, v = .int (ns.getD j 0) t) → IntsAre vs ns
  | [], [], _, _ => .nil
  | v :: vs, n :: ns, hl, f => (f 0 v rfl).elim fun t e => by
    have e : v = .int n t := e
    subst e
    exact .cons _ _ (ir (Nat.succ.inj hl) fun j v e => f (j + 1) v e)
theorem l8 : gr X h (.builtin "sorted") j9 := fun A P args xs K hA R r q => on1 q r fun a x r q => onObj q r fun i hi q => by
  cases e : P.σ.get i with
  | none => rw [e] at q; exact q.elim
  | some ob =>
    rw [e] at q
    cases ob <;> try exact q.elim
    · exact R.list e fun vs ep ho rv => mW q rv fun ns en hints q => cF q fun hz q => lA R hz (collect_list ⟨_, ho, rfl, ep, rfl⟩ ⟨⟨ns, hints, .refl _⟩, _, P.s.toks, rfl, fun b o e => by
        rw [Heap.get?_update_ne _ _ _ _ (Nat.ne_of_lt (Heap.lt_size e))]
        exact Heap.get?_push_of_some _ e⟩ (by rw [e9 hints, sizeLine_eq]; omega)) q
    · rename_i es
      exact cF q fun hz q => R.idict e fun kvs hd hr => (lw hd).elim fun ep hda => lA R (by rw [List.length_map]; exact hz) (kdu_collect (kdl_dict (R.notSys hi)) (by exact hA.hd) hda (by rw [← hr.length, sizeLine_eq]; omega) fun h' tk acc hk hacc => ⟨⟨es.map (·.1), by
        rw [uP hr]
        refine ir (by rw [Array.length_toList, List.length_map]; exact hacc.1) fun j v e => ?_
        obtain ⟨k, x, e1, e2⟩ := hacc.2 j v (by rw [← Array.getElem?_toList]; exact e)
        obtain ⟨t, rfl⟩ := fF e2
        exact ⟨t, by rw [List.getD_eq_getElem?_getD, List.getElem?_map, e1]; rfl⟩, .refl _⟩, h', tk, rfl, hk⟩) q
theorem BU {σ : AH} {i j : Nat} {r : Option PV} {C : Prop} (e : Src.item σ j (.enm i) = some r) (k : ∀ l, σ.get i = some (.list l) → (l[j]?.map fun v => PV.tup [.int j, v]) = r → C) : C := by
  unfold Src.item gm at e
  dsimp only at e
  split at e
  · rename_i l hl; exact k l hl (Option.some.inj e)
  · cases e
theorem qu {J : Addr → Prop} {I it : Addr} (h1 : J I) (h2 : J it) : ∀ b ∈ [I, it], J b := fun b hb => (List.mem_cons.mp hb).elim (fun e => e ▸ h1) fun hb => List.mem_singleton.mp hb ▸ h2
theorem It.enum {elts : List Expr} {kd : Nat} {pos : Pos} {I it a : Addr} {i : Nat} (hh : A.handled = none) (hne : I ≠ it) :
    It X A (.Tuple elts kd pos) [I, it] I (.enm i) (fun j P => (∃ old, IsEnum P.h I it (j : Int) old) ∧ P.h.IsListIter it a j ∧ i < P.n ∧ P.ι i = a) where
  item := fun j P v Q R st f e hQ => BU e fun l hl e => R.list hl fun vs ep ho hr => by
    obtain ⟨⟨old, hen⟩, hit, hin, ea⟩ := st
    obtain ⟨v0, hv, rfl⟩ := Option.map_eq_some_iff.mp e
    obtain ⟨x, hx, rx⟩ := hr.get hv
    obtain ⟨oi, hoi, hci, hdi⟩ := id hit
    refine wpAny_pyNext_enum_item hen hit ⟨_, ea ▸ ho, rfl, ep, rfl⟩ (by rw [List.getElem?_toArray]; exact hx) hne fun h' hen' hit' htup hsz hk' => ⟨_, rfl, wpAny_letOwnedTupleGo_enum hen' fun h'' hen2 hs2 => ?_⟩
    obtain ⟨oi', hoi', hci', hdi'⟩ := id hit'
    have itOk : h''.get? it = some oi' := (hs2.2 it hne.symm).trans hoi'
    have S : Step X (· ∈ [I, it]) P (P.at { P.s with heap := h'', toks := P.s.toks + 1 }) := .iter R f (qu (fun o e => Option.some.inj (Eq.trans (Eq.symm hen) e) ▸ ez rfl (by decide) (by decide)) fun o e => Option.some.inj (hoi.symm.trans e) ▸ ez hci (by decide) (by decide))
      (fun b o n e => (hs2.2 b fun q => n (q ▸ .head _)).trans (hk' b o (fun q => n (q ▸ .head _)) (fun q => n (q ▸ .tail _ (.head _))) e)) (qu (bA hen2) (bA itOk)) rfl rfl
    have ht2 : h''.get? P.h.objs.size = some (iF [.int (j : Int) P.s.toks, x] 0) := (hs2.2 _ fun q => cK (q ▸ cL P.h) hen).trans htup
    exact hQ _ _ S (.tup' ht2 (.cons (.int _ _) (.cons (rx.step S) .nil))) ⟨⟨x, show IsEnum h'' I it ((j + 1 : Nat) : Int) x from hen2⟩, ⟨oi', itOk, hci', hdi'⟩, hin, ea⟩
  done := fun j P Q R st f e hQ => BU e fun l hl e => R.list hl fun vs ep ho hr => by
    obtain ⟨⟨old, hen⟩, hit, hin, ea⟩ := st
    exact wpAny_pyNext_enum_end hh hen hit ⟨_, ea ▸ ho, rfl, ep, rfl⟩ (gV hr (Option.map_eq_none_iff.mp e)) fun h' he => hQ _ (fun b o n e => he b o (fun q => n (q ▸ .tail _ (.head _))) e) rfl rfl
  frame := fun j P P' ⟨⟨old, hen⟩, hit, hin, ea⟩ k e => ⟨⟨old, k I (.head _) _ hen⟩, hit.at (k it (.tail _ (.head _))), Nat.lt_of_lt_of_le hin e.nx, (e.ag i hin).trans ea⟩
  alive := fun j P ⟨⟨old, hen⟩, ⟨oi, hoi, hci, hdi⟩, _⟩ => qu ⟨_, hen, ez rfl (by decide) (by decide)⟩ ⟨oi, hoi, ez hci (by decide) (by decide)⟩
  self := fun j P Q E ⟨⟨old, hen⟩, _⟩ q => wpAny_pyIter_enum hen q
theorem pp {np pos tp : Pos} {es elts : List Expr} {kd : Nat} {l : LF} (N : BName X.K env "enumerate" (.type "enumerate")) (hp : ec es env) (hl : gK X h env es l) :
    rY X h env (.Tuple elts kd tp) (.Call (.Name (nm "enumerate") np) es [] pos) (fun m σ => bnd (l m σ) oA) := fun A P m K hA F q =>
  eY N hp hl hA F (c9 q) fun P1 args xs S1 r q => on1 q r fun a x r q => onVL S1.rel q r fun i l vs ep hi hl ho rv q => call_enumerate_list ⟨_, ho, rfl, ep, rfl⟩ fun h' hen hit hsz hk' => wpAny_pyIter_enum hen (by
    have S2 : Step X ff P1 (P1.at { P1.s with heap := h' }) := .grow S1.rel hk' rfl rfl
    have fr : ∀ b, P1.h.objs.size ≤ b → P1.h.get? b = none := fun b hb => e8 fun o z => absurd (Heap.lt_size z) (Nat.not_lt.mpr hb)
    exact .mk (P1.at { P1.s with heap := h' }) [P1.h.objs.size + 1, P1.h.objs.size] _ (.enm i) _ (S1.trans S2) (It.enum hA.hd (Nat.succ_ne_self _)) ⟨⟨_, hen⟩, hit, hi, rfl⟩ (qu ⟨S1.gone (fr _ (Nat.le_succ _)), S1.rel.ne_none (fr _ (Nat.le_succ _))⟩ ⟨S1.gone (cL _), S1.rel.fresh⟩) q)
end
theorem uU : Manifest.owners.lookup (String.ofList ['d', 'e', 's', 'r', 'e', 'v', 'e', 'r'].reverse) = some Manifest.sig_reversed := by kernel_rfl
theorem slot_rev_next : Slot "reversed" "__next__" "reversed.__next__" :=
  .of (owner := "reversed") (n := "__next__") (by rw [typeLookup_type, builtinLookup_eq_fast]; kernel_rfl) (by decide +kernel) (by decide +kernel) (by decide +kernel)
    (by first | exact .inl (by decide +kernel) | exact .inr (by decide +kernel)) (by rw [isSubtype_type]; kernel_rfl)
theorem jq : Slot "reversed" "__iter__" "reversed.__iter__" :=
  .of (owner := "reversed") (n := "__iter__") (by rw [typeLookup_type, builtinLookup_eq_fast]; kernel_rfl) (by decide +kernel) (by decide +kernel) (by decide +kernel)
    (by first | exact .inl (by decide +kernel) | exact .inr (by decide +kernel)) (by rw [isSubtype_type]; kernel_rfl)
theorem oO : Slot "reversed" "__init__" "object.__init__" :=
  .of (owner := "object") (n := "__init__") (by rw [typeLookup_type, builtinLookup_eq_fast]; kernel_rfl) (by decide +kernel) (by decide +kernel) (by decide +kernel)
    (by first | exact .inl (by decide +kernel) | exact .inr (by decide +kernel)) (by rw [isSubtype_type]; kernel_rfl)
theorem iD : entryFor table "reversed.__next__" = some Builtin.«reversed.__next__» := entryFor_of_tree (by kernel_rfl)
theorem jr (a : Value) : argsOk "reversed.__next__" ⟨[a], []⟩ := by
  unfold argsOk; rw [signature?_of (id := "reversed.__next__") (n := ['_', '_', 't', 'x', 'e', 'n', '_', '_']) (o := ['d', 'e', 's', 'r', 'e', 'v', 'e', 'r']) (by kernel_rfl) uU]; kernel_rfl
theorem oM (a : Value) : argsOk "reversed.__iter__" ⟨[a], []⟩ := by
  unfold argsOk; rw [signature?_of (id := "reversed.__iter__") (n := ['_', '_', 'r', 'e', 't', 'i', '_', '_']) (o := ['d', 'e', 's', 'r', 'e', 'v', 'e', 'r']) (by kernel_rfl) uU]; kernel_rfl
theorem ox : entryFor table "reversed.__iter__" = some Builtin.«dict_keyiterator.__iter__» :=
  entryFor_alias (id' := "dict_keyiterator.__iter__") (by kernel_rfl) (by first | rfl | decide +kernel | (unfold String.splitOn; simp +decide [String.splitOnAux])) (by decide +kernel) (by kernel_rfl)
theorem ub : TypeCalled "reversed" "reversed.__new__" "object.__init__" :=
  ⟨by decide +kernel, by decide +kernel, ⟨_, _, PySem.F.mro_reversed⟩, PySem.F.made_reversed, by decide +kernel, PySem.F.sub_reversed_self, oO⟩
theorem sW (a b : Value) : argsOk "object.__init__" ⟨[a, b], []⟩ := by
  unfold argsOk; rw [signature?_of (id := "object.__init__") (n := ['_', '_', 't', 'i', 'n', 'i', '_', '_']) (o := ['t', 'c', 'e', 'j', 'b', 'o']) (by kernel_rfl) PySem.F.owner_object]; kernel_rfl
theorem qw : typeLookup (.type "tuple") "__reversed__" = pure none := by rw [typeLookup_type, builtinLookup_eq_fast]; kernel_rfl
theorem oB : isSubtype (.type "tuple") (.type "dict") = pure false := by rw [isSubtype_type]; kernel_rfl
noncomputable abbrev pg (h : Heap) (I t : Addr) (k : Int) : Prop := h.get? I = some { cls := .type "reversed", data := .fields #[.ref t, rawInt k] }
section
variable {prog : Program} {w : World} {A : Around} {E : Value → Shared → Prop} {s : Shared}
theorem oR (t : Addr) (vs : List Value) (ep : Nat) : Meets (Builtin.«reversed.__new__» ⟨[.type "reversed", .ref t], []⟩) (fun _ R s => (s.heap.get? t = some (iF vs ep) ∧ vs.length ≤ 100000) ∧
    R (.ok (.ret (.ref s.heap.objs.size))) { s with heap := s.heap.push { cls := .type "reversed", data := .fields #[.ref t, rawInt ((vs.length : Int) - 1)] }, toks := s.toks + 1 + 1 }) :=
  .of_wp fun prog w A R s ⟨⟨ht, hz⟩, h⟩ => by
    have hT : s.TypeIs (.ref t) "tuple" := ⟨_, ht, rfl⟩
    unfold Builtin.«reversed.__new__»
    refine wpAny_bind (wpAny_of_eq (newClass_reversed _) ?_)
    try dsimp only
    refine wpAny_bind (wpAny_of_eq (a := ()) (by first | rfl | kernel_rfl) ?_)
    refine wpAny_bind (wpAny_of_eq (a := ()) (by first | rfl | kernel_rfl) ?_)
    try dsimp only
    refine wpAny_bind (wpAny_specialOf hT qw ?_)
    dsimp only
    refine wpAny_bind ?_
    show wpAny _ _ (isInstance (.ref t) (.type "dict") >>= _) _ _ _
    refine wpAny_bind (wpAny_isInstance hT oB ?_)
    show wpAny _ _ (specialOf (.ref t) "__getitem__" >>= _) _ _ _
    refine wpAny_bind (wpAny_specialOf hT PySem.F.slot_tuple_getitem.lookup ?_)
    dsimp only
    rw [if_pos (by decide)]
    refine wpAny_pure ?_
    simp only [Bool.not_true, Bool.false_eq_true, if_false]
    refine wpAny_bind (PySem.P.len_tuple (items := vs.toArray) (n := ep) ht (by rw [List.size_toArray]; lia) ?_)
    refine wpAny_bind (wpAny_pure ?_)
    dsimp only
    refine wpAny_bind ?_
    unfold Builtin.SmallTypes.newRecord
    refine wpAny_newObj_type (wpAny_pure ⟨_, rfl, ?_⟩)
    rw [List.size_toArray]
    exact h
theorem i6 {t : Addr} {vs : List Value} {ep : Nat} {Q : Value → Shared → Prop} (ht : s.heap.get? t = some (iF vs ep)) (hz : vs.length ≤ 100000)
    (h : Q (.ref s.heap.objs.size) { s with heap := s.heap.push { cls := .type "reversed", data := .fields #[.ref t, rawInt ((vs.length : Int) - 1)] }, toks := s.toks + 1 + 1 }) :
    wpAny (model prog w) A (call (.type "reversed") [.ref t]) Q E s :=
  callType_new ub (by decide) (PySem.F.typeCall_reversed_1 _) (PySem.F.newCall_reversed_1 _) (fun obj => sW obj _) PySem.F.entry_reversed_new
    (oR t vs ep) ⟨⟨ht, hz⟩, ⟨_, Heap.get?_push_size _ rfl, rfl⟩, h⟩
theorem nR {I t : Addr} {k : Int} {Q : Value → Shared → Prop} (hi : pg s.heap I t k) (h : Q (.ref I) s) : wpAny (model prog w) A (pyIter (.ref I)) Q E s := by
  have hT : s.TypeIs (.ref I) "reversed" := ⟨_, hi, rfl⟩
  refine wpAny_pyIter_slot hT jq (wpAny_call_entry jq hT ox ?_ (oM _))
  show wpAny _ _ (ret (.ref I)) _ _ s
  exact wpAny_pure ⟨_, rfl, "reversed", _, hT, slot_rev_next.lookup, h⟩
theorem mi {I t : Addr} {k : Nat} {vs : List Value} {ep : Nat} {x : Value} {Q : Option Value → Shared → Prop} (hi : pg s.heap I t (k : Int)) (ht : s.heap.get? t = some (iF vs ep)) (hx : vs[k]? = some x) (hz : vs.length ≤ 100000)
    (hQ : ∀ h', pg h' I t ((k : Int) - 1) → Heap.SameBut I s.heap h' → Q (some x) { s with heap := h', toks := s.toks + 1 }) : wpAny (model prog w) A (pyNext (.ref I)) Q E s := by
  have hT : s.TypeIs (.ref I) "reversed" := ⟨_, hi, rfl⟩
  have hTt : s.TypeIs (.ref t) "tuple" := ⟨_, ht, rfl⟩
  have hk : k < vs.length := (List.getElem?_eq_some_iff.mp hx).1
  unfold pyNext
  refine wpAny_bind (wpAny_attempt (wpAny_callSpecial?_slot (name := Str.ofString "__next__") hT slot_rev_next
    (wpAny_call_entry slot_rev_next hT iD ?_ (jr _))))
  unfold Builtin.«reversed.__next__»
  refine wpAny_bind (wpAny_of_eq (a := (Value.ref I, [])) rfl ?_)
  dsimp only
  refine wpAny_bind (wpAny_field hi rfl (x := .ref t) rfl ?_)
  refine wpAny_bind (wpAny_field hi rfl (x := rawInt (k : Int)) rfl ?_)
  show wpAny _ _ (if (k : Int) < 0 then _ else _) _ _ s
  rw [if_neg (by lia)]
  refine wpAny_bind (wpAny_specialOf hTt PySem.F.slot_tuple_getitem.lookup ?_)
  simp only [Option.isNone_some, Bool.false_eq_true, if_false]
  refine wpAny_bind (wpAny_mkInt (wpAny_bind (wpAny_attempt ?_)))
  refine PySem.P.getItem_tuple (items := vs.toArray) (n := ep) (k := k) (y := x) ht (by lia) (by lia) ?_ (by rw [List.getElem?_toArray]; exact hx) ?_
  · unfold seqIndex?
    rw [List.size_toArray]
    have h1 : ¬ ((k : Int) < 0) := by lia
    simp [h1, hk]
  · dsimp only
    refine wpAny_bind (wpAny_field (s := { s with toks := s.toks + 1 }) hi rfl (x := rawInt (k : Int)) rfl ?_)
    show wpAny _ _ (setField (.ref I) 1 (rawInt ((k : Int) - 1)) >>= _) _ _ _
    refine wpAny_bind (wpAny_setField_rec (s := { s with toks := s.toks + 1 }) hi (by simp) fun h' hn hs => ?_)
    exact wpAny_pure ⟨x, rfl, wpAny_pure (hQ h' hn hs)⟩
theorem oo {I t : Addr} {Q : Option Value → Shared → Prop} (hh : A.handled = none) (hi : pg s.heap I t (-1))
    (hQ : ∀ h', Heap.ExtBut I s.heap h' → Q none { s with heap := h' }) : wpAny (model prog w) A (pyNext (.ref I)) Q E s := by
  have hT : s.TypeIs (.ref I) "reversed" := ⟨_, hi, rfl⟩
  unfold pyNext
  refine wpAny_bind (wpAny_attempt (wpAny_callSpecial?_slot (name := Str.ofString "__next__") hT slot_rev_next
    (wpAny_call_entry slot_rev_next hT iD ?_ (jr _))))
  unfold Builtin.«reversed.__next__»
  refine wpAny_bind (wpAny_of_eq (a := (Value.ref I, [])) rfl ?_)
  dsimp only
  refine wpAny_bind (wpAny_field hi rfl (x := .ref t) rfl ?_)
  refine wpAny_bind (wpAny_field hi rfl (x := rawInt (-1 : Int)) rfl ?_)
  show wpAny _ _ (if (-1 : Int) < 0 then _ else _) _ _ s
  rw [if_pos (by decide)]
  refine wpAny_bind (wpAny_rule ?_)
  refine wpAny_bind ?_
  show wpAny _ _ (setField (.ref I) 1 (rawInt (-1 : Int)) >>= _) _ _ _
  refine wpAny_bind (wpAny_setField_rec hi (by simp) fun h1 hn1 hs1 => ?_)
  refine wpAny_setField_rec hn1 (by simp) fun h2 hn2 hs2 => ?_
  refine wpAny_bind ?_
  show wpAny _ _ (newExc (.type "StopIteration") [] >>= _) _ _ _
  refine wpAny_bind ?_
  simp only [newExc, newTuple]
  refine wpAny_bind (wpAny_newObj_type ?_ (by size_fits))
  refine wpAny_bind (m := firstArgMember _ _) (wpAny_of_eq (a := Value.none) (by first | rfl | (simp only [firstArgMember]; rfl)) ?_)
  refine wpAny_newObj_type ?_ (by size_fits)
  simp only [raiseNew]
  refine wpAny_bind (wpAny_handled ?_)
  first | rw [show A.in1.handled = none from hh] | rw [hh]
  refine wpAny_bind (wpAny_pure (wpAny_throw ?_))
  refine wpAny_bind (wpAny_isInstance (T := "StopIteration") (b := true) ⟨_, Heap.get?_push_size _ rfl, rfl⟩ isSubtype_stop ?_)
  exact wpAny_pure (hQ _ (fun b o n e => Heap.get?_push_of_some _ (Heap.get?_push_of_some _ ((hs2.2 b n).trans ((hs1.2 b n).trans e)))))
end
section
variable {X : Cxt} {h : Nat} {env : Env} {P P1 : Pt} {m : Loc} {A : Around}
theorem It.rev {I a : Addr} {vs : List Value} {ep : Nat} {l : List PV} (hh : A.handled = none) (hz : vs.length ≤ 100000) :
    I1 X A I (.seq l.reverse) (fun j h => pg h I a ((vs.length : Int) - 1 - j) ∧ j ≤ vs.length) (fun P => P.h.get? a = some (iF vs ep) ∧ VRels P l vs) where
  typ := fun j h st => ⟨_, _, st.1, rfl, by decide, by decide, by decide⟩
  loc := fun j h h' st k => ⟨k _ st.1, st.2⟩
  ext := fun P P' d e => ⟨e.tk _ _ d.1 (nF _ _), VRels.ext d.2 e⟩
  item := fun j P v Q R st d e hQ => by
    have e' := Option.some.inj e
    have hlen := d.2.length
    have hjl : j < l.length := List.length_reverse ▸ (List.getElem?_eq_some_iff.mp e').1
    rw [List.getElem?_reverse hjl] at e'
    obtain ⟨x, hx, rx⟩ := d.2.get e'
    have e1 : ((vs.length : Int) - 1 - j) = ((l.length - 1 - j : Nat) : Int) := by lia
    have e2 : ((vs.length : Int) - 1 - ((j + 1 : Nat) : Int)) = ((l.length - 1 - j : Nat) : Int) - 1 := by lia
    exact mi (e1 ▸ st.1) d.1 hx hz fun h' hit' hs => hQ x h' _ rx ⟨by rw [e2]; exact hit', hlen ▸ hjl⟩ hs
  done := fun j P Q R st d e hQ => by
    have hjl : l.length ≤ j := List.length_reverse ▸ List.getElem?_eq_none_iff.mp (Option.some.inj e)
    have e1 : ((vs.length : Int) - 1 - j) = -1 := by have := d.2.length; have := st.2; lia
    exact oo hh (e1 ▸ st.1) hQ
  self := fun j s Q E st q => nR st.1 q
theorem w4 {np pos : Pos} {target : Expr} {es : List Expr} {l : LF} (N : BName X.K env "reversed" (.type "reversed")) (hp : ec es env) (hl : gK X h env es l) :
    rY X h env target (.Call (.Name (nm "reversed") np) es [] pos) (fun m σ => bnd (l m σ) zI) := fun A P m K hA F q =>
  eY N hp hl hA F (c9 q) fun P1 args xs S1 r q => on1 q r fun a x r q => onTup q r fun l a vs ep ho rv q => cF q fun hz q => by
    have hz' : vs.length ≤ 100000 := rv.length ▸ hz
    have hI : pg (P1.h.push { cls := .type "reversed", data := .fields #[.ref a, rawInt ((vs.length : Int) - 1)] }) P1.h.objs.size a ((vs.length : Int) - 1) := Heap.get?_push_size _ rfl
    exact i6 ho hz' (nR hI (I1.start S1 (It.rev (a := a) (ep := ep) hA.hd hz') ⟨by rw [show ((vs.length : Int) - 1 - ((0 : Nat) : Int)) = (vs.length : Int) - 1 from Int.sub_zero _]; exact hI, Nat.zero_le _⟩ ⟨ho, rv⟩ q))
end
section
variable {prog : Program} {w : World} {A : Around} {E : Value → Shared → Prop} {s : Shared}
theorem vH {A : Around} (hh : A.handled = none) (I : Addr) (a : Int) (n m : Nat) (xs : Array Value) :
    Walks prog w A I [I] [I] (m + n) (fun i v => (i < m → xs[i]? = some v) ∧ (m ≤ i → ∃ t, v = .int (a + ((i - m : Nat) : Int)) t)) (fun i h => m ≤ i ∧ IsRangeIter h I (a + ((i - m : Nat) : Int)) ((n : Int) - ((i - m : Nat) : Int)) 1) where
  sub := fun b hb => hb
  frame := fun i h h' st hk => ⟨st.1, hk I (.head _) _ st.2⟩
  item := fun i s Q E hi st hQ => by
    refine wpAny_pyNext_range_item st.2 (by lia) fun h' st' hs => ?_
    refine hQ _ h' _ ⟨fun q => by lia, fun _ => ⟨_, rfl⟩⟩ ⟨by lia, ?_⟩ fun b o hb e => (hs.2 b fun q => hb (by rw [q]; exact .head _)).trans e
    have e1 : a + ((i - m : Nat) : Int) + 1 = a + ((i + 1 - m : Nat) : Int) := by lia
    have e2 : (n : Int) - ((i - m : Nat) : Int) - 1 = (n : Int) - ((i + 1 - m : Nat) : Int) := by lia
    rw [← e1, ← e2]
    exact st'
  done := fun s Q E st hQ => by
    exact wpAny_pyNext_range_end hh st.2 (by lia) fun h' he => hQ h' s.toks fun b o hb e => he b o (fun q => hb (by rw [q]; exact .head _)) e
  self := fun i s Q E st hQ => wpAny_pyIter_rangeiter st.2 hQ
theorem pY {R : Result → Shared → Prop} {r : Addr} {a b : Int} {t u v : Tok} {n : Nat} (hh : A.handled = none) (hr : s.heap.get? r = some (sX a b t u v)) (hsmall : Builtin.Range.small a b 1 = true)
    (hn : Builtin.Range.rangeSize a b 1 = n) (S : Addr) (res : Value) (xs : Array Value) (c₀ : Nat) (hz : xs.size + n ≤ 200000) (hS : s.heap.get? S = some { cls := .type "list", data := .seq xs c₀ })
    (hR : ∀ h' tk acc' c', (∀ b o, b ≠ S → s.heap.get? b = some o → h'.get? b = some o) → h'.get? S = some { cls := .type "list", dict := none, data := .seq acc' c', slots := #[] } →
      ItemsOf (fun i v => (i < xs.size → xs[i]? = some v) ∧ (xs.size ≤ i → ∃ t, v = .int (a + ((i - xs.size : Nat) : Int)) t)) acc' (xs.size + n) → R (.ok (.ret res)) { s with heap := h', toks := tk }) :
    wpAny (model prog w) A.in1 (Builtin.List.listExtendWith (.ref S) (.ref r) res)
      (fun fin s' => match fin with | .done f => R (.ok f) s' | .again c' => c'.quiet = true ∧ codeAny (model prog w) A c' R s') (fun e s' => R (.error e) s') s := by
  have hSr : S ≠ r := fun e => by rw [e, hr] at hS; injection hS with hS; simp [sX] at hS
  have hSlt : S < s.heap.objs.size := Heap.lt_size hS
  have hSI : S ≠ s.heap.objs.size := Nat.ne_of_lt hSlt
  have hSf : S ∉ [s.heap.objs.size] := fun hm => hSI (List.mem_singleton.mp hm)
  have W := (vH (prog := prog) (w := w) (A := A.in1) hh s.heap.objs.size a n xs.size xs).toS
  have key : ∀ (h : Heap) (c₁ tk : Nat), IsRangeIter h s.heap.objs.size a (n : Int) 1 → (∀ b o, b ≠ S → s.heap.get? b = some o → h.get? b = some o) →
      h.get? S = some { cls := .type "list", data := .seq xs c₁ } → codeAny (model prog w) A (.builtin "list.extend.loop" ⟨[.ref S, .ref s.heap.objs.size, res], []⟩) R { s with heap := h, toks := tk } := by
    intro h c₁ tk hit hk hS₁
    refine codeAny_extend_loopS W (by rw [sizeLine_eq]; lia) S hSf res n xs.size _ xs c₁ (by lia) (by lia) ⟨Nat.le_refl _, ?_⟩ hS₁ ⟨rfl, fun j v e => ⟨fun _ => e, fun q => ?_⟩⟩ fun s' acc' c' hm hS' hacc => ?_
    · show IsRangeIter h _ _ _ _
      have e1 : a + ((xs.size - xs.size : Nat) : Int) = a := by lia
      have e2 : (n : Int) - ((xs.size - xs.size : Nat) : Int) = n := by lia
      rw [e1, e2]; exact hit
    · have := (Array.getElem?_eq_some_iff.mp e).1
      lia
    · rw [Moved.eq_with hm]
      refine hR s'.heap s'.toks acc' c' (fun b o hb e => hm.heap b o (fun hmem => ?_) (hk b o hb e)) hS' hacc
      rcases List.mem_cons.mp hmem with e' | hmem
      · exact hb e'
      · exact absurd (Heap.lt_size e) (by rw [List.mem_singleton.mp hmem]; exact Nat.lt_irrefl _)
  unfold Builtin.List.listExtendWith
  refine wpAny_bind (wpAny_typeOf (T := "range") ⟨_, hr, rfl⟩ ?_)
  have h1 : Builtin.List.listSameRef (.ref S) (.ref r) = false := by simp [Builtin.List.listSameRef, hSr]
  have h2 : (Value.type "range" == Value.type "list") = false := by decide
  have h3 : (Value.type "range" == Value.type "tuple") = false := by decide
  simp only [h1, h2, h3, Bool.or_false, Bool.false_eq_true, if_false]
  refine wpAny_bind (wpAny_pyIter_range hr hsmall ?_)
  refine wpAny_bind (wpAny_holding (wpAny_hint_range (n := n) (Heap.get?_push_of_some _ hr) hn (by lia) ?_))
  have hit₁ : IsRangeIter (s.heap.push { cls := .type "range_iterator", data := .fields #[rawInt a, rawInt (Builtin.Range.rangeSize a b 1), rawInt 1] }) s.heap.objs.size a (n : Int) 1 := by
    show IsRangeIter _ _ _ _ _; rw [hn]; simpa using Heap.get?_push_size _ rfl
  have hS₁ := Heap.get?_push_of_some { cls := .type "range_iterator", data := .fields #[rawInt a, rawInt (Builtin.Range.rangeSize a b 1), rawInt 1] } hS
  refine wpAny_ite_split (fun _ => ?_) (fun _ => wpAny_pure ⟨plainId_quiet PySem.F.plain_extend_loop _, key _ c₀ _ hit₁ (fun b o _ e => Heap.get?_push_of_some _ e) hS₁⟩)
  refine wpAny_bind (wpAny_rule ?_)
  refine wpAny_bind ?_
  show wpAny _ _ (updateSeq S (·.push .none) >>= fun _ => updateSeq S (·.pop)) _ _ _
  refine wpAny_bind (wpAny_updateSeq hS₁ rfl ?_ (by rw [sizeLine_eq]; lia) (by rw [sizeLine_eq, Array.size_push]; lia))
  have hS₂ := Heap.get?_update_self (Obj.mapSeq (·.push Value.none)) hS₁ rfl
  refine wpAny_updateSeq hS₂ rfl ?_ (by rw [sizeLine_eq, Array.size_push]; lia) (by rw [sizeLine_eq]; simp; lia)
  have hS₃ := Heap.get?_update_self (Obj.mapSeq (·.pop)) hS₂ rfl
  have hS₄ : ∃ c₁, (((s.heap.push { cls := .type "range_iterator", data := .fields #[rawInt a, rawInt (Builtin.Range.rangeSize a b 1), rawInt 1] }).update S (Obj.mapSeq (·.push Value.none))).update S (Obj.mapSeq (·.pop))).get? S = some { cls := .type "list", data := .seq xs c₁ } := by
    have hp : ∀ (c : Nat), ∃ c₁, Obj.mapSeq (fun x => x.pop) (Obj.mapSeq (fun x => x.push Value.none) { cls := .type "list", data := .seq xs c }) = ({ cls := .type "list", data := .seq xs c₁ } : Obj) := by
      intro c
      unfold Obj.mapSeq
      simp only [Array.pop_push]
      exact ⟨_, rfl⟩
    obtain ⟨c₁, hc⟩ := hp c₀
    exact ⟨c₁, hS₃.trans (by rw [hc])⟩
  obtain ⟨c₁, hS₄⟩ := hS₄
  refine wpAny_pure ⟨plainId_quiet PySem.F.plain_extend_loop _, key _ _ _ ?_ (fun b o hb e => ?_) hS₄⟩
  · exact (Heap.get?_update_other _ _ hSI).trans ((Heap.get?_update_other _ _ hSI).trans hit₁)
  · exact (Heap.get?_update_other _ _ (Ne.symm hb)).trans ((Heap.get?_update_other _ _ (Ne.symm hb)).trans (Heap.get?_push_of_some _ e))
end
section
variable {X : Cxt} {h : Nat} {env : Env} {P P1 : Pt} {m : Loc} {A : Around}
theorem wg {l : List PV} {vs : List Value} (r : VRels P l vs) (a b : Int) {acc : Array Value}
    (hi : ItemsOf (fun i v => (i < vs.toArray.size → vs.toArray[i]? = some v) ∧ (vs.toArray.size ≤ i → ∃ t, v = .int (a + ((i - vs.toArray.size : Nat) : Int)) t)) acc (vs.toArray.size + (b - a).toNat)) : VRels P (l ++ gJ a b) acc.toList := by
  have hl := r.length
  refine .of_get (by rw [List.length_append, Array.length_toList (xs := acc), hi.1, List.size_toArray, hl]; unfold gJ; rw [List.length_map, List.length_range]) fun j x y h1 h2 => ?_
  obtain ⟨p1, p2⟩ := hi.2 j y (Array.getElem?_toList.symm.trans h2)
  rw [List.size_toArray] at p1 p2
  by_cases q : j < l.length
  · rw [List.getElem?_append_left q] at h1
    exact r.both h1 (by rw [← List.getElem?_toArray]; exact p1 (hl ▸ q))
  · rw [List.getElem?_append_right (Nat.not_lt.mp q), kU] at h1
    split at h1
    · cases h1
      obtain ⟨t, rfl⟩ := p2 (hl ▸ Nat.not_lt.mp q)
      rw [hl]
      exact .int _ t
    · cases h1
theorem sq : gr X h (.builtin "list.extend") uM := fun A P args xs K hA R r q => on2 q r fun o v xo xv r1 r2 q => onVL R q r1 fun i l vs ep hi hl ho rv q => onRng q r2 fun a b r ta tb tc ho2 q => cF q fun hz q => by
  obtain ⟨z1, z2, z3, z4⟩ := hz
  refine call_meetsIn PySem.F.slot_list_extend ⟨_, ho, rfl⟩ PySem.F.entry_list_extend (PySem.F.args_list_extend_2 _ _) (S := fun A R s' => s' = P.s ∧ A.handled = none ∧ ∀ h' tk acc' c', (∀ b o, b ≠ P.ι i → P.h.get? b = some o → h'.get? b = some o) → h'.get? (P.ι i) = some { cls := .type "list", dict := none, data := .seq acc' c', slots := #[] } →
      ItemsOf (fun i v => (i < vs.toArray.size → vs.toArray[i]? = some v) ∧ (vs.toArray.size ≤ i → ∃ t, v = .int (a + ((i - vs.toArray.size : Nat) : Int)) t)) acc' (vs.toArray.size + (b - a).toNat) → R (.ok (.ret .none)) { P.s with heap := h', toks := tk }) ?_ ⟨rfl, hA.hd, fun h' tk acc' c' hk' ho' hacc => ?_⟩
  · rintro A' R' s' ⟨rfl, hh, hR⟩
    show wpAny _ _ (Builtin.List.listExtendWith (.ref (P.ι i)) _ .none) _ _ _
    exact pY hh ho2 (kJ z2 z3) (jw a b) (P.ι i) .none vs.toArray ep (by rw [List.size_toArray, ← rv.length]; lia) ho hR
  · exact .mk ⟨P.ι, P.σ.set i (.list (l ++ gJ a b)), { P.s with heap := h', toks := tk }⟩ _ (.upd R hl hk' ho' (ez rfl (by decide) (by decide)) (fun e => ⟨acc'.toList, c', by rw [ho']; simp [ef], VRels.ext (wg rv a b hacc) e⟩) (fun _ _ e => nomatch e) rfl rfl) .none q
end
noncomputable def oW {α : Type} (lt : Nat → Nat → Bool) : KasT α → α
  | .ret a => a
  | .ask i j k => oW lt (k (lt i j))
noncomputable def qn (ps : List (Int × Int)) : List Nat := if ps.length < 2 then List.range ps.length else (oW (fun i j => uW (ps.getD i (0, 0)) (ps.getD j (0, 0))) (kas_sort ps.length)).toList
noncomputable def Ci (ps : List (Int × Int)) : List (Int × Int) := (qn ps).map fun i => ps.getD i (0, 0)
noncomputable def r7 : FF := fun args σ => w1 args fun v => j1 v fun l => match jR l with
  | some ps => gd (ps.length ≤ 6) (some (.obj σ.next, σ.new (.list ((Ci ps).map cg))))
  | none => none
noncomputable def wp (n : Nat) : KasT (Array Nat) → Bool
  | .ret p => p.toList.all (· < n)
  | .ask i j k => decide (i < n) && decide (j < n) && wp n (k true) && wp n (k false)
theorem Cv : wp 2 (kas_sort 2) = true := by decide +kernel
theorem Cm : wp 3 (kas_sort 3) = true := by decide +kernel
theorem CB : wp 4 (kas_sort 4) = true := by decide +kernel
theorem CI : wp 5 (kas_sort 5) = true := by decide +kernel
theorem CL : wp 6 (kas_sort 6) = true := by decide +kernel
theorem sK {n : Nat} (h2 : 2 ≤ n) (h6 : n ≤ 6) : wp n (kas_sort n) = true := by
  have : n = 2 ∨ n = 3 ∨ n = 4 ∨ n = 5 ∨ n = 6 := by lia
  rcases this with e | e | e | e | e <;> rw [e]
  · exact Cv
  · exact Cm
  · exact CB
  · exact CI
  · exact CL
theorem qe {n : Nat} {lt : Nat → Nat → Bool} : ∀ (t : KasT (Array Nat)), wp n t = true → ∀ i ∈ (oW lt t).toList, i < n
  | .ret p, h, i, hi => of_decide_eq_true (List.all_eq_true.mp h i hi)
  | .ask i j k, h, x, hx => by
    simp only [wp, Bool.and_eq_true] at h
    simp only [oW] at hx
    cases hb : lt i j with
    | true => rw [hb] at hx; exact qe (k true) h.1.2 x hx
    | false => rw [hb] at hx; exact qe (k false) h.2 x hx
theorem lC {cmp : Nat → Nat → (Bool → Shared → Prop) → Shared → Prop} {lt : Nat → Nat → Bool} {n : Nat} {s : Shared} (h : ∀ (i j : Nat) (C : Bool → Shared → Prop), i < n → j < n → C (lt i j) s → cmp i j C s) :
    ∀ (t : KasT (Array Nat)) (G : Array Nat → Shared → Prop), wp n t = true → G (oW lt t) s → t.kasWp cmp G s
  | .ret p, G, _, hG => hG
  | .ask i j k, G, ht, hG => by
    simp only [wp, Bool.and_eq_true, decide_eq_true_eq] at ht
    refine h i j _ ht.1.1.1 ht.1.1.2 ?_
    simp only [oW] at hG
    cases hb : lt i j with
    | true => rw [hb] at hG; exact lC h (k true) G ht.1.2 hG
    | false => rw [hb] at hG; exact lC h (k false) G ht.2 hG
section
variable {prog : Program} {w : World} {A : Around} {E : Value → Shared → Prop} {s : Shared}
noncomputable def PairAt (h : Heap) (v : Value) (p : Int × Int) : Prop := ∃ a n t u, v = .ref a ∧ h.get? a = some (iF [.int p.1 t, .int p.2 u] n)
theorem PairAt.keep {h h' : Heap} {v : Value} {p : Int × Int} (x : PairAt h v p) (k : ∀ b o, h.get? b = some o → o.cls = .type "tuple" → h'.get? b = some o) : PairAt h' v p := by
  obtain ⟨a, n, t, u, e, q⟩ := x
  exact ⟨a, n, t, u, e, k _ _ q rfl⟩
theorem yu {v u : Value} {p q : Int × Int} {Q : Bool → Shared → Prop} (hv : PairAt s.heap v p) (hu : PairAt s.heap u q) (h : Q (uW p q) s) : wpAny (model prog w) A (keyLt' (tuples' true) v u) Q E s := by
  obtain ⟨a, n, t1, t2, rfl, ha⟩ := hv
  obtain ⟨b, k, t3, t4, rfl, hb⟩ := hu
  refine kat_lt ha rfl hb rfl ?_
  refine kat_cons (wpAny_eqBool_int ?_)
  by_cases c : p.1 = q.1
  · have e : (p.1 == q.1) = true := beq_iff_eq.mpr c
    rw [e]
    refine kat_yes (kat_cons (wpAny_eqBool_int ?_))
    by_cases c2 : p.2 = q.2
    · have e2 : (p.2 == q.2) = true := beq_iff_eq.mpr c2
      rw [e2]
      refine kat_yes (kat_nil ?_)
      have : uW p q = false := by unfold uW; rw [if_pos c]; exact decide_eq_false (by lia)
      rw [this] at h
      exact h
    · have e2 : (p.2 == q.2) = false := beq_eq_false_iff_ne.mpr c2
      rw [e2]
      refine kat_no (kat_one _ _ ?_)
      have : uW p q = decide (p.2 < q.2) := by unfold uW; rw [if_pos c]
      rw [this] at h
      exact PySem.P.lt_int h
  · have e : (p.1 == q.1) = false := beq_eq_false_iff_ne.mpr c
    rw [e]
    refine kat_no (oneLt_int ?_)
    have : uW p q = decide (p.1 < q.1) := by unfold uW; rw [if_neg c]
    rw [this] at h
    exact h
noncomputable def PairsAt (h : Heap) : List Value → List (Int × Int) → Prop
  | [], [] => True
  | v :: vs, p :: ps => PairAt h v p ∧ PairsAt h vs ps
  | _, _ => False
theorem PairsAt.keep {h h' : Heap} (k : ∀ b o, h.get? b = some o → o.cls = .type "tuple" → h'.get? b = some o) : ∀ {vs : List Value} {ps : List (Int × Int)}, PairsAt h vs ps → PairsAt h' vs ps
  | [], [], _ => trivial
  | _ :: _, _ :: _, x => ⟨x.1.keep k, PairsAt.keep k x.2⟩
theorem PairsAt.len {h : Heap} : ∀ {vs : List Value} {ps : List (Int × Int)}, PairsAt h vs ps → vs.length = ps.length
  | [], [], _ => rfl
  | _ :: _, _ :: _, x => by rw [List.length_cons, List.length_cons, PairsAt.len x.2]
theorem PairsAt.at {h : Heap} : ∀ {vs : List Value} {ps : List (Int × Int)} (x : PairsAt h vs ps) (i : Nat), i < vs.length → PairAt h (vs.getD i .none) (ps.getD i (0, 0))
  | _ :: _, _ :: _, x, 0, _ => x.1
  | _ :: vs, _ :: ps, x, i + 1, hi => PairsAt.at x.2 i (by simpa using hi)
theorem PairsAt.tups {h : Heap} : ∀ {vs : List Value} {ps : List (Int × Int)}, PairsAt h vs ps → ∃ fs : List Value, fs.length = vs.length ∧ (∀ v ∈ fs, ∃ i t, v = .int i t) ∧ KatTups h vs fs
  | [], [], _ => ⟨[], rfl, (fun v hv => by cases hv), .nil⟩
  | v :: vs, p :: ps, x => by
    obtain ⟨fs, h1, h2, h3⟩ := PairsAt.tups x.2
    obtain ⟨a, n, t, u, rfl, ha⟩ := x.1
    refine ⟨.int p.1 t :: fs, by simp [h1], fun v hv => ?_, KatTups.cons ha rfl rfl rfl h3⟩
    rcases List.mem_cons.mp hv with rfl | hv
    · exact ⟨_, _, rfl⟩
    · exact h2 v hv
theorem vU (M : Model) (h : Heap) (i : Int) (t : Tok) : Looks M h (typeOf (.int i t)) (.type "int") := by
  unfold typeOf
  exact .now
theorem wh {vs : List Value} {ps : List (Int × Int)} {Q : SortKind → Shared → Prop} (x : PairsAt s.heap vs ps) (h2 : 2 ≤ vs.length) (h : Q (tuples' true) s) : wpAny (model prog w) A (keyKind' vs.toArray) Q E s := by
  obtain ⟨fs, h1, hf, ht⟩ := x.tups
  refine kat_kind (T := .type "int") ht (by lia) (fun v hv => ?_) (by decide) ?_
  · obtain ⟨i, t, rfl⟩ := hf v hv
    exact vU _ _ i t
  · exact h
theorem tt {α : Type} (d : α) : ∀ l : List α, (List.range l.length).map (fun i => l.getD i d) = l := fun l => by
  refine List.ext_getElem (by rw [List.length_map, List.length_range]) fun i h1 h2 => ?_
  rw [List.getElem_map, List.getElem_range, List.getD_eq_getElem?_getD, List.getElem?_eq_getElem h2]; rfl
theorem mh {a : Addr} {vs : List Value} {ps : List (Int × Int)} {n : Nat} {P : PySem.Fin → Shared → Prop} (ho : s.heap.get? a = some (seqObj "list" vs.toArray n)) (x : PairsAt s.heap vs ps) (h6 : vs.length ≤ 6)
    (h : P (.done (.ret .none)) { s with heap := sortedHeap s.heap a vs (List.toArray ((qn ps).map fun i => vs.getD i .none)) }) : wpAny (model prog w) A (Builtin.«list.sort» ⟨[.ref a], []⟩) P E s := by
  rw [list_sort_plain]
  have ha : a < s.heap.objs.size := Heap.lt_size ho
  refine wpAny_bind (listItems_at ho rfl ?_)
  refine wpAny_bind (listUpdate_at ho rfl ?_ (by rw [List.size_toArray, sizeLine_eq]; lia) (Nat.zero_le _))
  obtain ⟨e1, ho1⟩ : ∃ e1, (s.heap.update a (Obj.mapSeq fun _ => (#[] : Array Value))).get? a = some (seqObj "list" #[] e1) := ⟨_, get?_update_seq ho (fun _ => #[])⟩
  refine wpAny_bind (seqEpoch_at ho1 rfl ?_)
  refine wpAny_bind (wpAny_newTuple ?_ (by show vs.length ≤ _; rw [sizeLine_eq]; lia))
  refine wpAny_bind (wpAny_newList ?_ (Nat.zero_le _))
  refine wpAny_holding ?_
  have up : ∀ b o, b < s.heap.objs.size → (s.heap.update a (Obj.mapSeq fun _ => (#[] : Array Value))).get? b = some o → (((s.heap.update a (Obj.mapSeq fun _ => (#[] : Array Value))).push (seqObj "tuple" vs.toArray 0)).push (seqObj "list" #[] 0)).get? b = some o := fun b o hb e => Heap.get?_push_of_some _ (Heap.get?_push_of_some _ e)
  have ho6 := up a _ ha ho1
  have x6 : PairsAt (((s.heap.update a (Obj.mapSeq fun _ => (#[] : Array Value))).push (seqObj "tuple" vs.toArray 0)).push (seqObj "list" #[] 0)) vs ps := x.keep fun b o e hc => up b o (Heap.lt_size e) (by
    rw [Heap.get?_update_ne _ _ _ _ fun q => ?_]
    · exact e
    · rw [q, ho] at e
      cases e
      exact absurd (Value.type.inj hc) (by decide))
  have hps := x.len
  have hki : ∀ i j, uW (ps.getD i (0, 0)) (ps.getD j (0, 0)) = uW (ps.getD i (0, 0)) (ps.getD j (0, 0)) := fun _ _ => rfl
  show wpAny (model prog w) A _ P E { s with heap := ((s.heap.update a (Obj.mapSeq fun _ => (#[] : Array Value))).push (seqObj "tuple" vs.toArray 0)).push (seqObj "list" #[] 0) }
  generalize hs6 : ({ s with heap := ((s.heap.update a (Obj.mapSeq fun _ => (#[] : Array Value))).push (seqObj "tuple" vs.toArray 0)).push (seqObj "list" #[] 0) } : Shared) = s6
  have h6h : s6.heap = ((s.heap.update a (Obj.mapSeq fun _ => (#[] : Array Value))).push (seqObj "tuple" vs.toArray 0)).push (seqObj "list" #[] 0) := by rw [← hs6]
  rw [← h6h] at ho6 x6
  have fin : ∀ out : Array Value, out.size ≤ 6 → P (.done (.ret .none)) { s with heap := sortedHeap s.heap a vs out } → P (.done (.ret .none)) { s6 with heap := s6.heap.update a (Obj.mapSeq fun _ => out) } := fun out _ q => by subst hs6; exact q
  dsimp only
  by_cases c2 : vs.length < 2
  · have hn2 : vs.toArray.size < 2 := by rw [List.size_toArray]; exact c2
    rw [if_pos hn2, if_pos hn2]
    refine wpAny_bind (wpAny_pure ?_)
    rw [StateT.run_pure]
    refine wpAny_bind (wpAny_pure ?_)
    dsimp only
    refine wpAny_bind (seqEpoch_at ho6 rfl ?_)
    have hs : (arrOf (SortSt.mk' general' (vs.toArray.zip vs.toArray) #[] 7 none)).map (·.2) = vs.toArray := by
      show (vs.toArray.zip vs.toArray).map (·.2) = vs.toArray
      simp
      exact List.map_snd_zip (Nat.le_refl _)
    rw [hs]
    refine wpAny_bind (listUpdate_at ho6 rfl ?_ (Nat.zero_le _) (by rw [List.size_toArray, sizeLine_eq]; lia))
    simp only [bne_self_eq_false, Bool.false_eq_true, if_false]
    refine wpAny_pure (fin _ (by rw [List.size_toArray]; exact h6) ?_)
    have e : (qn ps).map (fun i => vs.getD i .none) = vs := by
      unfold qn
      rw [if_pos (hps ▸ c2), ← hps]; exact tt _ vs
    rw [e] at h
    exact h
  · have h2 : 2 ≤ vs.length := Nat.not_lt.mp c2
    have hn2 : ¬ vs.toArray.size < 2 := by rw [List.size_toArray]; exact c2
    rw [if_neg hn2, if_neg hn2]
    refine wpAny_bind (wh x6 h2 ?_)
    refine wpAny_bind (wpAny_mono (kat_run (ks := vs) (vs := vs) (Q := fun st' s' => s' = s6 ∧ failedOf st' = none ∧ arrOf st' = (oW (fun i j => uW (ps.getD i (0, 0)) (ps.getD j (0, 0))) (kas_sort vs.length)).map (kas_item (vs.toArray.zip vs.toArray)) ∧ (oW (fun i j => uW (ps.getD i (0, 0)) (ps.getD j (0, 0))) (kas_sort vs.length)).size = vs.length)
      (G := fun p s' => s' = s6 ∧ p = oW (fun i j => uW (ps.getD i (0, 0)) (ps.getD j (0, 0))) (kas_sort vs.length))
      rfl h2 (by lia) (fun p st' s' a1 a2 a3 a4 => ⟨a4.1, a3, by rw [a2, a4.2], by rw [← a4.2]; exact a1⟩) (lC (n := vs.length) (fun i j C hi hj hC => yu (x6.at i hi) (x6.at j hj) hC) _ _ (sK h2 h6) ⟨rfl, rfl⟩)) ?_ fun _ _ e => e)
    rintro ⟨⟨⟩, st'⟩ s' ⟨rfl, hf, har, hz⟩
    dsimp only
    rw [kat_snds (ks := vs) (vs := vs) rfl har]
    refine wpAny_bind (seqEpoch_at ho6 rfl ?_)
    refine wpAny_bind (listUpdate_at ho6 rfl ?_ (Nat.zero_le _) (by rw [List.size_toArray, List.length_map, Array.length_toList, sizeLine_eq]; lia))
    rw [hf]
    simp only [bne_self_eq_false, Bool.false_eq_true, if_false]
    refine wpAny_pure (fin _ (by rw [List.size_toArray, List.length_map, Array.length_toList]; lia) ?_)
    have e : qn ps = (oW (fun i j => uW (ps.getD i (0, 0)) (ps.getD j (0, 0))) (kas_sort vs.length)).toList := by
      unfold qn
      rw [if_neg (hps ▸ c2), ← hps]
    rw [e] at h
    exact h
end
theorem yU {ps : List (Int × Int)} (h6 : ps.length ≤ 6) : ∀ i ∈ qn ps, i < ps.length := by
  unfold qn
  split
  · exact fun i hi => List.mem_range.mp hi
  · exact qe _ (sK (by lia) h6)
section
variable {X : Cxt} {h : Nat} {P : Pt}
theorem eT {β : Type} {v : PV} {f : List PV → Option β} {z : β} (e : j1 v f = some z) : ∃ l, v = .tup l ∧ f l = some z := by cases v <;> first | exact ⟨_, rfl, e⟩ | cases e
theorem eI {β : Type} {v : PV} {f : Int → Option β} {z : β} (e : cr v f = some z) : ∃ l, v = .int l ∧ f l = some z := by cases v <;> first | exact ⟨_, rfl, e⟩ | cases e
theorem Dm {β : Type} {l : List PV} {f : PV → PV → Option β} {z : β} (e : w2 l f = some z) : ∃ a b, l = [a, b] ∧ f a b = some z := by
  cases l with
  | nil => cases e
  | cons a l => cases l with
    | nil => cases e
    | cons b l => cases l with
      | nil => exact ⟨a, b, rfl, e⟩
      | cons => cases e
theorem hK : ∀ {l : List PV} {d : List (Int × Int)}, jR l = some d → l = d.map cg
  | [], _, e => by cases e; rfl
  | v :: r, d, e => by
    obtain ⟨l, rfl, e⟩ := eT e
    obtain ⟨a, b, rfl, e⟩ := Dm e
    obtain ⟨a, rfl, e⟩ := eI e
    obtain ⟨b, rfl, e⟩ := eI e
    obtain ⟨d, e1, rfl⟩ := Option.map_eq_some_iff.mp e
    exact congrArg _ (hK e1)
theorem qM : ∀ {ps : List (Int × Int)} {vs : List Value}, VRels P (ps.map cg) vs → PairsAt P.h vs ps
  | [], vs, r => r.nilK trivial
  | p :: ps, vs, r => r.consK fun x xs r1 r2 => (show VRel P (.tup [.int p.1, .int p.2]) x from r1).tupK fun x vs2 ep hx rv =>
    (rv.consK fun y ys q1 q2 => q2.consK fun z zs q2 q3 => q3.nilK (q1.intK fun t => q2.intK fun u => fun hx => ⟨⟨x, ep, t, u, rfl, hx⟩, qM r2⟩) : P.h.get? x = some (iF vs2 ep) → PairsAt P.h (.ref x :: xs) (p :: ps)) hx
theorem vt {l : List PV} {ps : List (Int × Int)} {vs : List Value} (e : jR l = some ps) (r : VRels P l vs) : PairsAt P.h vs ps ∧ l = ps.map cg := by
  have z := hK e
  subst z
  exact ⟨qM r, rfl⟩
theorem se {ps : List (Int × Int)} {vs : List Value} (r : VRels P (ps.map cg) vs) : ∀ is : List Nat, (∀ i ∈ is, i < ps.length) → VRels P ((is.map fun i => ps.getD i (0, 0)).map cg) (is.map fun i => vs.getD i .none)
  | [], _ => .nil
  | i :: is, hi => by
    obtain ⟨b, hb, hr⟩ := r.get (j := i) (a := cg (ps.getD i (0, 0))) (by rw [List.getElem?_map, List.getD_eq_getElem?_getD, List.getElem?_eq_getElem (hi i (.head _))]; rfl)
    exact .cons (show VRel P (cg (ps.getD i (0, 0))) (vs.getD i .none) by rw [show vs.getD i .none = b by rw [List.getD_eq_getElem?_getD, hb]; rfl]; exact hr) (se r is fun j hj => hi j (.tail _ hj))
theorem pW : gr X h (.builtin "sorted") r7 := fun A P args xs K hA R r q => on1 q r fun v x r q => onTup q r fun l a vs ep ho rv q => by
  cases hp : jR l with
  | none => rw [hp] at q; exact q.elim
  | some ps =>
    rw [hp] at q
    refine cF q fun h6 q => ?_
    obtain ⟨x, rfl⟩ := vt hp rv
    have hl := x.len
    refine PySem.Calls.call_function_entry kind_sorted plain_sorted entry_sorted (args_sorted1 _) ?_
    unfold Builtin.«sorted»
    refine wpAny_bind (m := checkCount "sorted" 1 1 _) (wpAny_pure ?_)
    refine wpAny_bind (wpAny_collect_seq a (.inr rfl) ho rfl rfl (fun h' hk' => ?_) (by rw [List.size_toArray, sizeLine_eq]; lia))
    rw [show vs.toArray.toList = vs by simp]
    refine wpAny_bind (wpAny_newList ?_ (by rw [sizeLine_eq]; lia))
    have hoL : (h'.push (seqObj "list" vs.toArray 0)).get? h'.objs.size = some (seqObj "list" vs.toArray 0) := Heap.get?_push_size _ rfl
    have above : ∀ b, (P.h.get? b).isSome → b < h'.objs.size := fun b e => let ⟨o, z⟩ := Option.isSome_iff_exists.mp e; Heap.lt_size (hk' b o z)
    refine wpAny_bind (wpAny_holding (wpAny_call_entry slot_list_sort ⟨_, hoL, rfl⟩ entry_list_sort (mh (s := { P.s with heap := h'.push (seqObj "list" vs.toArray 0) }) hoL (x.keep fun b o e _ => Heap.get?_push_of_some _ (hk' b o e)) (by lia) ⟨_, rfl, wpAny_pure ⟨_, rfl, ?_⟩⟩) (args_list_sort _)))
    obtain ⟨e, he⟩ := sortedHeap_at (out := List.toArray ((qn ps).map fun i => vs.getD i .none)) hoL
    refine .list (ep := e) R (fun b o z => ?_) (e8 fun o z => absurd (above _ (bA z)) (Nat.lt_irrefl _)) (R.above above) (by rw [he]; simp [ef]) (se rv _ (yU h6)) rfl rfl q
    have hlt := Heap.lt_size (hk' b o z)
    rw [sortedHeap_old (Nat.ne_of_lt hlt) (by rw [size_push']; exact Nat.lt_succ_of_lt hlt)]
    exact Heap.get?_push_of_some _ (hk' b o z)
end
noncomputable def mK (t : SetTable) (v : Int) : SetTable := match t.freeSlot (hashInt v) with
  | some (slot, _) => (t.put slot).1
  | none => t
noncomputable def tab (led : Bool) (q : List Int) : SetTable := q.foldl mK (.fresh 0 0 led)
noncomputable def wU (led : Bool) (q : List Int) (v : Int) : Bool := match (tab led q).freeSlot (hashInt v) with
  | some (slot, wd) => !wd && ((tab led q).put slot).1.fits (q.length + 1) && !((tab led q).put slot).1.tooFull
  | none => false
noncomputable def lQ (t : SetTable) (i : Nat) : Nat := if i = 0 then 0 else t.place.getD (i - 1) 0 + 1
noncomputable def u6 (led : Bool) (q : List Int) : Bool := ((tab led q).led == led) && (tab led q).plain && ((tab led q).place.size == q.length) && (tab led q).fits q.length && (List.range (q.length + 1)).all fun i => SetTable.below (tab led q).place (lQ (tab led q) i) == i
noncomputable def menu6 : List Int := [-2, -1, 0, 1, 2, 3]
noncomputable def few (led : Bool) (q : List Int) : Bool := u6 led q && ((decide (3 ≤ q.length)) || menu6.all fun v => q.contains v || wU led q v)
noncomputable def jM (led : Bool) : Nat → List Int → Bool
  | 0, q => few led q
  | n + 1, q => few led q && menu6.all fun v => q.contains v || jM led n (q ++ [v])
theorem wP : jM true 3 [] = true := by decide +kernel
theorem wD : jM false 3 [] = true := by decide +kernel
theorem rI {v : Int} (h : -2 ≤ v ∧ v ≤ 3) : v ∈ menu6 := by
  have : v = -2 ∨ v = -1 ∨ v = 0 ∨ v = 1 ∨ v = 2 ∨ v = 3 := by lia
  rcases this with e | e | e | e | e | e <;> rw [e] <;> simp [menu6]
theorem nE (led : Bool) : ∀ (n : Nat) (p q : List Int), jM led n p = true → q.length ≤ n → (p ++ q).Nodup → (∀ v ∈ q, -2 ≤ v ∧ v ≤ 3) → few led (p ++ q) = true
  | 0, p, [], h, _, _, _ => by rw [List.append_nil]; exact h
  | n + 1, p, [], h, _, _, _ => by
    rw [List.append_nil]
    unfold jM at h
    exact (Bool.and_eq_true_iff.mp h).1
  | n + 1, p, v :: q, h, hl, hn, hm => by
    unfold jM at h
    have h2 := List.all_eq_true.mp (Bool.and_eq_true_iff.mp h).2 v (rI (hm v (.head _)))
    have nv : p.contains v = false := by
      cases c : p.contains v with
      | false => rfl
      | true =>
        have := List.contains_iff_mem.mp c
        exact absurd rfl ((List.nodup_append.mp hn).2.2 v this v (.head _))
    rw [nv, Bool.false_or] at h2
    have e : p ++ v :: q = (p ++ [v]) ++ q := by simp
    rw [e]
    exact nE led n (p ++ [v]) q h2 (by simpa using hl) (by rw [← e]; exact hn) fun x hx => hm x (.tail _ hx)
theorem xQ (led : Bool) {q : List Int} (hl : q.length ≤ 3) (hn : q.Nodup) (hm : ∀ v ∈ q, -2 ≤ v ∧ v ≤ 3) : few led q = true := by
  have h : jM led 3 [] = true := by cases led; exact wD; exact wP
  exact nE led 3 [] q h hl (by simpa using hn) hm
theorem rZ (led : Bool) {q : List Int} (hl : q.length ≤ 3) (hn : q.Nodup) (hm : ∀ v ∈ q, -2 ≤ v ∧ v ≤ 3) : u6 led q = true := (Bool.and_eq_true_iff.mp (xQ led hl hn hm)).1
theorem wT (led : Bool) {q : List Int} {v : Int} (hl : q.length < 3) (hn : q.Nodup) (hm : ∀ v ∈ q, -2 ≤ v ∧ v ≤ 3) (hv : -2 ≤ v ∧ v ≤ 3) (nv : v ∉ q) : wU led q v = true := by
  have h := (Bool.and_eq_true_iff.mp (xQ led (by lia) hn hm)).2
  rw [decide_eq_false (by lia), Bool.false_or] at h
  have := List.all_eq_true.mp h v (rI hv)
  have c : q.contains v = false := by
    cases c : q.contains v with
    | false => rfl
    | true => exact absurd (List.contains_iff_mem.mp c) nv
  rw [c, Bool.false_or] at this
  exact this
theorem xW (led : Bool) (q : List Int) (v : Int) : tab led (q ++ [v]) = mK (tab led q) v := by unfold tab; rw [List.foldl_append]; rfl
noncomputable def gb (es : Array (Int × Value)) (ep : Nat) (t : SetTable) : Obj := { cls := .type "set", dict := none, data := .set es ep t }
noncomputable def rz (e : Int × Value) : Int := match e.2 with | .int k _ => k | _ => 0
noncomputable def goodE (e : Int × Value) : Prop := ∃ k t, e = (hashInt k, .int k t)
noncomputable def SetX (h : Heap) (a : Addr) (led : Bool) (q : List Int) : Prop := ∃ es ep, h.get? a = some (gb es ep (tab led q)) ∧ (es.toList.map rz).Perm q ∧ ∀ e ∈ es.toList, goodE e
theorem SetX.keep {h h' : Heap} {a : Addr} {led : Bool} {q : List Int} (x : SetX h a led q) (k : ∀ o, h.get? a = some o → h'.get? a = some o) : SetX h' a led q := by
  obtain ⟨es, ep, h1, h2⟩ := x
  exact ⟨es, ep, k _ h1, h2⟩
section
variable {prog : Program} {w : World} {A : Around} {E : Value → Shared → Prop} {s : Shared}
theorem goodE.elems {l : List (Int × Value)} (h : ∀ e ∈ l, goodE e) : ElemsOf (intKind prog w) l := fun e he => by
  obtain ⟨k, t, rfl⟩ := h e he
  exact ⟨⟨k, intKind_is _ _ _ _, rfl⟩, rfl⟩
theorem goodE.is {e : Int × Value} (h : goodE e) (v : Int) : (intKind prog w).is v e.2 = decide (rz e = v) := by
  obtain ⟨k, t, rfl⟩ := h
  rw [KeyKind.is_eq_decide (intKind_is (prog := prog) (w := w) k t) v]
  exact decide_eq_decide.mpr ⟨fun e => e.symm, fun e => e.symm⟩
theorem Ba (t : SetTable) (j : Nat) : (t.put j).1.plain = t.plain ∧ (t.put j).1.led = t.led := ⟨rfl, rfl⟩
theorem BG {a : Addr} {led : Bool} {q : List Int} {v : Int} {tk : Tok} {Q : Bool → Shared → Prop} (hS : SetX s.heap a led q) (hl : q.length ≤ 3) (hn : q.Nodup) (hm : ∀ v ∈ q, -2 ≤ v ∧ v ≤ 3) (hv : -2 ≤ v ∧ v ≤ 3) (h3 : v ∉ q → q.length < 3)
    (h : ∀ h' b, Heap.SameBut a s.heap h' → SetX h' a led (if v ∈ q then q else q ++ [v]) → Q b { s with heap := h' }) :
    wpAny (model prog w) A (setAddHashed a (.int v tk) (hashInt v)) Q E s := by
  obtain ⟨es, ep, ho, hp, hg⟩ := id hS
  have tb := rZ led hl hn hm
  unfold u6 at tb
  simp only [Bool.and_eq_true, beq_iff_eq] at tb
  obtain ⟨⟨⟨⟨t1, t2⟩, t3⟩, t4⟩, t5⟩ := tb
  have sz : es.size = q.length := by
    have := hp.length_eq
    rw [List.length_map, Array.length_toList] at this
    exact this
  have hf : (tab led q).fits es.size = true := by rw [sz]; exact t4
  have hel : ElemsOf (intKind prog w) es.toList := goodE.elems hg
  have hd : (gb es ep (tab led q)).data = .set es ep (tab led q) := rfl
  have hb : es.size < scanBound := by unfold scanBound; lia
  unfold setAddHashed setAddHashedIn
  refine wpAny_holding (wpAny_bind (wpAny_setState_of ho hd hf ?_))
  dsimp only
  rw [byScan_of (knd := intKind prog w) rfl hb hel]
  simp only [↓reduceIte]
  unfold setAddByScan
  refine wpAny_bind ?_
  refine wpAny_bind (wpAny_rule ?_)
  refine wpAny_bind (wpAny_setScan_of (knd := intKind prog w) (k := v) (intKind_is _ _ _ _) ho hd hf hel ?_)
  cases hr : List.findIdx? (fun e => (intKind prog w).is v e.2) es.toList with
  | some j =>
    dsimp only
    obtain ⟨hj, hpj, _⟩ := List.findIdx?_eq_some_iff_getElem.mp hr
    have hvq : v ∈ q := by
      rw [goodE.is (hg _ (List.getElem_mem hj)) v] at hpj
      have e := of_decide_eq_true hpj
      exact hp.mem_iff.mp (List.mem_map.mpr ⟨_, List.getElem_mem hj, e⟩)
    refine wpAny_pure (wpAny_pure ?_)
    have e : s = { s with heap := s.heap } := by cases s; rfl
    rw [e]
    exact h s.heap false (Heap.SameBut.refl a s.heap) (by rw [if_pos hvq]; exact hS)
  | none =>
    dsimp only
    have hvq : v ∉ q := fun hm => by
      obtain ⟨e, he, ek⟩ := List.mem_map.mp (hp.mem_iff.mpr hm)
      have := List.findIdx?_eq_none_iff.mp hr e he
      rw [goodE.is (hg e he) v, decide_eq_true ek] at this
      cases this
    have oa := wT led (h3 hvq) hn hm hv hvq
    have hperm := layNew_perm (tab led q) es (hashInt v) (.int v tk)
    unfold wU at oa
    have ts : tab led (q ++ [v]) = mK (tab led q) v := xW led q v
    unfold mK at ts
    cases hfs : (tab led q).freeSlot (hashInt v) with
    | none => rw [hfs] at oa; cases oa
    | some r =>
      obtain ⟨slot, wd⟩ := r
      rw [hfs] at oa ts
      simp only [Bool.and_eq_true, Bool.not_eq_true'] at oa
      obtain ⟨⟨o1, o2⟩, o3⟩ := oa
      subst o1
      dsimp only at ts
      have hz : (SetTable.insertAt es ((tab led q).put slot).2 (hashInt v, Value.int v tk)).size = q.length + 1 := by
        have := (SetTable.insertAt_perm es ((tab led q).put slot).2 (hashInt v, Value.int v tk)).length_eq
        rw [Array.length_toList, Array.length_toList, Array.size_push, sz] at this
        exact this
      have hlay : layNew (tab led q) es (hashInt v) (.int v tk) = (SetTable.insertAt es ((tab led q).put slot).2 (hashInt v, Value.int v tk), tab led (q ++ [v]), false, false) := by
        unfold layNew
        rw [hfs]
        dsimp only
        rw [hz, o2, ts]
        unfold SetTable.orStandIn
        rw [if_pos o2]
        rfl
      rw [hlay] at hperm ⊢
      dsimp only at hperm ⊢
      rw [Array.toList_push] at hperm
      refine wpAny_bind (wpAny_pure ?_)
      have hpl : (tab led q).plain = true := t2
      have pl2 : (tab led (q ++ [v])).plain = true := by rw [ts]; exact hpl
      have tf : (tab led (q ++ [v])).tooFull = false := by rw [ts]; exact o3
      rw [if_pos pl2]
      refine wpAny_bind ?_
      rw [hashByValue_scannable 8 rfl]
      refine wpAny_pure ?_
      have pk : plainKind (Value.int v tk) = true := rfl
      rw [pk]
      simp only [↓reduceIte, tf, Bool.not_false, Bool.and_false, Bool.false_eq_true]
      have hlt : (SetTable.insertAt es ((tab led q).put slot).2 (hashInt v, Value.int v tk)).size ≤ sizeLine := by rw [hz, sizeLine_eq]; lia
      refine wpAny_bind (wpAny_storeSet_of ho hd ?_ hlt)
      refine wpAny_pure ?_
      dsimp only
      refine wpAny_pure (h _ true (Heap.SameBut.update s.heap a _) ?_)
      rw [if_neg hvq]
      refine ⟨SetTable.insertAt es ((tab led q).put slot).2 (hashInt v, Value.int v tk), ep + 1, ?_, ?_, fun e he => ?_⟩
      · have := Heap.get?_update_self (Obj.putSet (SetTable.insertAt es ((tab led q).put slot).2 (hashInt v, Value.int v tk)) (tab led (q ++ [v]))) ho (by rw [putSet_of _ _ hd]; rfl)
        rw [putSet_of _ _ hd] at this
        exact this
      · refine (hperm.map rz).trans ?_
        rw [List.map_append]
        exact hp.append_right [v]
      · rcases List.mem_append.mp (hperm.mem_iff.mp he) with he | he
        · exact hg e he
        · rw [List.mem_singleton] at he
          exact ⟨v, tk, he⟩
end
section
variable {prog : Program} {w : World} {A : Around} {R : Result → Shared → Prop} {I : Addr} {fp wr : List Addr} {G : Array GenState → Array GenState → Prop} {n : Nat} {P : Nat → Value → Prop} {St : Nat → Shared → Prop}
noncomputable def y9 (q : List Int) : Prop := q.length ≤ 3 ∧ q.Nodup ∧ ∀ v ∈ q, -2 ≤ v ∧ v ≤ 3
theorem Av (W : WalksS prog w A.in1 I fp wr G n P St) (S : Addr) (hSf : S ∉ fp) (led : Bool)
    (val : Nat → Int) (hval : ∀ i v, P i v → ∃ t, v = .int (val i) t) (hq : ∀ i, i ≤ n → y9 (firstMet val i)) :
    ∀ (k i : Nat) (s : Shared), n - i = k → i ≤ n → St i s → SetX s.heap S led (firstMet val i) →
      (∀ s', Moved (S :: wr) G s s' → SetX s'.heap S led (firstMet val n) → R (.ok (.ret .none)) s') →
      codeAny (model prog w) A (.builtin "set.update.loop" ⟨[.ref S, .ref I], []⟩) R s := by
  have hSw : S ∉ wr := fun h => hSf (W.sub _ h)
  have hsub : ∀ b ∈ wr, b ∈ S :: wr := fun b hb => List.mem_cons_of_mem _ hb
  intro k
  induction k with
  | zero =>
    intro i s hk hi hst hS hR
    have hin : i = n := by lia
    subst hin
    refine codeAny_builtin PyProof.Rows.F.entry_set_update_loop ?_
    rw [Around.under_plainId PyProof.Rows.F.plain_set_update_loop _]
    show wpAny _ A.in1 (pyNext (.ref I) >>= _) _ _ s
    refine wpAny_bind (W.done s _ _ hst fun s' hm => ?_)
    show wpAny _ A.in1 (ret Value.none) _ _ s'
    exact wpAny_pure (hR s' (hm.mono hsub) (hS.keep fun o ho => hm.heap S _ hSw ho))
  | succ k ih =>
    intro i s hk hi hst hS hR
    have hlt : i < n := by lia
    refine codeAny_builtin PyProof.Rows.F.entry_set_update_loop ?_
    rw [Around.under_plainId PyProof.Rows.F.plain_set_update_loop _]
    show wpAny _ A.in1 (pyNext (.ref I) >>= _) _ _ s
    refine wpAny_bind (W.item i s _ _ hlt hst fun v s' hP hst' hm => ?_)
    obtain ⟨t, rfl⟩ := hval i v hP
    have hS' : SetX s'.heap S led (firstMet val i) := hS.keep fun o ho => hm.heap S _ hSw ho
    show wpAny _ A.in1 (holding [Value.int (val i) t] (setAdd S (.int (val i) t)) >>= _) _ _ s'
    refine wpAny_bind (wpAny_holding ?_)
    unfold setAdd
    refine wpAny_holding ?_
    refine wpAny_bind ((intKind prog w).pyHash (k := val i) (intKind_is _ _ _ _) ?_)
    obtain ⟨q1, q2, q3⟩ := hq i hi
    obtain ⟨r1, r2, r3⟩ := hq (i + 1) hlt
    have st : firstMet val (i + 1) = if val i ∈ firstMet val i then firstMet val i else firstMet val i ++ [val i] := by
      rw [firstMet_succ]
      unfold step_dedup
      by_cases c : val i ∈ firstMet val i
      · rw [if_pos c, if_pos (List.any_eq_true.mpr ⟨_, c, by simp⟩)]
      · rw [if_neg c, if_neg fun q => c ?_]
        obtain ⟨x, hx, e⟩ := List.any_eq_true.mp q
        rw [beq_iff_eq] at e
        rw [← e]; exact hx
    have mv : -2 ≤ val i ∧ val i ≤ 3 := by
      by_cases c : val i ∈ firstMet val i
      · exact q3 _ c
      · refine r3 _ ?_
        rw [st, if_neg c]
        exact List.mem_append_right _ (.head _)
    refine BG (s := { s' with toks := s'.toks + 1 }) hS' q1 q2 q3 mv (fun c => ?_) fun h' b hsb hS2 => ?_
    · rw [st, if_neg c, List.length_append, List.length_singleton] at r1
      lia
    rw [← st] at hS2
    refine wpAny_pure ⟨plainId_quiet PyProof.Rows.F.plain_set_update_loop _, ih (i + 1) _ (by lia) hlt (W.frame _ s' _ _ hst' (Nat.le_succ _) fun b hb o e => ?_) hS2 fun s'' hm'' hS'' => ?_⟩
    · rw [hsb.2 b (fun h : b = S => hSf (by rw [← h]; exact hb))]; exact e
    · refine hR s'' (Moved.trans W.gtrans ((hm.mono hsub).then_heap (Nat.le_succ _) fun b o hb e => ?_) hm'') hS''
      rw [hsb.2 b (fun h : b = S => hb (by rw [h]; exact List.mem_cons_self))]; exact e
end
section
variable {prog : Program} {w : World} {A : Around} {E : Value → Shared → Prop} {s : Shared}
noncomputable def gO (w : World) : Bool := !w.params.followText "set-order"
theorem wc (a : Value) {Q₁ : Value → Shared → Prop}
    (h : Q₁ (.ref s.heap.objs.size) { s with heap := s.heap.push (gb #[] 0 (.fresh 0 0 (gO w))) }) :
    codeAny (model prog w) A (.call (.builtin "set.__new__") ⟨[.type "set", a], []⟩) (wants Q₁ E) s := by
  refine codeAny_of_tree ?_
  show wpAny _ A.in1 (do checkBuiltinCall "set.__new__" ⟨[.type "set", a], []⟩; again (.builtin "set.__new__" ⟨[.type "set", a], []⟩)) _ _ s
  refine wpAny_bind (wpAny_of_eq (PySem.F.newCall_set_1 a) (wpAny_pure ⟨plainId_quiet PySem.F.plain_set_new _, codeAny_builtin PySem.F.entry_set_new ?_⟩))
  rw [Around.under_plainId PySem.F.plain_set_new _]
  unfold Builtin.«set.__new__» Builtin.Frozenset.newClass
  have hsub := sub_set_self
  obtain ⟨hp, g, d, tk, os⟩ := s
  dsimp only
  wp_walk
  refine wpAny_askSetting (wpAny_pure ?_)
  dsimp only
  simp only [newObj]
  refine wpAny_bind (wpAny_alloc (wpAny_pure ?_))
  exact wpAny_pure h
set_option maxHeartbeats 3200000 in
theorem wj {l : Addr} {items : Array Value} {ns : List Int} {Q : Value → Shared → Prop}
    (hh : A.handled = none) (hl : s.heap.IsList l items) (hi : IntsAre items.toList ns) (hq : ∀ i, i ≤ items.size → y9 (firstMet (fun i => ns.getD i 0) i))
    (h : ∀ (h' : Heap) (tk : Nat), SetX h' s.heap.objs.size (gO w) (firstMet (fun i => ns.getD i 0) items.size) →
      (∀ b o, b < s.heap.objs.size → s.heap.get? b = some o → h'.get? b = some o) → Q (.ref s.heap.objs.size) { s with heap := h', toks := tk }) :
    wpAny (model prog w) A (call (.type "set") [.ref l]) Q E s := by
  obtain ⟨c, tl, hmro⟩ := PySem.F.called_set.mro
  have hmade := PySem.F.called_set.made
  have hsub := PySem.F.called_set.sub
  refine wpAny_call (codeAny_of_tree ?_)
  show wpAny _ _ (callAny (.type "set") _) _ _ _
  refine wpAny_pure ⟨Code.quiet_builtin _ (by decide +kernel), codeAny_builtin PySem.F.entry_type_call ?_⟩
  rw [Around.under_plain (weight_type_call_type "set" [.ref l] []) rfl]
  have h1 := PySem.F.called_set.notType
  have h2 := PySem.F.called_set.canCreate
  have hct := PySem.F.typeCall_set_1 (.ref l)
  repeat (any_goals (first | assumption | wp_step))
  refine codeAny_mono (wc (.ref l) (E := E) (Q₁ := fun obj s₁ => obj = .ref s.heap.objs.size ∧ s₁ = { s with heap := s.heap.push (gb #[] 0 (.fresh 0 0 (gO w))) }) ⟨rfl, rfl⟩) fun r s₁ hr => ?_
  cases r with
  | error e => exact hr
  | ok fl =>
    cases fl with
    | ret obj =>
      obtain ⟨rfl, rfl⟩ := hr
      have hS : (s.heap.push (gb #[] 0 (.fresh 0 0 (gO w)))).get? s.heap.objs.size = some (gb #[] 0 (.fresh 0 0 (gO w))) := Heap.get?_push_size _ rfl
      have hT : Shared.TypeIs { s with heap := s.heap.push (gb #[] 0 (.fresh 0 0 (gO w))) } (.ref s.heap.objs.size) "set" := ⟨_, hS, rfl⟩
      have hli := PySem.F.called_set.init.lookup
      have hbi := PySem.F.called_set.init.bind (.ref s.heap.objs.size)
      repeat (any_goals (first | assumption | wp_step))
      refine codeAny_mono (codeAny_call_builtin (R := wants (fun r s₂ => r = .none ∧ ∃ h' tk, s₂ = { s with heap := h', toks := tk } ∧
          SetX h' s.heap.objs.size (gO w) (firstMet (fun i => ns.getD i 0) items.size) ∧
          (∀ b o, b < s.heap.objs.size → s.heap.get? b = some o → h'.get? b = some o)) E) PySem.F.called_set.init.plain PySem.F.entry_set_init (check_set_init_1 hT ?_)) fun r₂ s₂ hr₂ => ?_
      · obtain ⟨ol, hol, hcl, nl, hdl⟩ := hl
        obtain ⟨ocls, odict, odata, oslots⟩ := ol
        simp only at hcl hdl
        subst hcl; subst hdl
        have hol' : (s.heap.push (gb #[] 0 (.fresh 0 0 (gO w)))).get? l = some { cls := .type "list", dict := odict, data := .seq items nl, slots := oslots } := Heap.get?_push_of_some _ hol
        have hsls := PySem.F.sub_list_set
        have hslf := PySem.F.sub_list_frozenset
        have hne : (Value.type "list" == Value.type "dict") = false := by decide
        have hl1 : (s.heap.push (gb #[] 0 (.fresh 0 0 (gO w)))).IsList l items := ⟨_, hol', rfl, nl, rfl⟩
        unfold Builtin.«set.__init__» noKeywords Builtin.Frozenset.updateFrom
        generalize hPI : pyIter = PI
        wp_walk
        subst hPI
        refine wpAny_pyIter_list hl1 ?_
        refine wpAny_bind (wpAny_runValue ?_)
        have hlS : l < s.heap.objs.size := Heap.lt_size hol
        have hh3 : A.in1.in1.in1.handled = none := by simp [hh]
        have hneI : l ≠ (s.heap.push (gb #[] 0 (.fresh 0 0 (gO w)))).objs.size := by
          rw [Heap.size_push]; exact Nat.ne_of_lt (Nat.lt_succ_of_lt hlS)
        have hSf : s.heap.objs.size ∉ [(s.heap.push (gb #[] 0 (.fresh 0 0 (gO w)))).objs.size, l] := by
          rw [Heap.size_push]; simp only [List.mem_cons, List.mem_singleton, List.not_mem_nil, or_false, not_or]
          exact ⟨Nat.ne_of_lt (Nat.lt_succ_self _), Nat.ne_of_gt hlS⟩
        have hval : ∀ (i : Nat) (v : Value), items[i]? = some v → ∃ t, v = .int ((fun i => ns.getD i 0) i) t := fun i v hv =>
          PyProof.Rows.IntsAre.int_at hi i v (by rw [Array.getElem?_toList]; exact hv)
        refine Av ((Walks.list hh3 _ l hneI items).toS) s.heap.objs.size
          hSf (gO w) (fun i => ns.getD i 0) hval hq (items.size - 0) 0 _ (by lia) (Nat.zero_le _)
          ⟨⟨_, Heap.get?_push_size _ rfl, rfl, rfl⟩, (hl1.push _)⟩ ?hS0 ?hR
        case hS0 =>
          have hget : ((s.heap.push (gb #[] 0 (.fresh 0 0 (gO w)))).push { cls := .type "list_iterator", data := .fields #[.ref l, .int 0 0] }).get? s.heap.objs.size
              = some (gb #[] 0 (.fresh 0 0 (gO w))) := Heap.get?_push_of_some _ hS
          exact ⟨#[], 0, hget, .refl _, fun e he => by simp at he⟩
        case hR =>
          intro s' hm hS'
          obtain ⟨h', g', d', tk', os'⟩ := s'
          have eg : g' = s.gens := hm.gens
          have ed : d' = s.drawn := hm.drawn
          have eo : os' = s.os := hm.os
          subst eg; subst ed; subst eo
          show wpAny _ _ _ _ _ _
          refine wpAny_pure ?_
          show wpAny _ _ (ret Value.none) _ _ _
          refine wpAny_pure ⟨rfl, h', tk', rfl, hS', fun b o hb e => ?_⟩
          have hb1 : b ≠ s.heap.objs.size := Nat.ne_of_lt hb
          have hb2 : b ≠ (s.heap.push (gb #[] 0 (.fresh 0 0 (gO w)))).objs.size := by
            rw [Heap.size_push]; exact Nat.ne_of_lt (Nat.lt_succ_of_lt hb)
          exact hm.heap b o (by simp only [List.mem_cons, List.mem_singleton, List.not_mem_nil, or_false, not_or]; exact ⟨hb1, hb2⟩) (Heap.get?_push_of_some _ (Heap.get?_push_of_some _ e))
      · cases r₂ with
        | error e => exact hr₂
        | ok fl₂ =>
          cases fl₂ with
          | ret r =>
            obtain ⟨rfl, h', tk, rfl, hS', hk'⟩ := hr₂
            repeat (any_goals (first | assumption | wp_step))
            exact h _ _ hS' hk'
          | _ => exact hr₂.elim
    | _ => exact hr.elim
end
noncomputable def nV (w : World) : Bool := w.params.followText "set-order"
noncomputable def gv (w : World) (a : Addr) (ep : Nat) (es : Array (Int × Value)) : Array (Int × Value) := if nV w = true then pickOrder (w.params.setOrder a ep) es else es
noncomputable def eB (w : World) (t : SetTable) (i : Nat) : Nat := if nV w = true then 0 else lQ t i
noncomputable def rL (slot i a n ep : Nat) : Obj := { cls := .type "set_iterator", data := .fields #[.int slot 0, .int i 0, .ref a, .int n 0, .int ep 0] }
section
variable {prog : Program} {w : World} {A : Around} {E : Value → Shared → Prop} {s : Shared}
theorem g9 {Q : Bool → Shared → Prop} (h : Q (nV w) s) : wpAny (model prog w) A setsByText Q E s := by
  unfold setsByText
  exact wpAny_bind (wpAny_askSetting (wpAny_pure h))
structure SW (w : World) (es : Array (Int × Value)) (t : SetTable) : Prop where
  led : t.led = gO w
  plain : t.plain = true
  fits : t.fits es.size = true
  bel : ∀ i, i ≤ es.size → SetTable.below t.place (lQ t i) = i
theorem SW.size {w : World} {es : Array (Int × Value)} {t : SetTable} (h : SW w es t) : t.place.size = es.size := by
  have := h.fits
  simp only [SetTable.fits, Bool.and_eq_true, beq_iff_eq] at this
  exact this.1
theorem pc {a : Addr} {es : Array (Int × Value)} {ep : Nat} {t : SetTable} {i : Nat} {Q : Option (Value × Nat) → Shared → Prop} (ho : s.heap.get? a = some (gb es ep t)) (h : SW w es t) (hi : i ≤ es.size)
    (hQ : Q (((gv w a ep es)[i]?).map fun e => (e.2, eB w t (i + 1))) s) : wpAny (model prog w) A (setNext a (eB w t i) i ep) Q E s := by
  have hd : (gb es ep t).data = .set es ep t := rfl
  unfold setNext
  refine wpAny_bind (wpAny_setState_of ho hd h.fits ?_)
  dsimp only
  refine wpAny_bind (g9 ?_)
  unfold gv eB at hQ
  unfold eB
  cases hb : nV w with
  | true =>
    rw [hb] at hQ
    simp only [↓reduceIte, bne_self_eq_false, Bool.false_eq_true] at hQ ⊢
    unfold setWalk
    refine wpAny_bind (wpAny_bind (wpAny_setState_of ho hd h.fits ?_))
    dsimp only
    refine wpAny_bind (g9 ?_)
    rw [hb]
    simp only [↓reduceIte]
    refine wpAny_bind (wpAny_askSetting (wpAny_pure (wpAny_pure ?_)))
    exact hQ
  | false =>
    rw [hb] at hQ
    simp only [Bool.false_eq_true, ↓reduceIte] at hQ ⊢
    have hled : t.led = true := by rw [h.led]; unfold gO; unfold nV at hb; rw [hb]; rfl
    have hpl := h.plain
    have hbel := h.bel
    have hsz := h.size
    clear h
    obtain ⟨mask, place, dummies, finger, led, moves, plain⟩ := t
    dsimp only at hled hpl hsz
    subst hled; subst hpl
    refine wpAny_ite_split (fun hab => absurd (show (false : Bool) = true from hab) Bool.false_ne_true) (fun _ => ?_)
    refine wpAny_bind ?_
    refine wpAny_ite_split (fun hab => absurd (show (false : Bool) = true from hab) Bool.false_ne_true) (fun _ => wpAny_pure ?_)
    have hb1 := hbel i hi
    dsimp only at hb1
    refine wpAny_pure ?_
    dsimp only
    rw [hb1]
    have hs1 : lQ { mask := mask, place := place, dummies := dummies, finger := finger, led := true, moves := moves, plain := true } (i + 1) = place.getD i 0 + 1 := by
      unfold lQ
      rw [if_neg (by lia)]
      rfl
    rw [hs1] at hQ
    by_cases c : i < es.size
    · have c2 : i < place.size := by lia
      rw [Array.getElem?_eq_getElem c, Option.map_some] at hQ
      rw [Array.getElem?_eq_getElem c, Array.getElem?_eq_getElem c2]
      have : place.getD i 0 = place[i] := by simp [Array.getD, c2]
      rw [this] at hQ
      exact hQ
    · rw [Array.getElem?_eq_none (by lia), Option.map_none] at hQ
      rw [Array.getElem?_eq_none (by lia)]
      exact hQ
end
theorem slot_sit_next : Slot "set_iterator" "__next__" "set_iterator.__next__" :=
  .of (owner := "set_iterator") (n := "__next__") (by rw [typeLookup_type, builtinLookup_eq_fast]; kernel_rfl) (by decide +kernel) (by decide +kernel) (by decide +kernel)
    (by first | exact .inl (by decide +kernel) | exact .inr (by decide +kernel)) (by rw [isSubtype_type]; kernel_rfl)
theorem iL : entryFor table "set_iterator.__next__" = some Builtin.«set_iterator.__next__» := entryFor_of_tree (by kernel_rfl)
theorem pC : Manifest.owners.lookup (String.ofList ['r', 'o', 't', 'a', 'r', 'e', 't', 'i', '_', 't', 'e', 's'].reverse) = some Manifest.sig_set_iterator := by kernel_rfl
theorem jt (a : Value) : argsOk "set_iterator.__next__" ⟨[a], []⟩ := by
  unfold argsOk; rw [signature?_of (id := "set_iterator.__next__") (n := ['_', '_', 't', 'x', 'e', 'n', '_', '_']) (o := ['r', 'o', 't', 'a', 'r', 'e', 't', 'i', '_', 't', 'e', 's']) (by kernel_rfl) pC]; kernel_rfl
theorem jC : Slot "set_iterator" "__iter__" "set_iterator.__iter__" :=
  .of (owner := "set_iterator") (n := "__iter__") (by rw [typeLookup_type, builtinLookup_eq_fast]; kernel_rfl) (by decide +kernel) (by decide +kernel) (by decide +kernel)
    (by first | exact .inl (by decide +kernel) | exact .inr (by decide +kernel)) (by rw [isSubtype_type]; kernel_rfl)
theorem nk : entryFor table "set_iterator.__iter__" = some Builtin.«dict_keyiterator.__iter__» :=
  entryFor_alias (id' := "dict_keyiterator.__iter__") (by kernel_rfl) rfl (by decide +kernel) (by kernel_rfl)
theorem oT (a : Value) : argsOk "set_iterator.__iter__" ⟨[a], []⟩ := by
  unfold argsOk; rw [signature?_of (id := "set_iterator.__iter__") (n := ['_', '_', 'r', 'e', 't', 'i', '_', '_']) (o := ['r', 'o', 't', 'a', 'r', 'e', 't', 'i', '_', 't', 'e', 's']) (by kernel_rfl) pC]; kernel_rfl
theorem oq : entryFor table "set.__iter__" = some Builtin.«frozenset.__iter__» :=
  entryFor_alias (id' := "frozenset.__iter__") (by kernel_rfl) rfl (by decide +kernel) (by kernel_rfl)
theorem wK : isSubtype (.type "StopIteration") (.type "StopIteration") = pure true := by rw [isSubtype_type]; kernel_rfl
section
variable {prog : Program} {w : World} {A : Around} {E : Value → Shared → Prop} {s : Shared}
theorem eF {a : Addr} {es : Array (Int × Value)} {ep : Nat} {t : SetTable} {Q : Array (Int × Value) → Shared → Prop} (ho : s.heap.get? a = some (gb es ep t)) (h : SW w es t) (hQ : Q es s) : wpAny (model prog w) A (setEntries a) Q E s := by
  unfold setEntries
  exact wpAny_bind (wpAny_setState_of ho rfl h.fits (wpAny_pure hQ))
theorem A0 {I a : Addr} {es : Array (Int × Value)} {ep i : Nat} {t : SetTable} {e : Int × Value} {Q : Option Value → Shared → Prop} (hI : s.heap.get? I = some (rL (eB w t i) i a es.size ep)) (ho : s.heap.get? a = some (gb es ep t)) (h : SW w es t) (hi : i < es.size) (hx : (gv w a ep es)[i]? = some e)
    (hQ : ∀ h', Heap.SameBut I s.heap h' → h'.get? I = some (rL (eB w t (i + 1)) (i + 1) a es.size ep) → Q (some e.2) { s with heap := h' }) :
    wpAny (model prog w) A (pyNext (.ref I)) Q E s := by
  have hT : s.TypeIs (.ref I) "set_iterator" := ⟨_, hI, rfl⟩
  unfold pyNext
  refine wpAny_bind (wpAny_attempt (wpAny_callSpecial?_slot (name := Str.ofString "__next__") hT slot_sit_next (wpAny_call_entry slot_sit_next hT iL ?_ (jt _))))
  unfold Builtin.«set_iterator.__next__»
  refine wpAny_bind (wpAny_pure ?_)
  refine wpAny_bind (wpAny_fieldsOf hI rfl ?_)
  dsimp only
  refine wpAny_bind (eF ho h ?_)
  rw [if_neg (by simp)]
  rw [Int.toNat_natCast, Int.toNat_natCast, Int.toNat_natCast]
  refine wpAny_bind (pc ho h (by lia) ?_)
  rw [hx, Option.map_some]
  dsimp only
  refine wpAny_bind (wpAny_setField hI rfl (by simp) ?_)
  have h1 : (s.heap.update I (Obj.mapFields (·.setIfInBounds 0 (rawInt ((eB w t (i + 1) : Nat) : Int))))).get? I = some (rL (eB w t (i + 1)) i a es.size ep) := Heap.get?_update_self _ hI rfl
  refine wpAny_bind (wpAny_setField h1 rfl (by simp) ?_)
  have h2 : ((s.heap.update I (Obj.mapFields (·.setIfInBounds 0 (rawInt ((eB w t (i + 1) : Nat) : Int))))).update I (Obj.mapFields (·.setIfInBounds 1 (rawInt ((i : Int) + 1))))).get? I = some (rL (eB w t (i + 1)) (i + 1) a es.size ep) := Heap.get?_update_self _ h1 rfl
  exact wpAny_pure ⟨_, rfl, wpAny_pure (hQ _ ((Heap.SameBut.update s.heap I _).trans (Heap.SameBut.update _ I _)) h2)⟩
theorem Br {I a : Addr} {es : Array (Int × Value)} {ep : Nat} {t : SetTable} {Q : Option Value → Shared → Prop} (hh : A.handled = none) (hI : s.heap.get? I = some (rL (eB w t es.size) es.size a es.size ep)) (ho : s.heap.get? a = some (gb es ep t)) (h : SW w es t) (hx : (gv w a ep es)[es.size]? = none)
    (hQ : ∀ h', Heap.ExtBut I s.heap h' → Q none { s with heap := h' }) :
    wpAny (model prog w) A (pyNext (.ref I)) Q E s := by
  have hT : s.TypeIs (.ref I) "set_iterator" := ⟨_, hI, rfl⟩
  unfold pyNext
  refine wpAny_bind (wpAny_attempt (wpAny_callSpecial?_slot (name := Str.ofString "__next__") hT slot_sit_next (wpAny_call_entry slot_sit_next hT iL ?_ (jt _))))
  unfold Builtin.«set_iterator.__next__»
  refine wpAny_bind (wpAny_pure ?_)
  refine wpAny_bind (wpAny_fieldsOf hI rfl ?_)
  dsimp only
  refine wpAny_bind (eF ho h ?_)
  rw [if_neg (by simp)]
  rw [Int.toNat_natCast, Int.toNat_natCast, Int.toNat_natCast]
  refine wpAny_bind (pc ho h (Nat.le_refl _) ?_)
  rw [hx, Option.map_none]
  dsimp only
  refine wpAny_bind (wpAny_setField hI rfl (by simp) ?_)
  show wpAny _ _ (newExc (.type "StopIteration") [] >>= _) _ _ _
  refine wpAny_bind ?_
  simp only [newExc, newTuple]
  refine wpAny_bind (wpAny_newObj_type ?_ (by size_fits))
  refine wpAny_bind (m := firstArgMember _ _) (wpAny_of_eq (a := Value.none) (by first | rfl | (simp only [firstArgMember]; rfl)) ?_)
  refine wpAny_newObj_type ?_ (by size_fits)
  simp only [raiseNew]
  refine wpAny_bind (wpAny_handled ?_)
  rw [show A.in1.handled = none from hh]
  refine wpAny_bind (wpAny_pure (wpAny_throw ?_))
  refine wpAny_bind (wpAny_isInstance (T := "StopIteration") (b := true) ⟨_, Heap.get?_push_size _ rfl, rfl⟩ wK ?_)
  exact wpAny_pure (hQ _ (((Heap.SameBut.update ..).extBut.push _).push _))
theorem AY {I a : Addr} {slot i n ep : Nat} {Q : Value → Shared → Prop} (hI : s.heap.get? I = some (rL slot i a n ep)) (h : Q (.ref I) s) : wpAny (model prog w) A (pyIter (.ref I)) Q E s := by
  have hT : s.TypeIs (.ref I) "set_iterator" := ⟨_, hI, rfl⟩
  refine wpAny_pyIter_slot hT jC (wpAny_call_entry jC hT nk ?_ (oT _))
  show wpAny _ _ (ret (.ref I)) _ _ s
  exact wpAny_pure ⟨_, rfl, "set_iterator", _, hT, slot_sit_next.lookup, h⟩
theorem AW {a : Addr} {es : Array (Int × Value)} {ep : Nat} {t : SetTable} {Q : Value → Shared → Prop} (ho : s.heap.get? a = some (gb es ep t)) (h : SW w es t)
    (hQ : Q (.ref s.heap.objs.size) { s with heap := s.heap.push (rL (eB w t 0) 0 a es.size ep) }) : wpAny (model prog w) A (pyIter (.ref a)) Q E s := by
  have hT : s.TypeIs (.ref a) "set" := ⟨_, ho, rfl⟩
  have hd : (gb es ep t).data = .set es ep t := rfl
  have s0 : eB w t 0 = 0 := by unfold eB lQ; split <;> rfl
  rw [s0] at hQ
  refine wpAny_pyIter_slot hT PySem.F.slot_set_iter (wpAny_call_entry PySem.F.slot_set_iter hT oq ?_ (PySem.F.args_set_iter_1 _))
  unfold Builtin.«frozenset.__iter__» Builtin.Frozenset.slot0 slotArgs
  simp only [List.isEmpty_nil, Bool.not_true, Bool.false_eq_true, ↓reduceIte, bind_assoc, List.length_nil, bne_self_eq_false]
  unfold Builtin.Frozenset.addrOf Builtin.Frozenset.sizeOf
  refine wpAny_bind (wpAny_pure ?_)
  try dsimp only
  refine wpAny_bind (wpAny_pure ?_)
  refine wpAny_bind (wpAny_bind (eF ho h (wpAny_pure ?_)))
  refine wpAny_bind ?_
  unfold setDrawn
  refine wpAny_bind (wpAny_setState_of ho hd h.fits ?_)
  dsimp only
  refine wpAny_bind (g9 ?_)
  refine wpAny_pure ?_
  refine wpAny_ite_split (fun hab => ?_) (fun _ => ?_)
  · exfalso
    have h2 : (!t.plain && decide (es.size > 1)) = true := (Bool.and_eq_true_iff.mp hab).2
    rw [h.plain] at h2
    cases h2
  · refine wpAny_bind (wpAny_pure ?_)
    refine wpAny_bind (wpAny_setEpoch_of ho hd h.fits ?_)
    refine wpAny_bind ?_
    unfold newFields
    exact wpAny_newObj_type (wpAny_pure ⟨_, rfl, "set_iterator", _, ⟨_, Heap.get?_push_size _ rfl, rfl⟩, slot_sit_next.lookup, hQ⟩) (by size_fits)
theorem Aa {r : Addr} {Q : Bool → Shared → Prop} (hT : s.TypeIs (.ref r) "set") (h : Q false s) : wpAny (model prog w) A (Builtin.List.listLengthHint (.ref r)) Q E s := by
  unfold Builtin.List.listLengthHint
  refine wpAny_bind (wpAny_specialOf hT PySem.F.slot_set_len.lookup ?_)
  generalize hid : ("set.__len__" : String) = id0
  wp_delta
  rw [show splitId id0 = some ("set", "__len__") from by subst hid; decide +kernel]
  subst hid
  refine wpAny_bind (wpAny_isInstance (T := "set") (b := true) hT (by rw [isSubtype_type]; kernel_rfl) ?_)
  refine wpAny_ite_split (fun hab => absurd hab (by decide)) (fun _ => ?_)
  refine wpAny_ite_split (fun _ => ?_) (fun hab => absurd (by decide +kernel) hab)
  refine wpAny_bind (wpAny_typeOf hT ?_)
  exact wpAny_pure h
end
theorem oh {α : Type} : ∀ (l : List α) (i : Nat) (h : i < l.length), (l[i] :: l.eraseIdx i).Perm l
  | _ :: _, 0, _ => .refl _
  | a :: l, i + 1, h => by
    have h' : i < l.length := by simpa using h
    show (l[i] :: a :: l.eraseIdx i).Perm (a :: l)
    exact (List.Perm.swap a l[i] _).trans ((oh l i h').cons a)
theorem vq {α : Type} (next : Nat → Nat) : ∀ (fuel k : Nat) (left : List α) (out : Array α), left.length ≤ fuel → (pickOrder.go next fuel k left out).toList.Perm (out.toList ++ left)
  | 0, k, left, out, h => by
    have : left = [] := List.length_eq_zero_iff.mp (by lia)
    subst this
    rw [List.append_nil]
    exact .refl _
  | fuel + 1, k, left, out, h => by
    unfold pickOrder.go
    cases hx : left[next k % left.length]? with
    | none =>
      cases left with
      | nil => rw [List.append_nil]
      | cons a l =>
        have hlt : next k % (a :: l).length < (a :: l).length := Nat.mod_lt _ (by simp)
        rw [List.getElem?_eq_getElem hlt] at hx
        cases hx
    | some x =>
      obtain ⟨hlt, e⟩ := List.getElem?_eq_some_iff.mp hx
      dsimp only
      refine (vq next fuel (k + 1) _ _ (by rw [List.length_eraseIdx]; split <;> lia)).trans ?_
      rw [Array.toList_push, List.append_assoc]
      refine List.Perm.append_left _ ?_
      rw [List.singleton_append, ← e]
      exact oh left _ hlt
theorem vY {α : Type} (next : Nat → Nat) (xs : Array α) : (pickOrder next xs).toList.Perm xs.toList := by
  unfold pickOrder
  have := vq next xs.size 0 xs.toList #[] (by rw [Array.length_toList]; exact Nat.le_refl _)
  simpa using this
theorem rE (w : World) (a : Addr) (ep : Nat) (es : Array (Int × Value)) : (gv w a ep es).toList.Perm es.toList := by
  unfold gv
  split
  · exact vY _ _
  · exact .refl _
theorem nG (w : World) (a : Addr) (ep : Nat) (es : Array (Int × Value)) : (gv w a ep es).size = es.size := by
  have := (rE w a ep es).length_eq
  rw [Array.length_toList, Array.length_toList] at this
  exact this
section
variable {prog : Program} {w : World} {A : Around}
theorem yN (hh : A.handled = none) (I a : Addr) (hne : a ≠ I) (es : Array (Int × Value)) (ep : Nat) (t : SetTable) (h : SW w es t) :
    Walks prog w A I [I, a] [I] es.size (fun i v => ∃ e, (gv w a ep es)[i]? = some e ∧ v = e.2) (fun i hp => hp.get? I = some (rL (eB w t i) i a es.size ep) ∧ hp.get? a = some (gb es ep t)) where
  sub := fun b hb => by simp at hb; simp [hb]
  frame := fun _ _ _ st hk => ⟨hk I (by simp) _ st.1, hk a (by simp) _ st.2⟩
  item := fun i s Q E hi st hQ => by
    have hlt : i < (gv w a ep es).size := by rw [nG]; exact hi
    have hx : (gv w a ep es)[i]? = some (gv w a ep es)[i] := Array.getElem?_eq_getElem hlt
    refine A0 st.1 st.2 h hi hx fun h' hs' hI' => ?_
    exact hQ _ h' s.toks ⟨_, hx, rfl⟩ ⟨hI', by rw [hs'.2 a hne]; exact st.2⟩ fun b o hb e => hs'.extBut b o (fun h => hb (by simp [h])) e
  done := fun s Q E st hQ => Br hh st.1 st.2 h (by rw [Array.getElem?_eq_none]; rw [nG]; exact Nat.le_refl _) fun h' he' => hQ h' s.toks fun b o hb e => he' b o (fun h => hb (by simp [h])) e
  self := fun _ _ _ _ st hQ => AY st.1 hQ
theorem Be {a : Addr} {es : Array (Int × Value)} {ep : Nat} {t : SetTable} (h : SW w es t) : KdlSrc prog w "set" a a es.size (fun i v => ∃ e, (gv w a ep es)[i]? = some e ∧ v = e.2) (fun hp => hp.get? a = some (gb es ep t)) where
  type := fun _ hm => ⟨_, hm, rfl⟩
  there := fun _ hm => ⟨Heap.lt_size hm, Heap.lt_size hm⟩
  keep := fun _ _ hm hk => hk a (.inl rfl) _ hm
  notList := by decide
  notTuple := by decide
  hint := fun _ _ _ _ hm hq => Aa ⟨_, hm, rfl⟩ hq
  iter := fun _ s hh hm => ⟨_, _, (fun _ _ hq => AW hm h hq), yN hh _ a (Nat.ne_of_lt (Heap.lt_size hm)) es ep t h, ⟨Heap.get?_push_size _ rfl, Heap.get?_push_of_some _ hm⟩⟩
end
theorem iU (ns : List Int) : ∀ i, i ≤ ns.length → ∀ v, v ∈ firstMet (fun i => ns.getD i 0) i ↔ v ∈ ns.take i
  | 0, _, v => by simp [firstMet_zero]
  | i + 1, h, v => by
    have ih := iU ns i (by lia)
    have e : ns[i]? = some (ns.getD i 0) := by rw [List.getD_eq_getElem?_getD, List.getElem?_eq_getElem (by lia)]; rfl
    rw [firstMet_succ, List.take_succ, e]
    unfold step_dedup
    by_cases c : (firstMet (fun i => ns.getD i 0) i).any (· == ns.getD i 0) = true
    · rw [if_pos c, ih v]
      obtain ⟨x, hx, e2⟩ := List.any_eq_true.mp c
      rw [beq_iff_eq] at e2
      subst e2
      have hx := (ih _).mp hx
      simp only [List.mem_append, Option.toList_some, List.mem_singleton]
      exact ⟨.inl, fun z => z.elim id fun z => z ▸ hx⟩
    · rw [if_neg c, List.mem_append, ih v, List.mem_append]
      simp
theorem gB (ns : List Int) : ∀ i, (firstMet (fun i => ns.getD i 0) i).Nodup
  | 0 => by rw [firstMet_zero]; exact .nil
  | i + 1 => by
    have ih := gB ns i
    rw [firstMet_succ]
    unfold step_dedup
    by_cases c : (firstMet (fun i => ns.getD i 0) i).any (· == ns.getD i 0) = true
    · rw [if_pos c]; exact ih
    · rw [if_neg c]
      refine List.nodup_append.mpr ⟨ih, by simp, fun a ha b hb e => c ?_⟩
      rw [List.mem_singleton] at hb
      exact List.any_eq_true.mpr ⟨a, ha, by rw [e, hb]; exact beq_self_eq_true _⟩
theorem ou (l : List Int) : l.eraseDups.Nodup := by
  have go : ∀ (n : Nat) (l : List Int), l.length ≤ n → l.eraseDups.Nodup := fun n => by
    induction n with
    | zero => intro l h; rw [List.length_eq_zero_iff.mp (by lia : l.length = 0)]; simp
    | succ n ih =>
      intro l h
      cases l with
      | nil => simp
      | cons a l =>
        rw [List.eraseDups_cons]
        refine List.nodup_cons.mpr ⟨fun q => ?_, ih _ ?_⟩
        · have := List.mem_eraseDups.mp q
          simp at this
        · have := List.length_filter_le (fun b => !b == a) l
          simp only [List.length_cons] at h
          lia
  exact go l.length l (Nat.le_refl _)
theorem wa {ns : List Int} (h3 : ns.eraseDups.length ≤ 3) (hm : ns.all wJ = true) : ∀ i, i ≤ ns.length → y9 (firstMet (fun i => ns.getD i 0) i) := fun i hi => by
  refine ⟨Nat.le_trans ((gB ns i).length_le_of_subset fun v hv => List.mem_eraseDups.mpr (List.mem_of_mem_take ((iU ns i hi v).mp hv))) h3, gB ns i, fun v hv => ?_⟩
  have := List.all_eq_true.mp hm v (List.mem_of_mem_take ((iU ns i hi v).mp hv))
  exact of_decide_eq_true this
theorem ue (ns : List Int) : (firstMet (fun i => ns.getD i 0) ns.length).Perm ns.eraseDups :=
  (List.perm_ext_iff_of_nodup (gB ns _) (ou ns)).mpr fun v => by rw [iU ns _ (Nat.le_refl _), List.take_length, List.mem_eraseDups]
section
variable {prog : Program} {w : World} {A : Around} {E : Value → Shared → Prop} {s : Shared}
theorem vr {a : Addr} {q : List Int} {Q : List Value → Shared → Prop} (hh : A.handled = none) (hS : SetX s.heap a (gO w) q) (hq : y9 q)
    (h : ∀ (h' : Heap) (tk : Nat) (vs : List Value) (ms : List Int), (∀ b o, s.heap.get? b = some o → h'.get? b = some o) → IntsAre vs ms → ms.Perm q → Q vs { s with heap := h', toks := tk }) :
    wpAny (model prog w) A (collect (.ref a)) Q E s := by
  obtain ⟨es, ep, ho, hp, hg⟩ := hS
  have tb := rZ (gO w) hq.1 hq.2.1 hq.2.2
  unfold u6 at tb
  simp only [Bool.and_eq_true, beq_iff_eq] at tb
  obtain ⟨⟨⟨⟨t1, t2⟩, t3⟩, t4⟩, t5⟩ := tb
  have sz : es.size = q.length := by
    have := hp.length_eq
    rw [List.length_map, Array.length_toList] at this
    exact this
  have sw : SW w es (tab (gO w) q) := ⟨t1, t2, by rw [sz]; exact t4, fun i hi => by
    have := List.all_eq_true.mp t5 i (List.mem_range.mpr (by lia))
    exact beq_iff_eq.mp this⟩
  have q3 := hq.1
  refine kdu_collect (Be sw) hh ho (by rw [sz, sizeLine_eq]; lia) fun h' tk acc hk hacc => ?_
  have op := rE w a ep es
  refine h h' tk acc.toList ((gv w a ep es).toList.map rz) hk (ir ?_ fun j v e => ?_) ((op.map rz).trans hp)
  · rw [Array.length_toList, List.length_map, Array.length_toList, nG]; exact hacc.1
  · obtain ⟨e0, e1, e2⟩ := hacc.2 j v (by rw [← Array.getElem?_toList]; exact e)
    have hj : (gv w a ep es).toList[j]? = some e0 := by rw [Array.getElem?_toList]; exact e1
    obtain ⟨k, t, rfl⟩ := hg e0 (op.mem_iff.mp (List.mem_of_getElem? hj))
    refine ⟨t, ?_⟩
    rw [e2, List.getD_eq_getElem?_getD, List.getElem?_map, hj]
    rfl
end
section
variable {X : Cxt} {h : Nat} {env : Env}
theorem gG {np np2 pos pos2 : Pos} {e : Expr} {f : EF} (N : BName X.K env "sorted" (.builtin "sorted")) (N2 : BName X.K env "set" (.type "set")) (hp : ec [.Call (.Name (nm "set") np2) [e] [] pos2] env) (hp2 : ec [e] env) (hf : bD X h env e f) :
    bD X h env (.Call (.Name (nm "sorted") np) [.Call (.Name (nm "set") np2) [e] [] pos2] [] pos) (e1 cX f) := fun A P m K hA F q => by
  refine wpAny_Call_ofName (kA N.hg N.hb N.hn N.hx N.hd F ?_)
  show wpAny _ _ (callWith pos (.builtin "sorted") [] (backTo pos (starEach [.Call (.Name (nm "set") np2) [e] [] pos2] env)) []) _ _ _
  rw [fM hp]
  refine callWith_of (P := fun h => X.K.In h) (by simp) (uV N.hk) (Calls.evalArgs_plain (Calls.spliced_cons ?_))
  refine eY N2 hp2 (ae hp2 hf ai) hA F (K := fun l σ => ∃ v, l = [v] ∧ On (cX v σ) K) ?one fun P1 args xs S r q => ?_
  case one =>
    have z := c9 q
    unfold aj
    cases e : f m P.σ with
    | none => rw [e] at z; exact z.elim
    | some y => rw [e] at z; exact ⟨y.1, rfl, z⟩
  obtain ⟨v, rfl, q⟩ := q
  refine r.consK fun x xs r1 r2 => r2.nilK ?_
  refine onVL S.rel q r1 fun i l vs ep hi hi2 ho rv q => mW q rv fun ns hl hints q => cF q fun hz q => ?_
  obtain ⟨z1, z2, z3⟩ := hz
  have hvl : vs.length = ns.length := e9 hints
  have few := wa z3 z2
  refine wj (items := vs.toArray) (ns := ns) hA.hd ⟨_, ho, rfl, ep, rfl⟩ (by simpa using hints) (fun j hj => few j (by rw [← hvl]; simpa using hj)) fun h' tk hS hk' => ?_
  have ke : ∀ b o, P1.h.get? b = some o → h'.get? b = some o := fun b o e => hk' b o (Heap.lt_size e) e
  have S2 : Step X ff P1 ⟨P1.ι, P1.σ, { P1.s with heap := h', toks := tk }⟩ := Step.kept S.rel ke
  refine wpAny_pure ⟨S2.rel.K, ?_⟩
  rw [show vs.toArray.size = ns.length by simpa using hvl] at hS
  exact wpAny_mono (lA S2.rel (Nat.lt_of_le_of_lt z3 (by decide)) (vr (s := { P1.s with heap := h', toks := tk }) hA.hd hS (few _ (Nat.le_refl _)) fun h2 tk2 vs2 ms hk2 hi2 hp2 => ⟨⟨ms, hi2, hp2.trans (ue ns)⟩, h2, tk2, rfl, hk2⟩) q) (fun _ _ z => z.back (S.trans S2)) fun _ _ z => z
end
structure ScrAt (X : Cxt) (a0 : Addr) (ns : List Int) : Prop where
  at_ : ∃ vs ep, X.hp.get? a0 = some (ef vs ep) ∧ IntsAre vs ns
  len : ns.length ≤ 63
section
variable {X : Cxt} {h : Nat} {env : Env} {a0 : Addr} {ns : List Int}
theorem v7 (H : ScrAt X a0 ns) : gr X h (.builtin "len") (uu a0 ns) := fun A P args xs K hA R r q => on1 q r fun a x r q => onRaw q r fun b q => cF q fun hb q => by
  have q : K (.int ns.length) P.σ := q
  rw [hb]
  obtain ⟨vs, ep, ho, hi⟩ := H.at_
  exact PySem.Calls.call_len_list (items := vs.toArray) ⟨_, R.keep _ _ ho, rfl, ep, rfl⟩ (by rw [List.size_toArray, e9 hi]; exact mQ (Nat.le_trans H.len (by decide))) (by rw [List.size_toArray, e9 hi]; exact .tok R (.int _ _) q)
theorem vW (H : ScrAt X a0 ns) {a b : Expr} {p pos : Pos} {f g : EF} (hf : bD X h env a f) (hg : bD X h env b g) : bD X h env (.Subscript a (.Slice none (some b) none p) pos) (e2 (kX a0 ns) f g) := fun A P m K hA F q =>
  have go : ∀ {P x y xv yv}, HRel X P → VRel P x xv → VRel P y yv → On (kX a0 ns x y P.σ) K → wpAny X.M A (subscriptTail a (.Slice none (some b) none p) xv (.ref P.h.objs.size)) (Ret X P VRel K) jm { P.s with heap := P.h.push (Bk .none yv) } := fun R rx ry q =>
    onRaw q rx fun c q => onInt q ry fun b' t q => cF q fun hz q => H.at_.elim fun vs z => z.elim fun ep z => m9 R (R.keep _ _ (hz.1 ▸ z.1)) .none (.int _ _) (fV z.2) (by rw [List.length_map]; exact Nat.le_trans H.len (by decide)) (pH _ _ hz.2) (by rw [List.map_take]; exact (fV z.2).take _) q
  Subscript_ ((hf A P m _ hA F (c9 q)).go fun P1 x xv S1 r1 q => wpAny_Slice (wpAny_pure ((hg A P1 m _ hA (F.stepN S1) (c9 q)).go fun P2 y yv S2 r2 q => wpAny_pure (wpAny_mono (go S2.rel (r1.step S2) r2 q) (fun _ _ z => z.back (S1.trans S2)) fun _ _ z => z))))
end
section
variable {X : Cxt} {h : Nat} {P P' : Pt} {v : PV} {x : Value}
theorem VRel.nob0 (hv : nob0 v = true) (r : VRel P v x) : VRel P' v x := by
  cases v <;> first | exact r.noneK .none | exact r.boolK (.bool _) | exact r.intK fun t => .int _ t | exact r.strK fun t => .str _ t | exact nomatch hv
theorem VRel.tupAll {p : PV → Bool} (e : P'.h = P.h) (k : ∀ {v x}, p v = true → VRel P v x → VRel P' v x) {l : List PV} (hl : l.all p = true) (r : VRel P (.tup l) x) : VRel P' (.tup l) x :=
  r.tupK fun a vs ep ho rr => .tup (e ▸ ho) rr.length fun j v x h1 h2 => k (List.all_eq_true.mp hl v (List.mem_of_getElem? h1)) (rr.both h1 h2)
theorem VRel.nob1 (e : P'.h = P.h) (hv : nob1 v = true) (r : VRel P v x) : VRel P' v x := by
  cases v <;> first | exact VRel.nob0 hv r | exact r.tupAll e (fun a b => VRel.nob0 a b) hv
theorem VRel.nob (hv : nob v = true) (r : VRel P v x) (e : P'.h = P.h := by rfl) : VRel P' v x := by
  cases v <;> first | exact VRel.nob0 hv r | exact r.tupAll e (fun a b => VRel.nob1 e a b) hv
theorem VRels.nob {l : List PV} {xs : List Value} (hl : l.all Mine.nob = true) (r : VRels P l xs) (e : P'.h = P.h := by rfl) : VRels P' l xs :=
  .of_get r.length fun j v x h1 h2 => (r.both h1 h2).nob (List.all_eq_true.mp hl v (List.mem_of_getElem? h1)) e
theorem HRel.bare (R : HRel X P) : HRel X ⟨P.ι, σN, P.s⟩ :=
  ⟨R.keep, R.anch, fun i hi => absurd hi (Nat.not_lt_zero _), fun i j hi => absurd hi (Nat.not_lt_zero _), fun i hi => absurd hi (Nat.not_lt_zero _), (fun i o e => nomatch e), (fun i C fs e => nomatch e)⟩
theorem Ret.nobList {X' : Cxt} {l : List PV} {j : Nat} {K : PV → AH → Prop} (R : HRel X P) (S : Step X' ff ⟨P.ι, σN, P.s⟩ P') (hj : j < P'.n) (hl : P'.σ.get j = some (.list l)) (hn : l.all Mine.nob = true) (n0 : X.n0 ≤ X'.n0) (q : K (.obj P.n) (P.σ.new (.list l))) :
    Ret X P VRel K (.ref (P'.ι j)) P'.s := by
  have S0 : Step X ff P ⟨P.ι, P.σ, P'.s⟩ := .grow R (fun b o e => S.keep b o e (fun i hi => absurd hi (Nat.not_lt_zero _)) id) S.gens S.os
  obtain ⟨_, vs, ep, ho, rv⟩ := S.rel.objs j _ hl
  have fr := S.fr j (Nat.zero_le _) hj
  exact .mk (P.add (P'.ι j) (.list l) P'.s) (.obj P.n) (S0.own fr (fun _ _ e => e) (R.ne_none fr) (Nat.le_trans n0 (S.rel.lo j hj)) ho (f7 _ _) (fun e => ⟨vs, ep, by rw [Pt.add_self]; exact ho, VRels.ext (P := ⟨P.ι, P.σ, P'.s⟩) (VRels.nob hn rv) e⟩) (fun _ _ e => nomatch e) rfl rfl) (Pt.add_rel _ _ _ _) q
theorem jj {a : Addr} {f : FF} (d : SndF X h a f) : SndF X h a (fP f) := fun A P args xs K hA R r q => cF q fun ha q => by
  cases e : f args σN with
  | none => rw [e] at q; exact q.elim
  | some y =>
    rw [e] at q
    refine codeAny_mono (d A ⟨P.ι, σN, P.s⟩ args xs (fun v τ => v = y.1 ∧ τ = y.2) hA R.bare (VRels.nob ha r) (by rw [show f args σN = some (y.1, y.2) from e]; exact ⟨rfl, rfl⟩)) fun r s' z => ?_
    match r, z with
    | .ok (.ret x), z =>
      refine z.rec fun P' v _ S rv k => ?_
      obtain ⟨rfl, k2⟩ := k
      have kp : ∀ b o, P.h.get? b = some o → P'.h.get? b = some o := fun b o e => S.keep b o e (fun i hi => absurd hi (Nat.not_lt_zero _)) id
      have S0 : Step X ff P ⟨P.ι, P.σ, P'.s⟩ := .grow R kp S.gens S.os
      by_cases c : Mine.nob y.1 = true
      · have q : On (if Mine.nob y.1 = true then some (y.1, P.σ) else _) K := q
        rw [if_pos c] at q
        exact .mk ⟨P.ι, P.σ, P'.s⟩ y.1 S0 (rv.nob c) q
      · have q : On (if Mine.nob y.1 = true then some (y.1, P.σ) else _) K := q
        rw [if_neg c] at q
        refine onObj q rv fun j hj q => pe q fun l hl q => cF q fun hn q => ?_
        exact .nobList R S hj (k2 ▸ hl) hn (Nat.le_refl _) q
theorem Cp {a : Addr} {f : FF} (d : SndF X h a f) : SndF X h a (fQ f) := fun A P args xs K hA R r q => on1 q r fun v x r q => onVL R q r fun i l vs ep hi hl ho rv q => cF q fun ha q => by
  have R0 : HRel X ⟨fun _ => P.ι i, ⟨1, fun j => if j = 0 then some (.list l) else none⟩, P.s⟩ :=
    ⟨R.keep, R.anch, fun _ _ => R.lo i hi, fun a b h1 h2 _ => (Nat.lt_one_iff.mp h1).trans (Nat.lt_one_iff.mp h2).symm, fun _ _ => R.live i hi, fun j o e => (by
      by_cases z : j = 0
      · have e : (if j = 0 then some (AObj.list l) else none) = some o := e
        rw [if_pos z] at e; cases e; subst z; exact ⟨Nat.lt_succ_self _, vs, ep, ho, VRels.nob ha rv⟩
      · have e : (if j = 0 then some (AObj.list l) else none) = some o := e
        rw [if_neg z] at e; cases e), fun j C fs e => by
      have e : (if j = 0 then some (AObj.list l) else none) = some (.inst C fs) := e
      split at e <;> cases e⟩
  cases e : f [.obj 0] ⟨1, fun j => if j = 0 then some (.list l) else none⟩ with
  | none => rw [e] at q; exact q.elim
  | some y =>
    rw [e] at q
    refine codeAny_mono (d A ⟨fun _ => P.ι i, ⟨1, fun j => if j = 0 then some (.list l) else none⟩, P.s⟩ [.obj 0] _ (fun v τ => v = y.1 ∧ τ = y.2) hA R0 (.cons (.obj 0 (Nat.lt_succ_self _)) .nil) (by rw [show f [.obj 0] ⟨1, fun j => if j = 0 then some (.list l) else none⟩ = some (y.1, y.2) from e]; exact ⟨rfl, rfl⟩)) fun r s' z => ?_
    match r, z with
    | .ok (.ret x), z =>
      refine z.rec fun P' v _ S rv k => ?_
      obtain ⟨rfl, k2⟩ := k
      refine pe q fun l' hl' q => cF q fun hn q => ?_
      have e0 : P'.ι 0 = P.ι i := S.ext.ag 0 (Nat.lt_succ_self _)
      obtain ⟨_, vs', ep', ho', rv'⟩ := S.rel.objs 0 _ (k2 ▸ hl')
      rw [e0] at ho'
      exact .mk ⟨P.ι, P.σ.set i (.list l'), P'.s⟩ y.1 (.upd R hl (fun b o n e => S.keep b o e (fun _ _ => n) id) ho' (f7 _ _) (fun _ => ⟨vs', ep', ho', VRels.nob hn.1 rv'⟩) (fun _ _ e => nomatch e) S.gens S.os) (rv.nob hn.2.2) q
end
structure ZS (h : Heap) (b l1 l2 : Addr) (xs ys : Array Value) (k : Nat) (f0 : Value) : Prop where
  z : IsZip h (b + 4) (b + 2) (b + 3) f0
  ti : IsPair h (b + 2) (.ref b) (.ref (b + 1))
  to_ : ∃ x y, IsPair h (b + 3) x y
  i1 : h.IsTupleIter b l1 k
  i2 : h.IsTupleIter (b + 1) l2 k
  t1 : h.IsTuple l1 xs
  t2 : h.IsTuple l2 ys
  lt : l1 < b ∧ l2 < b
noncomputable def x8 (b c : Addr) : Prop := c = b ∨ c = b + 1 ∨ c = b + 3 ∨ c = b + 4
section
variable {prog : Program} {w : World} {A : Around} {E : Value → Shared → Prop} {s : Shared}
theorem nQ {it t : Addr} {i : Nat} {items : Array Value} {x : Value} {Q : Value → Shared → Prop} (hit : s.heap.IsTupleIter it t i) (ht : s.heap.IsTuple t items) (hx : items[i]? = some x)
    (hQ : ∀ h', h'.IsTupleIter it t (i + 1) → Heap.SameBut it s.heap h' → Q x { s with heap := h' }) : wpAny (model prog w) A (Builtin.SmallTypes.nextOf (.ref it)) Q E s := by
  obtain ⟨o, ho, hc, hd⟩ := id hit
  obtain ⟨ol, hol, _, nl, hdl⟩ := ht
  unfold Builtin.SmallTypes.nextOf
  refine wpAny_bind (wpAny_callSpecial?_slot (name := Str.ofString "__next__") hit.typeIs PySem.F.slot_tuple_iterator_next
    (wpAny_call_entry PySem.F.slot_tuple_iterator_next hit.typeIs PySem.F.entry_tuple_iterator_next ?_ (PySem.F.args_tuple_iterator_next_1 _)))
  show wpAny _ _ (field (.ref it) 0 >>= _) _ _ s
  refine wpAny_bind (wpAny_field ho hd (x := .ref t) rfl ?_)
  show wpAny _ _ (if (Value.ref t == Value.none) = true then _ else _) _ _ s
  rw [if_neg (show ¬ ((Value.ref t == Value.none) = true) from Bool.false_ne_true)]
  show wpAny _ _ (field (.ref it) 1 >>= _) _ _ s
  refine wpAny_bind (wpAny_field ho hd (x := .int i 0) rfl ?_)
  show wpAny _ _ (seqItems? (.ref t) >>= _) _ _ s
  refine wpAny_bind (wpAny_seqItems hol hdl ?_)
  simp only [Int.toNat_natCast, hx]
  refine wpAny_bind (wpAny_setField ho hd (by simp) (wpAny_pure ⟨x, rfl, wpAny_pure (hQ _ ?_ (Heap.SameBut.update ..))⟩))
  exact ⟨_, Heap.get?_update_self _ ho (Obj.isFreed_of_fields (Obj.data_mapFields hd _)), (Obj.cls_mapFields ..).trans hc, by
    rw [Obj.data_mapFields hd]; simp [rawInt]⟩
theorem nA {it t : Addr} {i : Nat} {items : Array Value} {Q : Value → Shared → Prop} (hh : A.handled = none) (hit : s.heap.IsTupleIter it t i) (ht : s.heap.IsTuple t items) (hx : items[i]? = none)
    (hE : ∀ h' e, Heap.ExtBut it s.heap h' → (∃ o, h'.get? e = some o ∧ o.cls = .type "StopIteration") → E (.ref e) { s with heap := h' }) : wpAny (model prog w) A (Builtin.SmallTypes.nextOf (.ref it)) Q E s := by
  obtain ⟨o, ho, hc, hd⟩ := id hit
  obtain ⟨ol, hol, _, nl, hdl⟩ := ht
  unfold Builtin.SmallTypes.nextOf
  refine wpAny_bind (wpAny_callSpecial?_slot (name := Str.ofString "__next__") hit.typeIs PySem.F.slot_tuple_iterator_next
    (wpAny_call_entry PySem.F.slot_tuple_iterator_next hit.typeIs PySem.F.entry_tuple_iterator_next ?_ (PySem.F.args_tuple_iterator_next_1 _)))
  show wpAny _ _ (field (.ref it) 0 >>= _) _ _ s
  refine wpAny_bind (wpAny_field ho hd (x := .ref t) rfl ?_)
  show wpAny _ _ (if (Value.ref t == Value.none) = true then _ else _) _ _ s
  rw [if_neg (show ¬ ((Value.ref t == Value.none) = true) from Bool.false_ne_true)]
  show wpAny _ _ (field (.ref it) 1 >>= _) _ _ s
  refine wpAny_bind (wpAny_field ho hd (x := .int i 0) rfl ?_)
  show wpAny _ _ (seqItems? (.ref t) >>= _) _ _ s
  refine wpAny_bind (wpAny_seqItems hol hdl ?_)
  simp only [Int.toNat_natCast, hx]
  refine wpAny_bind (wpAny_rule (wpAny_bind (wpAny_setField ho hd (by simp) ?_)))
  show wpAny _ _ (newExc (.type "StopIteration") [] >>= _) _ _ _
  refine wpAny_bind ?_
  simp only [newExc, newTuple]
  refine wpAny_bind (wpAny_newObj_type ?_ (by size_fits))
  refine wpAny_bind (m := firstArgMember _ _) (wpAny_of_eq (a := Value.none) (by first | rfl | (simp only [firstArgMember]; rfl)) ?_)
  refine wpAny_newObj_type ?_ (by size_fits)
  simp only [raiseNew]
  refine wpAny_bind (wpAny_handled ?_)
  first | rw [show A.in1.handled = none from hh] | rw [hh]
  refine wpAny_bind (wpAny_pure (wpAny_throw ?_))
  exact hE _ _ (((Heap.SameBut.update ..).extBut.push _).push _) ⟨_, Heap.get?_push_size _ rfl, rfl⟩
theorem jk (b : Addr) (i j : Nat) (n : i ≠ j) : b + i ≠ b + j := fun e => n (Nat.add_left_cancel e)
theorem Cr (b : Addr) : b ≠ b + 1 ∧ b ≠ b + 2 ∧ b ≠ b + 3 ∧ b ≠ b + 4 ∧ b + 1 ≠ b + 2 ∧ b + 1 ≠ b + 3 ∧ b + 1 ≠ b + 4 ∧ b + 2 ≠ b + 3 ∧ b + 2 ≠ b + 4 ∧ b + 3 ≠ b + 4 :=
  ⟨jk b 0 1 (by decide), jk b 0 2 (by decide), jk b 0 3 (by decide), jk b 0 4 (by decide), jk b 1 2 (by decide), jk b 1 3 (by decide), jk b 1 4 (by decide), jk b 2 3 (by decide), jk b 2 4 (by decide), jk b 3 4 (by decide)⟩
theorem mY {b l : Addr} (h : l < b) : l ≠ b ∧ l ≠ b + 1 ∧ l ≠ b + 3 ∧ l ≠ b + 4 :=
  have g : ∀ i, l ≠ b + i := fun i => Nat.ne_of_lt (Nat.lt_of_lt_of_le h (Nat.le_add_right b i))
  ⟨g 0, g 1, g 3, g 4⟩
theorem xV {b l1 l2 : Addr} {xs ys : Array Value} {k : Nat} {x y : Value} {Q : Value → Shared → Prop} (Z : ZS s.heap b l1 l2 xs ys k .none) (hx : xs[k]? = some x) (hy : ys[k]? = some y)
    (hQ : ∀ h', ZS h' b l1 l2 xs ys (k + 1) (rawInt s.heap.objs.size) → IsPair h' s.heap.objs.size x y → h'.objs.size = s.heap.objs.size + 1 → (∀ c o, ¬ x8 b c → s.heap.get? c = some o → h'.get? c = some o) → Q (.ref s.heap.objs.size) { s with heap := h' }) :
    wpAny (model prog w) A (Builtin.«zip.__next__» ⟨[.ref (b + 4)], []⟩) (fun fin s' => ∃ v, fin = .done (.ret v) ∧ Q v s') E s := by
  obtain ⟨e01, e02, e03, e04, e12, e13, e14, e23, e24, e34⟩ := Cr b
  obtain ⟨a1, a2, a3, a4⟩ := mY Z.lt.1
  obtain ⟨c1, c2, c3, c4⟩ := mY Z.lt.2
  obtain ⟨p, q, hTO⟩ := Z.to_
  have hz := Z.z
  show wpAny _ _ (field (.ref (b + 4)) 2 >>= _) _ _ _
  refine wpAny_bind (wpAny_field hz rfl (x := .bool false) rfl ?_)
  show wpAny _ _ (field (.ref (b + 4)) 3 >>= _) _ _ _
  refine wpAny_bind (wpAny_field hz rfl (x := .ref (b + 2)) rfl ?_)
  refine wpAny_bind (wpAny_seqItems Z.ti rfl ?_)
  show wpAny _ _ (Builtin.SmallTypes.ownedTupleIsFree (.ref (b + 4)) >>= _) _ _ _
  refine wpAny_bind ?_
  unfold Builtin.SmallTypes.ownedTupleIsFree
  refine wpAny_bind (wpAny_field hz rfl (x := .none) rfl (wpAny_pure ?_))
  simp only [if_true]
  refine wpAny_bind (wpAny_rule ?_)
  refine wpAny_bind (wpAny_field hz rfl (x := .ref (b + 3)) rfl ?_)
  refine wpAny_bind (wpAny_setField_rec hz (by simp) fun h₁ hz₁ hs₁ => ?_)
  replace hz₁ : IsZip h₁ (b + 4) (b + 2) (b + 3) .ellipsis := hz₁
  refine wpAny_bind ?_
  simp only [List.zipIdx_cons, List.zipIdx_nil, List.forIn_cons, List.forIn_nil]
  refine wpAny_bind (wpAny_bind (wpAny_onRaise ?_))
  show wpAny _ _ (Builtin.SmallTypes.nextOf (.ref b) >>= _) _ _ _
  refine wpAny_bind (nQ (Z.i1.extBut hs₁.extBut e04) (Z.t1.extBut hs₁.extBut a4) hx fun h₂ h1₂ hs₂ => wpAny_pure ?_)
  have hTO₂ : IsPair h₂ (b + 3) p q := hs₂.extBut _ _ e03.symm (hs₁.extBut _ _ e34 hTO)
  refine wpAny_bind (wpAny_seqItems hTO₂ rfl ?_)
  refine wpAny_bind (wpAny_updateSeq_pair hTO₂ fun h₃ hTO₃ hs₃ => ?_)
  replace hTO₃ : IsPair h₃ (b + 3) x q := hTO₃
  refine wpAny_bind (wpAny_letGo (wpAny_pure ?_))
  refine wpAny_bind (wpAny_bind (wpAny_onRaise ?_))
  show wpAny _ _ (Builtin.SmallTypes.nextOf (.ref (b + 1)) >>= _) _ _ _
  refine wpAny_bind (nQ (((Z.i2.extBut hs₁.extBut e14).extBut hs₂.extBut e01.symm).extBut hs₃.extBut e13) (((Z.t2.extBut hs₁.extBut c4).extBut hs₂.extBut c1).extBut hs₃.extBut c3) hy fun h₄ h2₄ hs₄ => wpAny_pure ?_)
  have hTO₄ : IsPair h₄ (b + 3) x q := hs₄.extBut _ _ e13.symm hTO₃
  refine wpAny_bind (wpAny_seqItems hTO₄ rfl ?_)
  refine wpAny_bind (wpAny_updateSeq_pair hTO₄ fun h₅ hTO₅ hs₅ => ?_)
  replace hTO₅ : IsPair h₅ (b + 3) x y := hTO₅
  refine wpAny_bind (wpAny_letGo (wpAny_pure (wpAny_pure ?_)))
  refine wpAny_bind (wpAny_seqItems hTO₅ rfl ?_)
  refine wpAny_bind (wpAny_newTuple ?_)
  have hsz : h₅.objs.size = s.heap.objs.size := by rw [hs₅.1, hs₄.1, hs₃.1, hs₂.1, hs₁.1]
  have hz₅ : IsZip h₅ (b + 4) (b + 2) (b + 3) .ellipsis := hs₅.extBut _ _ e34.symm (hs₄.extBut _ _ e14.symm (hs₃.extBut _ _ e34.symm (hs₂.extBut _ _ e04.symm hz₁)))
  have hk₅ : ∀ c o, ¬ x8 b c → s.heap.get? c = some o → h₅.get? c = some o := fun c o n e => by
    have n1 : c ≠ b := fun q => n (.inl q)
    have n2 : c ≠ b + 1 := fun q => n (.inr (.inl q))
    have n3 : c ≠ b + 3 := fun q => n (.inr (.inr (.inl q)))
    have n4 : c ≠ b + 4 := fun q => n (.inr (.inr (.inr q)))
    exact hs₅.extBut _ _ n3 (hs₄.extBut _ _ n2 (hs₃.extBut _ _ n3 (hs₂.extBut _ _ n1 (hs₁.extBut _ _ n4 e))))
  have h1₅ : h₅.IsTupleIter b l1 (k + 1) := ((h1₂.extBut hs₃.extBut e03).extBut hs₄.extBut e01).extBut hs₅.extBut e03
  have h2₅ : h₅.IsTupleIter (b + 1) l2 (k + 1) := h2₄.extBut hs₅.extBut e13
  have nTI : ¬ x8 b (b + 2) := fun q => q.elim (fun q => e02 q.symm) fun q => q.elim (fun q => e12 q.symm) fun q => q.elim e23 e24
  have n1 : ¬ x8 b l1 := fun q => q.elim a1 fun q => q.elim a2 fun q => q.elim a3 a4
  have n2 : ¬ x8 b l2 := fun q => q.elim c1 fun q => q.elim c2 fun q => q.elim c3 c4
  have hzlt : b + 4 < h₅.objs.size := Heap.lt_size hz₅
  show wpAny _ _ (Builtin.SmallTypes.ownedTupleHandOut (.ref (b + 4)) (.ref h₅.objs.size) >>= _) _ _ _
  refine wpAny_bind ?_
  unfold Builtin.SmallTypes.ownedTupleHandOut
  have hz₆ : IsZip (h₅.push { cls := .type "tuple", data := .seq #[x, y] }) (b + 4) (b + 2) (b + 3) .ellipsis := Heap.get?_push_of_some _ hz₅
  refine wpAny_bind (wpAny_setField_rec hz₆ (by simp) fun h₇ hz₇ hs₇ => ?_)
  replace hz₇ : IsZip h₇ (b + 4) (b + 2) (b + 3) (rawInt h₅.objs.size) := hz₇
  refine wpAny_setField_rec hz₇ (by simp) fun h₈ hz₈ hs₈ => ?_
  replace hz₈ : IsZip h₈ (b + 4) (b + 2) (b + 3) (rawInt h₅.objs.size) := hz₈
  have up : ∀ c o, c ≠ b + 4 → h₅.get? c = some o → h₈.get? c = some o := fun c o c1 e => hs₈.extBut _ _ c1 (hs₇.extBut _ _ c1 (Heap.get?_push_of_some _ e))
  have hT₈ : IsPair h₈ h₅.objs.size x y := hs₈.extBut _ _ (Nat.ne_of_gt hzlt) (hs₇.extBut _ _ (Nat.ne_of_gt hzlt) (Heap.get?_push_size _ rfl))
  have hz8 : h₈.objs.size = h₅.objs.size + 1 := by rw [hs₈.1, hs₇.1, Heap.size_push]
  rw [hsz] at hz₈ hT₈ hz8
  refine wpAny_pure ⟨_, rfl, ?_⟩
  show Q (.ref h₅.objs.size) _
  rw [hsz]
  have kp : ∀ c o, ¬ x8 b c → s.heap.get? c = some o → h₈.get? c = some o := fun c o n e => up c o (fun q => n (.inr (.inr (.inr q)))) (hk₅ c o n e)
  have tk : ∀ {l : Addr} {its : Array Value}, ¬ x8 b l → s.heap.IsTuple l its → h₈.IsTuple l its := fun {l its} n x => let ⟨o, ho, r⟩ := x; ⟨o, kp l o n ho, r⟩
  exact hQ h₈ ⟨hz₈, kp _ _ nTI Z.ti, ⟨x, y, up _ _ e34 hTO₅⟩, h1₅.at fun o e => up _ o e04 e, h2₅.at fun o e => up _ o e14 e, tk n1 Z.t1, tk n2 Z.t2, Z.lt⟩ hT₈ hz8 kp
theorem yS {b l1 l2 : Addr} {xs ys : Array Value} {k : Nat} {Q : PySem.Fin → Shared → Prop} (hh : A.handled = none) (Z : ZS s.heap b l1 l2 xs ys k .none) (hx : xs[k]? = none)
    (hE : ∀ h' e, (∀ c o, ¬ x8 b c → s.heap.get? c = some o → h'.get? c = some o) → (∃ o, h'.get? e = some o ∧ o.cls = .type "StopIteration") → E (.ref e) { s with heap := h' }) :
    wpAny (model prog w) A (Builtin.«zip.__next__» ⟨[.ref (b + 4)], []⟩) Q E s := by
  obtain ⟨e01, e02, e03, e04, e12, e13, e14, e23, e24, e34⟩ := Cr b
  obtain ⟨a1, a2, a3, a4⟩ := mY Z.lt.1
  have hz := Z.z
  show wpAny _ _ (field (.ref (b + 4)) 2 >>= _) _ _ _
  refine wpAny_bind (wpAny_field hz rfl (x := .bool false) rfl ?_)
  show wpAny _ _ (field (.ref (b + 4)) 3 >>= _) _ _ _
  refine wpAny_bind (wpAny_field hz rfl (x := .ref (b + 2)) rfl ?_)
  refine wpAny_bind (wpAny_seqItems Z.ti rfl ?_)
  show wpAny _ _ (Builtin.SmallTypes.ownedTupleIsFree (.ref (b + 4)) >>= _) _ _ _
  refine wpAny_bind ?_
  unfold Builtin.SmallTypes.ownedTupleIsFree
  refine wpAny_bind (wpAny_field hz rfl (x := .none) rfl (wpAny_pure ?_))
  simp only [if_true]
  refine wpAny_bind (wpAny_rule ?_)
  refine wpAny_bind (wpAny_field hz rfl (x := .ref (b + 3)) rfl ?_)
  refine wpAny_bind (wpAny_setField_rec hz (by simp) fun h₁ hz₁ hs₁ => ?_)
  replace hz₁ : IsZip h₁ (b + 4) (b + 2) (b + 3) .ellipsis := hz₁
  refine wpAny_bind ?_
  simp only [List.zipIdx_cons, List.zipIdx_nil, List.forIn_cons, List.forIn_nil]
  refine wpAny_bind (wpAny_bind (wpAny_onRaise ?_))
  show wpAny _ _ (Builtin.SmallTypes.nextOf (.ref b) >>= _) _ _ _
  refine wpAny_bind (nA hh (Z.i1.extBut hs₁.extBut e04) (Z.t1.extBut hs₁.extBut a4) hx fun h₂ e hs₂ he => ?_)
  obtain ⟨oe, hoe, hce⟩ := he
  have hz₂ : IsZip h₂ (b + 4) (b + 2) (b + 3) .ellipsis := hs₂ _ _ e04.symm hz₁
  have hez : e ≠ b + 4 := fun x => by rw [x, hz₂] at hoe; cases hoe; exact absurd (Value.type.inj hce) (by decide)
  exact wpAny_setField_rec hz₂ (by simp) fun h₃ _ hs₃ => hE h₃ e (fun c o n x => hs₃.extBut _ _ (fun q => n (.inr (.inr (.inr q)))) (hs₂ _ _ (fun q => n (.inl q)) (hs₁.extBut _ _ (fun q => n (.inr (.inr (.inr q)))) x))) ⟨oe, hs₃.extBut _ _ hez hoe, hce⟩
theorem zg {b l1 l2 : Addr} {xs ys : Array Value} {k : Nat} {x y : Value} {Q : Option Value → Shared → Prop} (Z : ZS s.heap b l1 l2 xs ys k .none) (hx : xs[k]? = some x) (hy : ys[k]? = some y)
    (hQ : ∀ h', ZS h' b l1 l2 xs ys (k + 1) (rawInt s.heap.objs.size) → IsPair h' s.heap.objs.size x y → h'.objs.size = s.heap.objs.size + 1 → (∀ c o, ¬ x8 b c → s.heap.get? c = some o → h'.get? c = some o) → Q (some (.ref s.heap.objs.size)) { s with heap := h' }) :
    wpAny (model prog w) A (pyNext (.ref (b + 4))) Q E s := by
  have hT : s.TypeIs (.ref (b + 4)) "zip" := ⟨_, Z.z, rfl⟩
  unfold pyNext
  exact wpAny_bind (wpAny_attempt (wpAny_callSpecial?_slot (name := Str.ofString "__next__") hT PySem.F.slot_zip_next
    (wpAny_call_entry PySem.F.slot_zip_next hT PySem.F.entry_zip_next (xV Z hx hy fun h' a1 a2 a3 a4 => wpAny_pure (hQ h' a1 a2 a3 a4)) (PySem.F.args_zip_next_1 _))))
theorem zQ {b l1 l2 : Addr} {xs ys : Array Value} {k : Nat} {Q : Option Value → Shared → Prop} (hh : A.handled = none) (Z : ZS s.heap b l1 l2 xs ys k .none) (hx : xs[k]? = none)
    (hQ : ∀ h', (∀ c o, ¬ x8 b c → s.heap.get? c = some o → h'.get? c = some o) → Q none { s with heap := h' }) : wpAny (model prog w) A (pyNext (.ref (b + 4))) Q E s := by
  have hT : s.TypeIs (.ref (b + 4)) "zip" := ⟨_, Z.z, rfl⟩
  unfold pyNext
  refine wpAny_bind (wpAny_attempt (wpAny_callSpecial?_slot (name := Str.ofString "__next__") hT PySem.F.slot_zip_next
    (wpAny_call_entry PySem.F.slot_zip_next hT PySem.F.entry_zip_next (yS (A := A.in1) hh Z hx fun h' e hk he => ?_) (PySem.F.args_zip_next_1 _))))
  obtain ⟨o, ho, hc⟩ := he
  refine wpAny_bind (wpAny_isInstance (T := "StopIteration") (b := true) ⟨o, ho, hc⟩ (by rw [isSubtype_type]; kernel_rfl) ?_)
  exact wpAny_pure (hQ _ hk)
theorem BX {b l1 l2 T : Addr} {xs ys : Array Value} {k : Nat} {elts : List Expr} {x1 : Nat} {pos : Pos} {Q : Unit → Shared → Prop} (Z : ZS s.heap b l1 l2 xs ys k (rawInt T))
    (hQ : ∀ h', ZS h' b l1 l2 xs ys k .none → Heap.SameBut (b + 4) s.heap h' → Q () { s with heap := h' }) : wpAny (model prog w) A (letOwnedTupleGo (.Tuple elts x1 pos) (.ref (b + 4)) (.ref T)) Q E s := by
  obtain ⟨e01, e02, e03, e04, e12, e13, e14, e23, e24, e34⟩ := Cr b
  refine wpAny_letOwnedTupleGo_zip Z.z fun h' hz hs => hQ h' ⟨hz, hs.extBut _ _ e24 Z.ti, ?_, Z.i1.extBut hs.extBut e04, Z.i2.extBut hs.extBut e14, Z.t1.extBut hs.extBut (mY Z.lt.1).2.2.2, Z.t2.extBut hs.extBut (mY Z.lt.2).2.2.2, Z.lt⟩ hs
  obtain ⟨x, y, h⟩ := Z.to_
  exact ⟨x, y, hs.extBut _ _ e34 h⟩
noncomputable abbrev Cn (l : Addr) : Obj := { cls := .type "tuple_iterator", data := .fields #[.ref l, .int 0 0] }
noncomputable abbrev zA (h : Heap) (l1 : Addr) : Heap := h.push (Cn l1)
noncomputable abbrev zB (h : Heap) (l1 l2 : Addr) : Heap := (zA h l1).push (Cn l2)
noncomputable abbrev zC (h : Heap) (l1 l2 : Addr) : Heap := (zB h l1 l2).push { cls := .type "tuple", data := .seq #[.ref h.objs.size, .ref (zA h l1).objs.size] }
noncomputable abbrev zD (h : Heap) (l1 l2 : Addr) : Heap := (zC h l1 l2).push { cls := .type "tuple", data := .seq #[.none, .none] }
noncomputable abbrev zF (h : Heap) (l1 l2 : Addr) : Heap := (zD h l1 l2).push { cls := .type "zip", data := .fields #[.none, .bool false, .bool false, .ref (zB h l1 l2).objs.size, .ref (zC h l1 l2).objs.size] }
theorem CM (l1 l2 : Addr) (xs ys : Array Value) :
    Meets (Builtin.«zip.__new__» ⟨[.type "zip", .ref l1, .ref l2], []⟩) (fun _ R s => s.heap.IsTuple l1 xs ∧ s.heap.IsTuple l2 ys ∧ R (.ok (.ret (.ref (zD s.heap l1 l2).objs.size))) { s with heap := zF s.heap l1 l2 }) :=
  .of_wp fun prog w A R s h => by
    obtain ⟨hp, g, d, tk, os⟩ := s; obtain ⟨hl1, hl2, h⟩ := h
    have hsub := sub_zip
    have hL1 : Heap.IsTuple (Shared.heap ⟨hp, g, d, tk, os⟩) l1 xs := hl1
    have hL2 : Heap.IsTuple (Shared.heap ⟨hp.push (Cn l1), g, d, tk, os⟩) l2 ys := Heap.IsTuple.push hl2 _
    wp_walk using wpAny_pyIter_tuple hL1, wpAny_pyIter_tuple hL2
    exact ⟨_, rfl, h⟩
theorem wn {l1 l2 : Addr} {xs ys : Array Value} {Q : Value → Shared → Prop} (h1 : s.heap.IsTuple l1 xs) (h2 : s.heap.IsTuple l2 ys)
    (h : ∀ h', ZS h' s.heap.objs.size l1 l2 xs ys 0 .none → h'.objs.size = s.heap.objs.size + 5 → (∀ c o, s.heap.get? c = some o → h'.get? c = some o) → Q (.ref (s.heap.objs.size + 4)) { s with heap := h' }) :
    wpAny (model prog w) A (call (.type "zip") [.ref l1, .ref l2]) Q E s := by
  refine callType_new PySem.F.called_zip (by decide) (PySem.F.typeCall_zip_2 _ _) (PySem.F.newCall_zip_2 _ _) (fun obj => PySem.F.args_object_init_3 obj _ _) PySem.F.entry_zip_new (CM l1 l2 xs ys) ⟨h1, h2, ?_⟩
  have z1 : (zA s.heap l1).objs.size = s.heap.objs.size + 1 := Heap.size_push ..
  have z2 : (zB s.heap l1 l2).objs.size = s.heap.objs.size + 2 := by rw [Heap.size_push, z1]
  have z3 : (zC s.heap l1 l2).objs.size = s.heap.objs.size + 3 := by rw [Heap.size_push, z2]
  have z4 : (zD s.heap l1 l2).objs.size = s.heap.objs.size + 4 := by rw [Heap.size_push, z3]
  have z5 : (zF s.heap l1 l2).objs.size = s.heap.objs.size + 5 := by rw [Heap.size_push, z4]
  have p : ∀ {h : Heap} {c : Addr} {o : Obj} (x : Obj), h.get? c = some o → (h.push x).get? c = some o := fun x e => Heap.get?_push_of_some x e
  have g5 : (zF s.heap l1 l2).get? (zD s.heap l1 l2).objs.size = some _ := Heap.get?_push_size _ rfl
  have g4 : (zF s.heap l1 l2).get? (zC s.heap l1 l2).objs.size = some _ := p _ (Heap.get?_push_size _ rfl)
  have g3 : (zF s.heap l1 l2).get? (zB s.heap l1 l2).objs.size = some _ := p _ (p _ (Heap.get?_push_size _ rfl))
  have g2 : (zF s.heap l1 l2).get? (zA s.heap l1).objs.size = some _ := p _ (p _ (p _ (Heap.get?_push_size _ rfl)))
  have g1 : (zF s.heap l1 l2).get? s.heap.objs.size = some _ := p _ (p _ (p _ (p _ (Heap.get?_push_size _ rfl))))
  show _ ∧ _
  rw [z2, z3, z4] at g5
  rw [z1, z2] at g3
  rw [z3] at g4
  rw [z1] at g2
  rw [z4]
  have up : ∀ c o, s.heap.get? c = some o → (zF s.heap l1 l2).get? c = some o := fun c o x => p _ (p _ (p _ (p _ (p _ x))))
  have tu : ∀ {l : Addr} {its : Array Value}, s.heap.IsTuple l its → (zF s.heap l1 l2).IsTuple l its := fun {l its} x => let ⟨o, ho, r⟩ := x; ⟨o, up l o ho, r⟩
  have u1 := tu h1
  have u2 := tu h2
  obtain ⟨_, o1, _⟩ := h1
  obtain ⟨_, o2, _⟩ := h2
  exact ⟨⟨_, g5, rfl⟩, h _ ⟨g5, g3, ⟨_, _, g4⟩, ⟨_, g1, rfl, rfl⟩, ⟨_, g2, rfl, rfl⟩, u1, u2, Heap.lt_size o1, Heap.lt_size o2⟩ z5 up⟩
end
noncomputable def iV : PV → Bool
  | .tup _ => false
  | .rng _ _ => false
  | _ => true
noncomputable def Ce : Option AObj → Option AObj
  | some (.idict es) => if es.all (fun p => iV p.2) = true then some (.idict es) else none
  | _ => none
noncomputable def Loc.pl (m : Loc) : Loc := fun x => match m x with | some v => if iV v = true then some v else none | none => none
noncomputable def AH.pl (σ : AH) : AH := ⟨σ.next, fun i => Ce (σ.get i)⟩
noncomputable def uG (a : AF) (b : SF) (n1 n2 : List Int) : Nat → Nat → SF
  | 0, _ => fun m σ => some ((.next, m.pl), σ.pl)
  | k + 1, j => fun m σ => bnd (a (.tup [.int (n1.getD j 0), .int (n2.getD j 0)]) m.pl σ.pl) fun m σ => bnd (b m σ) fun p σ => match p.1 with
    | .next => uG a b n1 n2 k (j + 1) p.2 σ
    | _ => none
noncomputable def tI (f : LF) (a : AF) (b : SF) : SF := fun m σ => bnd (f m σ) fun vs σ => w2 vs fun u v => j1 u fun l1 => j1 v fun l2 => jB l1 fun n1 => jB l2 fun n2 => gd (n1.length = n2.length) (uG a b n1 n2 n1.length 0 m σ)
theorem plK {o : Option AObj} {o' : AObj} (e : Ce o = some o') : ∃ es, o' = .idict es ∧ o = some (.idict es) ∧ ∀ p ∈ es, iV p.2 = true := by
  unfold Ce at e
  split at e
  · split at e
    · rename_i h; cases e; exact ⟨_, rfl, rfl, List.all_eq_true.mp h⟩
    · cases e
  · cases e
theorem Loc.plK {m : Loc} {x : String} {v : PV} (e : m.pl x = some v) : m x = some v ∧ iV v = true := by
  unfold Loc.pl at e
  split at e
  · split at e
    · rename_i h1 h; cases e; exact ⟨h1, h⟩
    · cases e
  · cases e
theorem VRel.any {P P' : Pt} {v : PV} {x : Value} (hv : iV v = true) (r : VRel P v x) (e1 : P'.ι = P.ι := by rfl) (e2 : P'.n = P.n := by rfl) : VRel P' v x := by
  cases v with
  | obj i => exact r.objK fun h => e1 ▸ .obj i (e2 ▸ h)
  | raw a => exact r.rawK (.raw a)
  | tup l => exact nomatch hv
  | rng a b => exact nomatch hv
  | _ => exact VRel.nob0 rfl r
noncomputable def mE (b c : Addr) : Prop := x8 b c ∨ c = b + 2
theorem y5 {b c : Addr} (h : mE b c) : b ≤ c := by
  rcases h with (q | q | q | q) | q <;> subst q
  · exact Nat.le_refl _
  all_goals exact Nat.le_add_right _ _
section
variable {X : Cxt} {env : Env} {P P2 P3 : Pt} {m : Loc} {Z Y : Addr → Prop} {s' : Shared}
noncomputable abbrev Pt.pl (P : Pt) (s : Shared) : Pt := ⟨P.ι, P.σ.pl, s⟩
structure Tn (X : Cxt) (P P2 : Pt) (s' : Shared) (Z : Addr → Prop) : Prop where
  fr : ∀ c o, P.h.get? c = some o → ¬ Z c
  own : ∀ i, i < P2.n → ¬ Z (P2.ι i)
  k : ∀ c o, ¬ Z c → P2.h.get? c = some o → s'.heap.get? c = some o
theorem HRel.turn (R0 : HRel X P) (R : HRel X P2) (T : Tn X P P2 s' Z) : HRel X (P2.pl s') :=
  ⟨fun b o e => T.k b o (T.fr b o (R0.keep b o e)) (R.keep b o e), (Option.isSome_iff_exists.mp R0.anch).elim fun o e => (Option.isSome_iff_exists.mp R.anch).elim fun o' e' => bA (T.k _ o' (T.fr _ o e) e'), R.lo, R.inj,
    fun i hi => (R.live i hi).elim fun o z => ⟨o, T.k _ o (T.own i hi) z.1, z.2⟩, fun i o e => (plK e).elim fun es z => by
      obtain ⟨rfl, e, hp⟩ := z
      obtain ⟨hi, kvs, hk, hr⟩ := R.objs i _ e
      refine ⟨hi, kvs, hk.at fun o ho => T.k _ o (T.own i hi) ho, .of_get hr.length fun j p q h1 h2 => ?_⟩
      have r := hr.both h1 h2
      exact ⟨r.1, r.2.any (hp p (List.mem_of_getElem? h1))⟩, fun i C fs e => (plK e).elim fun es z => nomatch z.1⟩
theorem Step.turn (R0 : HRel X P) (S : Step X Y P P2) (T : Tn X P P2 s' Z) (g : s'.gens = P2.s.gens) (os : s'.os = P2.s.os) : Step X Y P (P2.pl s') :=
  ⟨⟨fun a o e i => T.k a o (T.fr a o e) (S.ext.tk a o e i), S.ext.ag, S.ext.nx⟩, R0.turn S.rel T, S.fr, fun b o e n y => T.k b o (T.fr b o e) (S.keep b o e n y),
    fun b e => (Option.isSome_iff_exists.mp e).elim fun o q => (Option.isSome_iff_exists.mp (S.alive b e)).elim fun o' q' => bA (T.k b o' (T.fr b o q) q'), g.trans S.gens, os.trans S.os⟩
theorem Fr.turn (R0 : HRel X P) (F : Fr X env m P2) (T : Tn X P P2 s' Z) (hl : ∀ c, c = env.locals ∨ (∃ x, env.cells.lookup x = some c) → ¬ Z c) : Fr X env m.pl (P2.pl s') := by
  obtain ⟨mc, hns, hv⟩ := F.vars
  refine ⟨R0.turn F.rel T, F.st, ⟨mc, wZ hns fun o e => T.k _ o (hl _ (.inl rfl)) e, fun x v e => ?_⟩, F.locI, fun x c l => ⟨(F.cell x c l).1.elim fun v z => ⟨v, fZ z fun o e => T.k c o (hl _ (.inr ⟨x, l⟩)) e⟩, (F.cell x c l).2⟩⟩
  obtain ⟨e, hp⟩ := Loc.plK e
  obtain ⟨xv, r, p⟩ := hv x v e
  exact ⟨xv, r.any hp, p.keep fun c o l e => T.k c o (hl _ (.inr ⟨_, l⟩)) e⟩
variable {b l1 l2 : Addr} {xs ys : Array Value} {k : Nat} {f0 : Value}
theorem ZS.alive {hp : Heap} (Z : ZS hp b l1 l2 xs ys k f0) {c : Addr} (hc : mE b c) : ∃ o, hp.get? c = some o := by
  rcases hc with (q | q | q | q) | q <;> subst q
  · exact Z.i1.elim fun o z => ⟨o, z.1⟩
  · exact Z.i2.elim fun o z => ⟨o, z.1⟩
  · exact Z.to_.elim fun x z => z.elim fun y z => ⟨_, z⟩
  · exact ⟨_, Z.z⟩
  · exact ⟨_, Z.ti⟩
theorem rX {hp hp' : Heap} {l : Addr} {its : Array Value} (t : hp.IsTuple l its) (tk : ql hp hp') : hp'.IsTuple l its :=
  let ⟨o, ho, hc, n, hd⟩ := t
  ⟨o, tk l o ho ⟨.inl hc, by rw [hd]; rfl⟩, hc, n, hd⟩
theorem ZS.keep {hp hp' : Heap} (Z : ZS hp b l1 l2 xs ys k f0) (hk : ∀ c o, mE b c → hp.get? c = some o → hp'.get? c = some o) (tk : ql hp hp') : ZS hp' b l1 l2 xs ys k f0 :=
  ⟨hk _ _ (.inl (.inr (.inr (.inr rfl)))) Z.z, hk _ _ (.inr rfl) Z.ti, Z.to_.elim fun x z => z.elim fun y z => ⟨x, y, hk _ _ (.inl (.inr (.inr (.inl rfl)))) z⟩, Z.i1.at fun o e => hk _ o (.inl (.inl rfl)) e, Z.i2.at fun o e => hk _ o (.inl (.inr (.inl rfl))) e, rX Z.t1 tk, rX Z.t2 tk, Z.lt⟩
structure ZI (P : Pt) (b l1 l2 : Addr) (xs ys : Array Value) (k : Nat) : Prop where
  z : ZS P.h b l1 l2 xs ys k .none
  own : ∀ c, mE b c → ∀ i, i < P.n → P.ι i ≠ c
theorem ZI.step (I : ZI P b l1 l2 xs ys k) (S : Step X (FX env) P P2) (fx : ∀ c, mE b c → ¬ FX env c) : ZI P2 b l1 l2 xs ys k :=
  ⟨I.z.keep (fun c o hc e => S.keep c o e (fun i hi q => I.own c hc i hi q.symm) (fx c hc)) S.ext.tk, fun c hc => (I.z.alive hc).elim fun o e => S.ne e (I.own c hc)⟩
end
section
variable {X : Cxt} {h : Nat} {env : Env}
theorem uj {np pos tp cp : Pos} {es elts : List Expr} {kd : Nat} {body : List Stmt} {a : AF} {bd : SF} {l : LF} (hs : ∀ x, foldedSetIterable (.Call (.Name (nm "zip") np) es [] cp) env x = pure x)
    (N : BName X.K env "zip" (.type "zip")) (hp : ec es env) (hl : gK X h env es l) (ha : lm X (FX env) h env (.Tuple elts kd tp) a) (hb : hX X h env body bd) :
    h7 X h env (.For (.Tuple elts kd tp) (.Call (.Name (nm "zip") np) es [] cp) body [] pos) (tI l a bd) := fun A P m K hA F q => by
  refine wpAny_For (eY N hp hl hA F (c9 q) fun P1 args xs S r q => on2 q r fun u v x y r1 r2 q => onTup q r1 fun u1 c0 v1 ep1 h1 rr1 q => onTup q r2 fun u2 p0 v2 ep2 h2 rr2 q => mW q rr1 fun n1 _ i1 q => mW q rr2 fun n2 _ i2 q => cF q fun hlen q => ?_) hs
  refine wn (xs := v1.toArray) (ys := v2.toArray) ⟨_, h1, rfl, ep1, rfl⟩ ⟨_, h2, rfl, ep2, rfl⟩ fun h2 Z0 hsz hk2 => wpAny_pyIter_zip Z0.z ?_
  have S0 : Step X ff P1 ⟨P1.ι, P1.σ, { P1.s with heap := h2 }⟩ := .kept S.rel hk2
  have below : ∀ c o, P1.h.get? c = some o → ¬ mE P1.h.objs.size c := fun c o e z => absurd (Heap.lt_size e) (Nat.not_lt.mpr (y5 z))
  have fr : ∀ c o, P.h.get? c = some o → ¬ mE P1.h.objs.size c := fun c o e z => (Option.isSome_iff_exists.mp (S.alive c (bA e))).elim fun o' e' => below c o' e' z
  have fx : ∀ c, mE P1.h.objs.size c → ¬ FX env c := fun c z q => (vp F q).elim fun o e => fr c o e.1 z
  have lc : ∀ c, c = env.locals ∨ (∃ x, env.cells.lookup x = some c) → ¬ mE P1.h.objs.size c := fun c q z => q.elim (fun q => fx c z (.inl q)) fun ⟨x, l⟩ => (F.cellAt l).elim fun o e => fr c o e.1 z
  let Inv : Nat → Shared → Prop := fun k s' => ∃ j P2 m2, P2.s = s' ∧ k + j = n1.length ∧ Step X (FX env) P P2 ∧ Fr X env m2 P2 ∧ ZI P2 P1.h.objs.size c0 p0 v1.toArray v2.toArray j ∧ On (uG a bd n1 n2 k j m2 P2.σ) K
  refine codeAny_forLoop_any Inv ?_ n1.length ⟨0, _, m, rfl, rfl, (S.trans S0).any, F.stepN (S.trans S0), ⟨Z0, fun c z i hi q => (S.rel.live i hi).elim fun o w => below _ o w.1 (q ▸ z)⟩, q⟩
  rintro k s₃ ⟨j, P2, m2, rfl, hj, S2, F2, I, q⟩
  have own : ∀ i, i < P2.n → ¬ mE P1.h.objs.size (P2.ι i) := fun i hi z => I.own _ z i hi rfl
  have at_ : ∀ {vs : List Value} {ns : List Int} {j : Nat}, IntsAre vs ns → j < ns.length → ∃ t, vs.toArray[j]? = some (.int (ns.getD j 0) t) := fun {vs ns j} i hj => by
    have hj' : j < vs.length := e9 i ▸ hj
    obtain ⟨t, e⟩ := PyProof.Rows.IntsAre.int_at i j vs[j] (List.getElem?_eq_getElem hj')
    exact ⟨t, by rw [List.getElem?_toArray, List.getElem?_eq_getElem hj', e]⟩
  cases k with
  | zero =>
    refine zQ hA.hd I.z (by rw [List.getElem?_toArray, List.getElem?_eq_none_iff, e9 i1]; lia) fun h4 hk4 => ?_
    have T : Tn X P P2 { P2.s with heap := h4 } (mE P1.h.objs.size) := ⟨fr, own, fun c o z e => hk4 c o (fun y => z (.inl y)) e⟩
    exact wpAny_pure (.mk (P2.pl { P2.s with heap := h4 }) m2.pl Res.next (.turn F.rel S2 T rfl rfl) (F2.turn F.rel T lc) .next q)
  | succ k =>
    have hj1 : j < n1.length := by lia
    obtain ⟨t, hx⟩ := at_ i1 hj1
    obtain ⟨u, hy⟩ := at_ i2 (hlen ▸ hj1)
    refine zg I.z hx hy fun h4 Z4 hT hsz4 hk4 => BX Z4 fun h5 Z5 hs5 => ?_
    have nT : P2.h.objs.size ≠ P1.h.objs.size + 4 := fun z => absurd (Heap.lt_size I.z.z) (z ▸ Nat.lt_irrefl _)
    have T : Tn X P P2 { P2.s with heap := h5 } (mE P1.h.objs.size) := ⟨fr, own, fun c o z e => hs5.extBut _ _ (fun y => z (.inl (.inr (.inr (.inr y))))) (hk4 c o (fun y => z (.inl y)) e)⟩
    have S5 : Step X (FX env) P (P2.pl { P2.s with heap := h5 }) := .turn F.rel S2 T rfl rfl
    refine (ha A _ m2.pl _ _ _ hA (F2.turn F.rel T lc) (VRel.tup' (vs := [.int _ t, .int _ u]) (ep := 0) (hs5.extBut _ _ nT hT) (.cons (.int _ _) (.cons (.int _ _) .nil))) (c9 q)).go fun P6 m6 _ _ S6 F6 _ q => ?_
    have I6 := ZI.step (P := P2.pl { P2.s with heap := h5 }) ⟨Z5, I.own⟩ S6 fx
    refine (hb A P6 m6 _ hA F6 (c9 q)).go fun P7 m7 r fl S7 F7 fr q => ?_
    cases fr with
    | next => exact ⟨k, Nat.lt_succ_self _, j + 1, P7, m7, rfl, by lia, (S5.trans S6).trans S7, F7, I6.step S7 fx, q⟩
    | _ => exact q.elim
end
noncomputable def CK : Obj := { cls := .none, data := .freed }
noncomputable def zK (n : Nat) (f : Addr → Option Obj) : Heap := { objs := Array.ofFn fun i : Fin n => (f i.val).getD CK }
theorem qm {n : Nat} {f : Addr → Option Obj} {h : Heap} (hf : ∀ b o, f b = some o → h.get? b = some o) (b : Addr) : (zK n f).get? b = if b < n then f b else none := by
  have e : (zK n f).objs[b]? = if b < n then some ((f b).getD CK) else none := by
    show (Array.ofFn fun i : Fin n => (f i.val).getD CK)[b]? = _
    rw [Array.getElem?_ofFn]
    split <;> rfl
  by_cases z : b < n
  · rw [if_pos z] at e ⊢
    cases q : f b with
    | none => rw [q] at e; unfold Heap.get?; rw [e]; rfl
    | some o =>
      rw [q] at e
      have h1 := hf b o q
      obtain ⟨oc, od, oda, os⟩ := o
      cases oda with
      | freed =>
        exfalso
        unfold Heap.get? at h1
        split at h1
        · cases h1
        · rename_i q3
          exact q3 _ _ _ h1
      | _ => unfold Heap.get?; rw [e]; rfl
  · rw [if_neg z] at e ⊢
    unfold Heap.get?
    rw [e]
theorem w5 (n : Nat) (f : Addr → Option Obj) : (zK n f).objs.size = n := Array.size_ofFn
section
variable {X : Cxt} {P : Pt} {d : Addr}
noncomputable abbrev o8 (X : Cxt) (P : Pt) (d : Addr) : Addr → Option Obj := fun c => if c = d then P.h.get? d else X.hp.get? c
theorem mP (R : HRel X P) {c : Addr} {o : Obj} (e : o8 X P d c = some o) : P.h.get? c = some o := by
  unfold o8 at e
  split at e
  · rename_i z; rw [z]; exact e
  · exact R.keep c o e
theorem si (R : HRel X P) (hd : X.n0 ≤ d) {c : Addr} {o : Obj} (e : X.hp.get? c = some o) : (zK (d + 1) (o8 X P d)).get? c = some o := by
  have l : c < d := Nat.lt_of_lt_of_le (Nat.lt_of_lt_of_le (Heap.lt_size e) X.low) hd
  rw [qm fun b o => mP R, if_pos (Nat.lt_succ_of_lt l)]
  unfold o8
  rw [if_neg (Nat.ne_of_lt l)]
  exact e
theorem ww (R : HRel X P) (hd : X.n0 ≤ d) : ∃ p loose mg mb, TopRead p loose mg mb (zK (d + 1) (o8 X P d)) := let ⟨p, l, mg, mb, z⟩ := X.top; ⟨p, l, mg, mb, z.keeps fun b o e => si R hd e⟩
noncomputable def Cxt.keepD (X : Cxt) (P : Pt) (d : Addr) (R : HRel X P) (hd : X.n0 ≤ d) : Cxt :=
  ⟨X.prog, X.w, X.hb, zK (d + 1) (o8 X P d), d + 1, X.kin0, fun b o e => si R hd (X.sub b o e), ww R hd, X.po, Nat.le_trans X.lowb (Nat.le_succ_of_le hd), Nat.le_of_eq (w5 _ _), Nat.lt_of_lt_of_le X.big (Nat.le_succ_of_le hd)⟩
theorem pR (R : HRel X P) (hd : X.n0 ≤ d) {c : Addr} {o : Obj} (e : (X.keepD P d R hd).hp.get? c = some o) : o8 X P d c = some o := by
  have e : (zK (d + 1) (o8 X P d)).get? c = some o := e
  rw [qm fun b o => mP R] at e
  split at e
  · exact e
  · cases e
theorem pi (R : HRel X P) (hd : X.n0 ≤ d) (al : (P.h.get? d).isSome) : HRel (X.keepD P d R hd) ⟨P.ι, σN, P.s⟩ :=
  ⟨fun b o e => mP R (pR R hd e), al, fun i hi => absurd hi (Nat.not_lt_zero _), fun i j hi => absurd hi (Nat.not_lt_zero _), fun i hi => absurd hi (Nat.not_lt_zero _), (fun i o e => nomatch e), (fun i C fs e => nomatch e)⟩
theorem nL (R : HRel X P) (hd : X.n0 ≤ d) {c : Addr} (n : c ≠ d) (e : X.hp.get? c = none) : (X.keepD P d R hd).hp.get? c = none := e8 fun o q => by
  have q := pR R hd q
  unfold o8 at q
  rw [if_neg n, e] at q
  cases q
theorem tF (R : HRel X P) (hd : X.n0 ≤ d) {o : Obj} (e : P.h.get? d = some o) : (X.keepD P d R hd).hp.get? d = some o := by
  show (zK (d + 1) (o8 X P d)).get? d = some o
  rw [qm fun b o => mP R, if_pos (Nat.lt_succ_self d)]
  exact (if_pos rfl).trans e
noncomputable def yO (x : String) (v : PV) : Loc := fun y => if y = x then some v else none
theorem xq {env : Env} {m : Loc} {x : String} {i : Nat} (F : Fr X env m P) (hi : i < P.n) (hx : m x = some (.obj i)) : Fr (X.keepD P (P.ι i) F.rel (F.rel.lo i hi)) env (yO x (.raw (P.ι i))) ⟨P.ι, σN, P.s⟩ := by
  obtain ⟨mc, hns, hv⟩ := F.vars
  have al : (P.h.get? (P.ι i)).isSome := (F.rel.live i hi).elim fun o z => bA z.1
  refine ⟨pi F.rel _ al, ⟨F.st.low, nL F.rel _ (fun e => F.locI i hi e.symm) F.st.loc, F.st.capart, fun y hy => (F.st.cmine y hy).elim fun c z => ⟨c, z.1, nL F.rel _ (fun e => (F.cell y c z.1).2.2 i hi e.symm) z.2⟩, F.st.kind, F.st.glob, F.st.bi⟩,
    ⟨mc, hns, fun y v e => ?_⟩, fun i hi => absurd hi (Nat.not_lt_zero _), fun y c l => ⟨(F.cell y c l).1, (F.cell y c l).2.1, fun i hi => absurd hi (Nat.not_lt_zero _)⟩⟩
  unfold yO at e
  split at e
  · rename_i z
    cases e; subst z
    obtain ⟨xv, r, p⟩ := hv y _ hx
    exact ⟨.ref (P.ι i), .raw _, r.objK (fun _ p => p) p⟩
  · cases e
end
section
variable {X : Cxt} {h : Nat} {env : Env} {d : Addr} {kvs : List (Int × Value)} {ep : Nat} {es : List (Int × PV)} {P0 : Pt}
theorem I1.keys {A : Around} {I : Addr} (hh : A.handled = none) (hD : X.hp.DictAt (intKind X.prog X.w) d kvs ep) (r : All2 (ge P0) es kvs) : I1 X A I (.seq (es.map fun p => .int p.1)) (fun j h => h.IsKeyIter I d j kvs.length ep) (fun _ => True) where
  typ := fun j h ⟨o, ho, hc, _⟩ => ⟨o, _, ho, hc, by decide, by decide, by decide⟩
  loc := fun j h h' st k => st.at k
  ext := fun _ _ _ _ => trivial
  item := fun j P v Q R st _ e hQ => by
    obtain ⟨p, hp, rfl⟩ := Option.map_eq_some_iff.mp (List.getElem?_map .. ▸ Option.some.inj e)
    obtain ⟨q, hq, e1, _⟩ := r.get hp
    exact wpAny_pyNext_dict_item st (hD.at' fun o e => R.keep d o e) hq fun key h' hkey hit' hs => by
      obtain ⟨t, rfl⟩ := fF hkey
      exact hQ _ h' _ (e1 ▸ .int _ t) hit' hs
  done := fun j P Q R st _ e hQ => wpAny_pyNext_dict_end hh st (hD.at' fun o e => R.keep d o e) (List.getElem?_eq_none_iff.mpr (r.length ▸ by simpa using Option.some.inj e)) hQ
  self := fun j s Q E st q => wpAny_pyIter_keyiter st q
noncomputable def nI (x : String) (d : Addr) (es : List (Int × PV)) : IF := fun m σ => bnd (af x m σ) fun v σ => vv v fun c => gd (c = d) (some (.seq (es.map fun p => .int p.1), σ))
theorem tg {x : String} {target : Expr} {pos : Pos} (h1 : (nm x == ("__debug__" : Str)) = false) (h2 : (nm x == ("__classdict__" : Str)) = false) (ns : d ≠ sysModules) (hD : X.hp.DictAt (intKind X.prog X.w) d kvs ep) (r : All2 (ge P0) es kvs) :
    rY X h env target (.Name (nm x) pos) (nI x d es) := fun A P m K hA F q => (aa h1 h2 A P m _ hA F (c9 q)).go fun P1 v xv S1 r1 q => onRaw q r1 fun c q => cF q fun hc q =>
  wpAny_pyIter_dict (beq_eq_false_iff_ne.mpr (hc ▸ ns)) (hc ▸ hD.at' fun o e => S1.rel.keep d o e) (I1.start S1 (I1.keys hA.hd hD r) ⟨_, Heap.get?_push_size _ rfl, rfl, hc ▸ rfl⟩ trivial q)
noncomputable def kN (d : Addr) (es : List (Int × PV)) (a b : PV) (σ : AH) : Option (PV × AH) := vv a fun c => cr b fun i => gd (c = d) (io (dq es i) σ)
theorem uh {a b : Expr} (hs : ∀ o i, ∃ ops, subscripted b false o i = operate ops (getItem o i)) (hD : X.hp.DictAt (intKind X.prog X.w) d kvs ep) (r : All2 (ge P0) es kvs) (hn : ∀ p ∈ es, nob0 p.2 = true) : gf X h (subscriptTail a b) (kN d es) :=
  fun A P u v x y K hA R ru rv q => onRaw q ru fun c q => onInt q rv fun i t q => cF q fun hc q => yB q fun w hw q => by
    have hm : P.h.DictAt (intKind X.prog X.w) c kvs ep := hc ▸ hD.at' fun o e => R.keep _ o e
    obtain ⟨ops, ho⟩ := hs (.ref c) (.int i t)
    obtain ⟨p, hp, rfl⟩ := Option.map_eq_some_iff.mp hw
    exact lG (ft r i) hw fun x2 e2 r2 => tail_any (cw hm.dictOf).typeIs slot_dict_getitem.lookup (wpAny_getItem_of (intKind_is X.prog X.w _ _) (cw hm.dictOf) e2 (.tokV R (VRel.nob0 (hn p (List.mem_of_find?_eq_some hp)) r2) q)) ho
end
noncomputable def zo (m0 : Loc) (σ0 : AH) (v : PV) (σ1 : AH) : EF := fun m σ => open Classical in if m = m0 ∧ σ = σ0 then some (v, σ1) else none
theorem Dh {m0 m : Loc} {σ0 σ1 σ : AH} {v : PV} {K : PV → AH → Prop} {C : Prop} (q : On (zo m0 σ0 v σ1 m σ) K) (k : m = m0 → σ = σ0 → K v σ1 → C) : C := by
  unfold zo at q
  split at q
  · rename_i z; exact k z.1 z.2 q
  · exact q.elim
theorem zh {m0 : Loc} {σ0 σ1 : AH} {v : PV} : zo m0 σ0 v σ1 m0 σ0 = some (v, σ1) := if_pos ⟨rfl, rfl⟩
noncomputable abbrev C2 (d : Addr) (es : List (Int × PV)) : TF := bL (e2 dE (e2 (kN d es) (af "found") (af "x")) (an (.int 0)))
noncomputable abbrev CS (d : Addr) (es : List (Int × PV)) : CF := dH (eL aX (aj (e2 (kN d es) (af "found") (af "x")) (aj (af "x") ao)))
noncomputable abbrev w9 (a b x y : Int) : List PV := [.tup [.int a, .int x], .tup [.int b, .int y]]
noncomputable abbrev zM (a b x y : Int) : List (Int × PV) := [(x, .int a), (y, .int b)]
noncomputable abbrev BV : LF := aj (af "coefs") (aj (af "scope") ao)
noncomputable abbrev By : AF := dm (aQ (aF "coef") (aQ (aF "x") ch))
noncomputable abbrev yf : SF := am (a6 (e2 bM (ym (af "found") (aj (af "x") (aj (an (.int 0)) ao)) vD) (af "coef")) (fG (af "found") (af "x"))) aB
theorem za {a : Int} (h : a ≠ 0) : PyData.eqv (.int a) (.int 0) = false := by
  have : (a == 0) = false := beq_eq_false_iff_ne.mpr h
  simpa [PyData.eqv] using this
theorem y0 {d : Addr} {a b x y : Int} (hx : x ≠ y) (ha : a ≠ 0) (hb : b ≠ 0) :
    dR ["found"] (nI "found" d (zM a b x y)) (aF "x") (C2 d (zM a b x y)) (CS d (zM a b x y)) (yO "found" (.raw d)) σN = some (.obj 0, σN.new (.list (w9 a b x y))) := by
  have na : ∀ {a : Int} {σ : AH}, a ≠ 0 → dE (.int a) (.int 0) σ = some (.bool true, σ) := fun ha => by show some (PV.bool (!PyData.eqv (.int _) (.int 0)), _) = _; rw [za ha]; rfl
  simp [vv, cr, zM, dR, bnd, nI, gd, Src.len, gT, Src.item, aF, bL, e2, af, jI, Loc.put, yO, kN, io, dq, hx, na ha, na hb, lN, dH, eL, aj, ao, aX, an, bK]
theorem wV {a b x y : Int} (hx : x ≠ y) : On (tI BV By yf ((nh ["coefs", "scope"] [.tup [.int a, .int b], .tup [.int x, .int y]]).put "found" (.obj 0)) (σN.new (.idict []))) fun p σ => p.1 = .next ∧ p.2 "found" = some (.obj 0) ∧ σ.get 0 = some (.idict (zM a b x y)) ∧ σ.next = 1 := by
  simp [w2, j1, cr, gP, wI, j7, On, tI, bnd, aj, ao, af, Loc.put, gd, uG, Loc.pl, iV, AH.pl, Ce, am, a6, e2, ym, an, vD, AH.new, AH.set, dq, bM, fG, oz, aB, jd, hx, jB, gH, nh, dm, aQ, aF, ch]
section
variable {X : Cxt} {h : Nat} {env : Env}
noncomputable def Di (X : Cxt) (h : Nat) (d : Addr) (es : List (Int × PV)) : Prop := ∀ a b, (∀ o i, ∃ ops, subscripted b false o i = operate ops (getItem o i)) → gf X h (subscriptTail a b) (kN d es)
theorem qC {elt target : Expr} {ifs : List Expr} {scope : Scope} {pos ip : Pos} {m : Loc} {σ : AH} {a b x y : Int} (hx : x ≠ y) (ha : a ≠ 0) (hb : b ≠ 0) (hm : m "found" = some (.obj 0)) (hσ : σ.get 0 = some (.idict (zM a b x y)))
    (U : ∀ (X2 : Cxt) d es, Di X2 h d es → rY X2 h env target (.Name (nm "found") ip) (nI "found" d es) → CompAll X2 h env scope ["found"] target (.Name (nm "found") ip) ifs (sM elt) (nI "found" d es) (aF "x") (C2 d es) (CS d es)) :
    bD X h env (.ListComp elt [⟨target, .Name (nm "found") ip, ifs, 0⟩] scope pos) (zo m σ (.obj σ.next) (σ.new (.list (w9 a b x y)))) := fun A ⟨ι, σ', s⟩ m' K hA F q0 => Dh q0 fun e1 e2 q => by
  have e2 : σ' = σ := e2
  subst e1; subst e2
  refine F.rel.idict hσ fun kvs hdo hr => (lw hdo).elim fun ep hat => ?_
  have hi := (F.rel.objs 0 _ hσ).1
  have hd := F.rel.lo 0 hi
  have al : (s.heap.get? (ι 0)).isSome := (F.rel.live 0 hi).elim fun o z => bA z.1
  have hat2 : (X.keepD ⟨ι, σ', s⟩ (ι 0) F.rel hd).hp.DictAt (intKind X.prog X.w) (ι 0) kvs ep := hat.at' fun o e => tF F.rel hd e
  have hn : ∀ p ∈ zM a b x y, nob0 p.2 = true := fun p hp => (List.mem_cons.mp hp).elim (fun e => e ▸ rfl) fun hp => List.mem_singleton.mp hp ▸ rfl
  have ns : ι 0 ≠ sysModules := fun z => absurd (show 3 < sysModules from z ▸ (show 3 < ι 0 from Nat.lt_of_lt_of_le X.big hd)) (by decide)
  unfold W
  rw [eval_ListComp]
  refine lp (X := X.keepD ⟨ι, σ', s⟩ (ι 0) F.rel hd) (P := ⟨ι, σN, s⟩) dA (U _ (ι 0) _ (fun _ _ hs => uh hs hat2 hr hn) (tg rfl rfl ns hat2 hr)) (K := fun v τ => v = .obj 0 ∧ τ = σN.new (.list (w9 a b x y))) hA (xq F hi hm) ?_ fun ys P1 D C M k => M.ns.elim fun mm hns => ⟨mm, hns, fun h' hs => ?_⟩
  · show On (dR _ _ _ _ _ _ σN) _
    rw [y0 hx ha hb]
    exact ⟨rfl, rfl⟩
  · have r := Ret.nobList (K := K) (j := P1.n) (l := w9 a b x y) F.rel (M.own (pi F.rel hd al) hs) (Nat.lt_succ_self _) (by
      show (P1.σ.new (.list ys)).get P1.n = _
      rw [k.2, PV.obj.inj k.1]; rfl) rfl (Nat.le_succ_of_le hd) q
    rwa [P1.add_self] at r
section
variable {α : Type} {K : α → AH → Prop} {C : Prop}
theorem Cw {args : List PV} {f : PV → PV → Option (α × AH)} (q : On (w2 args f) K) (k : ∀ a b, args = [a, b] → On (f a b) K → C) : C := by
  cases args with
  | nil => exact q.elim
  | cons a l => cases l with
    | nil => exact q.elim
    | cons b l => cases l with
      | nil => exact k a b rfl q
      | cons => exact q.elim
theorem CT {v : PV} {f : List PV → Option (α × AH)} (q : On (j1 v f) K) (k : ∀ l, v = .tup l → On (f l) K → C) : C := by cases v <;> first | exact q.elim | exact k _ rfl q
theorem Cg {v : PV} {f : Int → Option (α × AH)} (q : On (cr v f) K) (k : ∀ l, v = .int l → On (f l) K → C) : C := by cases v <;> first | exact q.elim | exact k _ rfl q
end
theorem pS : SndF X 3 486 iQ := fun A P args xs K hA R r q => by
  refine Cw q fun c s e q1 => ?_
  subst e
  refine CT q1 fun c e q2 => ?_
  subst e
  refine Cw q2 fun a b e q3 => ?_
  subst e
  refine Cg q3 fun a e q4 => ?_
  subst e
  refine Cg q4 fun b e q5 => ?_
  subst e
  refine CT q5 fun s e q6 => ?_
  subst e
  refine Cw q6 fun x y e q7 => ?_
  subst e
  refine Cg q7 fun x e q8 => ?_
  subst e
  refine Cg q8 fun y e q9 => ?_
  subst e
  clear q q1 q2 q3 q4 q5 q6 q7 q8
  · refine cF q9 fun hh q => ?_
    obtain ⟨hx, ha, hb⟩ := hh
    cases e : tI BV By yf ((nh ["coefs", "scope"] [.tup [.int a, .int b], .tup [.int x, .int y]]).put "found" (.obj 0)) (σN.new (.idict [])) with
    | none => exact (show On none _ from e ▸ wV hx).elim
    | some z =>
      obtain ⟨⟨fl, M⟩, σ2⟩ := z
      obtain ⟨rfl, h2, h3, h4⟩ : fl = .next ∧ M "found" = some (.obj 0) ∧ σ2.get 0 = some (.idict (zM a b x y)) ∧ σ2.next = 1 := by
        have z := wV (a := a) (b := b) hx
        rw [e] at z; exact z
      have d : SndF X 3 486 (bo ["coefs", "scope"] (am (a6 fv (aF "found")) (am (tI BV By yf) (am (bk (zo M σ2 (.obj σ2.next) (σ2.new (.list (w9 a b x y))))) aB)))) :=
        aY rfl rfl (ps := ["coefs", "scope"]) ⟨rfl, rfl, cW (fun a b => rfl), aR rfl, rfl, rfl, rfl, rfl, rfl⟩ rfl fun L =>
          ah (aE (.inr rfl) rfl dU)
            (ah (uj (fun _ => rfl) ⟨rfl, rfl, (by decide +kernel), rfl, rfl, .inr (fun _ e => nomatch e)⟩ rfl (ae rfl (aa rfl rfl) (ae rfl (aa rfl rfl) ai))
                (bf rfl rfl (aC rfl (aO (.inl rfl)) (aC rfl (aO (.inl rfl)) bl aG) (aA aG)))
                (ah (aP rfl rfl rfl (cS (aa rfl rfl) (aa rfl rfl)) (aM bw (gg PySem.F.slot_dict_get PySem.F.type_dict_get rH ⟨_, rfl⟩ rfl (aa rfl rfl) (ae rfl (aa rfl rfl) (ae rfl au ai))) (aa rfl rfl))) ak))
              (ah (aw (qC hx ha hb h2 h3 fun X2 d es it hI => ⟨cQ rfl, fun _ => rfl, hI, fun C => bv rfl, fun C => gS (aq rfl cu (lr (it _ _ fun o i => ⟨_, rfl⟩) (aa rfl rfl) (aa rfl rfl)) au),
                fun C D hD => cv (az (ae rfl (lr (it _ _ fun o i => ⟨_, rfl⟩) (aa rfl rfl) (aa rfl rfl)) (ae rfl (aa rfl rfl) ai))) hD⟩)) ak))
      refine jj d A P _ xs K hA R r ?_
      have e1 : bo ["coefs", "scope"] (am (a6 fv (aF "found")) (am (tI BV By yf) (am (bk (zo M σ2 (.obj σ2.next) (σ2.new (.list (w9 a b x y))))) aB))) [.tup [.int a, .int b], .tup [.int x, .int y]] σN = some (.obj σ2.next, σ2.new (.list (w9 a b x y))) := by
        show qQ (am (tI BV By yf) (am (bk (zo M σ2 (.obj σ2.next) (σ2.new (.list (w9 a b x y))))) aB) ((nh ["coefs", "scope"] [.tup [.int a, .int b], .tup [.int x, .int y]]).put "found" (.obj 0)) (σN.new (.idict []))) = _
        unfold am
        rw [e]
        show qQ (bnd (bnd (zo M σ2 _ _ M σ2) _) _) = _
        rw [zh]; rfl
      unfold fP
      rw [e1]
      show On (gm ((σ2.new (.list (w9 a b x y))).get σ2.next) _) K
      rw [show (σ2.new (.list (w9 a b x y))).get σ2.next = some (.list (w9 a b x y)) from if_pos rfl]
      exact q
end
noncomputable def p6 : SF := (am (df (hU (bL (e2 (bU fun a b => decide (b < a)) (aD cO (aj (af "found") ao)) (an (.int 0)))) (bL (e2 (bU fun a b => decide (a ≤ b)) (af "low") (e2 bM (e2 aK (e2 aK (af "found") (e1 cM (an (.int 1)))) (an (.int 1))) (an (.int 1)))))) (am (df (bL (e2 (bU fun a b => decide (b < a)) (af "high") (e2 aK (e2 aK (af "found") (e1 cM (an (.int 1)))) (an (.int 1))))) (am (a6 (eL aX (aj (e2 aK (e2 aK (af "found") (e1 cM (an (.int 1)))) (an (.int 0))) (aj (af "high") ao))) (fG (af "found") (e1 cM (an (.int 1))))) aB) aB) aB) (am (bO (jA (af "found") (aj (eL aX (aj (af "low") (aj (af "high") ao))) ao) bP)) aB)) aB)
noncomputable def gW : FF := bo ["found", "low", "high"] p6
noncomputable def oK : SF := (am (a6 (eL bK ao) (aF "found")) (am (gt (gU (aD j9 (aj (af "numbers") ao))) (aF "v") (am (bO (aD gW (aj (af "found") (aj (af "v") (aj (af "v") ao))))) aB) aB) (am (bk (aD dG (aj (af "found") ao))) aB)))
noncomputable def eu : FF := bo ["numbers"] oK
noncomputable def fw : FF := fQ eu
noncomputable def yy : SF := (am (bk (e2 aK (e2 aK (af "d") (an (.int 0))) (an (.int 0)))) aB)
noncomputable def qH : FF := bo ["d"] yy
noncomputable def qv : FF := fP qH
noncomputable def tQ : SF := (am (bk (e2 aK (e2 aK (af "d") (e1 cM (an (.int 1)))) (an (.int 1)))) aB)
noncomputable def j6 : FF := bo ["d"] tQ
noncomputable def jQ : FF := fP j6
noncomputable def xt : SF := (am (df (hU (bL (e2 dE (af "d") (eL aX ao))) (hU (bL (e2 (bU fun a b => decide (b ≤ a)) (e2 (c7 (· - ·)) (e2 aK (e2 aK (af "d") (e1 cM (an (.int 1)))) (an (.int 1))) (e2 aK (e2 aK (af "d") (an (.int 0))) (an (.int 0)))) (an (.int 1000000)))) (bL (e2 (bU fun a b => decide (b < a)) AV (an (.int 1000000)))))) (am AV aB) aB) (am (a6 (eL bK ao) (aF "found")) (am (gt (gU (af "d")) (dm (aQ (aF "low") (aQ (aF "high") ch))) (am (bO (jA (af "found") (aj (aD ee (aj (af "low") (aj (e2 bM (af "high") (an (.int 1))) ao))) ao) uM)) aB) aB) (am (bk (af "found")) aB))))
noncomputable def kY : FF := bo ["d"] xt
noncomputable def kQ : FF := fP kY
noncomputable def yJ : SF := (am (bk (aD dG (aj (dR ["k"] (gU (af "d")) (dm (aQ (aF "low") (aQ (aF "high") ch))) (bL (e2 (bU fun a b => decide (a ≤ b)) (af "low") (af "k"))) (dH (eL aX (aj (af "low") (aj (aD t6 (aj (af "high") (aj (af "k") ao))) ao))))) ao))) aB)
noncomputable def uZ : FF := bo ["d", "k"] yJ
noncomputable def qd : FF := fP uZ
noncomputable def v6 : SF := (am (bk (aD dG (aj (dR ["k"] (gU (af "d")) (dm (aQ (aF "low") (aQ (aF "high") ch))) (bL (e2 (bU fun a b => decide (b ≤ a)) (af "high") (af "k"))) (dH (eL aX (aj (aD wY (aj (af "low") (aj (af "k") ao))) (aj (af "high") ao))))) ao))) aB)
noncomputable def pa : FF := bo ["d", "k"] v6
noncomputable def lu : FF := fP pa
noncomputable def v9 : SF := (am (bk (e2 bM (aD qd (aj (af "d") (aj (e2 (c7 (· - ·)) (af "v") (an (.int 1))) ao))) (aD lu (aj (af "d") (aj (e2 bM (af "v") (an (.int 1))) ao))))) aB)
noncomputable def pO : FF := bo ["d", "v"] v9
noncomputable def pF : FF := fP pO
noncomputable def Ad : SF := (am (gw (eL aX (aj (eL bK ao) (aj (an (.int 0)) (aj (an (.int 0)) ao)))) (dF ["found", "i", "j"])) (am (cG (hU (bL (e2 (bU fun a b => decide (a < b)) (af "i") (aD cO (aj (af "d") ao)))) (bL (e2 (bU fun a b => decide (a < b)) (af "j") (aD cO (aj (af "e") ao))))) (am (gw (eL aX (aj (aD wY (aj (e2 aK (e2 aK (af "d") (af "i")) (an (.int 0))) (aj (e2 aK (e2 aK (af "e") (af "j")) (an (.int 0))) ao))) (aj (aD t6 (aj (e2 aK (e2 aK (af "d") (af "i")) (an (.int 1))) (aj (e2 aK (e2 aK (af "e") (af "j")) (an (.int 1))) ao))) ao))) (dF ["low", "high"])) (am (df (bL (e2 (bU fun a b => decide (a ≤ b)) (af "low") (af "high"))) (am (bO (jA (af "found") (aj (eL aX (aj (af "low") (aj (af "high") ao))) ao) bP)) aB) aB) (am (df (bL (e2 (bU fun a b => decide (a < b)) (e2 aK (e2 aK (af "d") (af "i")) (an (.int 1))) (e2 aK (e2 aK (af "e") (af "j")) (an (.int 1))))) (am (a6 (e2 bM (af "i") (an (.int 1))) (aF "i")) aB) (am (a6 (e2 bM (af "j") (an (.int 1))) (aF "j")) aB)) aB))) aB 60) (am (bk (aD dG (aj (af "found") ao))) aB)))
noncomputable def wv : FF := bo ["d", "e"] Ad
noncomputable def xk : FF := fP wv
noncomputable def AE : SF := (am (a6 (eL bK ao) (aF "found")) (am (gt (gU (aD r7 (aj (e2 bM (af "d") (af "e")) ao))) (dm (aQ (aF "low") (aQ (aF "high") ch))) (am (bO (aD gW (aj (af "found") (aj (af "low") (aj (af "high") ao))))) aB) aB) (am (bk (aD dG (aj (af "found") ao))) aB)))
noncomputable def tZ : FF := bo ["d", "e"] AE
noncomputable def pV : FF := fP tZ
noncomputable def yr : SF := (am (a6 (eL bK ao) (aF "found")) (am (gt (gU (af "d")) (dm (aQ (aF "low") (aQ (aF "high") ch))) (am (a6 (af "low") (aF "begin")) (am (gt (gU (af "e")) (dm (aQ (aF "left") (aQ (aF "right") ch))) (am (df (hU (bL (e2 (bU fun a b => decide (b ≤ a)) (af "right") (af "begin"))) (bL (e2 (bU fun a b => decide (a ≤ b)) (af "left") (af "high")))) (am (df (bL (e2 (bU fun a b => decide (b < a)) (af "left") (af "begin"))) (am (bO (jA (af "found") (aj (eL aX (aj (af "begin") (aj (e2 (c7 (· - ·)) (af "left") (an (.int 1))) ao))) ao) bP)) aB) aB) (am (a6 (e2 bM (af "right") (an (.int 1))) (aF "begin")) aB)) aB) aB) aB) (am (df (bL (e2 (bU fun a b => decide (a ≤ b)) (af "begin") (af "high"))) (am (bO (jA (af "found") (aj (eL aX (aj (af "begin") (aj (af "high") ao))) ao) bP)) aB) aB) aB))) aB) (am (bk (aD dG (aj (af "found") ao))) aB)))
noncomputable def pU : FF := bo ["d", "e"] yr
noncomputable def mN : FF := fP pU
noncomputable def vP : SF := (am (bk (aD dG (aj (dR [] (fun m σ => bnd ((aj (af "d") ao) m σ) zI) (dm (aQ (aF "low") (aQ (aF "high") ch))) eN (dH (eL aX (aj (e1 cM (af "high")) (aj (e1 cM (af "low")) ao))))) ao))) aB)
noncomputable def lk : FF := bo ["d"] vP
noncomputable def iX : FF := fP lk
noncomputable def tA : SF := (am (a6 (af "literal") (dm (aQ (aF "x") (aQ (aF "sign") (aQ (aF "k") ch))))) (am (df (bL (e2 cz (af "sign") (an (.str "<=")))) (am (bk (eL aX (aj (af "x") (aj (an (.str ">=")) (aj (e2 bM (af "k") (an (.int 1))) ao))))) aB) aB) (am (df (bL (e2 cz (af "sign") (an (.str ">=")))) (am (bk (eL aX (aj (af "x") (aj (an (.str "<=")) (aj (e2 (c7 (· - ·)) (af "k") (an (.int 1))) ao))))) aB) aB) (am (bk (sS (bL (e2 cz (af "sign") (an (.str "=")))) (eL aX (aj (af "x") (aj (an (.str "!=")) (aj (af "k") ao)))) (eL aX (aj (af "x") (aj (an (.str "=")) (aj (af "k") ao)))))) aB))))
noncomputable def nc : FF := bo ["literal"] tA
noncomputable def jS : FF := fP nc
noncomputable def xe : SF := (am (gw (eL aX (aj (e2 aK (af "literal") (an (.int 1))) (aj (e2 aK (af "literal") (an (.int 2))) ao))) (dF ["sign", "k"])) (am (df (bL (e2 cz (af "sign") (an (.str "<=")))) (am (bk (aD qd (aj (af "d") (aj (af "k") ao)))) aB) aB) (am (df (bL (e2 cz (af "sign") (an (.str ">=")))) (am (bk (aD lu (aj (af "d") (aj (af "k") ao)))) aB) aB) (am (bk (sS (bL (e2 cz (af "sign") (an (.str "=")))) (aD xk (aj (af "d") (aj (eL aX (aj (eL aX (aj (af "k") (aj (af "k") ao))) ao)) ao))) (aD pF (aj (af "d") (aj (af "k") ao))))) aB))))
noncomputable def gL : FF := bo ["literal", "d"] xe
noncomputable def ka : FF := fP gL
noncomputable def vx : SF := (am (a6 (aD ka (aj (af "literal") (aj (af "d") ao))) (aF "kept")) (am (df (bL (e2 cz (af "kept") (af "d"))) (am (bk (an (.int 1))) aB) aB) (am (bk (sS (bL (e2 cz (af "kept") (eL aX ao))) (e1 cM (an (.int 1))) (an (.int 0)))) aB)))
noncomputable def lM : FF := bo ["literal", "d"] vx
noncomputable def lj : FF := fP lM
noncomputable def lI : SF := (am (a6 (eL bK ao) (bR [393] "domains" (af "self"))) (am (a6 (eL bK ao) (bR [393] "firsts" (af "self"))) (am (a6 (eL bK ao) (bR [393] "trail" (af "self"))) (am (a6 (eL bK ao) (bR [393] "marks" (af "self"))) (am (a6 fv (bR [393] "news" (af "self"))) (am (a6 (e1 cM (an (.int 1))) (bR [393] "speaker" (af "self"))) (am (a6 (an (.bool false)) (bR [393] "is_failed" (af "self"))) (am (a6 (eL aX ao) (bR [393] "clash" (af "self"))) aB))))))))
noncomputable def fu : FF := bo ["self"] lI
noncomputable def qB : SF := (am (a6 (an (.bool true)) (bR [393] "is_failed" (af "self"))) (am (a6 (aD dG (aj (af "reasons") ao)) (bR [393] "clash" (af "self"))) (am (bk (an (.bool false))) aB)))
noncomputable def dY : FF := bo ["self", "reasons"] qB
noncomputable def mj : SF := (am (bO (jA (e1 (aU [393] "domains") (af "self")) (aj (af "domain") ao) bP)) (am (bO (jA (e1 (aU [393] "firsts") (af "self")) (aj (af "domain") ao) bP)) (am (df (bL (e2 cz (af "domain") (eL aX ao))) (am (bO (a9 "fail" [(393, dY)] (af "self") (aj (eL aX ao) ao))) aB) aB) (am (bk (e2 (c7 (· - ·)) (aD cO (aj (e1 (aU [393] "domains") (af "self")) ao)) (an (.int 1)))) aB))))
noncomputable def eA : FF := bo ["self", "domain"] mj
noncomputable def rR : SF := (am (bk (e2 aK (e1 (aU [393] "domains") (af "self")) (af "x"))) aB)
noncomputable def cj : FF := bo ["self", "x"] rR
noncomputable def my : SF := (am (bk (e2 aK (e1 (aU [393] "firsts") (af "self")) (af "x"))) aB)
noncomputable def cR : FF := bo ["self", "x"] my
noncomputable def rP : SF := (am (bk (aD qv (aj (e2 aK (e1 (aU [393] "domains") (af "self")) (af "x")) ao))) aB)
noncomputable def eJ : FF := bo ["self", "x"] rP
noncomputable def qf : SF := (am (bk (aD jQ (aj (e2 aK (e1 (aU [393] "domains") (af "self")) (af "x")) ao))) aB)
noncomputable def dv : FF := bo ["self", "x"] qf
noncomputable def lg : SF := (am (a6 (e2 aK (e1 (aU [393] "domains") (af "self")) (af "x")) (aF "domain")) (am (bk (tG (e2 cz (aD cO (aj (af "domain") ao)) (an (.int 1))) (e2 cz (e2 aK (e2 aK (af "domain") (an (.int 0))) (an (.int 0))) (e2 aK (e2 aK (af "domain") (an (.int 0))) (an (.int 1)))))) aB))
noncomputable def dT : FF := bo ["self", "x"] lg
noncomputable def oI : SF := (am (bk (e2 aK (e2 aK (e2 aK (e1 (aU [393] "domains") (af "self")) (af "x")) (an (.int 0))) (an (.int 0)))) aB)
noncomputable def dz : FF := bo ["self", "x"] oI
noncomputable def oQ : SF := (am (bk (aD lj (aj (af "literal") (aj (e2 aK (e1 (aU [393] "domains") (af "self")) (e2 aK (af "literal") (an (.int 0)))) ao)))) aB)
noncomputable def fE : FF := bo ["self", "literal"] oQ
noncomputable def oS : SF := (am (a6 (e2 aK (af "literal") (an (.int 0))) (aF "x")) (am (a6 (e2 aK (e1 (aU [393] "domains") (af "self")) (af "x")) (aF "old")) (am (a6 (aD ka (aj (af "literal") (aj (af "old") ao))) (aF "fresh")) (am (df (bL (e2 cz (af "fresh") (eL aX ao))) (am (bk (a9 "fail" [(393, dY)] (af "self") (aj (e2 bM (sS (bL (e2 jX (af "reasons") (an .none))) (eL aX ao) (af "reasons")) (eL aX (aj (aD jS (aj (af "literal") ao)) ao))) ao))) aB) aB) (am (df (bL (e2 cz (af "fresh") (af "old"))) (am (bk (an (.bool true))) aB) aB) (am (bO (jA (e1 (aU [393] "trail") (af "self")) (aj (eL aX (aj (af "x") (aj (af "old") (aj (af "literal") (aj (af "reasons") (aj (af "speaker") ao)))))) ao) bP)) (am (a6 (af "fresh") (fG (e1 (aU [393] "domains") (af "self")) (af "x"))) (am (a6 (an (.bool true)) (fG (e1 (aU [393] "news") (af "self")) (af "x"))) (am (bk (an (.bool true))) aB)))))))))
noncomputable def fA : FF := bo ["self", "literal", "reasons", "speaker"] oS
noncomputable def nH : SF := (am (bk (a9 "enter" [(393, fA)] (af "self") (aj (af "literal") (aj (aD dG (aj (af "reasons") ao)) (aj (e1 (aU [393] "speaker") (af "self")) ao))))) aB)
noncomputable def bC : FF := bo ["self", "literal", "reasons"] nH
noncomputable def oF : SF := (am (bk (a9 "enter" [(393, fA)] (af "self") (aj (af "literal") (aj (an .none) (aj (e1 cM (an (.int 1))) ao))))) aB)
noncomputable def dN : FF := bo ["self", "literal"] oF
noncomputable def qo : SF := (am (bO (jA (e1 (aU [393] "marks") (af "self")) (aj (aD cO (aj (e1 (aU [393] "trail") (af "self")) ao)) ao) bP)) aB)
noncomputable def dX : FF := bo ["self"] qo
noncomputable def rg : SF := (am (df (bL (e2 (bU fun a b => decide (a < b)) (af "n") (an (.int 1)))) (am (fun m σ => some ((.ret .none, m), σ)) aB) aB) (am (a6 (e2 aK (e1 (aU [393] "marks") (af "self")) (e2 (c7 (· - ·)) (aD cO (aj (e1 (aU [393] "marks") (af "self")) ao)) (af "n"))) (aF "mark")) (am (a6 (e2 fJ (e1 (aU [393] "marks") (af "self")) (e2 (c7 (· - ·)) (aD cO (aj (e1 (aU [393] "marks") (af "self")) ao)) (af "n"))) (bR [393] "marks" (af "self"))) (am (g6 (bL (e2 (bU fun a b => decide (b < a)) (aD cO (aj (e1 (aU [393] "trail") (af "self")) ao)) (af "mark"))) (am (a6 (jA (e1 (aU [393] "trail") (af "self")) ao rS) (aF "entry")) (am (a6 (e2 aK (af "entry") (an (.int 1))) (fG (e1 (aU [393] "domains") (af "self")) (e2 aK (af "entry") (an (.int 0))))) aB)) aB) (am (a6 fv (bR [393] "news" (af "self"))) (am (a6 (e2 ng (eL aX ao) (e1 (aU [393] "firsts") (af "self"))) (bR [393] "is_failed" (af "self"))) (am (a6 (eL aX ao) (bR [393] "clash" (af "self"))) aB)))))))
noncomputable def bQ : FF := bo ["self", "n"] rg
noncomputable def oP : SF := (am (bk (aD cO (aj (e1 (aU [393] "marks") (af "self")) ao))) aB)
noncomputable def cH : FF := bo ["self"] oP
noncomputable def mA : SF := (am (a6 (aD j9 (aj (e1 (aU [393] "news") (af "self")) ao)) (aF "found")) (am (a6 fv (bR [393] "news" (af "self"))) (am (bk (af "found")) aB)))
noncomputable def fH : FF := bo ["self"] mA
noncomputable def hV : SF := (am (a6 (e1 cM (an (.int 1))) (bR [479, 545, 587] "number" (af "self"))) (am (a6 (aD dG (aj (af "scope") ao)) (bR [479, 545, 587] "scope" (af "self"))) (am (a6 (af "strength") (bR [479, 545, 587] "strength" (af "self"))) aB)))
noncomputable def cm : FF := bo ["self", "scope", "strength"] hV
noncomputable def i9 : SF := am (jO 479 (aj (eL aX (aj (af "x") (aj (af "z") ao))) (aj (an (.str "values")) ao)) cm) aB
noncomputable def d8 : FF := bo ["self", "x", "z"] i9
noncomputable def jb : SF := am (jO 545 (aj (af "scope") (aj (an (.str "values")) ao)) cm) (am (a6 (aD dG (aj (af "coefs") ao)) (bR [545, 587] "coefs" (af "self"))) (am (a6 (af "c") (bR [545, 587] "c" (af "self"))) (am (a6 (aD iQ (aj (af "coefs") (aj (af "scope") ao))) (bR [545, 587] "rows" (af "self"))) aB)))
noncomputable def d6 : FF := bo ["self", "coefs", "scope", "c"] jb
noncomputable def jh : SF := am (jO 587 (aj (af "scope") (aj (an (.str "values")) ao)) cm) (am (a6 (aD dG (aj (af "coefs") ao)) (bR [545, 587] "coefs" (af "self"))) (am (a6 (af "c") (bR [545, 587] "c" (af "self"))) (am (a6 (aD iQ (aj (af "coefs") (aj (af "scope") ao))) (bR [545, 587] "rows" (af "self"))) aB)))
noncomputable def d7 : FF := bo ["self", "coefs", "scope", "c"] jh
noncomputable def iJ : SF := (am (a6 (e1 (aU [479, 545, 587] "scope") (af "self")) (dm (aQ (aF "x") (aQ (aF "z") ch)))) (am (df (o9 (bL (e1 (aU [393] "is_failed") (af "store"))) (fU (bL (a9 "strike" [(393, bC)] (af "store") (aj (eL aX (aj (af "z") (aj (an (.str ">=")) (aj (an (.int 0)) ao)))) (aj (eL aX ao) ao)))))) (am (bk (an (.bool false))) aB) aB) (am (a6 (a9 "high" [(393, dv)] (af "store") (aj (af "z") ao)) (aF "high")) (am (df (fU (bL (a9 "strike" [(393, bC)] (af "store") (aj (eL aX (aj (af "x") (aj (an (.str "<=")) (aj (af "high") ao)))) (aj (eL aX (aj (eL aX (aj (af "z") (aj (an (.str "<=")) (aj (af "high") ao)))) ao)) ao))))) (am (bk (an (.bool false))) aB) aB) (am (df (fU (bL (a9 "strike" [(393, bC)] (af "store") (aj (eL aX (aj (af "x") (aj (an (.str ">=")) (aj (e1 cM (af "high")) ao)))) (aj (eL aX (aj (eL aX (aj (af "z") (aj (an (.str "<=")) (aj (af "high") ao)))) ao)) ao))))) (am (bk (an (.bool false))) aB) aB) (am (gt (gU (aD kQ (aj (aD mN (aj (a9 "dom" [(393, cj)] (af "store") (aj (af "x") ao)) (aj (aD pV (aj (a9 "dom" [(393, cj)] (af "store") (aj (af "z") ao)) (aj (aD iX (aj (a9 "dom" [(393, cj)] (af "store") (aj (af "z") ao)) ao)) ao))) ao))) ao))) (aF "v") (am (df (fU (bL (a9 "strike" [(393, bC)] (af "store") (aj (eL aX (aj (af "x") (aj (an (.str "!=")) (aj (af "v") ao)))) (aj (eL aX (aj (eL aX (aj (af "z") (aj (an (.str "!=")) (aj (aD wO (aj (af "v") ao)) ao)))) ao)) ao))))) (am (bk (an (.bool false))) aB) aB) aB) aB) (am (a6 (aD wY (aj (aD wO (aj (a9 "low" [(393, eJ)] (af "store") (aj (af "x") ao)) ao)) (aj (aD wO (aj (a9 "high" [(393, dv)] (af "store") (aj (af "x") ao)) ao)) ao))) (aF "high")) (am (df (fU (bL (a9 "strike" [(393, bC)] (af "store") (aj (eL aX (aj (af "z") (aj (an (.str "<=")) (aj (af "high") ao)))) (aj (eL aX (aj (eL aX (aj (af "x") (aj (an (.str ">=")) (aj (e1 cM (af "high")) ao)))) (aj (eL aX (aj (af "x") (aj (an (.str "<=")) (aj (af "high") ao)))) ao))) ao))))) (am (bk (an (.bool false))) aB) aB) (am (gt (gU (aD kQ (aj (aD mN (aj (a9 "dom" [(393, cj)] (af "store") (aj (af "z") ao)) (aj (aD pV (aj (a9 "dom" [(393, cj)] (af "store") (aj (af "x") ao)) (aj (aD iX (aj (a9 "dom" [(393, cj)] (af "store") (aj (af "x") ao)) ao)) ao))) ao))) ao))) (aF "v") (am (df (fU (bL (a9 "strike" [(393, bC)] (af "store") (aj (eL aX (aj (af "z") (aj (an (.str "!=")) (aj (af "v") ao)))) (aj (eL aX (aj (eL aX (aj (af "x") (aj (an (.str "!=")) (aj (af "v") ao)))) (aj (eL aX (aj (af "x") (aj (an (.str "!=")) (aj (e1 cM (af "v")) ao)))) ao))) ao))))) (am (bk (an (.bool false))) aB) aB) aB) aB) (am (bk (an (.bool true))) aB))))))))))
noncomputable def cY : FF := bo ["self", "store"] iJ
noncomputable def qE : SF := (am (bk (sS (bL (e2 (bU fun a b => decide (b < a)) (af "coef") (an (.int 0)))) (e2 gk (af "coef") (a9 "low" [(393, eJ)] (af "store") (aj (af "x") ao))) (e2 gk (af "coef") (a9 "high" [(393, dv)] (af "store") (aj (af "x") ao))))) aB)
noncomputable def fi : FF := bo ["store", "coef", "x"] qE
noncomputable def mw : SF := (am (a6 (eL bK ao) (aF "found")) (am (gt (fun m σ => bnd ((aj (af "rows") ao) m σ) oA) (dm (aQ (aF "place") (aQ (dm (aQ (aF "coef") (aQ (aF "x") ch))) ch))) (am (df (bL (e2 cz (af "place") (af "skipped"))) (am qU aB) aB) (am (df (hU (bL (e2 (bU fun a b => decide (b < a)) (af "coef") (an (.int 0)))) (bL (e2 (bU fun a b => decide (b < a)) (a9 "low" [(393, eJ)] (af "store") (aj (af "x") ao)) (e2 aK (e2 aK (a9 "initial" [(393, cR)] (af "store") (aj (af "x") ao)) (an (.int 0))) (an (.int 0)))))) (am (bO (jA (af "found") (aj (eL aX (aj (af "x") (aj (an (.str ">=")) (aj (a9 "low" [(393, eJ)] (af "store") (aj (af "x") ao)) ao)))) ao) bP)) aB) (am (df (hU (bL (e2 (bU fun a b => decide (a < b)) (af "coef") (an (.int 0)))) (bL (e2 (bU fun a b => decide (a < b)) (a9 "high" [(393, dv)] (af "store") (aj (af "x") ao)) (e2 aK (e2 aK (a9 "initial" [(393, cR)] (af "store") (aj (af "x") ao)) (e1 cM (an (.int 1)))) (an (.int 1)))))) (am (bO (jA (af "found") (aj (eL aX (aj (af "x") (aj (an (.str "<=")) (aj (a9 "high" [(393, dv)] (af "store") (aj (af "x") ao)) ao)))) ao) bP)) aB) aB) aB)) aB)) aB) (am (bk (aD dG (aj (af "found") ao))) aB)))
noncomputable def dw : FF := bo ["store", "rows", "skipped"] mw
noncomputable def sL : SF := (am (a6 (e2 (c7 (· - ·)) (af "c") (aD yY (aj (dR ["store"] (gU (af "rows")) (dm (aQ (aF "coef") (aQ (aF "x") ch))) eN (dH (aD fi (aj (af "store") (aj (af "coef") (aj (af "x") ao)))))) ao))) (aF "room")) (am (df (bL (e2 (bU fun a b => decide (a < b)) (af "room") (an (.int 0)))) (am (bk (a9 "fail" [(393, dY)] (af "store") (aj (aD dw (aj (af "store") (aj (af "rows") (aj (e1 cM (an (.int 1))) ao)))) ao))) aB) aB) (am (gt (fun m σ => bnd ((aj (af "rows") ao) m σ) oA) (dm (aQ (aF "place") (aQ (dm (aQ (aF "coef") (aQ (aF "x") ch))) ch))) (am (a6 (e2 bM (af "room") (aD fi (aj (af "store") (aj (af "coef") (aj (af "x") ao))))) (aF "most")) (am (a6 (sS (bL (e2 (bU fun a b => decide (b < a)) (af "coef") (an (.int 0)))) (eL aX (aj (af "x") (aj (an (.str "<=")) (aj (e2 mU (af "most") (af "coef")) ao)))) (eL aX (aj (af "x") (aj (an (.str ">=")) (aj (e1 cM (e2 mU (af "most") (e1 cM (af "coef")))) ao))))) (aF "literal")) (am (df (hU (bL (e2 dE (a9 "holds" [(393, fE)] (af "store") (aj (af "literal") ao)) (an (.int 1)))) (fU (bL (a9 "strike" [(393, bC)] (af "store") (aj (af "literal") (aj (aD dw (aj (af "store") (aj (af "rows") (aj (af "place") ao)))) ao)))))) (am (bk (an (.bool false))) aB) aB) aB))) aB) (am (bk (an (.bool true))) aB))))
noncomputable def ia : FF := bo ["store", "rows", "c"] sL
noncomputable def iK : SF := (am (bk (aD ia (aj (af "store") (aj (e1 (aU [545, 587] "rows") (af "self")) (aj (e1 (aU [545, 587] "c") (af "self")) ao))))) aB)
noncomputable def cZ : FF := bo ["self", "store"] iK
noncomputable def iw : SF := (am (gw (eL aX (aj (e1 (aU [545, 587] "c") (af "self")) (aj (eL bK ao) (aj (eL bK ao) ao)))) (dF ["rest", "reasons", "waiting"])) (am (gt (gU (e1 (aU [545, 587] "rows") (af "self"))) (dm (aQ (aF "coef") (aQ (aF "x") ch))) (am (df (fU (bL (a9 "is_fixed" [(393, dT)] (af "store") (aj (af "x") ao)))) (am (bO (jA (af "waiting") (aj (eL aX (aj (af "coef") (aj (af "x") ao))) ao) bP)) (am qU aB)) aB) (am (a6 (e2 (c7 (· - ·)) (af "rest") (e2 gk (af "coef") (a9 "value" [(393, dz)] (af "store") (aj (af "x") ao)))) (aF "rest")) (am (df (bL (e2 dE (a9 "initial" [(393, cR)] (af "store") (aj (af "x") ao)) (a9 "dom" [(393, cj)] (af "store") (aj (af "x") ao)))) (am (bO (jA (af "reasons") (aj (eL aX (aj (af "x") (aj (an (.str "=")) (aj (a9 "value" [(393, dz)] (af "store") (aj (af "x") ao)) ao)))) ao) bP)) aB) aB) aB))) aB) (am (df (bL (e2 cz (aD cO (aj (af "waiting") ao)) (an (.int 0)))) (am (bk (B6 (e2 dE (af "rest") (an (.int 0))) (a9 "fail" [(393, dY)] (af "store") (aj (aD dG (aj (af "reasons") ao)) ao)))) aB) aB) (am (a6 (e2 aK (af "waiting") (an (.int 0))) (dm (aQ (aF "coef") (aQ (aF "x") ch)))) (am (df (o9 (bL (e2 (bU fun a b => decide (b < a)) (aD cO (aj (af "waiting") ao)) (an (.int 1)))) (bL (e2 dE (e2 lX (af "rest") (af "coef")) (an (.int 0))))) (am (bk (an (.bool true))) aB) aB) (am (bk (a9 "strike" [(393, bC)] (af "store") (aj (eL aX (aj (af "x") (aj (an (.str "!=")) (aj (e2 mU (af "rest") (af "coef")) ao)))) (aj (aD dG (aj (af "reasons") ao)) ao)))) aB))))))
noncomputable def cV : FF := bo ["self", "store"] iw
noncomputable def kq : SF := (am (a6 (af "store") (bR [80] "store" (af "self"))) (am (a6 (eL bK ao) (bR [80] "propagators" (af "self"))) (am (a6 fv (bR [80] "users" (af "self"))) (am (a6 fv (bR [80] "waiting" (af "self"))) (am (a6 fv (bR [80] "unasked" (af "self"))) (am (a6 (an .none) (bR [80] "book" (af "self"))) (am (a6 fv (bR [80] "book_news" (af "self"))) (am (a6 (an (.bool true)) (bR [80] "is_book_due" (af "self"))) (am (a6 (e1 cM (an (.int 1))) (bR [80] "failed_by" (af "self"))) aB)))))))))
noncomputable def dJ : FF := bo ["self", "store"] kq
noncomputable def qg : SF := (am (a6 (aD cO (aj (e1 (aU [80] "propagators") (af "self")) ao)) (aF "number")) (am (a6 (af "number") (bR [479, 545, 587] "number" (af "propagator"))) (am (bO (jA (e1 (aU [80] "propagators") (af "self")) (aj (af "propagator") ao) bP)) (am (gt (gU (e1 (aU [479, 545, 587] "scope") (af "propagator"))) (aF "x") (am (df (bL (e2 e6 (af "number") (ym (e1 (aU [80] "users") (af "self")) (aj (af "x") (aj (eL bK ao) ao)) eK))) (am (bO (jA (e2 aK (e1 (aU [80] "users") (af "self")) (af "x")) (aj (af "number") ao) bP)) aB) aB) aB) aB) (am (a6 (an (.bool true)) (fG (e1 (aU [80] "waiting") (af "self")) (af "number"))) (am (a6 (an (.bool true)) (fG (e1 (aU [80] "unasked") (af "self")) (af "number"))) (am (bk (af "number")) aB)))))))
noncomputable def eZ : FF := bo ["self", "propagator"] qg
noncomputable def o7 : SF := (am (gt (gU (a9 "changed" [(393, fH)] (e1 (aU [80] "store") (af "self")) ao)) (aF "x") (am (df (bL (e2 dE (af "speaker") (e1 cM (an (.int 2))))) (am (a6 (an (.bool true)) (fG (e1 (aU [80] "book_news") (af "self")) (af "x"))) (am (a6 (an (.bool true)) (bR [80] "is_book_due" (af "self"))) aB)) aB) (am (gt (gU (ym (e1 (aU [80] "users") (af "self")) (aj (af "x") (aj (eL aX ao) ao)) vD)) (aF "number") (am (df (bL (e2 dE (af "number") (af "speaker"))) (am (a6 (an (.bool true)) (fG (e1 (aU [80] "waiting") (af "self")) (af "number"))) aB) aB) aB) aB) aB)) aB) aB)
noncomputable def fB : FF := bo ["self", "speaker"] o7
noncomputable def kM : SF := (am (df (hU (bL (e1 (aU [80] "is_book_due") (af "self"))) (bL (e2 iR (e1 (aU [80] "book") (af "self")) (an .none)))) AV (am (a6 (aD t6 (aj (e1 (aU [80] "waiting") (af "self")) ao)) (aF "number")) (am (zX (e1 (aU [80] "waiting") (af "self")) (af "number")) (am (df (bL (e2 cz (a9 "depth" [(393, cH)] (e1 (aU [80] "store") (af "self")) ao) (an (.int 0)))) (am (bO (ym (e1 (aU [80] "unasked") (af "self")) (aj (af "number") (aj (an .none) ao)) nX)) aB) aB) (am (a6 (af "number") (bR [393] "speaker" (e1 (aU [80] "store") (af "self")))) (am (a6 (a9 "propagate" [(479, cY), (545, cZ), (587, cV)] (e2 aK (e1 (aU [80] "propagators") (af "self")) (af "number")) (aj (e1 (aU [80] "store") (af "self")) ao)) (aF "stands")) aB)))))) (am (bO (a9 "wake" [(80, fB)] (af "self") (aj (e1 (aU [393] "speaker") (e1 (aU [80] "store") (af "self"))) ao))) (am (bk (af "stands")) aB)))
noncomputable def eX : FF := bo ["self"] kM
noncomputable def kF : SF := (am (bk (B6 (e2 (bU fun a b => decide (b < a)) (aD cO (aj (e1 (aU [80] "waiting") (af "self")) ao)) (an (.int 0))) (tG (e1 (aU [80] "is_book_due") (af "self")) (e2 iR (e1 (aU [80] "book") (af "self")) (an .none))))) aB)
noncomputable def eV : FF := bo ["self"] kF
noncomputable def jH : SF := (am (a6 (an (.bool true)) (bR [80] "is_book_due" (af "self"))) (am (bO (ym (e1 (aU [80] "waiting") (af "self")) (aj (e1 (aU [80] "unasked") (af "self")) ao) mG)) (am (bO (a9 "wake" [(80, fB)] (af "self") (aj (e1 cM (an (.int 1))) ao))) (am (a6 (AT (e1 (aU [393] "is_failed") (e1 (aU [80] "store") (af "self")))) (aF "stands")) (am (a6 (e1 cM (an (.int 2))) (bR [393] "speaker" (e1 (aU [80] "store") (af "self")))) (am (g6 (hU (bL (af "stands")) (bL (a9 "has_more" [(80, eV)] (af "self") ao))) (am (a6 (a9 "ask_next" [(80, eX)] (af "self") ao) (aF "stands")) aB) aB) (am (df (fU (bL (af "stands"))) (am (a6 (e1 (aU [393] "speaker") (e1 (aU [80] "store") (af "self"))) (bR [80] "failed_by" (af "self"))) (am (a6 (aD uF (aj (e1 (aU [80] "unasked") (af "self")) ao)) (bR [80] "waiting" (af "self"))) (am (a6 fv (bR [80] "book_news" (af "self"))) aB))) aB) (am (a6 (e1 cM (an (.int 1))) (bR [393] "speaker" (e1 (aU [80] "store") (af "self")))) (am (bk (af "stands")) aB)))))))))
noncomputable def bY : FF := bo ["self"] jH
noncomputable def qT : SF := (am (a6 (e2 aK (af "urn") (an (.str "at"))) (aF "at")) (am (a6 (e2 bM (af "at") (an (.int 1))) (fG (af "urn") (an (.str "at")))) (am (df (bL (e2 (bU fun a b => decide (a < b)) (af "at") (aD cO (aj (e2 aK (af "urn") (an (.str "cells"))) ao)))) (am (bk (e2 lX (e2 aK (e2 aK (af "urn") (an (.str "cells"))) (af "at")) (af "many"))) aB) aB) (am (bk (e2 lX (e2 lX (e2 bM (e2 bM (e2 bM (e2 gk (e2 gk (an (.int 7)) (af "at")) (af "at")) (e2 gk (an (.int 5)) (af "at"))) (e2 gk (an (.int 3)) (aD cO (aj (e2 aK (af "urn") (an (.str "cells"))) ao)))) (an (.int 2))) (an (.int 101))) (af "many"))) aB))))
noncomputable def a8 : FF := bo ["urn", "many"] qT
noncomputable def rt : SF := (am (gw (eL aX (aj (e2 aK (eL aX (aj (an (.str "le")) (aj (an (.str "ne")) (aj (an (.str "abs")) ao)))) (aD a8 (aj (af "urn") (aj (an (.int 3)) ao)))) (aj (aD a8 (aj (af "urn") (aj (an (.int 4)) ao))) ao))) (dF ["kind", "x"])) (am (a6 (e2 lX (e2 bM (e2 bM (af "x") (an (.int 1))) (aD a8 (aj (af "urn") (aj (an (.int 3)) ao)))) (an (.int 4))) (aF "y")) (am (df (bL (e2 cz (af "kind") (an (.str "abs")))) (am (bk (eL aX (aj (af "kind") (aj (an (.int 1)) (aj (af "x") (aj (an (.int 1)) (aj (af "y") (aj (an (.int 0)) ao)))))))) aB) aB) (am (gw (eL aX (aj (e2 aK (eL aX (aj (an (.int 1)) (aj (e1 cM (an (.int 1))) (aj (an (.int 2)) ao)))) (aD a8 (aj (af "urn") (aj (an (.int 3)) ao)))) (aj (e2 aK (eL aX (aj (an (.int 1)) (aj (e1 cM (an (.int 1))) (aj (e1 cM (an (.int 2))) ao)))) (aD a8 (aj (af "urn") (aj (an (.int 3)) ao)))) ao))) (dF ["a", "b"])) (am (bk (eL aX (aj (af "kind") (aj (af "a") (aj (af "x") (aj (af "b") (aj (af "y") (aj (e2 (c7 (· - ·)) (aD a8 (aj (af "urn") (aj (an (.int 7)) ao))) (an (.int 3))) ao)))))))) aB)))))
noncomputable def dn : FF := bo ["urn"] rt
noncomputable def qc : SF := (am (a6 (af "rule") (dm (aQ (aF "kind") (aQ (aF "a") (aQ (aF "x") (aQ (aF "b") (aQ (aF "y") (aQ (aF "c") ch)))))))) (am (bO (jA (af "rules") (aj (af "rule") ao) bP)) (am (df (bL (e2 cz (af "kind") (an (.str "abs")))) (am (bk (e2 cz (a9 "add" [(80, eZ)] (af "engine") (aj (aD (eC 479 d8) (aj (af "x") (aj (af "y") ao))) ao)) (e2 (c7 (· - ·)) (aD cO (aj (af "rules") ao)) (an (.int 1))))) aB) aB) (am (a6 (sS (bL (e2 cz (af "kind") (an (.str "le")))) (aD (eC 545 d6) (aj (eL aX (aj (af "a") (aj (af "b") ao))) (aj (eL aX (aj (af "x") (aj (af "y") ao))) (aj (af "c") ao)))) (aD (eC 587 d7) (aj (eL aX (aj (af "a") (aj (af "b") ao))) (aj (eL aX (aj (af "x") (aj (af "y") ao))) (aj (af "c") ao))))) (aF "made")) (am (bk (e2 cz (a9 "add" [(80, eZ)] (af "engine") (aj (af "made") ao)) (e2 (c7 (· - ·)) (aD cO (aj (af "rules") ao)) (an (.int 1))))) aB)))))
noncomputable def c6 : FF := bo ["engine", "rules", "rule"] qc
noncomputable def j0 : SF := (am (a6 (af "rule") (dm (aQ (aF "kind") (aQ (aF "a") (aQ (aF "x") (aQ (aF "b") (aQ (aF "y") (aQ (aF "c") ch)))))))) (am (df (bL (e2 cz (af "kind") (an (.str "abs")))) (am (bk (tG (e2 (bU fun a b => decide (b ≤ a)) (af "w") (an (.int 0))) (e2 ng (af "v") (eL aX (aj (af "w") (aj (e2 (c7 (· - ·)) (an (.int 0)) (af "w")) ao)))))) aB) aB) (am (bk (sS (bL (e2 cz (af "kind") (an (.str "le")))) (e2 (bU fun a b => decide (a ≤ b)) (e2 bM (e2 gk (af "a") (af "v")) (e2 gk (af "b") (af "w"))) (af "c")) (e2 dE (e2 bM (e2 gk (af "a") (af "v")) (e2 gk (af "b") (af "w"))) (af "c")))) aB)))
noncomputable def eD : FF := bo ["rule", "v", "w"] j0
noncomputable def du : FF := fP eD
noncomputable def td : SF := (am (a6 (eL aX (aj (aD lY (aj (af "lots") ao)) (aj (an .none) ao))) (dm (aQ (aF "lots") (aQ (aF "before") ch)))) (am (g6 (bL (e2 dE (af "before") (af "lots"))) (am (a6 (aD lY (aj (af "lots") ao)) (aF "before")) (am (gt (gU (af "rules")) (aF "rule") (am (a6 (eL aX (aj (e2 aK (af "rule") (an (.int 2))) (aj (e2 aK (af "rule") (an (.int 4))) ao))) (dm (aQ (aF "x") (aQ (aF "y") ch)))) (am (a6 (dR ["lots", "rule", "y"] (gU (e2 aK (af "lots") (af "x"))) (aF "v") eN (uk (gU (e2 aK (af "lots") (af "y"))) (aF "w") (bL (aD du (aj (af "rule") (aj (af "v") (aj (af "w") ao))))) (dH (eL aX (aj (af "v") (aj (af "w") ao)))))) (aF "pairs")) (am (df (bL (e2 cz (af "pairs") (eL bK ao))) (am (bk (an .none)) aB) aB) (am (a6 (eL aX (aj (e1 cX (dR [] (gU (af "pairs")) (dm (aQ (aF "v") (aQ (aF "w") ch))) eN (dH (af "v")))) (aj (e1 cX (dR [] (gU (af "pairs")) (dm (aQ (aF "v") (aQ (aF "w") ch))) eN (dH (af "w")))) ao))) (dm (aQ (fG (af "lots") (af "x")) (aQ (fG (af "lots") (af "y")) ch)))) aB)))) aB) aB)) aB) (am (bk (af "lots")) aB)))
noncomputable def jY : FF := bo ["lots", "rules"] td
noncomputable def rM : SF := (am (bk (dR ["desk"] (gU (aD ee (aj (an (.int 4)) ao))) (aF "x") eN (dH (dR [] (gU (a9 "dom" [(393, cj)] (af "desk") (aj (af "x") ao))) (dm (aQ (aF "low") (aQ (aF "high") ch))) eN (uk (gU (aD ee (aj (af "low") (aj (e2 bM (af "high") (an (.int 1))) ao)))) (aF "v") eN (dH (af "v"))))))) aB)
noncomputable def cU : FF := bo ["desk"] rM
noncomputable def pX : SF := (am (gw (eL aX (aj (e1 (aU [80] "store") (af "engine")) (aj (aD jY (aj (af "lots") (aj (af "rules") ao))) ao))) (dF ["desk", "due"])) (am (a6 (aD cO (aj (e1 (aU [393] "trail") (af "desk")) ao)) (aF "mark")) (am (df (o9 (bL (e2 dE (a9 "propagate" [(80, bY)] (af "engine") ao) (e2 iR (af "due") (an .none)))) (bL (e2 dE (e1 (aU [393] "is_failed") (af "desk")) (e2 jX (af "due") (an .none))))) (am (bk (an (.str "wrong"))) aB) aB) (am (gt (gU (e2 iN (e1 (aU [393] "trail") (af "desk")) (af "mark"))) (dm (aQ (aF "x") (aQ (aF "old") (aQ (aF "literal") (aQ (aF "reasons") (aQ (aF "speaker") ch)))))) (am (df (o9 (bL (e2 e6 (af "speaker") (aD ee (aj (aD cO (aj (af "rules") ao)) ao)))) (bL (e2 e6 (af "x") (eL aX (aj (e2 aK (e2 aK (af "rules") (af "speaker")) (an (.int 2))) (aj (e2 aK (e2 aK (af "rules") (af "speaker")) (an (.int 4))) ao)))))) (am (bk (an (.str "wrong"))) aB) aB) aB) aB) (am (df (bL (e2 jX (af "due") (an .none))) (am (bk (an .none)) aB) aB) (am (a6 (aD cO (aj (e1 (aU [393] "trail") (af "desk")) ao)) (aF "mark")) (am (df (o9 (bL (e2 dE (aD cU (aj (af "desk") ao)) (af "due"))) (o9 (fU (bL (a9 "propagate" [(80, bY)] (af "engine") ao))) (bL (e2 dE (aD cO (aj (e1 (aU [393] "trail") (af "desk")) ao)) (af "mark"))))) (am (bk (an (.str "wrong"))) aB) aB) (am (bk (af "due")) aB))))))))
noncomputable def ci : FF := bo ["engine", "lots", "rules"] pX
noncomputable def qG : SF := (am (a6 (af "literal") (dm (aQ (aF "x") (aQ (aF "sign") (aQ (aF "k") ch))))) (am (bk (e2 aK (qx ["<=", ">=", "=", "!="] (aj (e2 (bU fun a b => decide (a ≤ b)) (af "v") (af "k")) (aj (e2 (bU fun a b => decide (b ≤ a)) (af "v") (af "k")) (aj (e2 cz (af "v") (af "k")) (aj (e2 dE (af "v") (af "k")) ao))))) (af "sign"))) aB))
noncomputable def hM : FF := bo ["literal", "v"] qG
noncomputable def fO : FF := fP hM
noncomputable def iH : SF := (am (gw (eL aX (aj (e1 (aU [80] "store") (af "engine")) (aj (af "lots") (aj (eL bK ao) ao)))) (dF ["desk", "now", "stack"])) (am (gt (gU (aD ee (aj (e2 bM (an (.int 2)) (aD a8 (aj (af "urn") (aj (sS (bL (af "is_strict")) (an (.int 2)) (an (.int 3))) ao)))) ao))) (aF "lap") (am (a6 (aD a8 (aj (af "urn") (aj (an (.int 4)) ao))) (aF "way")) (am (df (hU (bL (e2 cz (af "way") (an (.int 0)))) (bL (e2 (bU fun a b => decide (b < a)) (aD cO (aj (af "stack") ao)) (an (.int 1))))) (am (a6 (e2 bM (an (.int 1)) (aD a8 (aj (af "urn") (aj (e2 (c7 (· - ·)) (aD cO (aj (af "stack") ao)) (an (.int 1))) ao)))) (aF "deep")) (am (bO (a9 "pop" [(393, bQ)] (af "desk") (aj (af "deep") ao))) (am (gw (eL aX (aj (e2 aK (af "stack") (e2 (c7 (· - ·)) (aD cO (aj (af "stack") ao)) (af "deep"))) (aj (e2 fJ (af "stack") (e2 (c7 (· - ·)) (aD cO (aj (af "stack") ao)) (af "deep"))) ao))) (dF ["now", "stack"])) aB))) (am (bO (a9 "push" [(393, dX)] (af "desk") ao)) (am (bO (jA (af "stack") (aj (af "now") ao) bP)) (am (df (bL (e2 (bU fun a b => decide (b < a)) (af "way") (an (.int 1)))) (am (a6 (eL aX (aj (aD a8 (aj (af "urn") (aj (an (.int 4)) ao))) (aj (e2 aK (eL aX (aj (an (.str "<=")) (aj (an (.str ">=")) (aj (an (.str "=")) (aj (an (.str "!=")) ao))))) (aD a8 (aj (af "urn") (aj (an (.int 4)) ao)))) (aj (e2 (c7 (· - ·)) (aD a8 (aj (af "urn") (aj (an (.int 6)) ao))) (an (.int 2))) ao)))) (aF "literal")) (am (a6 (dR ["literal"] (gU (e2 aK (af "now") (e2 aK (af "literal") (an (.int 0))))) (aF "v") (bL (aD fO (aj (af "literal") (aj (af "v") ao)))) (dH (af "v"))) (aF "kept")) (am (df (bL (e2 dE (a9 "decide" [(393, dN)] (af "desk") (aj (af "literal") ao)) (e2 dE (af "kept") (eL bK ao)))) (am (bk (an (.bool false))) aB) aB) (am (a6 (e2 bM (e2 bM (e2 fJ (af "now") (e2 aK (af "literal") (an (.int 0)))) (eL bK (aj (af "kept") ao))) (e2 iN (af "now") (e2 bM (e2 aK (af "literal") (an (.int 0))) (an (.int 1))))) (aF "now")) aB)))) aB) aB)))) (am (df (bL (e2 ng (eL bK ao) (af "now"))) (am (df (bL (a9 "propagate" [(80, bY)] (af "engine") ao)) (am (bk (an (.bool false))) aB) aB) (am (bO (a9 "pop" [(393, bQ)] (af "desk") (aj (an (.int 1)) ao))) (am (a6 (jA (af "stack") ao rS) (aF "now")) aB))) (am (df (o9 (bL (af "is_strict")) (bL (e2 cz (aD a8 (aj (af "urn") (aj (an (.int 2)) ao))) (an (.int 0))))) (am (a6 (aD ci (aj (af "engine") (aj (af "now") (aj (af "rules") ao)))) (aF "due")) (am (df (bL (e2 cz (af "due") (an (.str "wrong")))) (am (bk (an (.bool false))) aB) aB) (am (df (bL (e2 jX (af "due") (an .none))) (am (bO (a9 "pop" [(393, bQ)] (af "desk") (aj (an (.int 1)) ao))) aB) aB) (am (a6 (sS (bL (e2 jX (af "due") (an .none))) (jA (af "stack") ao rS) (af "due")) (aF "now")) aB)))) aB) aB)) (am (df (o9 (bL (e2 dE (aD cU (aj (af "desk") ao)) (af "now"))) (o9 (bL (e1 (aU [393] "is_failed") (af "desk"))) (bL (e2 dE (a9 "depth" [(393, cH)] (af "desk") ao) (aD cO (aj (af "stack") ao)))))) (am (bk (an (.bool false))) aB) aB) aB)))) aB) (am (bO (a9 "pop" [(393, bQ)] (af "desk") (aj (aD cO (aj (af "stack") ao)) ao))) (am (bk (tG (e2 cz (aD cU (aj (af "desk") ao)) (af "lots")) (e2 cz (a9 "depth" [(393, cH)] (af "desk") ao) (an (.int 0))))) aB))))
noncomputable def bq : FF := bo ["urn", "engine", "lots", "rules", "is_strict"] iH
noncomputable def BA (a0 : Addr) (ns : List Int) : SF := (am (a6 (eL bK (sE [0, 2, 3, 0, 2, 3, 0, 2, 3, 0, 2, 3, 0, 0, 0, 0, 0, 0, 3, 0, 2, 0, 0, 0, 5, 0, 1, 0, 1, 0])) (aF "built")) (am (a6 (eL aX (aj (qx ["cells", "at"] (aj (sS (bL (e2 (bU fun a b => decide (b < a)) (aD (uu a0 ns) (aj (af "script") ao)) (an (.int 0)))) (aD lY (aj (e2 (kX a0 ns) (af "script") (an (.int 60))) ao)) (af "built")) (aj (an (.int 0)) ao))) (aj (aD (eC 393 fu) ao) (aj (eL bK ao) ao)))) (dm (aQ (aF "urn") (aQ (aF "desk") (aQ (aF "lots") ch))))) (am (gt (gU (aD ee (aj (an (.int 4)) ao))) (aF "x") (am (bO (jA (af "lots") (aj (e1 cX (dR ["urn"] (gU (aD ee (aj (e2 bM (an (.int 2)) (aD a8 (aj (af "urn") (aj (an (.int 2)) ao)))) ao))) (aF "lap") eN (dH (e2 (c7 (· - ·)) (aD a8 (aj (af "urn") (aj (an (.int 6)) ao))) (an (.int 2)))))) ao) bP)) (am (bO (a9 "new_var" [(393, eA)] (af "desk") (aj (aD fw (aj (e2 aK (af "lots") (af "x")) ao)) ao))) aB)) aB) (am (gw (eL aX (aj (aD (eC 80 dJ) (aj (af "desk") ao)) (aj (eL bK ao) ao))) (dF ["engine", "rules"])) (am (gt (gU (aD ee (aj (e2 bM (an (.int 2)) (aD a8 (aj (af "urn") (aj (an (.int 2)) ao)))) ao))) (aF "lap") (am (df (fU (bL (aD c6 (aj (af "engine") (aj (af "rules") (aj (aD dn (aj (af "urn") ao)) ao)))))) (am (bk (an (.bool false))) aB) aB) aB) aB) (am (df (fU (bL (aD bq (aj (af "urn") (aj (af "engine") (aj (af "lots") (aj (af "rules") (aj (an (.bool false)) ao)))))))) (am (bk (an (.bool false))) aB) aB) (am (a6 (aD ci (aj (af "engine") (aj (af "lots") (aj (af "rules") ao)))) (aF "due")) (am (df (o9 (bL (e2 jX (af "due") (an .none))) (bL (e2 cz (af "due") (an (.str "wrong"))))) (am (bk (e2 jX (af "due") (an .none))) aB) aB) (am (df (fU (bL (aD bq (aj (af "urn") (aj (af "engine") (aj (af "due") (aj (af "rules") (aj (an (.bool true)) ao)))))))) (am (bk (an (.bool false))) aB) aB) (am (df (o9 (fU (bL (aD c6 (aj (af "engine") (aj (af "rules") (aj (aD dn (aj (af "urn") ao)) ao)))))) (fU (bL (aD bq (aj (af "urn") (aj (af "engine") (aj (af "due") (aj (af "rules") (aj (an (.bool true)) ao))))))))) (am (bk (an (.bool false))) aB) aB) (am (bk (e2 dE (aD ci (aj (af "engine") (aj (af "due") (aj (af "rules") ao)))) (an (.str "wrong")))) aB)))))))))))
noncomputable def uY (a0 : Addr) (ns : List Int) : FF := bo ["script"] (BA a0 ns)
section
local macro_rules
  | `((0,0)) => `(⟨rfl, rfl, (by decide +kernel), rfl, rfl, .inr (fun _ e => by cases e)⟩)
  | `(($f:ident,$n:num,$as,*)) => do `(@$f $(Array.replicate n.getNat (← `(_)))* $as*)
variable {X : Cxt}
theorem ku : SndF X 1 132 gW :=
  aY rfl rfl (ps := ["found", "low", "high"]) ⟨rfl, rfl, ju (fun a b c => rfl), aR rfl, rfl, rfl, rfl, rfl, rfl⟩ rfl fun L => (ah,7,(bc,10,(fm,8,(aq,10,rfl,dI,(aH (0,0) bz rfl (ae,7,rfl,(aa rfl rfl),ai)),au),(aq,10,rfl,g7,(aa rfl rfl),(aM,10,bw,(aI,8,(fun o i => ⟨_, rfl⟩),(aI,8,(fun o i => ⟨_, rfl⟩),(aa rfl rfl),(ba,8,bB,au)),au),au))),(ah,7,(bc,10,(aq,10,rfl,dI,(aa rfl rfl),(aI,8,(fun o i => ⟨_, rfl⟩),(aI,8,(fun o i => ⟨_, rfl⟩),(aa rfl rfl),(ba,8,bB,au)),au)),(ah,7,(aP,8,rfl,rfl,rfl,(cS,8,(aa rfl rfl),(ba,8,bB,au)),(az,7,(ae,7,rfl,(aI,8,(fun o i => ⟨_, rfl⟩),(aI,8,(fun o i => ⟨_, rfl⟩),(aa rfl rfl),(ba,8,bB,au)),au),(ae,7,rfl,(aa rfl rfl),ai)))),ak),ak),ak),(ah,7,(bp,6,rfl,rfl,(br PySem.F.slot_list_append PySem.F.type_list_append bE ⟨_, rfl⟩ rfl (aa rfl rfl) (ae,7,rfl,(az,7,(ae,7,rfl,(aa rfl rfl),(ae,7,rfl,(aa rfl rfl),ai))),ai))),ak)),ak)
theorem oZ : SndF X 2 139 fw :=
  Cp (f := eu) (aY rfl rfl (ps := ["numbers"]) ⟨rfl, rfl, fL (fun a => rfl), aR rfl, rfl, rfl, rfl, rfl, rfl⟩ rfl fun L => (ah,7,(aE,8,(.inl rfl),rfl,(bN,6,ai)),(ah,7,(cN,12,(fun _ => rfl),(bJ,6,(aH (0,0) l8 rfl (ae,7,rfl,(aa rfl rfl),ai))),(aO (.inl rfl)),(ah,7,(bp,6,rfl,rfl,(ax rfl rfl rfl rfl ku (by decide) rfl (ae,7,rfl,(aa rfl rfl),(ae,7,rfl,(aa rfl rfl),(ae,7,rfl,(aa rfl rfl),ai))))),ak),ak),(ah,7,(aw,6,(aH (0,0) bZ rfl (ae,7,rfl,(aa rfl rfl),ai))),ak))))
theorem yw : SndF X 1 146 qv :=
  jj (f := qH) (aY rfl rfl (ps := ["d"]) ⟨rfl, rfl, fL (fun a => rfl), aR rfl, rfl, rfl, rfl, rfl, rfl⟩ rfl fun L => (ah,7,(aw,6,(aI,8,(fun o i => ⟨_, rfl⟩),(aI,8,(fun o i => ⟨_, rfl⟩),(aa rfl rfl),au),au)),ak))
theorem tv : SndF X 1 153 jQ :=
  jj (f := j6) (aY rfl rfl (ps := ["d"]) ⟨rfl, rfl, fL (fun a => rfl), aR rfl, rfl, rfl, rfl, rfl, rfl⟩ rfl fun L => (ah,7,(aw,6,(aI,8,(fun o i => ⟨_, rfl⟩),(aI,8,(fun o i => ⟨_, rfl⟩),(aa rfl rfl),(ba,8,bB,au)),au)),ak))
theorem rW : SndF X 1 179 kQ :=
  jj (f := kY) (aY rfl rfl (ps := ["d"]) ⟨rfl, rfl, fL (fun a => rfl), aR rfl, rfl, rfl, rfl, rfl, rfl⟩ rfl fun L => (ah,7,(bc,10,(vy,10,(aq,10,rfl,cu,(aa rfl rfl),(az,7,ai)),(aq,10,rfl,kv,(aM,10,cn,(aI,8,(fun o i => ⟨_, rfl⟩),(aI,8,(fun o i => ⟨_, rfl⟩),(aa rfl rfl),(ba,8,bB,au)),au),(aI,8,(fun o i => ⟨_, rfl⟩),(aI,8,(fun o i => ⟨_, rfl⟩),(aa rfl rfl),au),au)),(jD rfl rfl rfl)),(aq,10,rfl,dI,tz,(jD rfl rfl rfl))),(ah,7,tU,ak),ak),(ah,7,(aE,8,(.inl rfl),rfl,(bN,6,ai)),(ah,7,(cN,12,(fun _ => rfl),(bJ,6,(aa rfl rfl)),(bf,8,rfl,rfl,(aC,8,rfl,(aO (.inl rfl)),(aC,8,rfl,(aO (.inl rfl)),bl,aG),(aA aG))),(ah,7,(bp,6,rfl,rfl,(br PySem.F.slot_list_extend PySem.F.type_list_extend sq ⟨_, rfl⟩ rfl (aa rfl rfl) (ae,7,rfl,(aH (0,0) dQ rfl (ae,7,rfl,(aa rfl rfl),(ae,7,rfl,(aM,10,bw,(aa rfl rfl),au),ai))),ai))),ak),ak),(ah,7,(aw,6,(aa rfl rfl)),ak)))))
theorem uK : SndF X 1 184 qd :=
  jj (f := uZ) (aY rfl rfl (ps := ["d", "k"]) ⟨rfl, rfl, cW (fun a b => rfl), aR rfl, rfl, rfl, rfl, rfl, rfl⟩ rfl fun L => (ah,7,(aw,6,(aH (0,0) bZ rfl (ae,7,rfl,(cB,16,dA,⟨cQ rfl, fun _ => rfl, (bJ,6,(aa rfl rfl)), fun C0 => (bf,8,rfl,rfl,(aC,8,rfl,(bv rfl),(aC,8,rfl,(bv rfl),bl,aG),(aA aG))), fun C0 => (gS,5,(aq,10,rfl,g7,(aa rfl rfl),(aa rfl rfl))), fun C0 D0 hD => (cv,6,(az,7,(ae,7,rfl,(aa rfl rfl),(ae,7,rfl,(aH (0,0) oH rfl (ae,7,rfl,(aa rfl rfl),(ae,7,rfl,(aa rfl rfl),ai))),ai))),hD)⟩),ai))),ak))
theorem pP : SndF X 1 189 lu :=
  jj (f := pa) (aY rfl rfl (ps := ["d", "k"]) ⟨rfl, rfl, cW (fun a b => rfl), aR rfl, rfl, rfl, rfl, rfl, rfl⟩ rfl fun L => (ah,7,(aw,6,(aH (0,0) bZ rfl (ae,7,rfl,(cB,16,dA,⟨cQ rfl, fun _ => rfl, (bJ,6,(aa rfl rfl)), fun C0 => (bf,8,rfl,rfl,(aC,8,rfl,(bv rfl),(aC,8,rfl,(bv rfl),bl,aG),(aA aG))), fun C0 => (gS,5,(aq,10,rfl,kv,(aa rfl rfl),(aa rfl rfl))), fun C0 D0 hD => (cv,6,(az,7,(ae,7,rfl,(aH (0,0) nU rfl (ae,7,rfl,(aa rfl rfl),(ae,7,rfl,(aa rfl rfl),ai))),(ae,7,rfl,(aa rfl rfl),ai))),hD)⟩),ai))),ak))
theorem wo : SndF X 2 196 pF :=
  jj (f := pO) (aY rfl rfl (ps := ["d", "v"]) ⟨rfl, rfl, cW (fun a b => rfl), aR rfl, rfl, rfl, rfl, rfl, rfl⟩ rfl fun L => (ah,7,(aw,6,(aM,10,bw,(ax rfl rfl rfl rfl uK (by decide) rfl (ae,7,rfl,(aa rfl rfl),(ae,7,rfl,(aM,10,cn,(aa rfl rfl),au),ai))),(ax rfl rfl rfl rfl pP (by decide) rfl (ae,7,rfl,(aa rfl rfl),(ae,7,rfl,(aM,10,bw,(aa rfl rfl),au),ai))))),ak))
theorem zV : SndF X 1 203 xk :=
  jj (f := wv) (aY rfl rfl (ps := ["d", "e"]) ⟨rfl, rfl, cW (fun a b => rfl), aR rfl, rfl, rfl, rfl, rfl, rfl⟩ rfl fun L => (ah,7,(bV,9,["found", "i", "j"],rfl,rfl,(dB rfl),(az,7,(ae,7,rfl,(bN,6,ai),(ae,7,rfl,au,(ae,7,rfl,au,ai))))),(ah,7,(tP,11,(fm,8,(aq,10,rfl,gu,(aa rfl rfl),(aH (0,0) bz rfl (ae,7,rfl,(aa rfl rfl),ai))),(aq,10,rfl,gu,(aa rfl rfl),(aH (0,0) bz rfl (ae,7,rfl,(aa rfl rfl),ai)))),(ah,7,(bV,9,["low", "high"],rfl,rfl,(dB rfl),(az,7,(ae,7,rfl,(aH (0,0) nU rfl (ae,7,rfl,(aI,8,(fun o i => ⟨_, rfl⟩),(aI,8,(fun o i => ⟨_, rfl⟩),(aa rfl rfl),(aa rfl rfl)),au),(ae,7,rfl,(aI,8,(fun o i => ⟨_, rfl⟩),(aI,8,(fun o i => ⟨_, rfl⟩),(aa rfl rfl),(aa rfl rfl)),au),ai))),(ae,7,rfl,(aH (0,0) oH rfl (ae,7,rfl,(aI,8,(fun o i => ⟨_, rfl⟩),(aI,8,(fun o i => ⟨_, rfl⟩),(aa rfl rfl),(aa rfl rfl)),au),(ae,7,rfl,(aI,8,(fun o i => ⟨_, rfl⟩),(aI,8,(fun o i => ⟨_, rfl⟩),(aa rfl rfl),(aa rfl rfl)),au),ai))),ai)))),(ah,7,(bc,10,(aq,10,rfl,g7,(aa rfl rfl),(aa rfl rfl)),(ah,7,(bp,6,rfl,rfl,(br PySem.F.slot_list_append PySem.F.type_list_append bE ⟨_, rfl⟩ rfl (aa rfl rfl) (ae,7,rfl,(az,7,(ae,7,rfl,(aa rfl rfl),(ae,7,rfl,(aa rfl rfl),ai))),ai))),ak),ak),(ah,7,(bc,10,(aq,10,rfl,gu,(aI,8,(fun o i => ⟨_, rfl⟩),(aI,8,(fun o i => ⟨_, rfl⟩),(aa rfl rfl),(aa rfl rfl)),au),(aI,8,(fun o i => ⟨_, rfl⟩),(aI,8,(fun o i => ⟨_, rfl⟩),(aa rfl rfl),(aa rfl rfl)),au)),(ah,7,(aE,8,(.inl rfl),rfl,(aM,10,bw,(aa rfl rfl),au)),ak),(ah,7,(aE,8,(.inl rfl),rfl,(aM,10,bw,(aa rfl rfl),au)),ak)),ak))),ak),(ah,7,(aw,6,(aH (0,0) bZ rfl (ae,7,rfl,(aa rfl rfl),ai))),ak))))
theorem w7 : SndF X 2 210 pV :=
  jj (f := tZ) (aY rfl rfl (ps := ["d", "e"]) ⟨rfl, rfl, cW (fun a b => rfl), aR rfl, rfl, rfl, rfl, rfl, rfl⟩ rfl fun L => (ah,7,(aE,8,(.inl rfl),rfl,(bN,6,ai)),(ah,7,(cN,12,(fun _ => rfl),(bJ,6,(aH (0,0) pW rfl (ae,7,rfl,(aM,10,bw,(aa rfl rfl),(aa rfl rfl)),ai))),(bf,8,rfl,rfl,(aC,8,rfl,(aO (.inl rfl)),(aC,8,rfl,(aO (.inl rfl)),bl,aG),(aA aG))),(ah,7,(bp,6,rfl,rfl,(ax rfl rfl rfl rfl ku (by decide) rfl (ae,7,rfl,(aa rfl rfl),(ae,7,rfl,(aa rfl rfl),(ae,7,rfl,(aa rfl rfl),ai))))),ak),ak),(ah,7,(aw,6,(aH (0,0) bZ rfl (ae,7,rfl,(aa rfl rfl),ai))),ak))))
theorem vo : SndF X 1 217 mN :=
  jj (f := pU) (aY rfl rfl (ps := ["d", "e"]) ⟨rfl, rfl, cW (fun a b => rfl), aR rfl, rfl, rfl, rfl, rfl, rfl⟩ rfl fun L => (ah,7,(aE,8,(.inl rfl),rfl,(bN,6,ai)),(ah,7,(cN,12,(fun _ => rfl),(bJ,6,(aa rfl rfl)),(bf,8,rfl,rfl,(aC,8,rfl,(aO (.inl rfl)),(aC,8,rfl,(aO (.inl rfl)),bl,aG),(aA aG))),(ah,7,(aE,8,(.inl rfl),rfl,(aa rfl rfl)),(ah,7,(cN,12,(fun _ => rfl),(bJ,6,(aa rfl rfl)),(bf,8,rfl,rfl,(aC,8,rfl,(aO (.inl rfl)),(aC,8,rfl,(aO (.inl rfl)),bl,aG),(aA aG))),(ah,7,(bc,10,(fm,8,(aq,10,rfl,kv,(aa rfl rfl),(aa rfl rfl)),(aq,10,rfl,g7,(aa rfl rfl),(aa rfl rfl))),(ah,7,(bc,10,(aq,10,rfl,dI,(aa rfl rfl),(aa rfl rfl)),(ah,7,(bp,6,rfl,rfl,(br PySem.F.slot_list_append PySem.F.type_list_append bE ⟨_, rfl⟩ rfl (aa rfl rfl) (ae,7,rfl,(az,7,(ae,7,rfl,(aa rfl rfl),(ae,7,rfl,(aM,10,cn,(aa rfl rfl),au),ai))),ai))),ak),ak),(ah,7,(aE,8,(.inl rfl),rfl,(aM,10,bw,(aa rfl rfl),au)),ak)),ak),ak),ak),(ah,7,(bc,10,(aq,10,rfl,g7,(aa rfl rfl),(aa rfl rfl)),(ah,7,(bp,6,rfl,rfl,(br PySem.F.slot_list_append PySem.F.type_list_append bE ⟨_, rfl⟩ rfl (aa rfl rfl) (ae,7,rfl,(az,7,(ae,7,rfl,(aa rfl rfl),(ae,7,rfl,(aa rfl rfl),ai))),ai))),ak),ak),ak))),ak),(ah,7,(aw,6,(aH (0,0) bZ rfl (ae,7,rfl,(aa rfl rfl),ai))),ak))))
theorem pq : SndF X 1 222 iX :=
  jj (f := lk) (aY rfl rfl (ps := ["d"]) ⟨rfl, rfl, fL (fun a => rfl), aR rfl, rfl, rfl, rfl, rfl, rfl⟩ rfl fun L => (ah,7,(aw,6,(aH (0,0) bZ rfl (ae,7,rfl,(cB,16,dA,⟨cQ rfl, fun _ => rfl, (w4 (0,0) rfl (ae,7,rfl,(aa rfl rfl),ai)), fun C0 => (bf,8,rfl,rfl,(aC,8,rfl,(bv rfl),(aC,8,rfl,(bv rfl),bl,aG),(aA aG))), fun C0 => dS, fun C0 D0 hD => (cv,6,(az,7,(ae,7,rfl,(ba,8,bB,(aa rfl rfl)),(ae,7,rfl,(ba,8,bB,(aa rfl rfl)),ai))),hD)⟩),ai))),ak))
theorem t8 : SndF X 1 229 jS :=
  jj (f := nc) (aY rfl rfl (ps := ["literal"]) ⟨rfl, rfl, fL (fun a => rfl), aR rfl, rfl, rfl, rfl, rfl, rfl⟩ rfl fun L => (ah,7,(cf,10,rfl,rfl,(aa rfl rfl),(bf,8,rfl,rfl,(aC,8,rfl,(aO (.inl rfl)),(aC,8,rfl,(aO (.inl rfl)),(aC,8,rfl,(aO (.inl rfl)),bl,aG),(aA aG)),(aA (aA aG))))),(ah,7,(bc,10,(aq,10,rfl,bF,(aa rfl rfl),aZ),(ah,7,(aw,6,(az,7,(ae,7,rfl,(aa rfl rfl),(ae,7,rfl,aZ,(ae,7,rfl,(aM,10,bw,(aa rfl rfl),au),ai))))),ak),ak),(ah,7,(bc,10,(aq,10,rfl,bF,(aa rfl rfl),aZ),(ah,7,(aw,6,(az,7,(ae,7,rfl,(aa rfl rfl),(ae,7,rfl,aZ,(ae,7,rfl,(aM,10,cn,(aa rfl rfl),au),ai))))),ak),ak),(ah,7,(aw,6,(di,10,(aq,10,rfl,bF,(aa rfl rfl),aZ),(az,7,(ae,7,rfl,(aa rfl rfl),(ae,7,rfl,aZ,(ae,7,rfl,(aa rfl rfl),ai)))),(az,7,(ae,7,rfl,(aa rfl rfl),(ae,7,rfl,aZ,(ae,7,rfl,(aa rfl rfl),ai)))))),ak)))))
theorem sI : SndF X 3 236 ka :=
  jj (f := gL) (aY rfl rfl (ps := ["literal", "d"]) ⟨rfl, rfl, cW (fun a b => rfl), aR rfl, rfl, rfl, rfl, rfl, rfl⟩ rfl fun L => (ah,7,(bV,9,["sign", "k"],rfl,rfl,(dB rfl),(az,7,(ae,7,rfl,(aI,8,(fun o i => ⟨_, rfl⟩),(aa rfl rfl),au),(ae,7,rfl,(aI,8,(fun o i => ⟨_, rfl⟩),(aa rfl rfl),au),ai)))),(ah,7,(bc,10,(aq,10,rfl,bF,(aa rfl rfl),aZ),(ah,7,(aw,6,(ax rfl rfl rfl rfl uK (by decide) rfl (ae,7,rfl,(aa rfl rfl),(ae,7,rfl,(aa rfl rfl),ai)))),ak),ak),(ah,7,(bc,10,(aq,10,rfl,bF,(aa rfl rfl),aZ),(ah,7,(aw,6,(ax rfl rfl rfl rfl pP (by decide) rfl (ae,7,rfl,(aa rfl rfl),(ae,7,rfl,(aa rfl rfl),ai)))),ak),ak),(ah,7,(aw,6,(di,10,(aq,10,rfl,bF,(aa rfl rfl),aZ),(ax rfl rfl rfl rfl zV (by decide) rfl (ae,7,rfl,(aa rfl rfl),(ae,7,rfl,(az,7,(ae,7,rfl,(az,7,(ae,7,rfl,(aa rfl rfl),(ae,7,rfl,(aa rfl rfl),ai))),ai)),ai))),(ax rfl rfl rfl rfl wo (by decide) rfl (ae,7,rfl,(aa rfl rfl),(ae,7,rfl,(aa rfl rfl),ai))))),ak)))))
theorem vN : SndF X 4 243 lj :=
  jj (f := lM) (aY rfl rfl (ps := ["literal", "d"]) ⟨rfl, rfl, cW (fun a b => rfl), aR rfl, rfl, rfl, rfl, rfl, rfl⟩ rfl fun L => (ah,7,(aE,8,(.inl rfl),rfl,(ax rfl rfl rfl rfl sI (by decide) rfl (ae,7,rfl,(aa rfl rfl),(ae,7,rfl,(aa rfl rfl),ai)))),(ah,7,(bc,10,(aq,10,rfl,bF,(aa rfl rfl),(aa rfl rfl)),(ah,7,(aw,6,au),ak),ak),(ah,7,(aw,6,(di,10,(aq,10,rfl,bF,(aa rfl rfl),(az,7,ai)),(ba,8,bB,au),au)),ak))))
theorem lK : SndF X 1 257 fu :=
  aY rfl rfl (ps := ["self"]) ⟨rfl, rfl, fL (fun a => rfl), aR rfl, rfl, rfl, rfl, rfl, rfl⟩ rfl fun L => (ah,7,(aP,8,rfl,rfl,rfl,(aW (av ⟨rfl, rfl, rfl, rfl⟩ aL) (aa rfl rfl)),(bN,6,ai)),(ah,7,(aP,8,rfl,rfl,rfl,(aW (av ⟨rfl, rfl, rfl, rfl⟩ aL) (aa rfl rfl)),(bN,6,ai)),(ah,7,(aP,8,rfl,rfl,rfl,(aW (av ⟨rfl, rfl, rfl, rfl⟩ aL) (aa rfl rfl)),(bN,6,ai)),(ah,7,(aP,8,rfl,rfl,rfl,(aW (av ⟨rfl, rfl, rfl, rfl⟩ aL) (aa rfl rfl)),(bN,6,ai)),(ah,7,(aP,8,rfl,rfl,rfl,(aW (av ⟨rfl, rfl, rfl, rfl⟩ aL) (aa rfl rfl)),dU),(ah,7,(aP,8,rfl,rfl,rfl,(aW (av ⟨rfl, rfl, rfl, rfl⟩ aL) (aa rfl rfl)),(ba,8,bB,au)),(ah,7,(aP,8,rfl,rfl,rfl,(aW (av ⟨rfl, rfl, rfl, rfl⟩ aL) (aa rfl rfl)),bj),(ah,7,(aP,8,rfl,rfl,rfl,(aW (av ⟨rfl, rfl, rfl, rfl⟩ aL) (aa rfl rfl)),(az,7,ai)),ak))))))))
theorem fS : SndF X 1 362 dY :=
  aY rfl rfl (ps := ["self", "reasons"]) ⟨rfl, rfl, cW (fun a b => rfl), aR rfl, rfl, rfl, rfl, rfl, rfl⟩ rfl fun L => (ah,7,(aP,8,rfl,rfl,rfl,(aW (av ⟨rfl, rfl, rfl, rfl⟩ aL) (aa rfl rfl)),bj),(ah,7,(aP,8,rfl,rfl,rfl,(aW (av ⟨rfl, rfl, rfl, rfl⟩ aL) (aa rfl rfl)),(aH (0,0) bZ rfl (ae,7,rfl,(aa rfl rfl),ai))),(ah,7,(aw,6,bj),ak)))
theorem mo : SndF X 2 264 eA :=
  aY rfl rfl (ps := ["self", "domain"]) ⟨rfl, rfl, cW (fun a b => rfl), aR rfl, rfl, rfl, rfl, rfl, rfl⟩ rfl fun L => (ah,7,(bp,6,rfl,rfl,(br PySem.F.slot_list_append PySem.F.type_list_append bE ⟨_, rfl⟩ rfl (aN (av ⟨rfl, rfl, rfl⟩ aL) rfl (aa rfl rfl)) (ae,7,rfl,(aa rfl rfl),ai))),(ah,7,(bp,6,rfl,rfl,(br PySem.F.slot_list_append PySem.F.type_list_append bE ⟨_, rfl⟩ rfl (aN (av ⟨rfl, rfl, rfl⟩ aL) rfl (aa rfl rfl)) (ae,7,rfl,(aa rfl rfl),ai))),(ah,7,(bc,10,(aq,10,rfl,bF,(aa rfl rfl),(az,7,ai)),(ah,7,(bp,6,rfl,rfl,(ay (h' := 1) (aV ⟨_, ⟨rfl, rfl, rfl, rfl, rfl⟩, SndF.mono fS (by decide : 1 ≤ 1)⟩ be) (by decide) ⟨_, rfl⟩ rfl (aa rfl rfl) (ae,7,rfl,(az,7,ai),ai))),ak),ak),(ah,7,(aw,6,(aM,10,cn,(aH (0,0) bz rfl (ae,7,rfl,(aN (av ⟨rfl, rfl, rfl⟩ aL) rfl (aa rfl rfl)),ai)),au)),ak))))
theorem dt : SndF X 1 278 cj :=
  aY rfl rfl (ps := ["self", "x"]) ⟨rfl, rfl, cW (fun a b => rfl), aR rfl, rfl, rfl, rfl, rfl, rfl⟩ rfl fun L => (ah,7,(aw,6,(aI,8,(fun o i => ⟨_, rfl⟩),(aN (av ⟨rfl, rfl, rfl⟩ aL) rfl (aa rfl rfl)),(aa rfl rfl))),ak)
theorem fK : SndF X 1 285 cR :=
  aY rfl rfl (ps := ["self", "x"]) ⟨rfl, rfl, cW (fun a b => rfl), aR rfl, rfl, rfl, rfl, rfl, rfl⟩ rfl fun L => (ah,7,(aw,6,(aI,8,(fun o i => ⟨_, rfl⟩),(aN (av ⟨rfl, rfl, rfl⟩ aL) rfl (aa rfl rfl)),(aa rfl rfl))),ak)
theorem gE : SndF X 2 292 eJ :=
  aY rfl rfl (ps := ["self", "x"]) ⟨rfl, rfl, cW (fun a b => rfl), aR rfl, rfl, rfl, rfl, rfl, rfl⟩ rfl fun L => (ah,7,(aw,6,(ax rfl rfl rfl rfl yw (by decide) rfl (ae,7,rfl,(aI,8,(fun o i => ⟨_, rfl⟩),(aN (av ⟨rfl, rfl, rfl⟩ aL) rfl (aa rfl rfl)),(aa rfl rfl)),ai))),ak)
theorem fk : SndF X 2 299 dv :=
  aY rfl rfl (ps := ["self", "x"]) ⟨rfl, rfl, cW (fun a b => rfl), aR rfl, rfl, rfl, rfl, rfl, rfl⟩ rfl fun L => (ah,7,(aw,6,(ax rfl rfl rfl rfl tv (by decide) rfl (ae,7,rfl,(aI,8,(fun o i => ⟨_, rfl⟩),(aN (av ⟨rfl, rfl, rfl⟩ aL) rfl (aa rfl rfl)),(aa rfl rfl)),ai))),ak)
theorem li : SndF X 1 313 dT :=
  aY rfl rfl (ps := ["self", "x"]) ⟨rfl, rfl, cW (fun a b => rfl), aR rfl, rfl, rfl, rfl, rfl, rfl⟩ rfl fun L => (ah,7,(aE,8,(.inl rfl),rfl,(aI,8,(fun o i => ⟨_, rfl⟩),(aN (av ⟨rfl, rfl, rfl⟩ aL) rfl (aa rfl rfl)),(aa rfl rfl))),(ah,7,(aw,6,(mF,8,(bh,10,rfl,bF,(aH (0,0) bz rfl (ae,7,rfl,(aa rfl rfl),ai)),au),(bh,10,rfl,bF,(aI,8,(fun o i => ⟨_, rfl⟩),(aI,8,(fun o i => ⟨_, rfl⟩),(aa rfl rfl),au),au),(aI,8,(fun o i => ⟨_, rfl⟩),(aI,8,(fun o i => ⟨_, rfl⟩),(aa rfl rfl),au),au)))),ak))
theorem jv : SndF X 1 320 dz :=
  aY rfl rfl (ps := ["self", "x"]) ⟨rfl, rfl, cW (fun a b => rfl), aR rfl, rfl, rfl, rfl, rfl, rfl⟩ rfl fun L => (ah,7,(aw,6,(aI,8,(fun o i => ⟨_, rfl⟩),(aI,8,(fun o i => ⟨_, rfl⟩),(aI,8,(fun o i => ⟨_, rfl⟩),(aN (av ⟨rfl, rfl, rfl⟩ aL) rfl (aa rfl rfl)),(aa rfl rfl)),au),au)),ak)
theorem oV : SndF X 5 334 fE :=
  aY rfl rfl (ps := ["self", "literal"]) ⟨rfl, rfl, cW (fun a b => rfl), aR rfl, rfl, rfl, rfl, rfl, rfl⟩ rfl fun L => (ah,7,(aw,6,(ax rfl rfl rfl rfl vN (by decide) rfl (ae,7,rfl,(aa rfl rfl),(ae,7,rfl,(aI,8,(fun o i => ⟨_, rfl⟩),(aN (av ⟨rfl, rfl, rfl⟩ aL) rfl (aa rfl rfl)),(aI,8,(fun o i => ⟨_, rfl⟩),(aa rfl rfl),au)),ai)))),ak)
theorem jo : SndF X 4 341 fA :=
  aY rfl rfl (ps := ["self", "literal", "reasons", "speaker"]) ⟨rfl, rfl, wM (fun a b c d => rfl), aR rfl, rfl, rfl, rfl, rfl, rfl⟩ rfl fun L => (ah,7,(aE,8,(.inl rfl),rfl,(aI,8,(fun o i => ⟨_, rfl⟩),(aa rfl rfl),au)),(ah,7,(aE,8,(.inl rfl),rfl,(aI,8,(fun o i => ⟨_, rfl⟩),(aN (av ⟨rfl, rfl, rfl⟩ aL) rfl (aa rfl rfl)),(aa rfl rfl))),(ah,7,(aE,8,(.inl rfl),rfl,(ax rfl rfl rfl rfl sI (by decide) rfl (ae,7,rfl,(aa rfl rfl),(ae,7,rfl,(aa rfl rfl),ai)))),(ah,7,(bc,10,(aq,10,rfl,bF,(aa rfl rfl),(az,7,ai)),(ah,7,(aw,6,(ay (h' := 1) (aV ⟨_, ⟨rfl, rfl, rfl, rfl, rfl⟩, SndF.mono fS (by decide : 1 ≤ 1)⟩ be) (by decide) ⟨_, rfl⟩ rfl (aa rfl rfl) (ae,7,rfl,(aM,10,bw,(di,10,(aq,10,rfl,hJ,(aa rfl rfl),cA),(az,7,ai),(aa rfl rfl)),(az,7,(ae,7,rfl,(ax rfl rfl rfl rfl t8 (by decide) rfl (ae,7,rfl,(aa rfl rfl),ai)),ai))),ai))),ak),ak),(ah,7,(bc,10,(aq,10,rfl,bF,(aa rfl rfl),(aa rfl rfl)),(ah,7,(aw,6,bj),ak),ak),(ah,7,(bp,6,rfl,rfl,(br PySem.F.slot_list_append PySem.F.type_list_append bE ⟨_, rfl⟩ rfl (aN (av ⟨rfl, rfl, rfl⟩ aL) rfl (aa rfl rfl)) (ae,7,rfl,(az,7,(ae,7,rfl,(aa rfl rfl),(ae,7,rfl,(aa rfl rfl),(ae,7,rfl,(aa rfl rfl),(ae,7,rfl,(aa rfl rfl),(ae,7,rfl,(aa rfl rfl),ai)))))),ai))),(ah,7,(aP,8,rfl,rfl,rfl,(cS,8,(aN (av ⟨rfl, rfl, rfl⟩ aL) rfl (aa rfl rfl)),(aa rfl rfl)),(aa rfl rfl)),(ah,7,(aP,8,rfl,rfl,rfl,(cS,8,(aN (av ⟨rfl, rfl, rfl⟩ aL) rfl (aa rfl rfl)),(aa rfl rfl)),bj),(ah,7,(aw,6,bj),ak)))))))))
theorem cq : SndF X 5 348 bC :=
  aY rfl rfl (ps := ["self", "literal", "reasons"]) ⟨rfl, rfl, ju (fun a b c => rfl), aR rfl, rfl, rfl, rfl, rfl, rfl⟩ rfl fun L => (ah,7,(aw,6,(ay (h' := 4) (aV ⟨_, ⟨rfl, rfl, rfl, rfl, rfl⟩, SndF.mono jo (by decide : 4 ≤ 4)⟩ be) (by decide) ⟨_, rfl⟩ rfl (aa rfl rfl) (ae,7,rfl,(aa rfl rfl),(ae,7,rfl,(aH (0,0) bZ rfl (ae,7,rfl,(aa rfl rfl),ai)),(ae,7,rfl,(aN (av ⟨rfl, rfl, rfl⟩ aL) rfl (aa rfl rfl)),ai))))),ak)
theorem om : SndF X 5 355 dN :=
  aY rfl rfl (ps := ["self", "literal"]) ⟨rfl, rfl, cW (fun a b => rfl), aR rfl, rfl, rfl, rfl, rfl, rfl⟩ rfl fun L => (ah,7,(aw,6,(ay (h' := 4) (aV ⟨_, ⟨rfl, rfl, rfl, rfl, rfl⟩, SndF.mono jo (by decide : 4 ≤ 4)⟩ be) (by decide) ⟨_, rfl⟩ rfl (aa rfl rfl) (ae,7,rfl,(aa rfl rfl),(ae,7,rfl,cA,(ae,7,rfl,(ba,8,bB,au),ai))))),ak)
theorem qb : SndF X 1 369 dX :=
  aY rfl rfl (ps := ["self"]) ⟨rfl, rfl, fL (fun a => rfl), aR rfl, rfl, rfl, rfl, rfl, rfl⟩ rfl fun L => (ah,7,(bp,6,rfl,rfl,(br PySem.F.slot_list_append PySem.F.type_list_append bE ⟨_, rfl⟩ rfl (aN (av ⟨rfl, rfl, rfl⟩ aL) rfl (aa rfl rfl)) (ae,7,rfl,(aH (0,0) bz rfl (ae,7,rfl,(aN (av ⟨rfl, rfl, rfl⟩ aL) rfl (aa rfl rfl)),ai)),ai))),ak)
theorem gA : SndF X 1 376 bQ :=
  aY rfl rfl (ps := ["self", "n"]) ⟨rfl, rfl, cW (fun a b => rfl), aR rfl, rfl, rfl, rfl, rfl, rfl⟩ rfl fun L => (ah,7,(bc,10,(aq,10,rfl,gu,(aa rfl rfl),au),(ah,7,rK,ak),ak),(ah,7,(aE,8,(.inl rfl),rfl,(aI,8,(fun o i => ⟨_, rfl⟩),(aN (av ⟨rfl, rfl, rfl⟩ aL) rfl (aa rfl rfl)),(aM,10,cn,(aH (0,0) bz rfl (ae,7,rfl,(aN (av ⟨rfl, rfl, rfl⟩ aL) rfl (aa rfl rfl)),ai)),(aa rfl rfl)))),(ah,7,(aP,8,rfl,rfl,rfl,(aW (av ⟨rfl, rfl, rfl, rfl⟩ aL) (aa rfl rfl)),(nP,9,(aN (av ⟨rfl, rfl, rfl⟩ aL) rfl (aa rfl rfl)),(aM,10,cn,(aH (0,0) bz rfl (ae,7,rfl,(aN (av ⟨rfl, rfl, rfl⟩ aL) rfl (aa rfl rfl)),ai)),(aa rfl rfl)))),(ah,7,(lF,10,(aq,10,rfl,dI,(aH (0,0) bz rfl (ae,7,rfl,(aN (av ⟨rfl, rfl, rfl⟩ aL) rfl (aa rfl rfl)),ai)),(aa rfl rfl)),(ah,7,(aE,8,(.inl rfl),rfl,(br PySem.F.slot_list_pop PySem.F.type_list_pop nJ ⟨_, rfl⟩ rfl (aN (av ⟨rfl, rfl, rfl⟩ aL) rfl (aa rfl rfl)) ai)),(ah,7,(aP,8,rfl,rfl,rfl,(cS,8,(aN (av ⟨rfl, rfl, rfl⟩ aL) rfl (aa rfl rfl)),(aI,8,(fun o i => ⟨_, rfl⟩),(aa rfl rfl),au)),(aI,8,(fun o i => ⟨_, rfl⟩),(aa rfl rfl),au)),ak)),ak),(ah,7,(aP,8,rfl,rfl,rfl,(aW (av ⟨rfl, rfl, rfl, rfl⟩ aL) (aa rfl rfl)),dU),(ah,7,(aP,8,rfl,rfl,rfl,(aW (av ⟨rfl, rfl, rfl, rfl⟩ aL) (aa rfl rfl)),(bh,10,rfl,p9,(az,7,ai),(aN (av ⟨rfl, rfl, rfl⟩ aL) rfl (aa rfl rfl)))),(ah,7,(aP,8,rfl,rfl,rfl,(aW (av ⟨rfl, rfl, rfl, rfl⟩ aL) (aa rfl rfl)),(az,7,ai)),ak)))))))
theorem gF : SndF X 1 383 cH :=
  aY rfl rfl (ps := ["self"]) ⟨rfl, rfl, fL (fun a => rfl), aR rfl, rfl, rfl, rfl, rfl, rfl⟩ rfl fun L => (ah,7,(aw,6,(aH (0,0) bz rfl (ae,7,rfl,(aN (av ⟨rfl, rfl, rfl⟩ aL) rfl (aa rfl rfl)),ai))),ak)
theorem mD : SndF X 1 390 fH :=
  aY rfl rfl (ps := ["self"]) ⟨rfl, rfl, fL (fun a => rfl), aR rfl, rfl, rfl, rfl, rfl, rfl⟩ rfl fun L => (ah,7,(aE,8,(.inl rfl),rfl,(aH (0,0) l8 rfl (ae,7,rfl,(aN (av ⟨rfl, rfl, rfl⟩ aL) rfl (aa rfl rfl)),ai))),(ah,7,(aP,8,rfl,rfl,rfl,(aW (av ⟨rfl, rfl, rfl, rfl⟩ aL) (aa rfl rfl)),dU),(ah,7,(aw,6,(aa rfl rfl)),ak)))
theorem dD : SndF X 1 411 cm :=
  aY rfl rfl (ps := ["self", "scope", "strength"]) ⟨rfl, rfl, ju (fun a b c => rfl), aR rfl, rfl, rfl, rfl, rfl, rfl⟩ rfl fun L => (ah,7,(aP,8,rfl,rfl,rfl,(aW (av ⟨rfl, rfl, rfl, rfl⟩ (av ⟨rfl, rfl, rfl, rfl⟩ (av ⟨rfl, rfl, rfl, rfl⟩ aL))) (aa rfl rfl)),(ba,8,bB,au)),(ah,7,(aP,8,rfl,rfl,rfl,(aW (av ⟨rfl, rfl, rfl, rfl⟩ (av ⟨rfl, rfl, rfl, rfl⟩ (av ⟨rfl, rfl, rfl, rfl⟩ aL))) (aa rfl rfl)),(aH (0,0) bZ rfl (ae,7,rfl,(aa rfl rfl),ai))),(ah,7,(aP,8,rfl,rfl,rfl,(aW (av ⟨rfl, rfl, rfl, rfl⟩ (av ⟨rfl, rfl, rfl, rfl⟩ (av ⟨rfl, rfl, rfl, rfl⟩ aL))) (aa rfl rfl)),(aa rfl rfl)),ak)))
theorem ja : SndF X 3 455 d8 :=
  hH (h := 2) (C0 := 479) (D := 479) (cc := 443) (g := 411) (ps := ["self", "x", "z"]) ⟨⟨_, _, _, rfl⟩, ⟨_, rfl⟩, ⟨_, rfl⟩, rfl, rfl, rfl, rfl, rfl, rfl, rfl, rfl, rfl, rfl, rfl, ⟨_, rfl, rfl⟩, rfl, ⟨_, _, _, _, _, rfl, rfl⟩⟩ (by decide) rfl rfl
    ⟨rfl, rfl, ju (fun a b c => rfl), aR rfl, rfl, rfl, rfl, rfl, rfl⟩ (fun L => rfl) (fun L => rfl) (fun L => rfl) (fun L => ⟨_, rfl⟩) dD (fun L => (ae,7,rfl,(az,7,(ae,7,rfl,(aa rfl rfl),(ae,7,rfl,(aa rfl rfl),ai))),(ae,7,rfl,aZ,ai))) fun L => ak
theorem jc : SndF X 4 521 d6 :=
  hH (h := 3) (C0 := 545) (D := 545) (cc := 509) (g := 411) (ps := ["self", "coefs", "scope", "c"]) ⟨⟨_, _, _, rfl⟩, ⟨_, rfl⟩, ⟨_, rfl⟩, rfl, rfl, rfl, rfl, rfl, rfl, rfl, rfl, rfl, rfl, rfl, ⟨_, rfl, rfl⟩, rfl, ⟨_, _, _, _, _, rfl, rfl⟩⟩ (by decide) rfl rfl
    ⟨rfl, rfl, wM (fun a b c d => rfl), aR rfl, rfl, rfl, rfl, rfl, rfl⟩ (fun L => rfl) (fun L => rfl) (fun L => rfl) (fun L => ⟨_, rfl⟩) dD (fun L => (ae,7,rfl,(aa rfl rfl),(ae,7,rfl,aZ,ai))) fun L => (ah,7,(aP,8,rfl,rfl,rfl,(aW (av ⟨rfl, rfl, rfl, rfl⟩ (av ⟨rfl, rfl, rfl, rfl⟩ aL)) (aa rfl rfl)),(aH (0,0) bZ rfl (ae,7,rfl,(aa rfl rfl),ai))),(ah,7,(aP,8,rfl,rfl,rfl,(aW (av ⟨rfl, rfl, rfl, rfl⟩ (av ⟨rfl, rfl, rfl, rfl⟩ aL)) (aa rfl rfl)),(aa rfl rfl)),(ah,7,(aP,8,rfl,rfl,rfl,(aW (av ⟨rfl, rfl, rfl, rfl⟩ (av ⟨rfl, rfl, rfl, rfl⟩ aL)) (aa rfl rfl)),(ax rfl rfl rfl rfl pS (by decide) rfl (ae,7,rfl,(aa rfl rfl),(ae,7,rfl,(aa rfl rfl),ai)))),ak)))
theorem iY : SndF X 4 563 d7 :=
  hH (h := 3) (C0 := 587) (D := 587) (cc := 551) (g := 411) (ps := ["self", "coefs", "scope", "c"]) ⟨⟨_, _, _, rfl⟩, ⟨_, rfl⟩, ⟨_, rfl⟩, rfl, rfl, rfl, rfl, rfl, rfl, rfl, rfl, rfl, rfl, rfl, ⟨_, rfl, rfl⟩, rfl, ⟨_, _, _, _, _, rfl, rfl⟩⟩ (by decide) rfl rfl
    ⟨rfl, rfl, wM (fun a b c d => rfl), aR rfl, rfl, rfl, rfl, rfl, rfl⟩ (fun L => rfl) (fun L => rfl) (fun L => rfl) (fun L => ⟨_, rfl⟩) dD (fun L => (ae,7,rfl,(aa rfl rfl),(ae,7,rfl,aZ,ai))) fun L => (ah,7,(aP,8,rfl,rfl,rfl,(aW (av ⟨rfl, rfl, rfl, rfl⟩ (av ⟨rfl, rfl, rfl, rfl⟩ aL)) (aa rfl rfl)),(aH (0,0) bZ rfl (ae,7,rfl,(aa rfl rfl),ai))),(ah,7,(aP,8,rfl,rfl,rfl,(aW (av ⟨rfl, rfl, rfl, rfl⟩ (av ⟨rfl, rfl, rfl, rfl⟩ aL)) (aa rfl rfl)),(aa rfl rfl)),(ah,7,(aP,8,rfl,rfl,rfl,(aW (av ⟨rfl, rfl, rfl, rfl⟩ (av ⟨rfl, rfl, rfl, rfl⟩ aL)) (aa rfl rfl)),(ax rfl rfl rfl rfl pS (by decide) rfl (ae,7,rfl,(aa rfl rfl),(ae,7,rfl,(aa rfl rfl),ai)))),ak)))
theorem h9 : SndF X 6 469 cY :=
  aY rfl rfl (ps := ["self", "store"]) ⟨rfl, rfl, cW (fun a b => rfl), aR rfl, rfl, rfl, rfl, rfl, rfl⟩ rfl fun L => (ah,7,(cf,10,rfl,rfl,(aN (av ⟨rfl, rfl, rfl⟩ (av ⟨rfl, rfl, rfl⟩ (av ⟨rfl, rfl, rfl⟩ aL))) rfl (aa rfl rfl)),(bf,8,rfl,rfl,(aC,8,rfl,(aO (.inl rfl)),(aC,8,rfl,(aO (.inl rfl)),bl,aG),(aA aG)))),(ah,7,(bc,10,(g8,8,(bW,5,(fun _ => rfl),(aN (av ⟨rfl, rfl, rfl⟩ aL) rfl (aa rfl rfl))),(cJ,6,(bW,5,(fun _ => rfl),(ay (h' := 5) (aV ⟨_, ⟨rfl, rfl, rfl, rfl, rfl⟩, SndF.mono cq (by decide : 5 ≤ 5)⟩ be) (by decide) ⟨_, rfl⟩ rfl (aa rfl rfl) (ae,7,rfl,(az,7,(ae,7,rfl,(aa rfl rfl),(ae,7,rfl,aZ,(ae,7,rfl,au,ai)))),(ae,7,rfl,(az,7,ai),ai)))))),(ah,7,(aw,6,bj),ak),ak),(ah,7,(aE,8,(.inl rfl),rfl,(ay (h' := 2) (aV ⟨_, ⟨rfl, rfl, rfl, rfl, rfl⟩, SndF.mono fk (by decide : 2 ≤ 2)⟩ be) (by decide) ⟨_, rfl⟩ rfl (aa rfl rfl) (ae,7,rfl,(aa rfl rfl),ai))),(ah,7,(bc,10,(cJ,6,(bW,5,(fun _ => rfl),(ay (h' := 5) (aV ⟨_, ⟨rfl, rfl, rfl, rfl, rfl⟩, SndF.mono cq (by decide : 5 ≤ 5)⟩ be) (by decide) ⟨_, rfl⟩ rfl (aa rfl rfl) (ae,7,rfl,(az,7,(ae,7,rfl,(aa rfl rfl),(ae,7,rfl,aZ,(ae,7,rfl,(aa rfl rfl),ai)))),(ae,7,rfl,(az,7,(ae,7,rfl,(az,7,(ae,7,rfl,(aa rfl rfl),(ae,7,rfl,aZ,(ae,7,rfl,(aa rfl rfl),ai)))),ai)),ai))))),(ah,7,(aw,6,bj),ak),ak),(ah,7,(bc,10,(cJ,6,(bW,5,(fun _ => rfl),(ay (h' := 5) (aV ⟨_, ⟨rfl, rfl, rfl, rfl, rfl⟩, SndF.mono cq (by decide : 5 ≤ 5)⟩ be) (by decide) ⟨_, rfl⟩ rfl (aa rfl rfl) (ae,7,rfl,(az,7,(ae,7,rfl,(aa rfl rfl),(ae,7,rfl,aZ,(ae,7,rfl,(ba,8,bB,(aa rfl rfl)),ai)))),(ae,7,rfl,(az,7,(ae,7,rfl,(az,7,(ae,7,rfl,(aa rfl rfl),(ae,7,rfl,aZ,(ae,7,rfl,(aa rfl rfl),ai)))),ai)),ai))))),(ah,7,(aw,6,bj),ak),ak),(ah,7,(cN,12,(fun _ => rfl),(bJ,6,(ax rfl rfl rfl rfl rW (by decide) rfl (ae,7,rfl,(ax rfl rfl rfl rfl vo (by decide) rfl (ae,7,rfl,(ay (h' := 1) (aV ⟨_, ⟨rfl, rfl, rfl, rfl, rfl⟩, SndF.mono dt (by decide : 1 ≤ 1)⟩ be) (by decide) ⟨_, rfl⟩ rfl (aa rfl rfl) (ae,7,rfl,(aa rfl rfl),ai)),(ae,7,rfl,(ax rfl rfl rfl rfl w7 (by decide) rfl (ae,7,rfl,(ay (h' := 1) (aV ⟨_, ⟨rfl, rfl, rfl, rfl, rfl⟩, SndF.mono dt (by decide : 1 ≤ 1)⟩ be) (by decide) ⟨_, rfl⟩ rfl (aa rfl rfl) (ae,7,rfl,(aa rfl rfl),ai)),(ae,7,rfl,(ax rfl rfl rfl rfl pq (by decide) rfl (ae,7,rfl,(ay (h' := 1) (aV ⟨_, ⟨rfl, rfl, rfl, rfl, rfl⟩, SndF.mono dt (by decide : 1 ≤ 1)⟩ be) (by decide) ⟨_, rfl⟩ rfl (aa rfl rfl) (ae,7,rfl,(aa rfl rfl),ai)),ai)),ai))),ai))),ai))),(aO (.inl rfl)),(ah,7,(bc,10,(cJ,6,(bW,5,(fun _ => rfl),(ay (h' := 5) (aV ⟨_, ⟨rfl, rfl, rfl, rfl, rfl⟩, SndF.mono cq (by decide : 5 ≤ 5)⟩ be) (by decide) ⟨_, rfl⟩ rfl (aa rfl rfl) (ae,7,rfl,(az,7,(ae,7,rfl,(aa rfl rfl),(ae,7,rfl,aZ,(ae,7,rfl,(aa rfl rfl),ai)))),(ae,7,rfl,(az,7,(ae,7,rfl,(az,7,(ae,7,rfl,(aa rfl rfl),(ae,7,rfl,aZ,(ae,7,rfl,(aH (0,0) n8 rfl (ae,7,rfl,(aa rfl rfl),ai)),ai)))),ai)),ai))))),(ah,7,(aw,6,bj),ak),ak),ak),ak),(ah,7,(aE,8,(.inl rfl),rfl,(aH (0,0) nU rfl (ae,7,rfl,(aH (0,0) n8 rfl (ae,7,rfl,(ay (h' := 2) (aV ⟨_, ⟨rfl, rfl, rfl, rfl, rfl⟩, SndF.mono gE (by decide : 2 ≤ 2)⟩ be) (by decide) ⟨_, rfl⟩ rfl (aa rfl rfl) (ae,7,rfl,(aa rfl rfl),ai)),ai)),(ae,7,rfl,(aH (0,0) n8 rfl (ae,7,rfl,(ay (h' := 2) (aV ⟨_, ⟨rfl, rfl, rfl, rfl, rfl⟩, SndF.mono fk (by decide : 2 ≤ 2)⟩ be) (by decide) ⟨_, rfl⟩ rfl (aa rfl rfl) (ae,7,rfl,(aa rfl rfl),ai)),ai)),ai)))),(ah,7,(bc,10,(cJ,6,(bW,5,(fun _ => rfl),(ay (h' := 5) (aV ⟨_, ⟨rfl, rfl, rfl, rfl, rfl⟩, SndF.mono cq (by decide : 5 ≤ 5)⟩ be) (by decide) ⟨_, rfl⟩ rfl (aa rfl rfl) (ae,7,rfl,(az,7,(ae,7,rfl,(aa rfl rfl),(ae,7,rfl,aZ,(ae,7,rfl,(aa rfl rfl),ai)))),(ae,7,rfl,(az,7,(ae,7,rfl,(az,7,(ae,7,rfl,(aa rfl rfl),(ae,7,rfl,aZ,(ae,7,rfl,(ba,8,bB,(aa rfl rfl)),ai)))),(ae,7,rfl,(az,7,(ae,7,rfl,(aa rfl rfl),(ae,7,rfl,aZ,(ae,7,rfl,(aa rfl rfl),ai)))),ai))),ai))))),(ah,7,(aw,6,bj),ak),ak),(ah,7,(cN,12,(fun _ => rfl),(bJ,6,(ax rfl rfl rfl rfl rW (by decide) rfl (ae,7,rfl,(ax rfl rfl rfl rfl vo (by decide) rfl (ae,7,rfl,(ay (h' := 1) (aV ⟨_, ⟨rfl, rfl, rfl, rfl, rfl⟩, SndF.mono dt (by decide : 1 ≤ 1)⟩ be) (by decide) ⟨_, rfl⟩ rfl (aa rfl rfl) (ae,7,rfl,(aa rfl rfl),ai)),(ae,7,rfl,(ax rfl rfl rfl rfl w7 (by decide) rfl (ae,7,rfl,(ay (h' := 1) (aV ⟨_, ⟨rfl, rfl, rfl, rfl, rfl⟩, SndF.mono dt (by decide : 1 ≤ 1)⟩ be) (by decide) ⟨_, rfl⟩ rfl (aa rfl rfl) (ae,7,rfl,(aa rfl rfl),ai)),(ae,7,rfl,(ax rfl rfl rfl rfl pq (by decide) rfl (ae,7,rfl,(ay (h' := 1) (aV ⟨_, ⟨rfl, rfl, rfl, rfl, rfl⟩, SndF.mono dt (by decide : 1 ≤ 1)⟩ be) (by decide) ⟨_, rfl⟩ rfl (aa rfl rfl) (ae,7,rfl,(aa rfl rfl),ai)),ai)),ai))),ai))),ai))),(aO (.inl rfl)),(ah,7,(bc,10,(cJ,6,(bW,5,(fun _ => rfl),(ay (h' := 5) (aV ⟨_, ⟨rfl, rfl, rfl, rfl, rfl⟩, SndF.mono cq (by decide : 5 ≤ 5)⟩ be) (by decide) ⟨_, rfl⟩ rfl (aa rfl rfl) (ae,7,rfl,(az,7,(ae,7,rfl,(aa rfl rfl),(ae,7,rfl,aZ,(ae,7,rfl,(aa rfl rfl),ai)))),(ae,7,rfl,(az,7,(ae,7,rfl,(az,7,(ae,7,rfl,(aa rfl rfl),(ae,7,rfl,aZ,(ae,7,rfl,(aa rfl rfl),ai)))),(ae,7,rfl,(az,7,(ae,7,rfl,(aa rfl rfl),(ae,7,rfl,aZ,(ae,7,rfl,(ba,8,bB,(aa rfl rfl)),ai)))),ai))),ai))))),(ah,7,(aw,6,bj),ak),ak),ak),ak),(ah,7,(aw,6,bj),ak))))))))))
theorem kH : SndF X 3 493 fi :=
  aY rfl rfl (ps := ["store", "coef", "x"]) ⟨rfl, rfl, ju (fun a b c => rfl), aR rfl, rfl, rfl, rfl, rfl, rfl⟩ rfl fun L => (ah,7,(aw,6,(di,10,(aq,10,rfl,dI,(aa rfl rfl),au),(aM,10,dO,(aa rfl rfl),(ay (h' := 2) (aV ⟨_, ⟨rfl, rfl, rfl, rfl, rfl⟩, SndF.mono gE (by decide : 2 ≤ 2)⟩ be) (by decide) ⟨_, rfl⟩ rfl (aa rfl rfl) (ae,7,rfl,(aa rfl rfl),ai))),(aM,10,dO,(aa rfl rfl),(ay (h' := 2) (aV ⟨_, ⟨rfl, rfl, rfl, rfl, rfl⟩, SndF.mono fk (by decide : 2 ≤ 2)⟩ be) (by decide) ⟨_, rfl⟩ rfl (aa rfl rfl) (ae,7,rfl,(aa rfl rfl),ai))))),ak)
theorem hO : SndF X 3 500 dw :=
  aY rfl rfl (ps := ["store", "rows", "skipped"]) ⟨rfl, rfl, ju (fun a b c => rfl), aR rfl, rfl, rfl, rfl, rfl, rfl⟩ rfl fun L => (ah,7,(aE,8,(.inl rfl),rfl,(bN,6,ai)),(ah,7,(cN,12,(fun _ => rfl),(pp (0,0) rfl (ae,7,rfl,(aa rfl rfl),ai)),(bf,8,rfl,rfl,(aC,8,rfl,(aO (.inl rfl)),(aC,8,rfl,(bf,8,rfl,rfl,(aC,8,rfl,(aO (.inl rfl)),(aC,8,rfl,(aO (.inl rfl)),bl,aG),(aA aG))),bl,aG),(aA aG))),(ah,7,(bc,10,(aq,10,rfl,bF,(aa rfl rfl),(aa rfl rfl)),(ah,7,kg,ak),ak),(ah,7,(bc,10,(fm,8,(aq,10,rfl,dI,(aa rfl rfl),au),(aq,10,rfl,dI,(ay (h' := 2) (aV ⟨_, ⟨rfl, rfl, rfl, rfl, rfl⟩, SndF.mono gE (by decide : 2 ≤ 2)⟩ be) (by decide) ⟨_, rfl⟩ rfl (aa rfl rfl) (ae,7,rfl,(aa rfl rfl),ai)),(aI,8,(fun o i => ⟨_, rfl⟩),(aI,8,(fun o i => ⟨_, rfl⟩),(ay (h' := 1) (aV ⟨_, ⟨rfl, rfl, rfl, rfl, rfl⟩, SndF.mono fK (by decide : 1 ≤ 1)⟩ be) (by decide) ⟨_, rfl⟩ rfl (aa rfl rfl) (ae,7,rfl,(aa rfl rfl),ai)),au),au))),(ah,7,(bp,6,rfl,rfl,(br PySem.F.slot_list_append PySem.F.type_list_append bE ⟨_, rfl⟩ rfl (aa rfl rfl) (ae,7,rfl,(az,7,(ae,7,rfl,(aa rfl rfl),(ae,7,rfl,aZ,(ae,7,rfl,(ay (h' := 2) (aV ⟨_, ⟨rfl, rfl, rfl, rfl, rfl⟩, SndF.mono gE (by decide : 2 ≤ 2)⟩ be) (by decide) ⟨_, rfl⟩ rfl (aa rfl rfl) (ae,7,rfl,(aa rfl rfl),ai)),ai)))),ai))),ak),(ah,7,(bc,10,(fm,8,(aq,10,rfl,gu,(aa rfl rfl),au),(aq,10,rfl,gu,(ay (h' := 2) (aV ⟨_, ⟨rfl, rfl, rfl, rfl, rfl⟩, SndF.mono fk (by decide : 2 ≤ 2)⟩ be) (by decide) ⟨_, rfl⟩ rfl (aa rfl rfl) (ae,7,rfl,(aa rfl rfl),ai)),(aI,8,(fun o i => ⟨_, rfl⟩),(aI,8,(fun o i => ⟨_, rfl⟩),(ay (h' := 1) (aV ⟨_, ⟨rfl, rfl, rfl, rfl, rfl⟩, SndF.mono fK (by decide : 1 ≤ 1)⟩ be) (by decide) ⟨_, rfl⟩ rfl (aa rfl rfl) (ae,7,rfl,(aa rfl rfl),ai)),(ba,8,bB,au)),au))),(ah,7,(bp,6,rfl,rfl,(br PySem.F.slot_list_append PySem.F.type_list_append bE ⟨_, rfl⟩ rfl (aa rfl rfl) (ae,7,rfl,(az,7,(ae,7,rfl,(aa rfl rfl),(ae,7,rfl,aZ,(ae,7,rfl,(ay (h' := 2) (aV ⟨_, ⟨rfl, rfl, rfl, rfl, rfl⟩, SndF.mono fk (by decide : 2 ≤ 2)⟩ be) (by decide) ⟨_, rfl⟩ rfl (aa rfl rfl) (ae,7,rfl,(aa rfl rfl),ai)),ai)))),ai))),ak),ak),ak)),ak)),ak),(ah,7,(aw,6,(aH (0,0) bZ rfl (ae,7,rfl,(aa rfl rfl),ai))),ak)))
theorem rN : SndF X 6 505 ia :=
  aY rfl rfl (ps := ["store", "rows", "c"]) ⟨rfl, rfl, ju (fun a b c => rfl), aR rfl, rfl, rfl, rfl, rfl, rfl⟩ rfl fun L => (ah,7,(aE,8,(.inl rfl),rfl,(aM,10,cn,(aa rfl rfl),(aH (0,0) xN rfl (ae,7,rfl,(cB,16,dA,⟨cQ rfl, fun _ => rfl, (bJ,6,(aa rfl rfl)), fun C0 => (bf,8,rfl,rfl,(aC,8,rfl,(bv rfl),(aC,8,rfl,(bv rfl),bl,aG),(aA aG))), fun C0 => dS, fun C0 D0 hD => (cv,6,(ax rfl rfl rfl rfl kH (by decide) rfl (ae,7,rfl,(aa rfl rfl),(ae,7,rfl,(aa rfl rfl),(ae,7,rfl,(aa rfl rfl),ai)))),hD)⟩),ai)))),(ah,7,(bc,10,(aq,10,rfl,gu,(aa rfl rfl),au),(ah,7,(aw,6,(ay (h' := 1) (aV ⟨_, ⟨rfl, rfl, rfl, rfl, rfl⟩, SndF.mono fS (by decide : 1 ≤ 1)⟩ be) (by decide) ⟨_, rfl⟩ rfl (aa rfl rfl) (ae,7,rfl,(ax rfl rfl rfl rfl hO (by decide) rfl (ae,7,rfl,(aa rfl rfl),(ae,7,rfl,(aa rfl rfl),(ae,7,rfl,(ba,8,bB,au),ai)))),ai))),ak),ak),(ah,7,(cN,12,(fun _ => rfl),(pp (0,0) rfl (ae,7,rfl,(aa rfl rfl),ai)),(bf,8,rfl,rfl,(aC,8,rfl,(aO (.inl rfl)),(aC,8,rfl,(bf,8,rfl,rfl,(aC,8,rfl,(aO (.inl rfl)),(aC,8,rfl,(aO (.inl rfl)),bl,aG),(aA aG))),bl,aG),(aA aG))),(ah,7,(aE,8,(.inl rfl),rfl,(aM,10,bw,(aa rfl rfl),(ax rfl rfl rfl rfl kH (by decide) rfl (ae,7,rfl,(aa rfl rfl),(ae,7,rfl,(aa rfl rfl),(ae,7,rfl,(aa rfl rfl),ai)))))),(ah,7,(aE,8,(.inl rfl),rfl,(di,10,(aq,10,rfl,dI,(aa rfl rfl),au),(az,7,(ae,7,rfl,(aa rfl rfl),(ae,7,rfl,aZ,(ae,7,rfl,(aM,10,mS,(aa rfl rfl),(aa rfl rfl)),ai)))),(az,7,(ae,7,rfl,(aa rfl rfl),(ae,7,rfl,aZ,(ae,7,rfl,(ba,8,bB,(aM,10,mS,(aa rfl rfl),(ba,8,bB,(aa rfl rfl)))),ai)))))),(ah,7,(bc,10,(fm,8,(aq,10,rfl,cu,(ay (h' := 5) (aV ⟨_, ⟨rfl, rfl, rfl, rfl, rfl⟩, SndF.mono oV (by decide : 5 ≤ 5)⟩ be) (by decide) ⟨_, rfl⟩ rfl (aa rfl rfl) (ae,7,rfl,(aa rfl rfl),ai)),au),(cJ,6,(bW,5,(fun _ => rfl),(ay (h' := 5) (aV ⟨_, ⟨rfl, rfl, rfl, rfl, rfl⟩, SndF.mono cq (by decide : 5 ≤ 5)⟩ be) (by decide) ⟨_, rfl⟩ rfl (aa rfl rfl) (ae,7,rfl,(aa rfl rfl),(ae,7,rfl,(ax rfl rfl rfl rfl hO (by decide) rfl (ae,7,rfl,(aa rfl rfl),(ae,7,rfl,(aa rfl rfl),(ae,7,rfl,(aa rfl rfl),ai)))),ai)))))),(ah,7,(aw,6,bj),ak),ak),ak))),ak),(ah,7,(aw,6,bj),ak))))
theorem iM : SndF X 7 528 cZ :=
  aY rfl rfl (ps := ["self", "store"]) ⟨rfl, rfl, cW (fun a b => rfl), aR rfl, rfl, rfl, rfl, rfl, rfl⟩ rfl fun L => (ah,7,(aw,6,(ax rfl rfl rfl rfl rN (by decide) rfl (ae,7,rfl,(aa rfl rfl),(ae,7,rfl,(aN (av ⟨rfl, rfl, rfl⟩ (av ⟨rfl, rfl, rfl⟩ aL)) rfl (aa rfl rfl)),(ae,7,rfl,(aN (av ⟨rfl, rfl, rfl⟩ (av ⟨rfl, rfl, rfl⟩ aL)) rfl (aa rfl rfl)),ai))))),ak)
theorem iz : SndF X 6 570 cV :=
  aY rfl rfl (ps := ["self", "store"]) ⟨rfl, rfl, cW (fun a b => rfl), aR rfl, rfl, rfl, rfl, rfl, rfl⟩ rfl fun L => (ah,7,(bV,9,["rest", "reasons", "waiting"],rfl,rfl,(dB rfl),(az,7,(ae,7,rfl,(aN (av ⟨rfl, rfl, rfl⟩ (av ⟨rfl, rfl, rfl⟩ aL)) rfl (aa rfl rfl)),(ae,7,rfl,(bN,6,ai),(ae,7,rfl,(bN,6,ai),ai))))),(ah,7,(cN,12,(fun _ => rfl),(bJ,6,(aN (av ⟨rfl, rfl, rfl⟩ (av ⟨rfl, rfl, rfl⟩ aL)) rfl (aa rfl rfl))),(bf,8,rfl,rfl,(aC,8,rfl,(aO (.inl rfl)),(aC,8,rfl,(aO (.inl rfl)),bl,aG),(aA aG))),(ah,7,(bc,10,(cJ,6,(bW,5,(fun _ => rfl),(ay (h' := 1) (aV ⟨_, ⟨rfl, rfl, rfl, rfl, rfl⟩, SndF.mono li (by decide : 1 ≤ 1)⟩ be) (by decide) ⟨_, rfl⟩ rfl (aa rfl rfl) (ae,7,rfl,(aa rfl rfl),ai)))),(ah,7,(bp,6,rfl,rfl,(br PySem.F.slot_list_append PySem.F.type_list_append bE ⟨_, rfl⟩ rfl (aa rfl rfl) (ae,7,rfl,(az,7,(ae,7,rfl,(aa rfl rfl),(ae,7,rfl,(aa rfl rfl),ai))),ai))),(ah,7,kg,ak)),ak),(ah,7,(aE,8,(.inl rfl),rfl,(aM,10,cn,(aa rfl rfl),(aM,10,dO,(aa rfl rfl),(ay (h' := 1) (aV ⟨_, ⟨rfl, rfl, rfl, rfl, rfl⟩, SndF.mono jv (by decide : 1 ≤ 1)⟩ be) (by decide) ⟨_, rfl⟩ rfl (aa rfl rfl) (ae,7,rfl,(aa rfl rfl),ai))))),(ah,7,(bc,10,(aq,10,rfl,cu,(ay (h' := 1) (aV ⟨_, ⟨rfl, rfl, rfl, rfl, rfl⟩, SndF.mono fK (by decide : 1 ≤ 1)⟩ be) (by decide) ⟨_, rfl⟩ rfl (aa rfl rfl) (ae,7,rfl,(aa rfl rfl),ai)),(ay (h' := 1) (aV ⟨_, ⟨rfl, rfl, rfl, rfl, rfl⟩, SndF.mono dt (by decide : 1 ≤ 1)⟩ be) (by decide) ⟨_, rfl⟩ rfl (aa rfl rfl) (ae,7,rfl,(aa rfl rfl),ai))),(ah,7,(bp,6,rfl,rfl,(br PySem.F.slot_list_append PySem.F.type_list_append bE ⟨_, rfl⟩ rfl (aa rfl rfl) (ae,7,rfl,(az,7,(ae,7,rfl,(aa rfl rfl),(ae,7,rfl,aZ,(ae,7,rfl,(ay (h' := 1) (aV ⟨_, ⟨rfl, rfl, rfl, rfl, rfl⟩, SndF.mono jv (by decide : 1 ≤ 1)⟩ be) (by decide) ⟨_, rfl⟩ rfl (aa rfl rfl) (ae,7,rfl,(aa rfl rfl),ai)),ai)))),ai))),ak),ak),ak))),ak),(ah,7,(bc,10,(aq,10,rfl,bF,(aH (0,0) bz rfl (ae,7,rfl,(aa rfl rfl),ai)),au),(ah,7,(aw,6,(wR,8,(bh,10,rfl,cu,(aa rfl rfl),au),(ay (h' := 1) (aV ⟨_, ⟨rfl, rfl, rfl, rfl, rfl⟩, SndF.mono fS (by decide : 1 ≤ 1)⟩ be) (by decide) ⟨_, rfl⟩ rfl (aa rfl rfl) (ae,7,rfl,(aH (0,0) bZ rfl (ae,7,rfl,(aa rfl rfl),ai)),ai)))),ak),ak),(ah,7,(cf,10,rfl,rfl,(aI,8,(fun o i => ⟨_, rfl⟩),(aa rfl rfl),au),(bf,8,rfl,rfl,(aC,8,rfl,(aO (.inl rfl)),(aC,8,rfl,(aO (.inl rfl)),bl,aG),(aA aG)))),(ah,7,(bc,10,(g8,8,(aq,10,rfl,dI,(aH (0,0) bz rfl (ae,7,rfl,(aa rfl rfl),ai)),au),(aq,10,rfl,cu,(aM,10,ii,(aa rfl rfl),(aa rfl rfl)),au)),(ah,7,(aw,6,bj),ak),ak),(ah,7,(aw,6,(ay (h' := 5) (aV ⟨_, ⟨rfl, rfl, rfl, rfl, rfl⟩, SndF.mono cq (by decide : 5 ≤ 5)⟩ be) (by decide) ⟨_, rfl⟩ rfl (aa rfl rfl) (ae,7,rfl,(az,7,(ae,7,rfl,(aa rfl rfl),(ae,7,rfl,aZ,(ae,7,rfl,(aM,10,mS,(aa rfl rfl),(aa rfl rfl)),ai)))),(ae,7,rfl,(aH (0,0) bZ rfl (ae,7,rfl,(aa rfl rfl),ai)),ai)))),ak))))))
theorem ky : SndF X 1 35 dJ :=
  aY rfl rfl (ps := ["self", "store"]) ⟨rfl, rfl, cW (fun a b => rfl), aR rfl, rfl, rfl, rfl, rfl, rfl⟩ rfl fun L => (ah,7,(aP,8,rfl,rfl,rfl,(aW (av ⟨rfl, rfl, rfl, rfl⟩ aL) (aa rfl rfl)),(aa rfl rfl)),(ah,7,(aP,8,rfl,rfl,rfl,(aW (av ⟨rfl, rfl, rfl, rfl⟩ aL) (aa rfl rfl)),(bN,6,ai)),(ah,7,(aP,8,rfl,rfl,rfl,(aW (av ⟨rfl, rfl, rfl, rfl⟩ aL) (aa rfl rfl)),dU),(ah,7,(aP,8,rfl,rfl,rfl,(aW (av ⟨rfl, rfl, rfl, rfl⟩ aL) (aa rfl rfl)),dU),(ah,7,(aP,8,rfl,rfl,rfl,(aW (av ⟨rfl, rfl, rfl, rfl⟩ aL) (aa rfl rfl)),dU),(ah,7,(aP,8,rfl,rfl,rfl,(aW (av ⟨rfl, rfl, rfl, rfl⟩ aL) (aa rfl rfl)),cA),(ah,7,(aP,8,rfl,rfl,rfl,(aW (av ⟨rfl, rfl, rfl, rfl⟩ aL) (aa rfl rfl)),dU),(ah,7,(aP,8,rfl,rfl,rfl,(aW (av ⟨rfl, rfl, rfl, rfl⟩ aL) (aa rfl rfl)),bj),(ah,7,(aP,8,rfl,rfl,rfl,(aW (av ⟨rfl, rfl, rfl, rfl⟩ aL) (aa rfl rfl)),(ba,8,bB,au)),ak)))))))))
theorem kG : SndF X 1 42 eZ :=
  aY rfl rfl (ps := ["self", "propagator"]) ⟨rfl, rfl, cW (fun a b => rfl), aR rfl, rfl, rfl, rfl, rfl, rfl⟩ rfl fun L => (ah,7,(aE,8,(.inl rfl),rfl,(aH (0,0) bz rfl (ae,7,rfl,(aN (av ⟨rfl, rfl, rfl⟩ aL) rfl (aa rfl rfl)),ai))),(ah,7,(aP,8,rfl,rfl,rfl,(aW (av ⟨rfl, rfl, rfl, rfl⟩ (av ⟨rfl, rfl, rfl, rfl⟩ (av ⟨rfl, rfl, rfl, rfl⟩ aL))) (aa rfl rfl)),(aa rfl rfl)),(ah,7,(bp,6,rfl,rfl,(br PySem.F.slot_list_append PySem.F.type_list_append bE ⟨_, rfl⟩ rfl (aN (av ⟨rfl, rfl, rfl⟩ aL) rfl (aa rfl rfl)) (ae,7,rfl,(aa rfl rfl),ai))),(ah,7,(cN,12,(fun _ => rfl),(bJ,6,(aN (av ⟨rfl, rfl, rfl⟩ (av ⟨rfl, rfl, rfl⟩ (av ⟨rfl, rfl, rfl⟩ aL))) rfl (aa rfl rfl))),(aO (.inl rfl)),(ah,7,(bc,10,(aq,10,rfl,jG,(aa rfl rfl),(gg PySem.F.slot_dict_setdefault PySem.F.type_dict_setdefault mf ⟨_, rfl⟩ rfl (aN (av ⟨rfl, rfl, rfl⟩ aL) rfl (aa rfl rfl)) (ae,7,rfl,(aa rfl rfl),(ae,7,rfl,(bN,6,ai),ai)))),(ah,7,(bp,6,rfl,rfl,(br PySem.F.slot_list_append PySem.F.type_list_append bE ⟨_, rfl⟩ rfl (aI,8,(fun o i => ⟨_, rfl⟩),(aN (av ⟨rfl, rfl, rfl⟩ aL) rfl (aa rfl rfl)),(aa rfl rfl)) (ae,7,rfl,(aa rfl rfl),ai))),ak),ak),ak),ak),(ah,7,(aP,8,rfl,rfl,rfl,(cS,8,(aN (av ⟨rfl, rfl, rfl⟩ aL) rfl (aa rfl rfl)),(aa rfl rfl)),bj),(ah,7,(aP,8,rfl,rfl,rfl,(cS,8,(aN (av ⟨rfl, rfl, rfl⟩ aL) rfl (aa rfl rfl)),(aa rfl rfl)),bj),(ah,7,(aw,6,(aa rfl rfl)),ak)))))))
theorem jp : SndF X 2 56 fB :=
  aY rfl rfl (ps := ["self", "speaker"]) ⟨rfl, rfl, cW (fun a b => rfl), aR rfl, rfl, rfl, rfl, rfl, rfl⟩ rfl fun L => (ah,7,(cN,12,(fun _ => rfl),(bJ,6,(ay (h' := 1) (aV ⟨_, ⟨rfl, rfl, rfl, rfl, rfl⟩, SndF.mono mD (by decide : 1 ≤ 1)⟩ be) (by decide) ⟨_, rfl⟩ rfl (aN (av ⟨rfl, rfl, rfl⟩ aL) rfl (aa rfl rfl)) ai)),(aO (.inl rfl)),(ah,7,(bc,10,(aq,10,rfl,cu,(aa rfl rfl),(ba,8,bB,au)),(ah,7,(aP,8,rfl,rfl,rfl,(cS,8,(aN (av ⟨rfl, rfl, rfl⟩ aL) rfl (aa rfl rfl)),(aa rfl rfl)),bj),(ah,7,(aP,8,rfl,rfl,rfl,(aW (av ⟨rfl, rfl, rfl, rfl⟩ aL) (aa rfl rfl)),bj),ak)),ak),(ah,7,(cN,12,(fun _ => rfl),(bJ,6,(gg PySem.F.slot_dict_get PySem.F.type_dict_get rH ⟨_, rfl⟩ rfl (aN (av ⟨rfl, rfl, rfl⟩ aL) rfl (aa rfl rfl)) (ae,7,rfl,(aa rfl rfl),(ae,7,rfl,(az,7,ai),ai)))),(aO (.inl rfl)),(ah,7,(bc,10,(aq,10,rfl,cu,(aa rfl rfl),(aa rfl rfl)),(ah,7,(aP,8,rfl,rfl,rfl,(cS,8,(aN (av ⟨rfl, rfl, rfl⟩ aL) rfl (aa rfl rfl)),(aa rfl rfl)),bj),ak),ak),ak),ak),ak)),ak),ak)
theorem kT : SndF X 8 63 eX :=
  aY rfl rfl (ps := ["self"]) ⟨rfl, rfl, fL (fun a => rfl), aR rfl, rfl, rfl, rfl, rfl, rfl⟩ rfl fun L => (ah,7,(bc,10,(fm,8,(bW,5,(fun _ => rfl),(aN (av ⟨rfl, rfl, rfl⟩ aL) rfl (aa rfl rfl))),(aq,10,rfl,jW,(aN (av ⟨rfl, rfl, rfl⟩ aL) rfl (aa rfl rfl)),cA)),tn,(ah,7,(aE,8,(.inl rfl),rfl,(aH (0,0) oH rfl (ae,7,rfl,(aN (av ⟨rfl, rfl, rfl⟩ aL) rfl (aa rfl rfl)),ai))),(ah,7,(yW,9,(aN (av ⟨rfl, rfl, rfl⟩ aL) rfl (aa rfl rfl)),(aa rfl rfl)),(ah,7,(bc,10,(aq,10,rfl,bF,(ay (h' := 1) (aV ⟨_, ⟨rfl, rfl, rfl, rfl, rfl⟩, SndF.mono gF (by decide : 1 ≤ 1)⟩ be) (by decide) ⟨_, rfl⟩ rfl (aN (av ⟨rfl, rfl, rfl⟩ aL) rfl (aa rfl rfl)) ai),au),(ah,7,(bp,6,rfl,rfl,(gg PySem.F.slot_dict_pop PySem.F.type_dict_pop v8 ⟨_, rfl⟩ rfl (aN (av ⟨rfl, rfl, rfl⟩ aL) rfl (aa rfl rfl)) (ae,7,rfl,(aa rfl rfl),(ae,7,rfl,cA,ai)))),ak),ak),(ah,7,(aP,8,rfl,rfl,rfl,(aW (av ⟨rfl, rfl, rfl, rfl⟩ aL) (aN (av ⟨rfl, rfl, rfl⟩ aL) rfl (aa rfl rfl))),(aa rfl rfl)),(ah,7,(aE,8,(.inl rfl),rfl,(ay (h' := 7) (aV ⟨_, ⟨rfl, rfl, rfl, rfl, rfl⟩, SndF.mono h9 (by decide : 6 ≤ 7)⟩ (aV ⟨_, ⟨rfl, rfl, rfl, rfl, rfl⟩, SndF.mono iM (by decide : 7 ≤ 7)⟩ (aV ⟨_, ⟨rfl, rfl, rfl, rfl, rfl⟩, SndF.mono iz (by decide : 6 ≤ 7)⟩ be))) (by decide) ⟨_, rfl⟩ rfl (aI,8,(fun o i => ⟨_, rfl⟩),(aN (av ⟨rfl, rfl, rfl⟩ aL) rfl (aa rfl rfl)),(aa rfl rfl)) (ae,7,rfl,(aN (av ⟨rfl, rfl, rfl⟩ aL) rfl (aa rfl rfl)),ai))),ak)))))),(ah,7,(bp,6,rfl,rfl,(ay (h' := 2) (aV ⟨_, ⟨rfl, rfl, rfl, rfl, rfl⟩, SndF.mono jp (by decide : 2 ≤ 2)⟩ be) (by decide) ⟨_, rfl⟩ rfl (aa rfl rfl) (ae,7,rfl,(aN (av ⟨rfl, rfl, rfl⟩ aL) rfl (aN (av ⟨rfl, rfl, rfl⟩ aL) rfl (aa rfl rfl))),ai))),(ah,7,(aw,6,(aa rfl rfl)),ak)))
theorem kD : SndF X 1 70 eV :=
  aY rfl rfl (ps := ["self"]) ⟨rfl, rfl, fL (fun a => rfl), aR rfl, rfl, rfl, rfl, rfl, rfl⟩ rfl fun L => (ah,7,(aw,6,(wR,8,(bh,10,rfl,dI,(aH (0,0) bz rfl (ae,7,rfl,(aN (av ⟨rfl, rfl, rfl⟩ aL) rfl (aa rfl rfl)),ai)),au),(mF,8,(aN (av ⟨rfl, rfl, rfl⟩ aL) rfl (aa rfl rfl)),(bh,10,rfl,jW,(aN (av ⟨rfl, rfl, rfl⟩ aL) rfl (aa rfl rfl)),cA)))),ak)
theorem eH : SndF X 9 77 bY :=
  aY rfl rfl (ps := ["self"]) ⟨rfl, rfl, fL (fun a => rfl), aR rfl, rfl, rfl, rfl, rfl, rfl⟩ rfl fun L => (ah,7,(aP,8,rfl,rfl,rfl,(aW (av ⟨rfl, rfl, rfl, rfl⟩ aL) (aa rfl rfl)),bj),(ah,7,(bp,6,rfl,rfl,(gg PySem.F.slot_dict_update PySem.F.type_dict_update sD ⟨_, rfl⟩ rfl (aN (av ⟨rfl, rfl, rfl⟩ aL) rfl (aa rfl rfl)) (ae,7,rfl,(aN (av ⟨rfl, rfl, rfl⟩ aL) rfl (aa rfl rfl)),ai))),(ah,7,(bp,6,rfl,rfl,(ay (h' := 2) (aV ⟨_, ⟨rfl, rfl, rfl, rfl, rfl⟩, SndF.mono jp (by decide : 2 ≤ 2)⟩ be) (by decide) ⟨_, rfl⟩ rfl (aa rfl rfl) (ae,7,rfl,(ba,8,bB,au),ai))),(ah,7,(aE,8,(.inl rfl),rfl,(xl,6,(aN (av ⟨rfl, rfl, rfl⟩ aL) rfl (aN (av ⟨rfl, rfl, rfl⟩ aL) rfl (aa rfl rfl))))),(ah,7,(aP,8,rfl,rfl,rfl,(aW (av ⟨rfl, rfl, rfl, rfl⟩ aL) (aN (av ⟨rfl, rfl, rfl⟩ aL) rfl (aa rfl rfl))),(ba,8,bB,au)),(ah,7,(lF,10,(fm,8,(bW,5,(fun _ => rfl),(aa rfl rfl)),(bW,5,(fun _ => rfl),(ay (h' := 1) (aV ⟨_, ⟨rfl, rfl, rfl, rfl, rfl⟩, SndF.mono kD (by decide : 1 ≤ 1)⟩ be) (by decide) ⟨_, rfl⟩ rfl (aa rfl rfl) ai))),(ah,7,(aE,8,(.inl rfl),rfl,(ay (h' := 8) (aV ⟨_, ⟨rfl, rfl, rfl, rfl, rfl⟩, SndF.mono kT (by decide : 8 ≤ 8)⟩ be) (by decide) ⟨_, rfl⟩ rfl (aa rfl rfl) ai)),ak),ak),(ah,7,(bc,10,(cJ,6,(bW,5,(fun _ => rfl),(aa rfl rfl))),(ah,7,(aP,8,rfl,rfl,rfl,(aW (av ⟨rfl, rfl, rfl, rfl⟩ aL) (aa rfl rfl)),(aN (av ⟨rfl, rfl, rfl⟩ aL) rfl (aN (av ⟨rfl, rfl, rfl⟩ aL) rfl (aa rfl rfl)))),(ah,7,(aP,8,rfl,rfl,rfl,(aW (av ⟨rfl, rfl, rfl, rfl⟩ aL) (aa rfl rfl)),(aH (0,0) v5 rfl (ae,7,rfl,(aN (av ⟨rfl, rfl, rfl⟩ aL) rfl (aa rfl rfl)),ai))),(ah,7,(aP,8,rfl,rfl,rfl,(aW (av ⟨rfl, rfl, rfl, rfl⟩ aL) (aa rfl rfl)),dU),ak))),ak),(ah,7,(aP,8,rfl,rfl,rfl,(aW (av ⟨rfl, rfl, rfl, rfl⟩ aL) (aN (av ⟨rfl, rfl, rfl⟩ aL) rfl (aa rfl rfl))),(ba,8,bB,au)),(ah,7,(aw,6,(aa rfl rfl)),ak)))))))))
theorem bI : SndF X 1 596 a8 :=
  aY rfl rfl (ps := ["urn", "many"]) ⟨rfl, rfl, cW (fun a b => rfl), aR rfl, rfl, rfl, rfl, rfl, rfl⟩ rfl fun L => (ah,7,(aE,8,(.inl rfl),rfl,(aI,8,(fun o i => ⟨_, rfl⟩),(aa rfl rfl),aZ)),(ah,7,(aP,8,rfl,rfl,rfl,(cS,8,(aa rfl rfl),aZ),(aM,10,bw,(aa rfl rfl),au)),(ah,7,(bc,10,(aq,10,rfl,gu,(aa rfl rfl),(aH (0,0) bz rfl (ae,7,rfl,(aI,8,(fun o i => ⟨_, rfl⟩),(aa rfl rfl),aZ),ai))),(ah,7,(aw,6,(aM,10,ii,(aI,8,(fun o i => ⟨_, rfl⟩),(aI,8,(fun o i => ⟨_, rfl⟩),(aa rfl rfl),aZ),(aa rfl rfl)),(aa rfl rfl))),ak),ak),(ah,7,(aw,6,(aM,10,ii,(aM,10,ii,(aM,10,bw,(aM,10,bw,(aM,10,bw,(aM,10,dO,(aM,10,dO,au,(aa rfl rfl)),(aa rfl rfl)),(aM,10,dO,au,(aa rfl rfl))),(aM,10,dO,au,(aH (0,0) bz rfl (ae,7,rfl,(aI,8,(fun o i => ⟨_, rfl⟩),(aa rfl rfl),aZ),ai)))),au),au),(aa rfl rfl))),ak))))
theorem lT : SndF X 2 603 dn :=
  aY rfl rfl (ps := ["urn"]) ⟨rfl, rfl, fL (fun a => rfl), aR rfl, rfl, rfl, rfl, rfl, rfl⟩ rfl fun L => (ah,7,(bV,9,["kind", "x"],rfl,rfl,(dB rfl),(az,7,(ae,7,rfl,(aI,8,(fun o i => ⟨_, rfl⟩),(az,7,(ae,7,rfl,aZ,(ae,7,rfl,aZ,(ae,7,rfl,aZ,ai)))),(ax rfl rfl rfl rfl bI (by decide) rfl (ae,7,rfl,(aa rfl rfl),(ae,7,rfl,au,ai)))),(ae,7,rfl,(ax rfl rfl rfl rfl bI (by decide) rfl (ae,7,rfl,(aa rfl rfl),(ae,7,rfl,au,ai))),ai)))),(ah,7,(aE,8,(.inl rfl),rfl,(aM,10,ii,(aM,10,bw,(aM,10,bw,(aa rfl rfl),au),(ax rfl rfl rfl rfl bI (by decide) rfl (ae,7,rfl,(aa rfl rfl),(ae,7,rfl,au,ai)))),au)),(ah,7,(bc,10,(aq,10,rfl,bF,(aa rfl rfl),aZ),(ah,7,(aw,6,(az,7,(ae,7,rfl,(aa rfl rfl),(ae,7,rfl,au,(ae,7,rfl,(aa rfl rfl),(ae,7,rfl,au,(ae,7,rfl,(aa rfl rfl),(ae,7,rfl,au,ai)))))))),ak),ak),(ah,7,(bV,9,["a", "b"],rfl,rfl,(dB rfl),(az,7,(ae,7,rfl,(aI,8,(fun o i => ⟨_, rfl⟩),(az,7,(ae,7,rfl,au,(ae,7,rfl,(ba,8,bB,au),(ae,7,rfl,au,ai)))),(ax rfl rfl rfl rfl bI (by decide) rfl (ae,7,rfl,(aa rfl rfl),(ae,7,rfl,au,ai)))),(ae,7,rfl,(aI,8,(fun o i => ⟨_, rfl⟩),(az,7,(ae,7,rfl,au,(ae,7,rfl,(ba,8,bB,au),(ae,7,rfl,(ba,8,bB,au),ai)))),(ax rfl rfl rfl rfl bI (by decide) rfl (ae,7,rfl,(aa rfl rfl),(ae,7,rfl,au,ai)))),ai)))),(ah,7,(aw,6,(az,7,(ae,7,rfl,(aa rfl rfl),(ae,7,rfl,(aa rfl rfl),(ae,7,rfl,(aa rfl rfl),(ae,7,rfl,(aa rfl rfl),(ae,7,rfl,(aa rfl rfl),(ae,7,rfl,(aM,10,cn,(ax rfl rfl rfl rfl bI (by decide) rfl (ae,7,rfl,(aa rfl rfl),(ae,7,rfl,au,ai))),au),ai)))))))),ak)))))
theorem kz : SndF X 6 610 c6 :=
  aY rfl rfl (ps := ["engine", "rules", "rule"]) ⟨rfl, rfl, ju (fun a b c => rfl), aR rfl, rfl, rfl, rfl, rfl, rfl⟩ rfl fun L => (ah,7,(cf,10,rfl,rfl,(aa rfl rfl),(bf,8,rfl,rfl,(aC,8,rfl,(aO (.inl rfl)),(aC,8,rfl,(aO (.inl rfl)),(aC,8,rfl,(aO (.inl rfl)),(aC,8,rfl,(aO (.inl rfl)),(aC,8,rfl,(aO (.inl rfl)),(aC,8,rfl,(aO (.inl rfl)),bl,aG),(aA aG)),(aA (aA aG))),(aA (aA (aA aG)))),(aA (aA (aA (aA aG))))),(aA (aA (aA (aA (aA aG)))))))),(ah,7,(bp,6,rfl,rfl,(br PySem.F.slot_list_append PySem.F.type_list_append bE ⟨_, rfl⟩ rfl (aa rfl rfl) (ae,7,rfl,(aa rfl rfl),ai))),(ah,7,(bc,10,(aq,10,rfl,bF,(aa rfl rfl),aZ),(ah,7,(aw,6,(bh,10,rfl,bF,(ay (h' := 1) (aV ⟨_, ⟨rfl, rfl, rfl, rfl, rfl⟩, SndF.mono kG (by decide : 1 ≤ 1)⟩ be) (by decide) ⟨_, rfl⟩ rfl (aa rfl rfl) (ae,7,rfl,(ax rfl rfl rfl rfl (kZ ⟨rfl, rfl, rfl⟩ ja) (by decide) rfl (ae,7,rfl,(aa rfl rfl),(ae,7,rfl,(aa rfl rfl),ai))),ai)),(aM,10,cn,(aH (0,0) bz rfl (ae,7,rfl,(aa rfl rfl),ai)),au))),ak),ak),(ah,7,(aE,8,(.inl rfl),rfl,(di,10,(aq,10,rfl,bF,(aa rfl rfl),aZ),(ax rfl rfl rfl rfl (kZ ⟨rfl, rfl, rfl⟩ jc) (by decide) rfl (ae,7,rfl,(az,7,(ae,7,rfl,(aa rfl rfl),(ae,7,rfl,(aa rfl rfl),ai))),(ae,7,rfl,(az,7,(ae,7,rfl,(aa rfl rfl),(ae,7,rfl,(aa rfl rfl),ai))),(ae,7,rfl,(aa rfl rfl),ai)))),(ax rfl rfl rfl rfl (kZ ⟨rfl, rfl, rfl⟩ iY) (by decide) rfl (ae,7,rfl,(az,7,(ae,7,rfl,(aa rfl rfl),(ae,7,rfl,(aa rfl rfl),ai))),(ae,7,rfl,(az,7,(ae,7,rfl,(aa rfl rfl),(ae,7,rfl,(aa rfl rfl),ai))),(ae,7,rfl,(aa rfl rfl),ai)))))),(ah,7,(aw,6,(bh,10,rfl,bF,(ay (h' := 1) (aV ⟨_, ⟨rfl, rfl, rfl, rfl, rfl⟩, SndF.mono kG (by decide : 1 ≤ 1)⟩ be) (by decide) ⟨_, rfl⟩ rfl (aa rfl rfl) (ae,7,rfl,(aa rfl rfl),ai)),(aM,10,cn,(aH (0,0) bz rfl (ae,7,rfl,(aa rfl rfl),ai)),au))),ak)))))
theorem jP : SndF X 1 617 du :=
  jj (f := eD) (aY rfl rfl (ps := ["rule", "v", "w"]) ⟨rfl, rfl, ju (fun a b c => rfl), aR rfl, rfl, rfl, rfl, rfl, rfl⟩ rfl fun L => (ah,7,(cf,10,rfl,rfl,(aa rfl rfl),(bf,8,rfl,rfl,(aC,8,rfl,(aO (.inl rfl)),(aC,8,rfl,(aO (.inl rfl)),(aC,8,rfl,(aO (.inl rfl)),(aC,8,rfl,(aO (.inl rfl)),(aC,8,rfl,(aO (.inl rfl)),(aC,8,rfl,(aO (.inl rfl)),bl,aG),(aA aG)),(aA (aA aG))),(aA (aA (aA aG)))),(aA (aA (aA (aA aG))))),(aA (aA (aA (aA (aA aG)))))))),(ah,7,(bc,10,(aq,10,rfl,bF,(aa rfl rfl),aZ),(ah,7,(aw,6,(mF,8,(bh,10,rfl,kv,(aa rfl rfl),au),(bh,10,rfl,p9,(aa rfl rfl),(az,7,(ae,7,rfl,(aa rfl rfl),(ae,7,rfl,(aM,10,cn,au,(aa rfl rfl)),ai)))))),ak),ak),(ah,7,(aw,6,(di,10,(aq,10,rfl,bF,(aa rfl rfl),aZ),(bh,10,rfl,g7,(aM,10,bw,(aM,10,dO,(aa rfl rfl),(aa rfl rfl)),(aM,10,dO,(aa rfl rfl),(aa rfl rfl))),(aa rfl rfl)),(bh,10,rfl,cu,(aM,10,bw,(aM,10,dO,(aa rfl rfl),(aa rfl rfl)),(aM,10,dO,(aa rfl rfl),(aa rfl rfl))),(aa rfl rfl)))),ak))))
theorem tX : SndF X 2 622 jY :=
  aY rfl rfl (ps := ["lots", "rules"]) ⟨rfl, rfl, cW (fun a b => rfl), aR rfl, rfl, rfl, rfl, rfl, rfl⟩ rfl fun L => (ah,7,(cf,10,rfl,rfl,(az,7,(ae,7,rfl,(aH (0,0) lR rfl (ae,7,rfl,(aa rfl rfl),ai)),(ae,7,rfl,cA,ai))),(bf,8,rfl,rfl,(aC,8,rfl,(aO (.inr rfl)),(aC,8,rfl,(aO (.inl rfl)),bl,aG),(aA aG)))),(ah,7,(lF,10,(aq,10,rfl,cu,(aa rfl rfl),(aa rfl rfl)),(ah,7,(aE,8,(.inl rfl),rfl,(aH (0,0) lR rfl (ae,7,rfl,(aa rfl rfl),ai))),(ah,7,(cN,12,(fun _ => rfl),(bJ,6,(aa rfl rfl)),(aO (.inr rfl)),(ah,7,(cf,10,rfl,rfl,(az,7,(ae,7,rfl,(aI,8,(fun o i => ⟨_, rfl⟩),(aa rfl rfl),au),(ae,7,rfl,(aI,8,(fun o i => ⟨_, rfl⟩),(aa rfl rfl),au),ai))),(bf,8,rfl,rfl,(aC,8,rfl,(aO (.inl rfl)),(aC,8,rfl,(aO (.inr rfl)),bl,aG),(aA aG)))),(ah,7,(iA,19,nD,⟨cQ rfl, fun _ => rfl, (bJ,6,(aI,8,(fun o i => ⟨_, rfl⟩),(aa rfl rfl),(aa rfl rfl))), fun C0 => (bv rfl), fun C0 => dS, fun C0 D0 hD => (pA,17,(fun _ => rfl),(bJ,6,(aI,8,(fun o i => ⟨_, rfl⟩),(aa rfl rfl),(aa rfl rfl))),(bv rfl),(gS,5,(bW,5,(fun _ => rfl),(ax rfl rfl rfl rfl jP (by decide) rfl (ae,7,rfl,(aa rfl rfl),(ae,7,rfl,(aa rfl rfl),(ae,7,rfl,(aa rfl rfl),ai)))))),(cv,6,(az,7,(ae,7,rfl,(aa rfl rfl),(ae,7,rfl,(aa rfl rfl),ai))),hD),hD)⟩,rfl,rfl),(ah,7,(bc,10,(aq,10,rfl,bF,(aa rfl rfl),(bN,6,ai)),(ah,7,(aw,6,cA),ak),ak),(ah,7,(cf,10,rfl,rfl,(az,7,(ae,7,rfl,(gG (0,0) (0,0) rfl rfl (cB,16,dA,⟨cQ rfl, fun _ => rfl, (bJ,6,(aa rfl rfl)), fun C0 => (bf,8,rfl,rfl,(aC,8,rfl,(bv rfl),(aC,8,rfl,(bv rfl),bl,aG),(aA aG))), fun C0 => dS, fun C0 D0 hD => (cv,6,(aa rfl rfl),hD)⟩)),(ae,7,rfl,(gG (0,0) (0,0) rfl rfl (cB,16,dA,⟨cQ rfl, fun _ => rfl, (bJ,6,(aa rfl rfl)), fun C0 => (bf,8,rfl,rfl,(aC,8,rfl,(bv rfl),(aC,8,rfl,(bv rfl),bl,aG),(aA aG))), fun C0 => dS, fun C0 D0 hD => (cv,6,(aa rfl rfl),hD)⟩)),ai))),(bf,8,rfl,rfl,(aC,8,rfl,(cS,8,(aa rfl rfl),(aa rfl rfl)),(aC,8,rfl,(cS,8,(aa rfl rfl),(aa rfl rfl)),bl,aG),(aA aG)))),ak)))),ak),ak)),ak),(ah,7,(aw,6,(aa rfl rfl)),ak)))
theorem iu : SndF X 2 627 cU :=
  aY rfl rfl (ps := ["desk"]) ⟨rfl, rfl, fL (fun a => rfl), aR rfl, rfl, rfl, rfl, rfl, rfl⟩ rfl fun L => (ah,7,(aw,6,(cB,16,dA,⟨cQ rfl, fun _ => rfl, (bJ,6,(aH (0,0) dQ rfl (ae,7,rfl,au,ai))), fun C0 => (bv rfl), fun C0 => dS, fun C0 D0 hD => (cv,6,(cB,16,nD,⟨cQ rfl, fun _ => rfl, (bJ,6,(ay (h' := 1) (aV ⟨_, ⟨rfl, rfl, rfl, rfl, rfl⟩, SndF.mono dt (by decide : 1 ≤ 1)⟩ be) (by decide) ⟨_, rfl⟩ rfl (aa rfl rfl) (ae,7,rfl,(aa rfl rfl),ai))), fun C0 => (bf,8,rfl,rfl,(aC,8,rfl,(bv rfl),(aC,8,rfl,(bv rfl),bl,aG),(aA aG))), fun C0 => dS, fun C0 D0 hD => (pA,17,(fun _ => rfl),(bJ,6,(aH (0,0) dQ rfl (ae,7,rfl,(aa rfl rfl),(ae,7,rfl,(aM,10,bw,(aa rfl rfl),au),ai)))),(bv rfl),dS,(cv,6,(aa rfl rfl),hD),hD)⟩),hD)⟩)),ak)
theorem hF : SndF X 10 634 ci :=
  aY rfl rfl (ps := ["engine", "lots", "rules"]) ⟨rfl, rfl, ju (fun a b c => rfl), aR rfl, rfl, rfl, rfl, rfl, rfl⟩ rfl fun L => (ah,7,(bV,9,["desk", "due"],rfl,rfl,(dB rfl),(az,7,(ae,7,rfl,(aN (av ⟨rfl, rfl, rfl⟩ aL) rfl (aa rfl rfl)),(ae,7,rfl,(ax rfl rfl rfl rfl tX (by decide) rfl (ae,7,rfl,(aa rfl rfl),(ae,7,rfl,(aa rfl rfl),ai))),ai)))),(ah,7,(aE,8,(.inl rfl),rfl,(aH (0,0) bz rfl (ae,7,rfl,(aN (av ⟨rfl, rfl, rfl⟩ aL) rfl (aa rfl rfl)),ai))),(ah,7,(bc,10,(g8,8,(aq,10,rfl,cu,(ay (h' := 9) (aV ⟨_, ⟨rfl, rfl, rfl, rfl, rfl⟩, SndF.mono eH (by decide : 9 ≤ 9)⟩ be) (by decide) ⟨_, rfl⟩ rfl (aa rfl rfl) ai),(bh,10,rfl,jW,(aa rfl rfl),cA)),(aq,10,rfl,cu,(aN (av ⟨rfl, rfl, rfl⟩ aL) rfl (aa rfl rfl)),(bh,10,rfl,hJ,(aa rfl rfl),cA))),(ah,7,(aw,6,aZ),ak),ak),(ah,7,(cN,12,(fun _ => rfl),(bJ,6,(sH,9,(aN (av ⟨rfl, rfl, rfl⟩ aL) rfl (aa rfl rfl)),(aa rfl rfl))),(bf,8,rfl,rfl,(aC,8,rfl,(aO (.inl rfl)),(aC,8,rfl,(aO (.inl rfl)),(aC,8,rfl,(aO (.inl rfl)),(aC,8,rfl,(aO (.inl rfl)),(aC,8,rfl,(aO (.inl rfl)),bl,aG),(aA aG)),(aA (aA aG))),(aA (aA (aA aG)))),(aA (aA (aA (aA aG)))))),(ah,7,(bc,10,(g8,8,(aq,10,rfl,jG,(aa rfl rfl),(aH (0,0) dQ rfl (ae,7,rfl,(aH (0,0) bz rfl (ae,7,rfl,(aa rfl rfl),ai)),ai))),(aq,10,rfl,jG,(aa rfl rfl),(az,7,(ae,7,rfl,(aI,8,(fun o i => ⟨_, rfl⟩),(aI,8,(fun o i => ⟨_, rfl⟩),(aa rfl rfl),(aa rfl rfl)),au),(ae,7,rfl,(aI,8,(fun o i => ⟨_, rfl⟩),(aI,8,(fun o i => ⟨_, rfl⟩),(aa rfl rfl),(aa rfl rfl)),au),ai))))),(ah,7,(aw,6,aZ),ak),ak),ak),ak),(ah,7,(bc,10,(aq,10,rfl,hJ,(aa rfl rfl),cA),(ah,7,(aw,6,cA),ak),ak),(ah,7,(aE,8,(.inl rfl),rfl,(aH (0,0) bz rfl (ae,7,rfl,(aN (av ⟨rfl, rfl, rfl⟩ aL) rfl (aa rfl rfl)),ai))),(ah,7,(bc,10,(sf,10,(aq,10,rfl,cu,(ax rfl rfl rfl rfl iu (by decide) rfl (ae,7,rfl,(aa rfl rfl),ai)),(aa rfl rfl)),(cJ,6,(bW,5,(fun _ => rfl),(ay (h' := 9) (aV ⟨_, ⟨rfl, rfl, rfl, rfl, rfl⟩, SndF.mono eH (by decide : 9 ≤ 9)⟩ be) (by decide) ⟨_, rfl⟩ rfl (aa rfl rfl) ai))),(aq,10,rfl,cu,(aH (0,0) bz rfl (ae,7,rfl,(aN (av ⟨rfl, rfl, rfl⟩ aL) rfl (aa rfl rfl)),ai)),(aa rfl rfl))),(ah,7,(aw,6,aZ),ak),ak),(ah,7,(aw,6,(aa rfl rfl)),ak))))))))
theorem qy : SndF X 1 641 fO :=
  jj (f := hM) (aY rfl rfl (ps := ["literal", "v"]) ⟨rfl, rfl, cW (fun a b => rfl), aR rfl, rfl, rfl, rfl, rfl, rfl⟩ rfl fun L => (ah,7,(cf,10,rfl,rfl,(aa rfl rfl),(bf,8,rfl,rfl,(aC,8,rfl,(aO (.inl rfl)),(aC,8,rfl,(aO (.inl rfl)),(aC,8,rfl,(aO (.inl rfl)),bl,aG),(aA aG)),(aA (aA aG))))),(ah,7,(aw,6,(aI,8,(fun o i => ⟨_, rfl⟩),(pf,8,rfl,rfl,(by simp),(by decide),(fY,12,(bh,10,rfl,g7,(aa rfl rfl),(aa rfl rfl)),(fY,12,(bh,10,rfl,kv,(aa rfl rfl),(aa rfl rfl)),(fY,12,(bh,10,rfl,bF,(aa rfl rfl),(aa rfl rfl)),(fY,12,(bh,10,rfl,cu,(aa rfl rfl),(aa rfl rfl)),qY))))),(aa rfl rfl))),ak)))
theorem dP : SndF X 11 646 bq :=
  aY rfl rfl (ps := ["urn", "engine", "lots", "rules", "is_strict"]) ⟨rfl, rfl, B2 (fun a b c d e => rfl), aR rfl, rfl, rfl, rfl, rfl, rfl⟩ rfl fun L => (ah,7,(bV,9,["desk", "now", "stack"],rfl,rfl,(dB rfl),(az,7,(ae,7,rfl,(aN (av ⟨rfl, rfl, rfl⟩ aL) rfl (aa rfl rfl)),(ae,7,rfl,(aa rfl rfl),(ae,7,rfl,(bN,6,ai),ai))))),(ah,7,(cN,12,(fun _ => rfl),(bJ,6,(aH (0,0) dQ rfl (ae,7,rfl,(aM,10,bw,au,(ax rfl rfl rfl rfl bI (by decide) rfl (ae,7,rfl,(aa rfl rfl),(ae,7,rfl,(di,10,(bW,5,(fun _ => rfl),(aa rfl rfl)),au,au),ai)))),ai))),(aO (.inl rfl)),(ah,7,(aE,8,(.inl rfl),rfl,(ax rfl rfl rfl rfl bI (by decide) rfl (ae,7,rfl,(aa rfl rfl),(ae,7,rfl,au,ai)))),(ah,7,(bc,10,(fm,8,(aq,10,rfl,bF,(aa rfl rfl),au),(aq,10,rfl,dI,(aH (0,0) bz rfl (ae,7,rfl,(aa rfl rfl),ai)),au)),(ah,7,(aE,8,(.inl rfl),rfl,(aM,10,bw,au,(ax rfl rfl rfl rfl bI (by decide) rfl (ae,7,rfl,(aa rfl rfl),(ae,7,rfl,(aM,10,cn,(aH (0,0) bz rfl (ae,7,rfl,(aa rfl rfl),ai)),au),ai))))),(ah,7,(bp,6,rfl,rfl,(ay (h' := 1) (aV ⟨_, ⟨rfl, rfl, rfl, rfl, rfl⟩, SndF.mono gA (by decide : 1 ≤ 1)⟩ be) (by decide) ⟨_, rfl⟩ rfl (aa rfl rfl) (ae,7,rfl,(aa rfl rfl),ai))),(ah,7,(bV,9,["now", "stack"],rfl,rfl,(dB rfl),(az,7,(ae,7,rfl,(aI,8,(fun o i => ⟨_, rfl⟩),(aa rfl rfl),(aM,10,cn,(aH (0,0) bz rfl (ae,7,rfl,(aa rfl rfl),ai)),(aa rfl rfl))),(ae,7,rfl,(nP,9,(aa rfl rfl),(aM,10,cn,(aH (0,0) bz rfl (ae,7,rfl,(aa rfl rfl),ai)),(aa rfl rfl))),ai)))),ak))),(ah,7,(bp,6,rfl,rfl,(ay (h' := 1) (aV ⟨_, ⟨rfl, rfl, rfl, rfl, rfl⟩, SndF.mono qb (by decide : 1 ≤ 1)⟩ be) (by decide) ⟨_, rfl⟩ rfl (aa rfl rfl) ai)),(ah,7,(bp,6,rfl,rfl,(br PySem.F.slot_list_append PySem.F.type_list_append bE ⟨_, rfl⟩ rfl (aa rfl rfl) (ae,7,rfl,(aa rfl rfl),ai))),(ah,7,(bc,10,(aq,10,rfl,dI,(aa rfl rfl),au),(ah,7,(aE,8,(.inr rfl),rfl,(az,7,(ae,7,rfl,(ax rfl rfl rfl rfl bI (by decide) rfl (ae,7,rfl,(aa rfl rfl),(ae,7,rfl,au,ai))),(ae,7,rfl,(aI,8,(fun o i => ⟨_, rfl⟩),(az,7,(ae,7,rfl,aZ,(ae,7,rfl,aZ,(ae,7,rfl,aZ,(ae,7,rfl,aZ,ai))))),(ax rfl rfl rfl rfl bI (by decide) rfl (ae,7,rfl,(aa rfl rfl),(ae,7,rfl,au,ai)))),(ae,7,rfl,(aM,10,cn,(ax rfl rfl rfl rfl bI (by decide) rfl (ae,7,rfl,(aa rfl rfl),(ae,7,rfl,au,ai))),au),ai))))),(ah,7,(iA,19,dA,⟨cQ rfl, fun _ => rfl, (bJ,6,(aI,8,(fun o i => ⟨_, rfl⟩),(aa rfl rfl),(aI,8,(fun o i => ⟨_, rfl⟩),(aa rfl rfl),au))), fun C0 => (bv rfl), fun C0 => (gS,5,(bW,5,(fun _ => rfl),(ax rfl rfl rfl rfl qy (by decide) rfl (ae,7,rfl,(aa rfl rfl),(ae,7,rfl,(aa rfl rfl),ai))))), fun C0 D0 hD => (cv,6,(aa rfl rfl),hD)⟩,rfl,rfl),(ah,7,(bc,10,(aq,10,rfl,cu,(ay (h' := 5) (aV ⟨_, ⟨rfl, rfl, rfl, rfl, rfl⟩, SndF.mono om (by decide : 5 ≤ 5)⟩ be) (by decide) ⟨_, rfl⟩ rfl (aa rfl rfl) (ae,7,rfl,(aa rfl rfl),ai)),(bh,10,rfl,cu,(aa rfl rfl),(bN,6,ai))),(ah,7,(aw,6,bj),ak),ak),(ah,7,(aE,8,(.inl rfl),rfl,(aM,10,bw,(aM,10,bw,(nP,9,(aa rfl rfl),(aI,8,(fun o i => ⟨_, rfl⟩),(aa rfl rfl),au)),(bN,6,(ae,7,rfl,(aa rfl rfl),ai))),(sH,9,(aa rfl rfl),(aM,10,bw,(aI,8,(fun o i => ⟨_, rfl⟩),(aa rfl rfl),au),au)))),ak)))),ak),ak)))),(ah,7,(bc,10,(aq,10,rfl,p9,(bN,6,ai),(aa rfl rfl)),(ah,7,(bc,10,(bW,5,(fun _ => rfl),(ay (h' := 9) (aV ⟨_, ⟨rfl, rfl, rfl, rfl, rfl⟩, SndF.mono eH (by decide : 9 ≤ 9)⟩ be) (by decide) ⟨_, rfl⟩ rfl (aa rfl rfl) ai)),(ah,7,(aw,6,bj),ak),ak),(ah,7,(bp,6,rfl,rfl,(ay (h' := 1) (aV ⟨_, ⟨rfl, rfl, rfl, rfl, rfl⟩, SndF.mono gA (by decide : 1 ≤ 1)⟩ be) (by decide) ⟨_, rfl⟩ rfl (aa rfl rfl) (ae,7,rfl,au,ai))),(ah,7,(aE,8,(.inl rfl),rfl,(br PySem.F.slot_list_pop PySem.F.type_list_pop nJ ⟨_, rfl⟩ rfl (aa rfl rfl) ai)),ak))),(ah,7,(bc,10,(g8,8,(bW,5,(fun _ => rfl),(aa rfl rfl)),(aq,10,rfl,bF,(ax rfl rfl rfl rfl bI (by decide) rfl (ae,7,rfl,(aa rfl rfl),(ae,7,rfl,au,ai))),au)),(ah,7,(aE,8,(.inl rfl),rfl,(ax rfl rfl rfl rfl hF (by decide) rfl (ae,7,rfl,(aa rfl rfl),(ae,7,rfl,(aa rfl rfl),(ae,7,rfl,(aa rfl rfl),ai))))),(ah,7,(bc,10,(aq,10,rfl,bF,(aa rfl rfl),aZ),(ah,7,(aw,6,bj),ak),ak),(ah,7,(bc,10,(aq,10,rfl,hJ,(aa rfl rfl),cA),(ah,7,(bp,6,rfl,rfl,(ay (h' := 1) (aV ⟨_, ⟨rfl, rfl, rfl, rfl, rfl⟩, SndF.mono gA (by decide : 1 ≤ 1)⟩ be) (by decide) ⟨_, rfl⟩ rfl (aa rfl rfl) (ae,7,rfl,au,ai))),ak),ak),(ah,7,(aE,8,(.inl rfl),rfl,(di,10,(aq,10,rfl,hJ,(aa rfl rfl),cA),(br PySem.F.slot_list_pop PySem.F.type_list_pop nJ ⟨_, rfl⟩ rfl (aa rfl rfl) ai),(aa rfl rfl))),ak)))),ak),ak)),(ah,7,(bc,10,(sf,10,(aq,10,rfl,cu,(ax rfl rfl rfl rfl iu (by decide) rfl (ae,7,rfl,(aa rfl rfl),ai)),(aa rfl rfl)),(bW,5,(fun _ => rfl),(aN (av ⟨rfl, rfl, rfl⟩ aL) rfl (aa rfl rfl))),(aq,10,rfl,cu,(ay (h' := 1) (aV ⟨_, ⟨rfl, rfl, rfl, rfl, rfl⟩, SndF.mono gF (by decide : 1 ≤ 1)⟩ be) (by decide) ⟨_, rfl⟩ rfl (aa rfl rfl) ai),(aH (0,0) bz rfl (ae,7,rfl,(aa rfl rfl),ai)))),(ah,7,(aw,6,bj),ak),ak),ak)))),ak),(ah,7,(bp,6,rfl,rfl,(ay (h' := 1) (aV ⟨_, ⟨rfl, rfl, rfl, rfl, rfl⟩, SndF.mono gA (by decide : 1 ≤ 1)⟩ be) (by decide) ⟨_, rfl⟩ rfl (aa rfl rfl) (ae,7,rfl,(aH (0,0) bz rfl (ae,7,rfl,(aa rfl rfl),ai)),ai))),(ah,7,(aw,6,(mF,8,(bh,10,rfl,bF,(ax rfl rfl rfl rfl iu (by decide) rfl (ae,7,rfl,(aa rfl rfl),ai)),(aa rfl rfl)),(bh,10,rfl,bF,(ay (h' := 1) (aV ⟨_, ⟨rfl, rfl, rfl, rfl, rfl⟩, SndF.mono gF (by decide : 1 ≤ 1)⟩ be) (by decide) ⟨_, rfl⟩ rfl (aa rfl rfl) ai),au))),ak))))
theorem Bh {a0 : Addr} {ns : List Int} (H : ScrAt X a0 ns) : SndF X 12 651 (uY a0 ns) :=
  aY rfl rfl (ps := ["script"]) ⟨rfl, rfl, fL (fun a => rfl), aR rfl, rfl, rfl, rfl, rfl, rfl⟩ rfl fun L => (ah,7,(aE,8,(.inl rfl),(by kernel_rfl),(bN,6,(bg,8,(bg,8,(bg,8,(bg,8,(bg,8,(bg,8,(bg,8,(bg,8,(bg,8,(bg,8,(bg,8,(bg,8,(bg,8,(bg,8,(bg,8,(bg,8,(bg,8,(bg,8,(bg,8,(bg,8,(bg,8,(bg,8,(bg,8,(bg,8,(bg,8,(bg,8,(bg,8,(bg,8,(bg,8,(bg,8,wm)))))))))))))))))))))))))))))))),(ah,7,(cf,10,rfl,rfl,(az,7,(ae,7,rfl,(pf,8,rfl,rfl,(by simp),(by decide),(fY,12,(di,10,(aq,10,rfl,dI,(aH (0,0) (v7,4,H) rfl (ae,7,rfl,(aa rfl rfl),ai)),au),(aH (0,0) lR rfl (ae,7,rfl,(vW H (aa rfl rfl) au),ai)),(aa rfl rfl)),(fY,12,au,qY))),(ae,7,rfl,(ax rfl rfl rfl rfl (kZ ⟨rfl, rfl, rfl⟩ lK) (by decide) rfl ai),(ae,7,rfl,(bN,6,ai),ai)))),(bf,8,rfl,rfl,(aC,8,rfl,(aO (.inr rfl)),(aC,8,rfl,(aO (.inl rfl)),(aC,8,rfl,(aO (.inl rfl)),bl,aG),(aA aG)),(aA (aA aG))))),(ah,7,(cN,12,(fun _ => rfl),(bJ,6,(aH (0,0) dQ rfl (ae,7,rfl,au,ai))),(aO (.inl rfl)),(ah,7,(bp,6,rfl,rfl,(br PySem.F.slot_list_append PySem.F.type_list_append bE ⟨_, rfl⟩ rfl (aa rfl rfl) (ae,7,rfl,(gG (0,0) (0,0) rfl rfl (cB,16,dA,⟨cQ rfl, fun _ => rfl, (bJ,6,(aH (0,0) dQ rfl (ae,7,rfl,(aM,10,bw,au,(ax rfl rfl rfl rfl bI (by decide) rfl (ae,7,rfl,(aa rfl rfl),(ae,7,rfl,au,ai)))),ai))), fun C0 => (bv rfl), fun C0 => dS, fun C0 D0 hD => (cv,6,(aM,10,cn,(ax rfl rfl rfl rfl bI (by decide) rfl (ae,7,rfl,(aa rfl rfl),(ae,7,rfl,au,ai))),au),hD)⟩)),ai))),(ah,7,(bp,6,rfl,rfl,(ay (h' := 2) (aV ⟨_, ⟨rfl, rfl, rfl, rfl, rfl⟩, SndF.mono mo (by decide : 2 ≤ 2)⟩ be) (by decide) ⟨_, rfl⟩ rfl (aa rfl rfl) (ae,7,rfl,(ax rfl rfl rfl rfl oZ (by decide) rfl (ae,7,rfl,(aI,8,(fun o i => ⟨_, rfl⟩),(aa rfl rfl),(aa rfl rfl)),ai)),ai))),ak)),ak),(ah,7,(bV,9,["engine", "rules"],rfl,rfl,(dB rfl),(az,7,(ae,7,rfl,(ax rfl rfl rfl rfl (kZ ⟨rfl, rfl, rfl⟩ ky) (by decide) rfl (ae,7,rfl,(aa rfl rfl),ai)),(ae,7,rfl,(bN,6,ai),ai)))),(ah,7,(cN,12,(fun _ => rfl),(bJ,6,(aH (0,0) dQ rfl (ae,7,rfl,(aM,10,bw,au,(ax rfl rfl rfl rfl bI (by decide) rfl (ae,7,rfl,(aa rfl rfl),(ae,7,rfl,au,ai)))),ai))),(aO (.inl rfl)),(ah,7,(bc,10,(cJ,6,(bW,5,(fun _ => rfl),(ax rfl rfl rfl rfl kz (by decide) rfl (ae,7,rfl,(aa rfl rfl),(ae,7,rfl,(aa rfl rfl),(ae,7,rfl,(ax rfl rfl rfl rfl lT (by decide) rfl (ae,7,rfl,(aa rfl rfl),ai)),ai)))))),(ah,7,(aw,6,bj),ak),ak),ak),ak),(ah,7,(bc,10,(cJ,6,(bW,5,(fun _ => rfl),(ax rfl rfl rfl rfl dP (by decide) rfl (ae,7,rfl,(aa rfl rfl),(ae,7,rfl,(aa rfl rfl),(ae,7,rfl,(aa rfl rfl),(ae,7,rfl,(aa rfl rfl),(ae,7,rfl,bj,ai)))))))),(ah,7,(aw,6,bj),ak),ak),(ah,7,(aE,8,(.inl rfl),rfl,(ax rfl rfl rfl rfl hF (by decide) rfl (ae,7,rfl,(aa rfl rfl),(ae,7,rfl,(aa rfl rfl),(ae,7,rfl,(aa rfl rfl),ai))))),(ah,7,(bc,10,(g8,8,(aq,10,rfl,hJ,(aa rfl rfl),cA),(aq,10,rfl,bF,(aa rfl rfl),aZ)),(ah,7,(aw,6,(bh,10,rfl,hJ,(aa rfl rfl),cA)),ak),ak),(ah,7,(bc,10,(cJ,6,(bW,5,(fun _ => rfl),(ax rfl rfl rfl rfl dP (by decide) rfl (ae,7,rfl,(aa rfl rfl),(ae,7,rfl,(aa rfl rfl),(ae,7,rfl,(aa rfl rfl),(ae,7,rfl,(aa rfl rfl),(ae,7,rfl,bj,ai)))))))),(ah,7,(aw,6,bj),ak),ak),(ah,7,(bc,10,(g8,8,(cJ,6,(bW,5,(fun _ => rfl),(ax rfl rfl rfl rfl kz (by decide) rfl (ae,7,rfl,(aa rfl rfl),(ae,7,rfl,(aa rfl rfl),(ae,7,rfl,(ax rfl rfl rfl rfl lT (by decide) rfl (ae,7,rfl,(aa rfl rfl),ai)),ai)))))),(cJ,6,(bW,5,(fun _ => rfl),(ax rfl rfl rfl rfl dP (by decide) rfl (ae,7,rfl,(aa rfl rfl),(ae,7,rfl,(aa rfl rfl),(ae,7,rfl,(aa rfl rfl),(ae,7,rfl,(aa rfl rfl),(ae,7,rfl,bj,ai))))))))),(ah,7,(aw,6,bj),ak),ak),(ah,7,(aw,6,(bh,10,rfl,cu,(ax rfl rfl rfl rfl hF (by decide) rfl (ae,7,rfl,(aa rfl rfl),(ae,7,rfl,(aa rfl rfl),(ae,7,rfl,(aa rfl rfl),ai)))),aZ)),ak)))))))))))
end
noncomputable def Ok {α : Type} (r : Option (α × AH)) (K : α → AH → Prop) : Prop := ∃ a σ, r = some (a, σ) ∧ K a σ
section
variable {α β : Type} {m : Loc} {σ : AH}
theorem go {r : Option (α × AH)} {K : α → AH → Prop} {a : α} (e : r = some (a, σ)) (k : K a σ) : Ok r K := ⟨a, σ, e, k⟩
theorem fh {r : Option (α × AH)} {f : α → AH → Option (β × AH)} {K : β → AH → Prop} (h : Ok r fun a σ => Ok (f a σ) K) : Ok (bnd r f) K :=
  let ⟨a, σ₁, e1, b, σ₂, e2, q⟩ := h
  ⟨b, σ₂, by rw [e1]; exact e2, q⟩
theorem Ok.mono {r : Option (α × AH)} {K K' : α → AH → Prop} (h : Ok r K) (f : ∀ a σ, K a σ → K' a σ) : Ok r K' := let ⟨a, σ, e, q⟩ := h; ⟨a, σ, e, f a σ q⟩
theorem eG {p : Prop} [Decidable p] (h : p) {x : Option β} : gd p x = x := if_pos h
abbrev KP := PV → AH → Prop
abbrev KZ := Res × Loc → AH → Prop
@[reducible] noncomputable def K1 (op : α → AH → Option (β × AH)) (K : β → AH → Prop) (a : α) (σ : AH) : Prop := Ok (op a σ) K
@[reducible] noncomputable def K2b (op : PV → PV → AH → Option (PV × AH)) (a : PV) (K : KP) (b : PV) (σ : AH) : Prop := Ok (op a b σ) K
@[reducible] noncomputable def K2 (op : PV → PV → AH → Option (PV × AH)) (g : EF) (m : Loc) (K : KP) (a : PV) (σ : AH) : Prop := Ok (g m σ) (K2b op a K)
@[reducible] noncomputable def Kif (f g : Loc → AH → Option (α × AH)) (m : Loc) (K : α → AH → Prop) (b : Bool) (σ : AH) : Prop := match b with | true => Ok (f m σ) K | false => Ok (g m σ) K
@[reducible] noncomputable def Kcb (a : PV) (K : List PV → AH → Prop) (l : List PV) (σ : AH) : Prop := K (a :: l) σ
@[reducible] noncomputable def Kc (g : LF) (m : Loc) (K : List PV → AH → Prop) (a : PV) (σ : AH) : Prop := Ok (g m σ) (Kcb a K)
@[reducible] noncomputable def Kn (K : Bool → AH → Prop) (b : Bool) (σ : AH) : Prop := match b with | true => K false σ | false => K true σ
@[reducible] noncomputable def Kand (u : TF) (m : Loc) (K : Bool → AH → Prop) (b : Bool) (σ : AH) : Prop := match b with | true => Ok (u m σ) K | false => K false σ
@[reducible] noncomputable def Kor (u : TF) (m : Loc) (K : Bool → AH → Prop) (b : Bool) (σ : AH) : Prop := match b with | true => K true σ | false => Ok (u m σ) K
@[reducible] noncomputable def Kb (K : Bool → AH → Prop) (v : PV) (σ : AH) : Prop := match v with | .bool b => K b σ | _ => False
@[reducible] noncomputable def Kv (K : KP) (b : Bool) (σ : AH) : Prop := K (.bool b) σ
@[reducible] noncomputable def Km (g : FF) (i : Nat) (K : KP) (l : List PV) (σ : AH) : Prop := Ok (g (.obj i :: l) σ) K
@[reducible] noncomputable def Kq (g : SF) (K : KZ) (p : Res × Loc) (σ : AH) : Prop := match p with | (.next, m) => Ok (g m σ) K | (.cont, m) => K (.cont, m) σ | (.brk, m) => K (.brk, m) σ | (.ret v, m) => K (.ret v, m) σ
@[reducible] noncomputable def Kst (K : KZ) (m : Loc) (σ : AH) : Prop := K (.next, m) σ
@[reducible] noncomputable def Kas (a : AF) (m : Loc) (K : KZ) (v : PV) (σ : AH) : Prop := Ok (a v m σ) (Kst K)
@[reducible] noncomputable def Kx (m : Loc) (K : KZ) (_ : PV) (σ : AH) : Prop := K (.next, m) σ
@[reducible] noncomputable def Kr (m : Loc) (K : KZ) (v : PV) (σ : AH) : Prop := K (.ret v, m) σ
@[reducible] noncomputable def Ku (m : Loc) (K : Loc → AH → Prop) (_ : Unit) (σ : AH) : Prop := K m σ
@[reducible] noncomputable def Kput (cs : List Addr) (x : String) (v : PV) (m : Loc) (K : Loc → AH → Prop) (o : PV) (σ : AH) : Prop := Ok (xg cs x o v σ) (Ku m K)
@[reducible] noncomputable def Kset2 (o v : PV) (m : Loc) (K : Loc → AH → Prop) (i : PV) (σ : AH) : Prop := Ok (oz o i v σ) (Ku m K)
@[reducible] noncomputable def Kset (g : EF) (v : PV) (m : Loc) (K : Loc → AH → Prop) (o : PV) (σ : AH) : Prop := Ok (g m σ) (Kset2 o v m K)
@[reducible] noncomputable def Kf (K : KP) (p : Res × Loc) (σ : AH) : Prop := match p with | (.ret v, _) => K v σ | (.next, _) => K .none σ | (.cont, _) => False | (.brk, _) => False
noncomputable def yc (x : String) (tab : List (Addr × FF)) (l : LF) (m : Loc) (K : KP) (o : PV) (σ : AH) : Prop := Ok (a9 x tab (an o) l m σ) K
noncomputable def CY (l : LF) (g : FF) (m : Loc) (K : KP) (o : PV) (σ : AH) : Prop := Ok (jA (an o) l g m σ) K
noncomputable def C6 (l : LF) (g : FF) (m : Loc) (K : KP) (o : PV) (σ : AH) : Prop := Ok (ym (an o) l g m σ) K
@[reducible] noncomputable def Kswap (a : List PV → Loc → Option Loc) (m : Loc) (K : KZ) (v : PV) (σ : AH) : Prop := match v with | .tup l => (match a l m with | some m => K (.next, m) σ | none => False) | _ => False
@[reducible] noncomputable def Kdel2 (o : PV) (m : Loc) (K : KZ) (i : PV) (σ : AH) : Prop := ∃ σ', yb o i σ = some ((), σ') ∧ K (.next, m) σ'
@[reducible] noncomputable def Kdel (g : EF) (m : Loc) (K : KZ) (o : PV) (σ : AH) : Prop := Ok (g m σ) (Kdel2 o m K)
variable {K : KP} {Kl : List PV → AH → Prop} {Kt : Bool → AH → Prop} {Ks : KZ} {Ka : Loc → AH → Prop} {f g : EF} {l : LF} {t u : TF} {s r : SF} {a : AF} {x : String} {v : PV}
theorem kn (e : m x = some v) (k : K v σ) : Ok (af x m σ) K := go (by unfold af; rw [e]) k
theorem kp (k : K v σ) : Ok (an v m σ) K := go rfl k
theorem k1 {op : PV → AH → Option (PV × AH)} (k : Ok (f m σ) (K1 op K)) : Ok (e1 op f m σ) K := fh k
theorem k2 {op : PV → PV → AH → Option (PV × AH)} (k : Ok (f m σ) (K2 op g m K)) : Ok (e2 op f g m σ) K := fh (k.mono fun _ _ q => fh q)
theorem kifE (k : Ok (t m σ) (Kif f g m K)) : Ok (sS t f g m σ) K := fh (k.mono fun b _ q => match b, q with | true, q => q | false, q => q)
theorem kif (k : Ok (t m σ) (Kif s r m Ks)) : Ok (df t s r m σ) Ks := fh (k.mono fun b _ q => match b, q with | true, q => q | false, q => q)
theorem kl0 (k : Kl [] σ) : Ok (ao m σ) Kl := go rfl k
theorem klc (k : Ok (f m σ) (Kc l m Kl)) : Ok (aj f l m σ) Kl := fh (k.mono fun _ _ q => fh (q.mono fun _ _ q => go rfl q))
theorem kL {op : List PV → AH → Option (PV × AH)} (k : Ok (l m σ) (K1 op K)) : Ok (eL op l m σ) K := fh k
theorem kcall {F : FF} (k : Ok (l m σ) (K1 F K)) : Ok (aD F l m σ) K := fh k
theorem ktn (k : Ok (t m σ) (Kn Kt)) : Ok (fU t m σ) Kt := fh (k.mono fun b _ q => match b, q with | true, q => go rfl q | false, q => go rfl q)
theorem kand (k : Ok (t m σ) (Kand u m Kt)) : Ok (hU t u m σ) Kt := fh (k.mono fun b _ q => match b, q with | true, q => q | false, q => go rfl q)
theorem kor (k : Ok (t m σ) (Kor u m Kt)) : Ok (o9 t u m σ) Kt := fh (k.mono fun b _ q => match b, q with | true, q => go rfl q | false, q => q)
theorem kof (k : Ok (f m σ) (Kb Kt)) : Ok (bL f m σ) Kt := fh (k.mono fun v _ q => match v, q with | .bool _, q => go rfl q)
theorem ktt (k : Kt true σ) : Ok (eN m σ) Kt := go rfl k
theorem knot (k : Ok (f m σ) (Kb (Kn (Kv K)))) : Ok (AT f m σ) K := fh (k.mono fun v _ q => match v, q with | .bool true, q => go rfl q | .bool false, q => go rfl q)
theorem keand (k : Ok (f m σ) (Kb (Kif g (an (.bool false)) m K))) : Ok (tG f g m σ) K := fh (k.mono fun v _ q => match v, q with | .bool true, q => q | .bool false, q => q)
theorem keor (k : Ok (f m σ) (Kb (Kif (an (.bool true)) g m K))) : Ok (B6 f g m σ) K := fh (k.mono fun v _ q => match v, q with | .bool true, q => q | .bool false, q => q)
theorem kan (k : Ka (m.put x v) σ) : Ok (aF x v m σ) Ka := go rfl k
theorem kaa {cs : List Addr} (k : Ok (f m σ) (Kput cs x v m Ka)) : Ok (bR cs x f v m σ) Ka := fh (k.mono fun _ _ q => fh (q.mono fun _ _ q => go rfl q))
theorem kai (k : Ok (f m σ) (Kset g v m Ka)) : Ok (fG f g v m σ) Ka := fh (k.mono fun _ _ q => fh (q.mono fun _ _ q => fh (q.mono fun _ _ q => go rfl q)))
theorem k0 (k : Ks (.next, m) σ) : Ok (aB m σ) Ks := go rfl k
theorem kB (k : Ok (s m σ) (Kq r Ks)) : Ok (am s r m σ) Ks := fh (k.mono fun p _ q => match p, q with | (.next, _), q => q | (.cont, _), q => go rfl q | (.brk, _), q => go rfl q | (.ret _, _), q => go rfl q)
theorem kas (k : Ok (f m σ) (Kas a m Ks)) : Ok (a6 f a m σ) Ks := fh (k.mono fun _ _ q => fh (q.mono fun _ _ q => go rfl q))
theorem kx (k : Ok (f m σ) (Kx m Ks)) : Ok (bO f m σ) Ks := fh (k.mono fun _ _ q => go rfl q)
theorem kr (k : Ok (f m σ) (Kr m Ks)) : Ok (bk f m σ) Ks := fh (k.mono fun _ _ q => go rfl q)
theorem krn (k : Ks (.ret .none, m) σ) : Ok ((fun m σ => some ((Res.ret .none, m), σ) : SF) m σ) Ks := go rfl k
theorem kco (k : Ks (.cont, m) σ) : Ok (qU m σ) Ks := go rfl k
theorem ksw {p : List PV → Loc → Option Loc} (k : Ok (f m σ) (Kswap p m Ks)) : Ok (gw f p m σ) Ks := fh (k.mono fun v σ q => by
  cases v <;> try exact q.elim
  dsimp only [Kswap, j1] at q ⊢
  split at q
  · rename_i e; first | exact go rfl q | (rw [e]; exact go rfl q)
  · exact q.elim)
theorem kde (k : Ok (f m σ) (Kdel g m Ks)) : Ok (zX f g m σ) Ks := fh (k.mono fun _ _ q => fh (q.mono fun _ _ ⟨_, e, q⟩ => go (by rw [e]; rfl) q))
noncomputable def yT (m : Loc) : List String → List PV → Loc
  | p :: ps, v :: vs => yT (m.put p v) ps vs
  | _, _ => m
theorem uN : ∀ (ps : List String) (vs : List PV) (m : Loc), (ps.zip vs).foldl (fun m p => m.put p.1 p.2) m = yT m ps vs
  | [], _, _ => rfl
  | _ :: _, [], _ => rfl
  | p :: ps, v :: vs, m => uN ps vs (m.put p v)
noncomputable def AG : Loc := fun _ => none
theorem kf {ps : List String} {args : List PV} (hl : args.length = ps.length) (k : Ok (s (yT AG ps args) σ) (Kf K)) : Ok (bo ps s args σ) K := by
  rw [← uN ps args AG] at k
  obtain ⟨⟨r, m⟩, σ', e, q⟩ := k
  have z : bo ps s args σ = qQ (some ((r, m), σ')) := by rw [← e]; exact if_pos hl
  match r, q with
  | .ret v, q => exact ⟨v, σ', z, q⟩
  | .next, q => exact ⟨_, σ', z, q⟩
theorem kme {tab : List (Addr × FF)} (k : Ok (f m σ) (yc x tab l m K)) : Ok (a9 x tab f l m σ) K := let ⟨_, _, e, q⟩ := k; by unfold a9; rw [e]; exact q
noncomputable def AS (x : String) : List (String × PV) → Option PV
  | [] => none
  | (k, v) :: r => if k = x then some v else AS x r
theorem pZ (x : String) : ∀ fs, AS x fs = gl fs x
  | [] => rfl
  | (k, v) :: r => by
    unfold AS gl
    rw [List.find?_cons]
    by_cases h : k = x
    · rw [if_pos h]; simp [h]
    · rw [if_neg h, pZ x r]; simp [h, gl]
theorem ew {i : Nat} {L : List PV} {F : Nat → List PV → Option β} (h : σ.get i = some (.list L)) : hZ (.obj i) σ F = F i L := by
  show gm (σ.get i) _ = _
  rw [h]; rfl
theorem fq {i : Nat} {L : List (Int × PV)} {F : Nat → List (Int × PV) → Option β} (h : σ.get i = some (.idict L)) : j7 (.obj i) σ F = F i L := by
  show wI (σ.get i) _ = _
  rw [h]; rfl
theorem b9 {tab : List (Addr × FF)} {i : Nat} {C : Addr} {fs : List (String × PV)} {G : FF} (h : σ.get i = some (.inst C fs)) (ht : tab.lookup C = some G) (hx : AS x fs = none) (k : Ok (l m σ) (Km G i K)) : yc x tab l m K (.obj i) σ := by
  rw [pZ] at hx
  show Ok (oX (σ.get i) _) K
  rw [h]
  show Ok (match tab.lookup C, gl fs x with | some g, none => bnd (l m σ) fun args σ => g (.obj i :: args) σ | _, _ => none) K
  rw [ht, hx]
  exact fh k
theorem klm {F : FF} (k : Ok (f m σ) (CY l F m K)) : Ok (jA f l F m σ) K := let ⟨_, _, e, q⟩ := k; by unfold jA; rw [e]; exact q
theorem jf {F : FF} {i : Nat} {L : List PV} (h : σ.get i = some (.list L)) (k : Ok (l m σ) (Km F i K)) : CY l F m K (.obj i) σ := by
  show Ok (hZ (.obj i) σ fun i _ => bnd (l m σ) fun args σ => F (.obj i :: args) σ) K
  rw [ew h]
  exact fh k
theorem kdm {F : FF} (k : Ok (f m σ) (C6 l F m K)) : Ok (ym f l F m σ) K := let ⟨_, _, e, q⟩ := k; by unfold ym; rw [e]; exact q
theorem yK {F : FF} {i : Nat} {L : List (Int × PV)} (h : σ.get i = some (.idict L)) (k : Ok (l m σ) (Km F i K)) : C6 l F m K (.obj i) σ := by
  show Ok (j7 (.obj i) σ fun i _ => bnd (l m σ) fun args σ => F (.obj i :: args) σ) K
  rw [fq h]
  exact fh k
theorem iZ {p : Prop} [Decidable p] (h1 : p → Kt true σ) (h2 : ¬ p → Kt false σ) : Kb Kt (.bool (decide p)) σ := by
  by_cases h : p
  · rw [decide_eq_true h]; exact h1 h
  · rw [decide_eq_false h]; exact h2 h
theorem zv {p : Prop} [Decidable p] (h1 : p → Kt false σ) (h2 : ¬ p → Kt true σ) : Kb Kt (.bool (!decide p)) σ := by
  by_cases h : p
  · rw [decide_eq_true h]; exact h1 h
  · rw [decide_eq_false h]; exact h2 h
theorem Cf {p : Prop} [Decidable p] (h : p) (k : Kt true σ) : Kb Kt (.bool (decide p)) σ := iZ (fun _ => k) fun n => absurd h n
theorem Bf {p : Prop} [Decidable p] (h : ¬ p) (k : Kt false σ) : Kb Kt (.bool (decide p)) σ := iZ (fun n => absurd n h) fun _ => k
theorem Cd {p : Prop} [Decidable p] (h : p) (k : Kt false σ) : Kb Kt (.bool (!decide p)) σ := zv (fun _ => k) fun n => absurd h n
theorem C1 {p : Prop} [Decidable p] (h : ¬ p) (k : Kt true σ) : Kb Kt (.bool (!decide p)) σ := zv (fun n => absurd n h) fun _ => k
end
structure At (σ : AH) (L : List (Nat × AObj)) : Prop where
  nd : (L.map (·.1)).Nodup
  get' : ∀ p ∈ L, p.1 < σ.next ∧ σ.get p.1 = some p.2
section
variable {σ : AH} {L : List (Nat × AObj)} {i : Nat} {o o' : AObj}
theorem At.get (h : At σ L) (n : Nat) (e : L[n]? = some (i, o)) : σ.get i = some o := (h.get' _ (List.mem_of_getElem? e)).2
theorem At.lt (h : At σ L) (n : Nat) (e : L[n]? = some (i, o)) : i < σ.next := (h.get' _ (List.mem_of_getElem? e)).1
theorem At.set (h : At σ L) (n : Nat) (e : L[n]? = some (i, o)) (o' : AObj) : At (σ.set i o') (L.set n (i, o')) := by
  have hk : (L.set n (i, o')).map (·.1) = L.map (·.1) := by
    rw [List.map_set]
    refine List.ext_getElem? fun j => ?_
    rw [List.getElem?_set, List.length_map, List.getElem?_map]
    by_cases q : n = j
    · subst q; rw [if_pos rfl, e, if_pos (List.getElem?_eq_some_iff.mp e).1]; rfl
    · rw [if_neg q]
  refine ⟨by rw [hk]; exact h.nd, fun p hp => ?_⟩
  obtain ⟨j, hj⟩ := List.getElem?_of_mem hp
  rw [List.getElem?_set] at hj
  by_cases q : n = j
  · subst q
    rw [if_pos rfl] at hj
    split at hj
    · cases hj; exact ⟨h.lt n e, if_pos rfl⟩
    · cases hj
  · rw [if_neg q] at hj
    have h1 := h.get' p (List.mem_of_getElem? hj)
    refine ⟨h1.1, ?_⟩
    have : p.1 ≠ i := fun z => by
      have a1 : (L.map (·.1))[n]? = some i := by rw [List.getElem?_map, e]; rfl
      have a2 : (L.map (·.1))[j]? = some i := by rw [List.getElem?_map, hj, ← z]; rfl
      exact q ((List.getElem?_inj (List.getElem?_eq_some_iff.mp a1).1 h.nd).mp (a1.trans a2.symm))
    show (if p.1 = i then some o' else σ.get p.1) = _
    rw [if_neg this]; exact h1.2
theorem At.new (h : At σ L) (o : AObj) : At (σ.new o) ((σ.next, o) :: L) :=
  ⟨List.nodup_cons.mpr ⟨fun q => by obtain ⟨p, hp, e⟩ := List.mem_map.mp q; exact absurd (e ▸ (h.get' p hp).1) (Nat.lt_irrefl _), h.nd⟩, fun p hp => by
    rcases List.mem_cons.mp hp with rfl | hp
    · exact ⟨Nat.lt_succ_self _, if_pos rfl⟩
    · have h1 := h.get' p hp
      exact ⟨Nat.lt_succ_of_lt h1.1, (if_neg (Nat.ne_of_lt h1.1)).trans h1.2⟩⟩
theorem At.newI (h : At σ L) (o : AObj) : At (σ.newI o) ((σ.next, o) :: L) :=
  ⟨(h.new o).nd, fun p hp => let q := (h.new o).get' p hp; ⟨Nat.lt_succ_of_lt q.1, q.2⟩⟩
theorem At.sub {L' : List (Nat × AObj)} (h : At σ L) (s : L'.Sublist L) : At σ L' := ⟨(s.map _).nodup h.nd, fun p hp => h.get' p (s.subset hp)⟩
theorem At.perm {L' : List (Nat × AObj)} (h : At σ L) (s : L.Perm L') : At σ L' := ⟨(s.map _).nodup_iff.mp h.nd, fun p hp => h.get' p (s.mem_iff.mpr hp)⟩
theorem At.drop (h : At σ (L ++ L)) : At σ L := h.sub (List.sublist_append_left _ _)
theorem At.tl {p : Nat × AObj} (h : At σ (p :: L)) : At σ L := h.sub (List.sublist_cons_self _ _)
theorem At.swap {A B C : List (Nat × AObj)} (h : At σ (A ++ (B ++ C))) : At σ (B ++ (A ++ C)) := h.perm (by rw [← List.append_assoc, ← List.append_assoc]; exact List.perm_append_comm.append_right _)
theorem At.mv {p q : Nat × AObj} (h : At σ (p :: L)) (n : Nat) (hq : L[n]? = some q) : At σ (L.set n p) := by
  have hn := (List.getElem?_eq_some_iff.mp hq).1
  have e : L.set n p = L.take n ++ p :: L.drop (n + 1) := List.set_eq_take_append_cons_drop.trans (if_pos hn)
  rw [e]
  refine (h.sub (L' := p :: (L.take n ++ L.drop (n + 1))) (.cons_cons _ ?_)).perm List.perm_middle.symm
  conv => rhs; rw [← List.take_append_drop n L]
  exact (List.Sublist.refl _).append (List.drop_sublist_drop_left _ (Nat.le_succ n))
end
section
variable {σ : AH} {m : Loc} {K : KP} {Ka : Loc → AH → Prop} {v : PV} {a b : Int} {i C : Nat} {x : String} {cs : List Addr} {fs : List (String × PV)} {l : List PV}
theorem gp (h : σ.get i = some (.inst C fs)) (hc : cs.contains C = true) (hx : AS x fs = some v) (k : K v σ) : K1 (aU cs x) K (.obj i) σ := go (by show oX (σ.get i) _ = _; rw [h]; exact (if_pos hc).trans (by rw [← pZ, hx]; rfl)) k
theorem De (h : σ.get i = some (.inst C fs)) (hc : cs.contains C = true ∧ fs.length ≤ 100) (k : Ka m (σ.set i (.inst C (jV x v fs)))) : Kput cs x v m Ka (.obj i) σ := go (by show oX (σ.get i) _ = _; rw [h]; exact if_pos hc) k
theorem kcmp {f : Int → Int → Bool} (k : K (.bool (f a b)) σ) : K2b (bU f) (.int a) K (.int b) σ := go rfl k
theorem kint {f : Int → Int → Int} (k : K (.int (f a b)) σ) : K2b (c7 f) (.int a) K (.int b) σ := go rfl k
theorem kadd (k : K (.int (a + b)) σ) : K2b bM (.int a) K (.int b) σ := go rfl k
theorem kneg (k : K (.int (-a)) σ) : K1 cM K (.int a) σ := go rfl k
theorem xE (a b : Int) (σ : AH) : cz (.int a) (.int b) σ = some (.bool (decide (a = b)), σ) := by
  unfold cz deep
  simp only [PyData.eqv]
  by_cases h : a = b <;> simp [h]
theorem wE (a b : Int) (σ : AH) : dE (.int a) (.int b) σ = some (.bool (!decide (a = b)), σ) := by
  unfold dE deep
  simp only [PyData.eqv]
  by_cases h : a = b <;> simp [h]
theorem keq (k : K (.bool (decide (a = b))) σ) : K2b cz (.int a) K (.int b) σ := go (xE a b σ) k
theorem kne (k : K (.bool (!decide (a = b))) σ) : K2b dE (.int a) K (.int b) σ := go (wE a b σ) k
theorem fN (h : σ.get i = some (.list l)) (hl : l.length ≤ 100000) (k : K (.int l.length) σ) : K1 cO K [.obj i] σ := go (by unfold cO; dsimp only [w1]; rw [h]; exact if_pos hl) k
theorem Co (h : σ.get i = some (.list l)) (hl : l.length ≤ 100000) (k : K .none (σ.set i (.list (l ++ [v])))) : Km bP i K [v] σ := go (by unfold bP; dsimp only [w2]; rw [ew h]; exact if_pos hl) k
theorem CA (hl : l.length ≤ 100000) (k : K (.tup l) σ) : K1 aX K l σ := go (if_pos hl) k
theorem kisN (k : K (.bool true) σ) : K2b jX .none K .none σ := go rfl k
theorem kisnN (k : K (.bool false) σ) : K2b iR .none K .none σ := go rfl k
theorem kisT (k : K (.bool false) σ) : K2b jX (.tup l) K .none σ := go rfl k
theorem Dc {j : PV} (e : aK (.tup l) j σ = some (v, σ)) (k : K v σ) : K2b aK (.tup l) K j σ := go e k
theorem zH {r : List PV} (hl : l.length + r.length ≤ 100000) (k : K (.tup (l ++ r)) σ) : K2b bM (.tup l) K (.tup r) σ := go (if_pos hl) k
theorem B0 (hl : l.length ≤ 100000) (k : K (.obj σ.next) (σ.new (.list l))) : K1 bK K l σ := go (if_pos hl) k
theorem C9 (k : K (.obj σ.next) (σ.new (.idict []))) : Ok (fv m σ) K := go rfl k
theorem ktupT (k : K (.tup l) σ) : K1 dG K [.tup l] σ := go rfl k
theorem xY (h : σ.get i = some (.list l)) (hl : l.length ≤ 100000) (k : K (.tup l) σ) : K1 dG K [.obj i] σ := go (by show gm (σ.get i) _ = _; rw [h]; exact if_pos hl) k
end
section
variable {σ : AH} {m : Loc} {K : KP} {Ka : Loc → AH → Prop} {v : PV} {i C : Nat} {x : String} {cs : List Addr} {fs : List (String × PV)} {l : List PV} {es : List (Int × PV)} {j : Int} {L : List (Nat × AObj)}
theorem gR (h : At σ L) (n : Nat) (e : L[n]? = some (i, .list l)) (hl : l.length ≤ 100000) {l' : List PV} (he : l ++ [v] = l') (k : ∀ τ, At τ (L.set n (i, .list l')) → K .none τ) : Km bP i K [v] σ := by subst he; exact Co (h.get n e) hl (k _ (h.set n e _))
theorem bS (h : At σ L) (n : Nat) (e : L[n]? = some (i, .inst C fs)) (hc : cs.contains C = true ∧ fs.length ≤ 100) (k : ∀ τ, At τ (L.set n (i, .inst C (jV x v fs))) → Ka m τ) : Kput cs x v m Ka (.obj i) σ := De (h.get n e) hc (k _ (h.set n e _))
theorem zi (h : At σ L) (n : Nat) (e : L[n]? = some (i, .list l)) {y : Nat} (hs : b7 (y : Int) = true ∧ seqIndex? (y : Int) l.length = some y) {l' : List PV} (he : l.set y v = l') (k : ∀ τ, At τ (L.set n (i, .list l')) → Ka m τ) : Kset2 (.obj i) v m Ka (.int y) σ :=
  go (by subst he; unfold oz; dsimp only [gP]; rw [h.get n e]; exact (if_pos hs.1).trans (by rw [hs.2])) (k _ (h.set n e _))
theorem ya (h : At σ L) (n : Nat) (e : L[n]? = some (i, .idict es)) (hs : es.length ≤ 100000) {es' : List (Int × PV)} (he : jd es j v = es') (k : ∀ τ, At τ (L.set n (i, .idict es')) → Ka m τ) : Kset2 (.obj i) v m Ka (.int j) σ :=
  go (by subst he; unfold oz; dsimp only [gP]; rw [h.get n e]; exact if_pos hs) (k _ (h.set n e _))
theorem dL (h : At σ L) (hl : l.length ≤ 100000) (k : ∀ i τ, At τ ((i, .list l) :: L) → K (.obj i) τ) : K1 bK K l σ := B0 hl (k _ _ (h.new _))
theorem sr (h : At σ L) (k : ∀ i τ, At τ ((i, .idict []) :: L) → K (.obj i) τ) : Ok (fv m σ) K := C9 (k _ _ (h.new _))
end
noncomputable def yX (m : Loc) : List String → List PV → Loc
  | x :: xs, v :: vs => (yX m xs vs).put x v
  | _, _ => m
theorem ve (m : Loc) : ∀ (xs : List String) (vs : List PV), (xs.zip vs).reverse.foldl (fun m p => m.put p.1 p.2) m = yX m xs vs
  | [], _ => rfl
  | _ :: _, [] => rfl
  | x :: xs, v :: vs => by rw [List.zip_cons_cons, List.reverse_cons, List.foldl_append, ve m xs vs]; rfl
theorem CN {xs : List String} {l : List PV} {m : Loc} {K : KZ} {σ : AH} (hl : l.length = xs.length) (k : K (.next, yX m xs l) σ) : Kswap (dF xs) m K (.tup l) σ := by
  show match dF xs l m with | some m => K (.next, m) σ | none => False
  unfold dF gd
  rw [if_pos hl, ve]
  exact k
abbrev base6 : List Int := [-2, -1, 0, 1, 2, 3]
noncomputable def gM : List Int → List (List Int)
  | [] => [[]]
  | a :: r => (gM r).map (a :: ·) ++ gM r
abbrev Dom (l : List Int) : Prop := l.Sublist base6
theorem iG : ∀ {l b : List Int}, l.Sublist b → l ∈ gM b
  | _, _, .slnil => .head _
  | _, _, .cons _ h => List.mem_append_right _ (iG h)
  | _, _, .cons_cons _ h => List.mem_append_left _ (List.mem_map_of_mem (iG h))
noncomputable def gc : List Int → List (Int × Int)
  | [] => []
  | v :: r => match gc r with
    | (a, b) :: t => if v + 1 = a then (v, b) :: t else (v, v) :: (a, b) :: t
    | [] => [(v, v)]
noncomputable def pl (l : List Int) : PV := .tup ((gc l).map cg)
noncomputable def ob (sg : String) (k v : Int) : Bool := if sg = "<=" then decide (v ≤ k) else if sg = ">=" then decide (k ≤ v) else if sg = "=" then decide (v = k) else !decide (v = k)
noncomputable def ks : List Int := (List.range 19).map fun (i : Nat) => (i : Int) - 9
noncomputable def yM (r : Option (PV × AH)) (d : List (Int × Int)) : Bool := match r with
  | some (.tup l, _) => decide (jR l = some d)
  | _ => false
abbrev i8 (x : Int) (sg : String) (k : Int) : PV := .tup [.int x, .str sg, .int k]
theorem AK : ∀ x, ((gM base6).all fun l => ks.all fun k => yM (gL [i8 x "<=" k, pl l] σN) (gc (l.filter (ob "<=" k)))) = true := fun x => by kernel_rfl
theorem Aq : ∀ x, ((gM base6).all fun l => ks.all fun k => yM (gL [i8 x ">=" k, pl l] σN) (gc (l.filter (ob ">=" k)))) = true := fun x => by kernel_rfl
theorem AX : ∀ x, ((gM base6).all fun l => ks.all fun k => yM (gL [i8 x "!=" k, pl l] σN) (gc (l.filter (ob "!=" k)))) = true := fun x => by kernel_rfl
theorem An : ∀ x, ((gM base6).all fun l => base6.all fun k => yM (gL [i8 x "=" k, pl l] σN) (gc (l.filter (ob "=" k)))) = true := fun x => by kernel_rfl
noncomputable def C3 (σ : AH) (a b : PV) (c : Bool) : Bool := match deep σ 8 a, deep σ 8 b with
  | some x, some y => PyData.eqv x y == c
  | _, _ => false
theorem xK : ∀ σ, ((gM base6).all fun l => (gM base6).all fun r => C3 σ (pl l) (pl r) (decide (l = r))) = true := fun σ => by kernel_rfl
noncomputable def B7 (r : Option (PV × AH)) (k : Int) : Bool := match r with
  | some (.int i, _) => decide (i = k)
  | _ => false
noncomputable def jl (l : List Int) : Int := l.headD 0
noncomputable def xu (l : List Int) : Int := l.getLastD 0
theorem Au : ((gM base6).all fun l => l.isEmpty || B7 (qH [pl l] σN) (jl l)) = true := by kernel_rfl
theorem AQ : ((gM base6).all fun l => l.isEmpty || B7 (j6 [pl l] σN) (xu l)) = true := by kernel_rfl
noncomputable def CV (r : Option (PV × AH)) (j : Nat) (l : List Int) : Bool := match r with
  | some (.obj i, τ) => decide (i = j) && (match τ.get i with | some (.list x) => decide (gH x = some l) | _ => false)
  | _ => false
theorem xI : ((gM base6).all fun l => CV (kY [pl l] σN) 0 l) = true := by kernel_rfl
noncomputable def CO (l : List Int) : AH := ⟨1, fun j => if j = 0 then some (.list (l.map .int)) else none⟩
noncomputable def CW (r : Option (PV × AH)) (l : List Int) : Bool := match r with
  | some (.tup v, τ) => decide (jR v = some (gc l)) && (match τ.get 0 with | some (.list x) => decide (gH x = some l) | _ => false)
  | _ => false
theorem xM : ((gM base6).all fun l => CW (eu [.obj 0] (CO l)) l) = true := by kernel_rfl
noncomputable def y2 (l : List Int) : List Int := l.reverse.map (- ·)
abbrev base7 : List Int := [-3, -2, -1, 0, 1, 2, 3]
noncomputable def kW (l : List Int) : List Int := [0, 1, 2, 3].filter fun v => l.contains v || l.contains (-v)
noncomputable def yn (l : List Int) : List Int := base7.filter fun v => l.contains v || l.contains (-v)
theorem qA : ((gM base6).all fun l => yM (lk [pl l] σN) (gc (y2 l)) && yM (tZ [pl l, pl (y2 l)] σN) (gc (yn (kW l))) && decide ((kW l).Sublist [0, 1, 2, 3])) = true := by kernel_rfl
theorem vQ : ((gM base6).all fun l => (gM [0, 1, 2, 3]).all fun z => yM (pU [pl l, pl (yn z)] σN) (gc (l.filter fun v => !(z.contains v || z.contains (-v))))) = true := by kernel_rfl
local macro_rules | `(tactic| infer_instance) => do
  let ts ← ("kB k0 kas kan kx kr kif krn kp k1 k2 klc kl0 kL kcall kof kand kor ktn ktt knot keand keor kifE kaa kai kme klm kdm kcmp kint kadd kneg keq kne kisN kisnN kisT ktupT kco ksw kde kfor kof' kcomp katT kacons kanil kgen".splitOn " ").toArray.mapM fun n => `(tactic| with_reducible apply $(Lean.mkIdent (`Mine ++ n.toName)):ident)
  `(tactic| first $[| $ts:tactic]* | ((with_reducible apply kn); (first | rfl | assumption)) | ((with_reducible apply gp); (first | exact At.get (by assumption) 0 rfl | exact At.get (by assumption) 1 rfl | exact At.get (by assumption) 2 rfl); rfl; rfl) | ((with_reducible apply CA); exact Nat.le_of_ble_eq_true rfl) | ((with_reducible apply Dc); rfl) | ((with_reducible apply CN); rfl))
local macro_rules | `(tactic| and_intros) => `(tactic| repeat infer_instance)
local macro_rules | `(tactic| exists $es,*) => do
  let ts ← es.getElems.mapM fun e => `(tactic| (refine $e ?_; and_intros))
  `(tactic| ($[$ts];*))
theorem dg {b l : List Int} {P : List Int → Bool} (h : (gM b).all P = true) (hl : l.Sublist b) : P l = true := List.all_eq_true.mp h l (iG hl)
theorem ig (d : List (Int × Int)) : nob (.tup (d.map cg)) = true := List.all_eq_true.mpr fun v hv => by obtain ⟨p, _, rfl⟩ := List.mem_map.mp hv; rfl
theorem oG (ns : List Int) : (ns.map PV.int).all nob = true := List.all_eq_true.mpr fun v hv => by obtain ⟨p, _, rfl⟩ := List.mem_map.mp hv; rfl
theorem j5 : ∀ {l : List PV} {ns : List Int}, gH l = some ns → l = ns.map .int
  | [], _, e => by cases e; rfl
  | .int i :: r, _, e => by
    obtain ⟨d, e1, e2⟩ := Option.map_eq_some_iff.mp e
    subst e2
    exact congrArg _ (j5 e1)
theorem rV {f : FF} {args : List PV} {v : PV} {τ : AH} (ha : args.all nob = true) (e : f args σN = some (v, τ)) (hv : nob v = true) (σ : AH) : fP f args σ = some (v, σ) := by
  unfold fP
  rw [eG ha, e]
  exact if_pos hv
theorem ze {f : FF} {args : List PV} {d : List (Int × Int)} (ha : args.all nob = true) (e : yM (f args σN) d = true) (σ : AH) : fP f args σ = some (.tup (d.map cg), σ) := by
  unfold yM at e
  split at e
  · rename_i q
    rw [hK (of_decide_eq_true e)] at q
    exact rV ha q (ig d) σ
  · cases e
theorem BK {f : FF} {args : List PV} {k : Int} (ha : args.all nob = true) (e : B7 (f args σN) k = true) (σ : AH) : fP f args σ = some (.int k, σ) := by
  unfold B7 at e
  split at e
  · rename_i q
    rw [of_decide_eq_true e] at q
    exact rV ha q rfl σ
  · cases e
theorem sV {a b : Bool} {P : Prop} (h : (a && b) = true) (k : a = true → b = true → P) : P := k (Bool.and_eq_true_iff.mp h).1 (Bool.and_eq_true_iff.mp h).2
section
variable {l r : List Int} {σ : AH} {x k : Int} {sg : String}
noncomputable def SK (sg : String) (k : Int) : Prop := sg = "<=" ∧ k ∈ ks ∨ sg = ">=" ∧ k ∈ ks ∨ sg = "=" ∧ k ∈ base6 ∨ sg = "!=" ∧ k ∈ ks
theorem pt (hl : Dom l) (h : SK sg k) : ka [i8 x sg k, pl l] σ = some (pl (l.filter (ob sg k)), σ) := by
  have ha : [i8 x sg k, pl l].all nob = true := Bool.and_eq_true_iff.mpr ⟨rfl, Bool.and_eq_true_iff.mpr ⟨ig _, rfl⟩⟩
  refine ze ha ?_ σ
  rcases h with ⟨rfl, hk⟩ | ⟨rfl, hk⟩ | ⟨rfl, hk⟩ | ⟨rfl, hk⟩
  · exact List.all_eq_true.mp (dg (AK x) hl) k hk
  · exact List.all_eq_true.mp (dg (Aq x) hl) k hk
  · exact List.all_eq_true.mp (dg (An x) hl) k hk
  · exact List.all_eq_true.mp (dg (AX x) hl) k hk
theorem vc (hl : Dom l) (hr : Dom r) (σ : AH) : ∃ x y, deep σ 8 (pl l) = some x ∧ deep σ 8 (pl r) = some y ∧ PyData.eqv x y = decide (l = r) := by
  have h := List.all_eq_true.mp (dg (xK σ) hl) r (iG hr)
  unfold C3 at h
  split at h
  · rename_i q1 q2; exact ⟨_, _, q1, q2, beq_iff_eq.mp h⟩
  · cases h
theorem ld (hl : Dom l) (hr : Dom r) : cz (pl l) (pl r) σ = some (.bool (decide (l = r)), σ) := by
  obtain ⟨x, y, h1, h2, h3⟩ := vc hl hr σ
  unfold cz; rw [h1, h2, ← h3]
theorem y7 (hl : Dom l) (hr : Dom r) : dE (pl l) (pl r) σ = some (.bool (!decide (l = r)), σ) := by
  obtain ⟨x, y, h1, h2, h3⟩ := vc hl hr σ
  unfold dE; rw [h1, h2, ← h3]
theorem zP : Dom [] := List.nil_sublist _
theorem Dom.filter (h : Dom l) (p : Int → Bool) : Dom (l.filter p) := List.filter_sublist.trans h
theorem vR (l : List Int) : [pl l].all nob = true := Bool.and_eq_true_iff.mpr ⟨ig _, rfl⟩
theorem B3 (l r : List Int) : [pl l, pl r].all nob = true := Bool.and_eq_true_iff.mpr ⟨ig _, vR r⟩
theorem uy {a b : Bool} (h : (a || b) = true) (n : a = false) : b = true := by rw [n] at h; exact h
theorem qz (n : l ≠ []) : l.isEmpty = false := by cases l; exact absurd rfl n; rfl
theorem xn (hl : Dom l) (n : l ≠ []) : qv [pl l] σ = some (.int (jl l), σ) := BK (vR l) (uy (dg Au hl) (qz n)) σ
theorem sQ (hl : Dom l) (n : l ≠ []) : jQ [pl l] σ = some (.int (xu l), σ) := BK (vR l) (uy (dg AQ hl) (qz n)) σ
theorem ph (hl : Dom l) : kQ [pl l] σ = some (.obj σ.next, σ.new (.list (l.map .int))) := by
  have h := dg xI hl
  unfold CV at h
  split at h
  · rename_i i τ q
    obtain ⟨h1, h2⟩ := Bool.and_eq_true_iff.mp h
    split at h2
    · rename_i z hz
      have e := j5 (of_decide_eq_true h2)
      subst e
      show fP kY [pl l] σ = _
      unfold fP
      rw [eG (vR l), q]
      dsimp only
      rw [if_neg (fun z => nomatch z)]
      dsimp only [gP]
      rw [hz]
      exact if_pos (oG l)
    · cases h2
  · cases h
theorem zb (hl : Dom l) {i : Nat} (hi : σ.get i = some (.list (l.map .int))) : fw [.obj i] σ = some (pl l, σ.set i (.list (l.map .int))) := by
  have h := dg xM hl
  unfold CW at h
  split at h
  · rename_i v τ q
    obtain ⟨h1, h2⟩ := Bool.and_eq_true_iff.mp h
    split at h2
    · rename_i z hz
      have e := j5 (of_decide_eq_true h2)
      have e' := hK (of_decide_eq_true h1)
      subst e e'
      show fQ eu [.obj i] σ = _
      unfold fQ
      dsimp only [w1]
      rw [ew hi, eG (oG l), show eu [.obj 0] ⟨1, fun j => if j = 0 then some (.list (l.map .int)) else none⟩ = _ from q]
      dsimp only
      rw [hz]
      exact if_pos ⟨oG l, rfl, ig _⟩
    · cases h2
  · cases h
theorem xd (hl : Dom l) : iX [pl l] σ = some (pl (y2 l), σ) := ze (vR l) (sV (dg qA hl) fun h _ => sV h fun h _ => h) σ
theorem uX (hl : Dom l) : pV [pl l, pl (y2 l)] σ = some (pl (yn (kW l)), σ) := ze (B3 _ _) (sV (dg qA hl) fun h _ => sV h fun _ h => h) σ
theorem qP (hl : Dom l) (hr : Dom r) : mN [pl l, pl (yn (kW r))] σ = some (pl (l.filter fun v => !((kW r).contains v || (kW r).contains (-v))), σ) :=
  ze (B3 _ _) (List.all_eq_true.mp (dg vQ hl) _ (iG (sV (dg qA hr) fun _ h => of_decide_eq_true h))) σ
end
theorem K1.eq {α β : Type} {op : α → AH → Option (β × AH)} {K : β → AH → Prop} {a : α} {b : β} {σ σ' : AH} (e : op a σ = some (b, σ')) (k : K b σ') : K1 op K a σ := go e k
theorem K2b.eq {op : PV → PV → AH → Option (PV × AH)} {K : KP} {a b c : PV} {σ σ' : AH} (e : op a b σ = some (c, σ')) (k : K c σ') : K2b op a K b σ := go e k
theorem l9 {x k : Int} {sg : String} {K : KP} {σ : AH} (h : SK sg k) (q : ∀ v, K v σ) : Ok (jS [i8 x sg k] σ) K := by
  rcases h with ⟨rfl, _⟩ | ⟨rfl, _⟩ | ⟨rfl, _⟩ | ⟨rfl, _⟩
  · exact go rfl (q (i8 x ">=" (k + 1)))
  · exact go rfl (q (i8 x "<=" (k - 1)))
  · exact go rfl (q (i8 x "!=" k))
  · exact go rfl (q (i8 x "=" k))
theorem yt {x k : Int} {sg : String} {l : List Int} {σ : AH} (hl : Dom l) (h : SK sg k) : lj [i8 x sg k, pl l] σ = some (.int (if l.filter (ob sg k) = l then 1 else if l.filter (ob sg k) = [] then -1 else 0), σ) := by
  suffices z : Ok (lM [i8 x sg k, pl l] σN) fun v _ => v = .int (if l.filter (ob sg k) = l then 1 else if l.filter (ob sg k) = [] then -1 else 0) by
    obtain ⟨v, τ, e, rfl⟩ := z
    exact rV (args := [i8 x sg k, pl l]) (Bool.and_eq_true_iff.mpr ⟨rfl, vR l⟩) e rfl σ
  refine kf rfl (kB ?_)
  and_intros
  refine .eq (pt hl h) ?_
  and_intros
  refine .eq (ld (hl.filter _) hl) (iZ (fun c => ?_) fun c => ?_)
  · and_intros
    rw [if_pos c]
  · and_intros
    refine .eq (ld (hl.filter _) zP) (iZ (fun c2 => ?_) fun c2 => ?_)
    · and_intros
      rw [if_neg c, if_pos c2]
    · and_intros
      rw [if_neg c, if_neg c2]
structure Ent where
  x : Nat
  old : List Int
  l : PV
  r : PV
  sp : Int
noncomputable abbrev pE (e : Ent) : PV := .tup [.int e.x, pl e.old, e.l, e.r, .int e.sp]
structure StS where
  dom : List (List Int)
  fst : List (List Int)
  trail : List Ent
  marks : List Int
  news : List Int
  sp : Int
  fl : Bool
  cl : PV
structure SA where
  S : Nat
  a : Nat
  b : Nat
  c : Nat
  e : Nat
  n : Nat
noncomputable def jU (A : SA) (s : StS) : List (String × PV) := [("domains", .obj A.a), ("firsts", .obj A.b), ("trail", .obj A.c), ("marks", .obj A.e), ("news", .obj A.n), ("speaker", .int s.sp), ("is_failed", .bool s.fl), ("clash", s.cl)]
noncomputable def bX (ks : List Int) : List (Int × PV) := ks.map fun k => (k, .bool true)
noncomputable def bm (A : SA) (s : StS) (R : List (Nat × AObj)) : List (Nat × AObj) := (A.S, .inst 393 (jU A s)) :: (A.a, .list (s.dom.map pl)) :: (A.b, .list (s.fst.map pl)) :: (A.c, .list (s.trail.map pE)) :: (A.e, .list (s.marks.map .int)) :: (A.n, .idict (bX s.news)) :: R
structure SB (s : StS) : Prop where
  dl : s.dom.length = 4
  d : ∀ l ∈ s.dom, Dom l
  fl : s.fst.length = 4
  f : ∀ l ∈ s.fst, Dom l
  t : s.trail.length ≤ 1000
  m : s.marks.length ≤ 1000
  n : s.news.length ≤ 10
noncomputable def b6 (ks : List Int) (x : Int) : List Int := if ks.contains x then ks else ks ++ [x]
theorem f6 (ks : List Int) (x : Int) : jd (bX ks) x (.bool true) = bX (b6 ks x) := by
  have e : (bX ks).any (fun p => p.1 = x) = ks.contains x := by
    unfold bX
    induction ks with
    | nil => rfl
    | cons k ks ih => rw [List.map_cons, List.any_cons, ih, List.contains_cons]; exact congrArg (· || _) (Bool.eq_iff_iff.mpr ⟨fun h => beq_iff_eq.mpr (of_decide_eq_true h).symm, fun h => decide_eq_true (beq_iff_eq.mp h).symm⟩)
  unfold jd b6
  rw [e]
  split
  · unfold bX
    rw [List.map_map]
    refine List.map_congr_left fun k _ => ?_
    show (if k = x then _ else _) = _
    split <;> rfl
  · unfold bX; rw [List.map_append]; rfl
theorem eh {α β : Type} (f : α → β) (l : List α) (a : α) : l.map f ++ [f a] = (l ++ [a]).map f := (List.map_append (l₂ := [a])).symm
theorem uf {n : Nat} (h : n ≤ 1000) : n ≤ 100000 := Nat.le_trans h (by decide)
theorem eS {i n : Nat} (h : i < n) : seqIndex? (i : Int) n = some i := by
  unfold seqIndex?
  have h1 : ¬ ((i : Int) < 0) := by lia
  simp [h1, h]
theorem gN {i : Nat} (h : i ≤ 1000000) : b7 (i : Int) = true := decide_eq_true (by lia)
theorem uD {l : List PV} {i : Nat} {v : PV} (h : l[i]? = some v) (hs : i ≤ 1000000) : yi l (i : Int) = some v := by
  unfold yi
  rw [eG (gN hs), eS (List.getElem?_eq_some_iff.mp h).1]
  exact h
section
variable {σ : AH} {A : SA} {s : StS} {R : List (Nat × AObj)} {K : KP} {x : Nat} {l : List Int} {i : Nat} {L : List PV} {v : PV}
theorem uv (h : σ.get i = some (.list L)) (e : L[x]? = some v) (hs : x ≤ 1000000) {j : Int} (hj : j = (x : Int)) (k : K v σ) : K2b aK (.obj i) K (.int j) σ := go (by subst hj; unfold aK; dsimp only; rw [h]; dsimp only [cr]; rw [uD e hs]; rfl) k
theorem SB.x4 (b : SB s) (hx : s.dom[x]? = some l) : x ≤ 1000000 := by have := (List.getElem?_eq_some_iff.mp hx).1; have := b.dl; lia
theorem SB.f4 (b : SB s) (hx : s.fst[x]? = some l) : x ≤ 1000000 := by have := (List.getElem?_eq_some_iff.mp hx).1; have := b.fl; lia
theorem SB.at (b : SB s) (hx : s.dom[x]? = some l) : Dom l := b.d l (List.mem_of_getElem? hx)
theorem gI {α β : Type} {l : List α} {f : α → β} {a : α} (h : l[x]? = some a) : (l.map f)[x]? = some (f a) := by rw [List.getElem?_map, h]; rfl
theorem tJ (h : At σ (bm A s R)) (b : SB s) (hx : s.dom[x]? = some l) (k : K (pl l) σ) : K2b aK (.obj A.a) K (.int x) σ := uv (h.get 1 rfl) (gI hx) (b.x4 hx) rfl k
theorem CP (h : At σ (bm A s R)) (b : SB s) (hx : s.fst[x]? = some l) (k : K (pl l) σ) : K2b aK (.obj A.b) K (.int x) σ := uv (h.get 2 rfl) (gI hx) (b.f4 hx) rfl k
theorem mO (h : At σ (bm A s R)) {l : List PV} (k : ∀ σ', At σ' (bm A { s with fl := true, cl := .tup l } R) → K (.bool false) σ') : Ok (dY [.obj A.S, .tup l] σ) K := by
  refine kf rfl (kB ?_)
  and_intros
  refine bS h 0 rfl ⟨rfl, Nat.le_of_ble_eq_true rfl⟩ fun τ h => ?_
  and_intros
  refine bS h 0 rfl ⟨rfl, Nat.le_of_ble_eq_true rfl⟩ fun τ h => ?_
  and_intros
  exact k _ h
theorem qJ (h : At σ (bm A s R)) (b : SB s) (hx : s.dom[x]? = some l) (n : l ≠ []) (k : K (.int (jl l)) σ) : Ok (eJ [.obj A.S, .int x] σ) K := by
  refine kf rfl (kB ?_)
  and_intros
  refine tJ h b hx ?_
  and_intros
  refine .eq (xn (b.at hx) n) ?_
  and_intros
  exact k
theorem kS (h : At σ (bm A s R)) (b : SB s) (hx : s.dom[x]? = some l) (n : l ≠ []) (k : K (.int (xu l)) σ) : Ok (dv [.obj A.S, .int x] σ) K := by
  refine kf rfl (kB ?_)
  and_intros
  refine tJ h b hx ?_
  and_intros
  refine .eq (sQ (b.at hx) n) ?_
  and_intros
  exact k
theorem ij (h : At σ (bm A s R)) (b : SB s) (hx : s.dom[x]? = some l) (k : K (pl l) σ) : Ok (cj [.obj A.S, .int x] σ) K := by
  refine kf rfl (kB ?_)
  and_intros
  refine tJ h b hx ?_
  and_intros
  exact k
theorem jN (h : At σ (bm A s R)) (b : SB s) (hx : s.fst[x]? = some l) (k : K (pl l) σ) : Ok (cR [.obj A.S, .int x] σ) K := by
  refine kf rfl (kB ?_)
  and_intros
  refine CP h b hx ?_
  and_intros
  exact k
theorem w8 (h : At σ (bm A s R)) (b : SB s) (hx : s.dom[x]? = some l) {sg : String} {c : Int} (sk : SK sg c) (k : K (.int (if l.filter (ob sg c) = l then 1 else if l.filter (ob sg c) = [] then -1 else 0)) σ) : Ok (fE [.obj A.S, i8 x sg c] σ) K := by
  refine kf rfl (kB ?_)
  and_intros
  refine tJ h b hx ?_
  and_intros
  refine .eq (yt (b.at hx) sk) ?_
  and_intros
  exact k
theorem sn (h : At σ (bm A s R)) (b : SB s) (k : K (.int s.marks.length) σ) : Ok (cH [.obj A.S] σ) K := by
  refine kf rfl (kB ?_)
  and_intros
  refine fN (h.get 4 rfl) (by rw [List.length_map]; exact uf b.m) ?_
  rw [List.length_map]
  and_intros
  exact k
theorem zl (h : At σ (bm A s R)) (b : SB s) (k : ∀ σ', At σ' (bm A { s with marks := s.marks ++ [(s.trail.length : Int)] } R) → K .none σ') : Ok (dX [.obj A.S] σ) K := by
  refine kf rfl (kB ?_)
  and_intros
  refine jf (h.get 4 rfl) ?_
  and_intros
  refine fN (h.get 3 rfl) (by rw [List.length_map]; exact uf b.t) ?_
  rw [List.length_map]
  and_intros
  refine gR h 4 rfl (by rw [List.length_map]; exact uf b.m) (eh PV.int _ _) fun τ h => ?_
  and_intros
  exact k _ h
noncomputable def AJ (s : StS) (x : Nat) (l l' : List Int) (q r : PV) (sp : Int) : StS := { s with dom := s.dom.set x l', trail := s.trail ++ [⟨x, l, q, r, sp⟩], news := b6 s.news x }
theorem qR (h : At σ (bm A s R)) (b : SB s) (hx : s.dom[x]? = some l) {sg : String} {c sp : Int} {r : PV} (sk : SK sg c) (hr : r = .none ∨ ∃ q, r = .tup q ∧ q.length ≤ 1000)
    (no : l.filter (ob sg c) = [] → ∀ σ' cl, At σ' (bm A { s with fl := true, cl := cl } R) → K (.bool false) σ')
    (same : l.filter (ob sg c) = l → l ≠ [] → K (.bool true) σ)
    (yes : l.filter (ob sg c) ≠ l → l.filter (ob sg c) ≠ [] → ∀ σ', At σ' (bm A (AJ s x l (l.filter (ob sg c)) (i8 x sg c) r sp) R) → K (.bool true) σ') : Ok (fA [.obj A.S, i8 x sg c, r, .int sp] σ) K := by
  refine kf rfl (kB ?_)
  and_intros
  refine tJ h b hx ?_
  and_intros
  refine .eq (pt (b.at hx) sk) ?_
  and_intros
  refine .eq (ld ((b.at hx).filter _) zP) (iZ (fun c1 => ?_) fun c1 => ?_)
  · and_intros
    refine b9 (h.get 0 rfl) rfl rfl ?_
    and_intros
    rcases hr with rfl | ⟨q, rfl, hq⟩
    · and_intros
      refine l9 sk fun v => ?_
      and_intros
      refine zH (Nat.le_of_ble_eq_true rfl) ?_
      and_intros
      exact mO h fun σ' h' => no c1 σ' _ h'
    · and_intros
      refine l9 sk fun v => ?_
      and_intros
      refine zH (Nat.le_trans (Nat.add_le_add_right hq 1) (Nat.le_of_ble_eq_true rfl)) ?_
      and_intros
      exact mO h fun σ' h' => no c1 σ' _ h'
  and_intros
  refine .eq (ld ((b.at hx).filter _) (b.at hx)) (iZ (fun c2 => ?_) fun c2 => ?_)
  · and_intros
    exact same c2 fun z => c1 (by rw [z]; rfl)
  and_intros
  refine jf (h.get 3 rfl) ?_
  and_intros
  refine gR h 3 rfl (by rw [List.length_map]; exact uf b.t) (eh pE _ ⟨x, l, i8 x sg c, r, sp⟩) fun τ h => ?_
  and_intros
  refine zi h 1 rfl ⟨gN (b.x4 hx), by rw [List.length_map]; exact eS (List.getElem?_eq_some_iff.mp hx).1⟩ List.map_set.symm fun τ h => ?_
  and_intros
  refine ya h 5 rfl (by unfold bX; rw [List.length_map]; exact Nat.le_trans b.n (by decide)) (f6 _ _) fun τ h => ?_
  and_intros
  exact yes c2 c1 τ h
end
noncomputable def zJ (l : List Int) : Bool := match gc l with
  | [] => false
  | (a, b) :: t => decide (a = jl l) && decide ((t.isEmpty && decide (a = b)) = decide (l.length = 1))
theorem yC : ((gM base6).all fun l => l.isEmpty || zJ l) = true := by kernel_rfl
theorem f8 {l : List Int} (hl : Dom l) (n : l ≠ []) : ∃ b t, gc l = (jl l, b) :: t ∧ (t = [] ∧ jl l = b ↔ l.length = 1) := by
  have h := uy (dg yC hl) (qz n)
  unfold zJ at h
  split at h
  · cases h
  · rename_i a b t q
    obtain ⟨h1, h2⟩ := Bool.and_eq_true_iff.mp h
    have h1 := of_decide_eq_true h1
    subst h1
    refine ⟨b, t, q, ?_⟩
    have h2 := of_decide_eq_true h2
    constructor
    · rintro ⟨rfl, e⟩
      exact of_decide_eq_true (h2 ▸ Bool.and_eq_true_iff.mpr ⟨rfl, decide_eq_true e⟩)
    · intro e
      obtain ⟨c1, c2⟩ := Bool.and_eq_true_iff.mp (h2.trans (decide_eq_true e))
      exact ⟨List.isEmpty_iff.mp c1, of_decide_eq_true c2⟩
theorem oJ (n : Nat) : seqIndex? (-1 : Int) (n + 1) = some n := by
  unfold seqIndex?
  have h1 : (-1 : Int) + ((n + 1 : Nat) : Int) = (n : Int) := by lia
  have h2 : (-1 : Int) < 0 := by decide
  have h3 : (n : Int) < ((n + 1 : Nat) : Int) := by lia
  simp only [h2, if_true, h1, Int.natCast_nonneg, decide_true, h3, Bool.and_self, Int.toNat_natCast]
theorem xw {l : List PV} {v : PV} (h : l.getLast? = some v) : yi l (-1) = some v := by
  unfold yi
  rw [eG (by decide)]
  rw [List.getLast?_eq_getElem?] at h
  match l, h with
  | a :: r, h => rw [List.length_cons, oJ]; exact h
noncomputable def sz (ds : List (List Int)) : Nat := (ds.map List.length).sum
structure Bnd (s : StS) : Prop where
  dl : s.dom.length = 4
  d : ∀ l ∈ s.dom, Dom l ∧ l ≠ []
  fl : s.fst.length = 4
  f : ∀ l ∈ s.fst, Dom l ∧ l ≠ []
  t : s.trail.length + sz s.dom ≤ 100
  m : s.marks.length ≤ 100
  n : s.news.Nodup
  nr : ∀ k ∈ s.news, 0 ≤ k ∧ k < (4 : Nat)
theorem wG {l : List Int} {n : Nat} (h : l.Nodup) (hb : ∀ k ∈ l, 0 ≤ k ∧ k < (n : Int)) : l.length ≤ n := by
  have := h.length_le_of_subset (l₂ := (List.range n).map fun (i : Nat) => (i : Int)) fun k hk => List.mem_map.mpr ⟨k.toNat, List.mem_range.mpr (by have := hb k hk; lia), by have := hb k hk; lia⟩
  rw [List.length_map, List.length_range] at this
  exact this
theorem Bnd.sb {s : StS} (b : Bnd s) : SB s :=
  ⟨b.dl, fun l h => (b.d l h).1, b.fl, fun l h => (b.f l h).1, Nat.le_trans (Nat.le_add_right _ _) (Nat.le_trans b.t (Nat.le_of_ble_eq_true rfl)), Nat.le_trans b.m (Nat.le_of_ble_eq_true rfl), Nat.le_trans (wG b.n b.nr) (Nat.le_of_ble_eq_true rfl)⟩
theorem Bnd.at {s : StS} (b : Bnd s) {x : Nat} (hx : x < 4) : ∃ l, s.dom[x]? = some l ∧ Dom l ∧ l ≠ [] :=
  let q : x < s.dom.length := b.dl ▸ hx
  ⟨_, List.getElem?_eq_getElem q, b.d _ (List.getElem_mem q)⟩
theorem Bnd.fat {s : StS} (b : Bnd s) {x : Nat} (hx : x < 4) : ∃ l, s.fst[x]? = some l ∧ Dom l ∧ l ≠ [] :=
  let q : x < s.fst.length := b.fl ▸ hx
  ⟨_, List.getElem?_eq_getElem q, b.f _ (List.getElem_mem q)⟩
theorem qI : ∀ (ds : List (List Int)) (x : Nat) (l l' : List Int), ds[x]? = some l → sz (ds.set x l') + l.length = sz ds + l'.length
  | [], _, _, _, h => by cases h
  | d :: ds, 0, l, l', h => by
    cases h
    show (l'.length + _) + d.length = (d.length + _) + l'.length
    lia
  | d :: ds, x + 1, l, l', h => by
    have := qI ds x l l' h
    show (d.length + sz (ds.set x l')) + _ = (d.length + sz ds) + _
    lia
theorem dr (ks : List Int) (x k : Int) : k ∈ b6 ks x ↔ k ∈ ks ∨ k = x := by
  unfold b6
  split
  · rename_i h
    exact ⟨.inl, fun q => q.elim id fun e => e ▸ List.contains_iff_mem.mp h⟩
  · rw [List.mem_append, List.mem_singleton]
theorem jF {ks : List Int} (x : Int) (h : ks.Nodup) : (b6 ks x).Nodup := by
  unfold b6
  split
  · exact h
  · rename_i q
    exact List.nodup_append.mpr ⟨h, List.pairwise_singleton _ _, fun a ha b hb e => q (List.contains_iff_mem.mpr (List.mem_singleton.mp hb ▸ e ▸ ha))⟩
inductive Gr (sc : Nat → Prop) (sp : Int) (s : StS) : StS → Prop
  | refl : Gr sc sp s s
  | step {s1 : StS} {x : Nat} {l l' : List Int} {q r : PV} : Gr sc sp s s1 → sc x → s1.dom[x]? = some l → l'.Sublist l → l' ≠ l → l' ≠ [] → Gr sc sp s (AJ s1 x l l' q r sp)
theorem Gr.trans {sc : Nat → Prop} {sp : Int} {a b c : StS} (g : Gr sc sp a b) (h : Gr sc sp b c) : Gr sc sp a c := by
  induction h with
  | refl => exact g
  | step _ h1 h2 h3 h4 h5 ih => exact .step ih h1 h2 h3 h4 h5
theorem Gr.same {sc : Nat → Prop} {sp : Int} {a c : StS} (g : Gr sc sp a c) : c.fst = a.fst ∧ c.marks = a.marks ∧ c.sp = a.sp ∧ c.fl = a.fl := by
  induction g with
  | refl => exact ⟨rfl, rfl, rfl, rfl⟩
  | step _ _ _ _ _ _ ih => exact ih
theorem Gr.sp_eq {sc : Nat → Prop} {sp : Int} {a c : StS} (g : Gr sc sp a c) : c.sp = a.sp := g.same.2.2.1
theorem Bnd.ent {s : StS} (b : Bnd s) {x : Nat} {l l' : List Int} {q r : PV} {sp : Int} (hx : s.dom[x]? = some l) (hs : l'.Sublist l) (n : l' ≠ l) (n0 : l' ≠ []) : Bnd (AJ s x l l' q r sp) := by
  have x4 : x < 4 := b.dl ▸ (List.getElem?_eq_some_iff.mp hx).1
  have h1 : l'.length < l.length := Nat.lt_of_le_of_ne hs.length_le fun e => n (hs.eq_of_length e)
  refine ⟨by rw [← b.dl]; exact List.length_set, fun d hd => ?_, b.fl, b.f, ?_, b.m, jF _ b.n, fun k hk => ?_⟩
  · rcases List.mem_or_eq_of_mem_set hd with q | rfl
    · exact b.d d q
    · exact ⟨hs.trans (b.d l (List.mem_of_getElem? hx)).1, n0⟩
  · have h2 := qI s.dom x l l' hx
    have h3 := b.t
    show (s.trail ++ [_]).length + sz (s.dom.set x l') ≤ 100
    rw [List.length_append, List.length_singleton]
    lia
  · rcases (dr _ _ _).mp hk with q | rfl
    · exact b.nr k q
    · lia
theorem Gr.bnd {sc : Nat → Prop} {sp : Int} {a c : StS} (g : Gr sc sp a c) (b : Bnd a) : Bnd c := by
  induction g with
  | refl => exact b
  | step _ _ h2 h3 h4 h5 ih => exact ih.ent h2 h3 h4 h5
theorem Bnd.fail {s : StS} (b : Bnd s) (f : Bool) (cl : PV) : Bnd { s with fl := f, cl := cl } := ⟨b.dl, b.d, b.fl, b.f, b.t, b.m, b.n, b.nr⟩
section
variable {σ : AH} {A : SA} {s : StS} {R : List (Nat × AObj)} {K : KP} {x : Nat} {l : List Int} {i : Nat} {L : List PV} {v : PV}
theorem iS (h : At σ (bm A s R)) (b : Bnd s) (hx : s.dom[x]? = some l) {sc : Nat → Prop} (hsc : sc x) {sg : String} {c : Int} {q : List PV} (sk : SK sg c) (hr : q.length ≤ 1000)
    (no : l.filter (ob sg c) = [] → ∀ σ' cl, At σ' (bm A { s with fl := true, cl := cl } R) → K (.bool false) σ')
    (yes : l.filter (ob sg c) ≠ [] → ∀ σ' s', At σ' (bm A s' R) → Gr sc s.sp s s' → s'.dom = s.dom.set x (l.filter (ob sg c)) → K (.bool true) σ') : Ok (bC [.obj A.S, i8 x sg c, .tup q] σ) K := by
  refine kf rfl (kB ?_)
  and_intros
  refine b9 (h.get 0 rfl) rfl rfl ?_
  and_intros
  refine qR h b.sb hx sk (.inr ⟨q, rfl, hr⟩) (fun z σ' cl h' => ?_) (fun z n => ?_) fun c2 c1 τ h' => ?_
  · and_intros
    exact no z σ' cl h'
  · and_intros
    refine yes (z.symm ▸ n) σ s h .refl ?_
    rw [z]
    obtain ⟨hlt, e⟩ := List.getElem?_eq_some_iff.mp hx
    rw [← e, List.set_getElem_self]
  · and_intros
    exact yes c1 τ _ h' (.step .refl hsc hx List.filter_sublist c2 c1) rfl
theorem vJ (h : At σ (bm A s R)) (b : Bnd s) (hx : s.dom[x]? = some l) {sg : String} {c : Int} (sk : SK sg c)
    (no : l.filter (ob sg c) = [] → ∀ σ' cl, At σ' (bm A { s with fl := true, cl := cl } R) → K (.bool false) σ')
    (yes : l.filter (ob sg c) ≠ [] → ∀ σ' s', At σ' (bm A s' R) → Gr (fun _ => True) (-1) s s' → s'.dom = s.dom.set x (l.filter (ob sg c)) → K (.bool true) σ') : Ok (dN [.obj A.S, i8 x sg c] σ) K := by
  refine kf rfl (kB ?_)
  and_intros
  refine b9 (h.get 0 rfl) rfl rfl ?_
  and_intros
  refine qR h b.sb hx sk (.inl rfl) (fun z σ' cl h' => ?_) (fun z n => ?_) fun c2 c1 τ h' => ?_
  · and_intros
    exact no z σ' cl h'
  · and_intros
    refine yes (z.symm ▸ n) σ s h .refl ?_
    rw [z]
    obtain ⟨hlt, e⟩ := List.getElem?_eq_some_iff.mp hx
    rw [← e, List.set_getElem_self]
  · and_intros
    exact yes c1 τ _ h' (.step .refl trivial hx List.filter_sublist c2 c1) rfl
theorem B9 {a : PV} (k : K a σ) : K2b aK (.tup (a :: L)) K (.int 0) σ := go (show (yi (a :: L) ((0 : Nat) : Int)).map (·, σ) = _ by rw [uD (v := a) rfl (Nat.zero_le _)]; rfl) k
theorem Dd {a : PV} (h : L.getLast? = some a) (k : K a σ) : K2b aK (.tup L) K (.int (-1)) σ := go (show (yi L (-1)).map (·, σ) = _ by rw [xw h]; rfl) k
theorem Bg (hl : L.length ≤ 100000) (k : K (.int L.length) σ) : K1 cO K [.tup L] σ := go (if_pos hl) k
theorem rO : ∀ l, (gc l).length ≤ l.length
  | [] => Nat.le_refl _
  | v :: r => by
    have := rO r
    unfold gc
    split
    · rename_i q
      rw [q] at this
      split <;> (simp only [List.length_cons] at *; lia)
    · simp
theorem Dom.len {l : List Int} (h : Dom l) : l.length ≤ 6 := h.length_le
theorem rm (h : At σ (bm A s R)) (b : SB s) (hx : s.dom[x]? = some l) (n : l ≠ []) (yes : l.length = 1 → K (.bool true) σ) (no : l.length ≠ 1 → K (.bool false) σ) : Ok (dT [.obj A.S, .int x] σ) K := by
  obtain ⟨y, t, e, f⟩ := f8 (b.at hx) n
  have hp : pl l = .tup (.tup [.int (jl l), .int y] :: t.map cg) := by unfold pl; rw [e]; rfl
  have ht : t.length ≤ 6 := by have h1 := rO l; rw [e, List.length_cons] at h1; have := (b.at hx).len; lia
  refine kf rfl (kB ?_)
  and_intros
  refine tJ h b hx ?_
  rw [hp]
  and_intros
  refine Bg (by rw [List.length_cons, List.length_map]; lia) ?_
  and_intros
  refine iZ (fun c => ?_) fun c => ?_
  · and_intros
    refine B9 ?_
    and_intros
    refine B9 ?_
    and_intros
    rw [List.length_cons, List.length_map] at c
    have t0 : t = [] := List.length_eq_zero_iff.mp (by lia)
    by_cases q : jl l = y
    · rw [decide_eq_true q]
      and_intros
      exact yes (f.mp ⟨t0, q⟩)
    · rw [decide_eq_false q]
      and_intros
      exact no fun z => q (f.mpr z).2
  · and_intros
    refine no fun z => c ?_
    rw [(f.mpr z).1]; rfl
theorem r9 (h : At σ (bm A s R)) (b : SB s) (hx : s.dom[x]? = some l) (n : l ≠ []) (k : K (.int (jl l)) σ) : Ok (dz [.obj A.S, .int x] σ) K := by
  obtain ⟨y, t, e, f⟩ := f8 (b.at hx) n
  have hp : pl l = .tup (.tup [.int (jl l), .int y] :: t.map cg) := by unfold pl; rw [e]; rfl
  refine kf rfl (kB ?_)
  and_intros
  refine tJ h b hx ?_
  rw [hp]
  and_intros
  refine B9 ?_
  and_intros
  exact k
noncomputable def iI : List (List Int) → List Ent → List (List Int)
  | dom, [] => dom
  | dom, e :: r => iI (dom.set e.x e.old) r
noncomputable def cP (dom : List (List Int)) (t : List Ent) (m : Nat) : List (List Int) := iI dom (t.drop m).reverse
theorem pK : ∀ (r : List Ent) (dom : List (List Int)), (iI dom r).length = dom.length
  | [], dom => rfl
  | e :: r, dom => (pK r _).trans List.length_set
theorem fW : ∀ (r q : List Ent) (dom : List (List Int)), iI dom (r ++ q) = iI (iI dom r) q
  | [], q, dom => rfl
  | _ :: r, q, _ => fW r q _
end
@[reducible] noncomputable def Klp (J : Loc → AH → Prop) (K : KZ) (p : Res × Loc) (σ : AH) : Prop := match p with | (.next, m) => J m σ | (.cont, m) => J m σ | (.brk, m) => K (.next, m) σ | (.ret v, m) => K (.ret v, m) σ
@[reducible] noncomputable def Kbd (b : SF) (J : Loc → AH → Prop) (K : KZ) (m : Loc) (σ : AH) : Prop := Ok (b m σ) (Klp J K)
noncomputable def AR (a : AF) (b g : SF) (m : Loc) (K : KZ) (src : Src) (σ : AH) : Prop := Ok (um a b g src (src.len σ + 1) 0 m σ) K
noncomputable def l4 (src : Src) (l : List PV) (σ : AH) : Prop := src.len σ = l.length ∧ ∀ j, src.item σ j = some l[j]?
section
variable {m : Loc} {σ : AH} {a : AF} {b g : SF} {K : KZ} {src : Src} {l : List PV} {i : Nat}
theorem kfor {f : Loc → AH → Option (Src × AH)} (k : Ok (f m σ) (AR a b g m K)) : Ok (gt f a b g m σ) K := fh k
theorem qr (l : List PV) (σ : AH) : l4 (.seq l) l σ := ⟨rfl, fun _ => rfl⟩
theorem mq (h : σ.get i = some (.list l)) : l4 (.lst i) l σ := ⟨by simp [Src.len, h], fun j => by simp [Src.item, h]⟩
theorem Bo (h : σ.get i = some (.list l)) : l4 (.enm i) (l.mapIdx fun j v => .tup [.int j, v]) σ := ⟨by simp [Src.len, h], fun j => by simp [Src.item, h]⟩
theorem gD (I : Nat → Loc → AH → Prop) (hs : ∀ j m σ, I j m σ → l4 src l σ) (h0 : I 0 m σ)
    (step : ∀ j v, l[j]? = some v → ∀ m σ, I j m σ → Ok (a v m σ) (Kbd b (I (j + 1)) K))
    (fin : ∀ m σ, I l.length m σ → Ok (g m σ) K) : AR a b g m K src σ := by
  have key : ∀ (n j : Nat) (m : Loc) (σ : AH), l.length < n + j → j ≤ l.length → I j m σ → Ok (um a b g src n j m σ) K := by
    intro n
    induction n with
    | zero => intro j m σ h1 h2; omega
    | succ n ih =>
      intro j m σ h1 h2 i
      unfold um
      rw [(hs j m σ i).2 j]
      cases hv : l[j]? with
      | none =>
        have : j = l.length := Nat.le_antisymm h2 (List.getElem?_eq_none_iff.mp hv)
        exact fin m σ (this ▸ i)
      | some v =>
        have hj : j + 1 ≤ l.length := (List.getElem?_eq_some_iff.mp hv).1
        refine fh ((step j v hv m σ i).mono fun m1 σ1 h => fh (h.mono fun p σ2 h => ?_))
        match p, h with
        | (.next, m2), h => exact ih (j + 1) m2 σ2 (by omega) hj h
        | (.cont, m2), h => exact ih (j + 1) m2 σ2 (by omega) hj h
        | (.brk, m2), h => exact go rfl h
        | (.ret v, m2), h => exact go rfl h
  exact key _ 0 m σ (by rw [(hs 0 m σ h0).1]; exact Nat.lt_succ_self _) (Nat.zero_le _) h0
theorem nM (ns : List Int) : gH (ns.map .int) = some ns := by
  induction ns with
  | nil => rfl
  | cons a r ih => show (gH (r.map .int)).map (a :: ·) = _; rw [ih]; rfl
theorem Ch {Ksr : Src → AH → Prop} (k : Ksr (.seq l) σ) : K1 iC Ksr (.tup l) σ := go rfl k
theorem wq {Ksr : Src → AH → Prop} (h : σ.get i = some (.list l)) (k : Ksr (.lst i) σ) : K1 iC Ksr (.obj i) σ := go (by unfold iC; dsimp only; rw [h]; rfl) k
theorem A9 {Ksr : Src → AH → Prop} {x y : Int} (hx : b7 x = true ∧ b7 y = true) (k : Ksr (.seq (gJ x y)) σ) : K1 iC Ksr (.rng x y) σ := go (if_pos hx) k
theorem CZ {Ksr : Src → AH → Prop} (h : σ.get i = some (.list l)) (k : Ksr (.enm i) σ) : K1 oA Ksr [.obj i] σ := go (by unfold oA; dsimp only [w1]; rw [ew h]) k
theorem kof' {f : EF} {Ksr : Src → AH → Prop} (k : Ok (f m σ) (K1 iC Ksr)) : Ok (gU f m σ) Ksr := fh k
theorem Bj {f : LF} {h : List PV → AH → Option (Src × AH)} {Ksr : Src → AH → Prop} (k : Ok (f m σ) (K1 h Ksr)) : Ok ((fun m σ => bnd (f m σ) h : Loc → AH → Option (Src × AH)) m σ) Ksr := fh k
@[reducible] noncomputable def Kwh (I : Nat → Loc → AH → Prop) (n : Nat) (b g : SF) (m : Loc) (K : KZ) (c : Bool) (σ : AH) : Prop := match c with | true => Ok (b m σ) (Klp (fun m σ => ∃ n', n' < n ∧ I n' m σ) K) | false => Ok (g m σ) K
theorem CC {t : TF} (I : Nat → Loc → AH → Prop) {n : Nat} (i : I n m σ) (step : ∀ n m σ, I n m σ → Ok (t m σ) (Kwh I n b g m K)) : Ok (g6 t b g m σ) K := by
  have key : ∀ (z n : Nat) (m : Loc) (σ : AH), n ≤ z → I n m σ → ∃ k, Ok (cG t b g k m σ) K := by
    intro z
    induction z with
    | zero =>
      intro n m σ hn i
      obtain ⟨c, σ1, e1, h⟩ := step n m σ i
      refine ⟨1, ?_⟩
      unfold cG
      refine fh ⟨c, σ1, e1, ?_⟩
      cases c with
      | false => exact h
      | true =>
        obtain ⟨p, σ2, e2, h⟩ := h
        refine fh ⟨p, σ2, e2, ?_⟩
        match p, h with
        | (.next, m2), ⟨n', l, _⟩ => omega
        | (.cont, m2), ⟨n', l, _⟩ => omega
        | (.brk, m2), h => exact go rfl h
        | (.ret v, m2), h => exact go rfl h
    | succ z ih =>
      intro n m σ hn i
      obtain ⟨c, σ1, e1, h⟩ := step n m σ i
      cases c with
      | false => exact ⟨1, by unfold cG; exact fh ⟨_, σ1, e1, h⟩⟩
      | true =>
        obtain ⟨p, σ2, e2, h⟩ := h
        match p, e2, h with
        | (.next, m2), e2, ⟨n', l, i'⟩ =>
          obtain ⟨k, hk⟩ := ih n' m2 σ2 (by omega) i'
          exact ⟨k + 1, by unfold cG; exact fh ⟨_, σ1, e1, fh ⟨_, σ2, e2, hk⟩⟩⟩
        | (.cont, m2), e2, ⟨n', l, i'⟩ =>
          obtain ⟨k, hk⟩ := ih n' m2 σ2 (by omega) i'
          exact ⟨k + 1, by unfold cG; exact fh ⟨_, σ1, e1, fh ⟨_, σ2, e2, hk⟩⟩⟩
        | (.brk, m2), e2, h => exact ⟨1, by unfold cG; exact fh ⟨_, σ1, e1, fh ⟨_, σ2, e2, go rfl h⟩⟩⟩
        | (.ret v, m2), e2, h => exact ⟨1, by unfold cG; exact fh ⟨_, σ1, e1, fh ⟨_, σ2, e2, go rfl h⟩⟩⟩
  obtain ⟨k, r, σ', e, q⟩ := key n n m σ (Nat.le_refl _) i
  exact ⟨r, σ', vI e, q⟩
@[reducible] noncomputable def Kj2 (f : SF) (m : Loc) (K : KZ) (P : AH → Prop) (c : Bool) (σ : AH) : Prop := match c with | true => Ok (f m σ) K | false => P σ
@[reducible] noncomputable def Kj1 (u : TF) (f : SF) (m : Loc) (K : KZ) (P : AH → Prop) (c : Bool) (σ : AH) : Prop := match c with | true => Ok (u m σ) (Kj2 f m K P) | false => P σ
theorem nN {t u : TF} {m : Loc} {σ : AH} {f g : SF} {K : KZ} (P : AH → Prop) (hg : ∀ τ, P τ → Ok (g m τ) K) (k : Ok (t m σ) (Kj1 u f m K P)) : Ok (df (hU t u) f g m σ) K :=
  kif (kand (k.mono fun c τ q => match c, q with
    | true, q => q.mono fun c τ q => match c, q with
      | true, q => q
      | false, q => hg τ q
    | false, q => hg τ q))
@[reducible] noncomputable def Kcy (J : List PV → Loc → AH → Prop) (p : List PV × Loc) (σ : AH) : Prop := match p with | (ys, m) => J ys m σ
@[reducible] noncomputable def Kct (b : CF) (ys : List PV) (J : List PV → Loc → AH → Prop) (m : Loc) (c : Bool) (σ : AH) : Prop := match c with | true => Ok (b ys m σ) (Kcy J) | false => J ys m σ
@[reducible] noncomputable def Kca (t : TF) (b : CF) (ys : List PV) (J : List PV → Loc → AH → Prop) (m : Loc) (σ : AH) : Prop := Ok (t m σ) (Kct b ys J m)
theorem B8 {t : TF} {c : CF} {J : List PV → Loc → AH → Prop} (I : Nat → List PV → Loc → AH → Prop) (hs : ∀ j ys m σ, I j ys m σ → l4 src l σ) {ys : List PV} (h0 : I 0 ys m σ)
    (step : ∀ j v, l[j]? = some v → ∀ ys m σ, I j ys m σ → Ok (a v m σ) (Kca t c ys (I (j + 1)))) (fin : ∀ ys m σ, I l.length ys m σ → J ys m σ) : Ok (gT a t c src (src.len σ + 1) 0 ys m σ) (Kcy J) := by
  have key : ∀ (n j : Nat) (ys : List PV) (m : Loc) (σ : AH), l.length < n + j → j ≤ l.length → I j ys m σ → Ok (gT a t c src n j ys m σ) (Kcy J) := by
    intro n
    induction n with
    | zero => intro j ys m σ h1 h2; omega
    | succ n ih =>
      intro j ys m σ h1 h2 i
      unfold gT
      rw [(hs j ys m σ i).2 j]
      cases hv : l[j]? with
      | none =>
        have : j = l.length := Nat.le_antisymm h2 (List.getElem?_eq_none_iff.mp hv)
        exact go rfl (fin ys m σ (this ▸ i))
      | some v =>
        have hj : j + 1 ≤ l.length := (List.getElem?_eq_some_iff.mp hv).1
        refine fh ((step j v hv ys m σ i).mono fun m1 σ1 h => fh (h.mono fun b σ2 h => fh ?_))
        match b, h with
        | true, h => exact h.mono fun p σ3 h => ih (j + 1) p.1 p.2 σ3 (by omega) hj h
        | false, h => exact go rfl (ih (j + 1) ys m1 σ2 (by omega) hj h)
  exact key _ 0 ys m σ (by rw [(hs 0 ys m σ h0).1]; exact Nat.lt_succ_self _) (Nat.zero_le _) h0
noncomputable def pD (caps : List String) (a : AF) (t : TF) (b : CF) (m : Loc) (K : KP) (src : Src) (σ : AH) : Prop := Ok (gT a t b src (src.len σ + 1) 0 [] (jI caps m) σ) (Kcy fun ys _ σ => Ok (bK ys σ) K)
@[reducible] noncomputable def Kem (ys : List PV) (m : Loc) (J : List PV → Loc → AH → Prop) (v : PV) (σ : AH) : Prop := J (ys ++ [v]) m σ
theorem zY {elt : EF} {ys : List PV} {J : List PV → Loc → AH → Prop} (hl : ys.length ≤ 100000) (k : Ok (elt m σ) (Kem ys m J)) : Ok (dH elt ys m σ) (Kcy J) := by
  unfold dH
  try rw [eG hl]
  try rw [if_pos hl]
  exact fh (k.mono fun _ _ q => go rfl q)
theorem As {caps : List String} {t : TF} {c : CF} {K : KP} {α : Type} {L : List α} {G : α → PV} (F : α → List PV) (P : Loc → AH → Prop) (hs : ∀ m σ, P m σ → l4 src (L.map G) σ) (h0 : P (jI caps m) σ) (hl : (L.flatMap F).length ≤ 100000)
    (step : ∀ v ∈ L, ∀ ys m σ, P m σ → ys.length ≤ 100000 → Ok (a (G v) m σ) (Kca t c ys fun ys' m σ => P m σ ∧ ys' = ys ++ F v)) (fin : ∀ m τ, P m τ → K (.obj τ.next) (τ.new (.list (L.flatMap F)))) : pD caps a t c m K src σ := by
  refine B8 (fun j ys m τ => P m τ ∧ ys = (L.take j).flatMap F) (fun j ys m τ i => hs m τ i.1) ⟨h0, rfl⟩ (fun j v e ys m τ ⟨p, q⟩ => ?_) fun ys m τ ⟨p, q⟩ => ?_
  · rw [List.getElem?_map] at e
    obtain ⟨u, hu, rfl⟩ := Option.map_eq_some_iff.mp e
    have e2 : (L.take (j + 1)).flatMap F = (L.take j).flatMap F ++ F u := by rw [List.take_succ, hu, List.flatMap_append]; simp
    rw [e2]
    have hz : ys.length ≤ 100000 := by
      rw [q]
      refine Nat.le_trans ?_ hl
      conv => rhs; rw [← List.take_append_drop j L, List.flatMap_append, List.length_append]
      exact Nat.le_add_right _ _
    subst q
    exact step u (List.mem_of_getElem? hu) _ m τ p hz
  · rw [List.length_map, List.take_length] at q
    subst q
    exact go (if_pos hl) (fin m τ p)
theorem kcomp {caps : List String} {f : Loc → AH → Option (Src × AH)} {t : TF} {c : CF} {K : KP} (k : Ok (f m σ) (pD caps a t c m K)) : Ok (dR caps f a t c m σ) K := fh (k.mono fun _ _ q => fh q)
end
section
variable {σ : AH} {m : Loc} {K : KP} {i : Nat} {l : List PV} {L : List (Nat × AObj)}
theorem xP (h : At σ L) (n : Nat) (e : L[n]? = some (i, .list l)) {b : Int} {x : Nat} (hb : b = (x : Int)) (hc : l.length ≤ 100000) {l' : List PV} (he : l.take x = l') (k : ∀ j τ, At τ ((j, .list l') :: L) → K (.obj j) τ) : K2b fJ (.obj i) K (.int b) σ :=
  go (by subst hb he; unfold fJ; rw [ew (h.get n e)]; exact if_pos ⟨Int.natCast_nonneg x, hc⟩) (k _ _ (h.new _))
theorem wX (h : At σ L) (n : Nat) (e : L[n]? = some (i, .list l)) {v : PV} {l' : List PV} (hv : l = l' ++ [v]) (hl : l.length ≤ 100000) (k : ∀ τ, At τ (L.set n (i, .list l')) → K v τ) : Km rS i K [] σ :=
  go (by unfold rS; dsimp only [w1]; rw [ew (h.get n e), eG hl, hv, List.getLast?_concat, List.dropLast_concat]) (k _ (h.set n e _))
theorem Ai (h : At σ L) (n : Nat) {es : List (Int × PV)} (e : L[n]? = some (i, .idict es)) (hl : es.length < 64) (k : ∀ j τ, At τ ((j, .list ((gY (es.map (·.1))).map .int)) :: L) → K (.obj j) τ) : K1 j9 K [.obj i] σ :=
  go (by unfold j9; dsimp only [w1, gP]; rw [h.get n e]; exact if_pos hl) (k _ _ (h.new _))
theorem BD (h : At σ L) (n : Nat) {ns : List Int} (e : L[n]? = some (i, .list (ns.map .int))) (hl : ns.length ≤ 100000 ∧ ns.all b7 = true) (k : K (.int (yE ns)) σ) : K1 yY K [.obj i] σ :=
  go (by unfold yY; dsimp only [w1]; rw [ew (h.get n e)]; unfold jB; rw [nM]; exact if_pos hl) k
end
theorem ic (σ : AH) (n : Nat) : ∀ d : List (Int × Int), ∃ e, eP (deep σ (n + 2)) (d.map cg) = some e ∧ (e = [] → d = [])
  | [] => ⟨_, rfl, fun _ => rfl⟩
  | p :: d => by
    obtain ⟨e, h, _⟩ := ic σ n d
    rw [List.map_cons]
    unfold eP
    rw [h, show deep σ (n + 2) (cg p) = some (.tuple [.int p.1, .int p.2]) from rfl]
    exact ⟨_, rfl, fun q => by cases q⟩
theorem pJ (σ : AH) (n : Nat) : ∀ ds : List (List Int), (∀ l ∈ ds, Dom l ∧ l ≠ []) → ∃ e, eP (deep σ (n + 3)) (ds.map pl) = some e ∧ e.any (fun y => PyData.eqv y (.tuple [])) = false
  | [], _ => ⟨_, rfl, rfl⟩
  | l :: ds, h => by
    obtain ⟨e, h1, h2⟩ := pJ σ n ds fun l hl => h l (.tail _ hl)
    obtain ⟨e', h3, h4⟩ := ic σ n (gc l)
    obtain ⟨b, t, q, _⟩ := f8 (h l (.head _)).1 (h l (.head _)).2
    rw [List.map_cons]
    unfold eP
    rw [h1, show deep σ (n + 3) (pl l) = (eP (deep σ (n + 2)) ((gc l).map cg)).map .tuple from rfl, h3]
    refine ⟨_, rfl, ?_⟩
    cases e' with
    | nil => rw [h4 rfl] at q; cases q
    | cons a r => exact h2
section
variable {σ : AH} {A : SA} {s : StS} {R : List (Nat × AObj)} {K : KP} {x : Nat} {l : List Int} {i : Nat} {L : List PV} {v : PV}
theorem qF {a : PV} {d : PyData} {e : List PyData} (h : σ.get i = some (.list L)) (ha : deep σ 8 a = some d) (he : eP (deep σ 7) L = some e) : yj σ a (.obj i) = some (e.any fun y => PyData.eqv y d) := by
  have e2 : deep σ 8 (.obj i) = some (.list e) := by
    show gm (σ.get i) _ = _
    rw [h]
    show (eP (deep σ 7) L).map PyData.list = _
    rw [he]; rfl
  unfold yj
  rw [if_neg (show ¬ wH (.obj i) = true from Bool.false_ne_true), ha, e2]; rfl
theorem Cq (h : At σ (bm A s R)) (hf : ∀ l ∈ s.fst, Dom l ∧ l ≠ []) (k : K (.bool false) σ) : K2b ng (.tup []) K (.obj A.b) σ := by
  obtain ⟨e, h1, h2⟩ := pJ σ 4 s.fst hf
  refine go ?_ k
  unfold ng
  rw [qF (h.get 2 rfl) rfl h1, h2]; rfl
noncomputable def tW (s : StS) (z n : Nat) : StS := { s with dom := cP s.dom s.trail z, trail := s.trail.take z, marks := s.marks.take (s.marks.length - n) }
theorem rU {s : StS} {z : Nat} {e : Ent} (h : s.trail[z]? = some e) : cP s.dom s.trail z = (cP s.dom s.trail (z + 1)).set e.x e.old := by
  unfold cP
  obtain ⟨h1, h2⟩ := List.getElem?_eq_some_iff.mp h
  rw [List.drop_eq_getElem_cons h1, h2, List.reverse_cons, fW]
  rfl
theorem tK (s : StS) (z : Nat) : (cP s.dom s.trail z).length = s.dom.length := pK _ _
theorem A4 (h : At σ (bm A s R)) (b : Bnd s) (he : ∀ e ∈ s.trail, e.x < 4) {n mk : Nat} (hn : 1 ≤ n) (hn2 : n ≤ s.marks.length) (hmk : s.marks[s.marks.length - n]? = some (mk : Int)) (hmk2 : mk ≤ s.trail.length)
    (k : ∀ σ' A', A'.S = A.S → At σ' (bm A' { tW s mk n with news := [], fl := false, cl := .tup [] } R) → K .none σ') : Ok (bQ [.obj A.S, .int n] σ) K := by
  have ml : (s.marks.map PV.int).length ≤ 100000 := by rw [List.length_map]; exact uf b.sb.m
  have sub : ((s.marks.map PV.int).length : Int) - (n : Int) = ((s.marks.length - n : Nat) : Int) := by rw [List.length_map]; lia
  have tl : s.trail.length ≤ 1000 := b.sb.t
  refine kf rfl (kB ?_)
  and_intros
  refine Bf (by lia) ?_
  and_intros
  refine fN (h.get 4 rfl) ml ?_
  and_intros
  refine uv (h.get 4 rfl) (gI hmk) (Nat.le_trans (Nat.sub_le _ _) (Nat.le_trans b.m (by decide))) sub ?_
  and_intros
  refine fN (h.get 4 rfl) ml ?_
  and_intros
  refine xP h 4 rfl sub ml List.map_take.symm fun j τ h1 => ?_
  and_intros
  refine bS h1 1 rfl ⟨rfl, Nat.le_of_ble_eq_true rfl⟩ fun τ h1 => ?_
  have h2 : At τ (bm { A with e := j } (tW s (mk + (s.trail.length - mk)) n) R) := by
    have e : mk + (s.trail.length - mk) = s.trail.length := by lia
    rw [e]
    have e1 : cP s.dom s.trail s.trail.length = s.dom := by unfold cP; rw [List.drop_length]; rfl
    have e2 : tW s s.trail.length n = { s with marks := s.marks.take (s.marks.length - n) } := by unfold tW; rw [e1, List.take_length]
    rw [e2]
    exact h1.mv 4 rfl
  and_intros
  refine CC (fun z m τ => m "self" = some (.obj A.S) ∧ m "mark" = some (.int mk) ∧ mk + z ≤ s.trail.length ∧ At τ (bm { A with e := j } (tW s (mk + z) n) R)) ⟨rfl, rfl, by lia, h2⟩ fun z m τ ⟨q1, q2, q3, q4⟩ => ?_
  have lz : ((s.trail.take (mk + z)).map pE).length = mk + z := by rw [List.length_map, List.length_take]; lia
  and_intros
  refine fN (q4.get 3 rfl) (Nat.le_trans (Nat.le_of_eq lz) (by lia)) ?_
  and_intros
  have lz' : (((tW s (mk + z) n).trail.map pE).length : Int) = ((mk + z : Nat) : Int) := congrArg _ lz
  rw [lz']
  refine iZ (fun c => ?_) fun c => ?_
  · obtain ⟨y, rfl⟩ : ∃ y, z = y + 1 := ⟨z - 1, by lia⟩
    obtain ⟨e, hek⟩ : ∃ e, s.trail[mk + y]? = some e := ⟨_, List.getElem?_eq_getElem (by lia)⟩
    have tk : s.trail.take (mk + (y + 1)) = s.trail.take (mk + y) ++ [e] := by rw [← Nat.add_assoc, List.take_succ, hek]; rfl
    have hl : (s.trail.take (mk + (y + 1))).map pE = (s.trail.take (mk + y)).map pE ++ [pE e] := by rw [tk, List.map_append]; rfl
    have hx := he e (List.mem_of_getElem? hek)
    and_intros
    refine jf (q4.get 3 rfl) ?_
    and_intros
    refine wX q4 3 rfl hl (Nat.le_trans (Nat.le_of_eq lz) (by lia)) fun τ h3 => ?_
    and_intros
    refine zi h3 1 rfl ⟨gN (by lia), eS (by rw [List.length_map]; show _ < (cP _ _ _).length; rw [tK, b.dl]; exact hx)⟩ (l' := (cP s.dom s.trail (mk + y)).map pl) (by rw [rU hek, List.map_set]; rfl) fun τ h4 => ?_
    and_intros
    exact ⟨y, Nat.lt_succ_self y, q1, q2, by lia, h4⟩
  · have z0 : z = 0 := by lia
    subst z0
    and_intros
    refine sr q4 fun i τ h3 => ?_
    and_intros
    refine bS h3 1 rfl ⟨rfl, Nat.le_of_ble_eq_true rfl⟩ fun τ h3 => ?_
    have h4 : At τ (bm { A with e := j, n := i } { tW s mk n with news := [] } R) := h3.mv 5 rfl
    and_intros
    refine Cq h4 b.f ?_
    and_intros
    refine bS h4 0 rfl ⟨rfl, Nat.le_of_ble_eq_true rfl⟩ fun τ h5 => ?_
    and_intros
    refine bS h5 0 rfl ⟨rfl, Nat.le_of_ble_eq_true rfl⟩ fun τ h6 => ?_
    and_intros
    exact k τ { A with e := j, n := i } rfl h6
end
theorem mT (l : List Int) : (bX l).map (·.1) = l := by unfold bX; rw [List.map_map]; exact List.map_id _
theorem cI (l : List Int) : (bX l).length = l.length := List.length_map _
section
variable {σ : AH} {A : SA} {s : StS} {R : List (Nat × AObj)} {K : KP} {x : Nat} {l : List Int} {i : Nat} {L : List PV} {v : PV}
theorem ug (h : At σ (bm A s R)) (b : Bnd s) (k : ∀ σ' i A', A'.S = A.S → At σ' ((i, .list ((gY s.news).map .int)) :: bm A' { s with news := [] } R) → K (.obj i) σ') : Ok (fH [.obj A.S] σ) K := by
  refine kf rfl (kB ?_)
  and_intros
  refine Ai h 5 rfl (by rw [cI]; exact Nat.lt_of_le_of_lt b.sb.n (by decide)) fun i τ h => ?_
  rw [mT] at h
  and_intros
  refine sr h fun j τ h => ?_
  and_intros
  refine bS h 2 rfl ⟨rfl, Nat.le_of_ble_eq_true rfl⟩ fun τ h => ?_
  and_intros
  exact k τ i { A with n := j } rfl (h.mv 6 rfl)
theorem th (h : At σ (bm A s R)) (hl : Dom l) (n : l ≠ []) (b1 : s.dom.length ≤ 1000) (b2 : s.fst.length ≤ 1000) (k : ∀ v σ', At σ' (bm A { s with dom := s.dom ++ [l], fst := s.fst ++ [l] } R) → K v σ') : Ok (eA [.obj A.S, pl l] σ) K := by
  refine kf rfl (kB ?_)
  and_intros
  refine jf (h.get 1 rfl) ?_
  and_intros
  refine gR h 1 rfl (by rw [List.length_map]; exact uf b1) (eh pl _ _) fun τ h => ?_
  and_intros
  refine jf (h.get 2 rfl) ?_
  and_intros
  refine gR h 2 rfl (by rw [List.length_map]; exact uf b2) (eh pl _ _) fun τ h => ?_
  and_intros
  refine .eq (ld hl zP) (Bf n ?_)
  and_intros
  refine fN (h.get 1 rfl) (by rw [List.length_map, List.length_append]; exact Nat.le_trans (Nat.add_le_add_right b1 1) (by decide)) ?_
  and_intros
  exact k _ τ h
end
theorem ye : ((gM base6).all fun l => l.isEmpty || (l.contains (jl l) && l.contains (xu l) && l.all fun v => decide (jl l ≤ v ∧ v ≤ xu l ∧ -2 ≤ v ∧ v ≤ 3))) = true := by kernel_rfl
theorem dK {l : List Int} (hl : Dom l) (n : l ≠ []) : jl l ∈ l ∧ xu l ∈ l ∧ ∀ v ∈ l, jl l ≤ v ∧ v ≤ xu l ∧ -2 ≤ v ∧ v ≤ 3 :=
  sV (uy (dg ye hl) (qz n)) fun h k => sV h fun h1 h2 => ⟨List.contains_iff_mem.mp h1, List.contains_iff_mem.mp h2, fun v hv => of_decide_eq_true (List.all_eq_true.mp k v hv)⟩
noncomputable def Coef (a : Int) : Prop := a = 1 ∨ a = -1 ∨ a = 2 ∨ a = -2
noncomputable def gq (a : Int) (l : List Int) : Int := if 0 < a then a * jl l else a * xu l
structure Low (a : Int) (l : List Int) (t : Int) : Prop where
  le : ∀ v ∈ l, t ≤ a * v
  at_ : ∃ v ∈ l, t = a * v
  lo : -6 ≤ t
  hi : t ≤ 6
theorem xa {a : Int} (ca : Coef a) {l : List Int} (hl : Dom l) (n : l ≠ []) : Low a l (gq a l) := by
  obtain ⟨h1, h2, h3⟩ := dK hl n
  have e1 := h3 _ h1
  have e2 := h3 _ h2
  unfold gq
  rcases ca with rfl | rfl | rfl | rfl
  · exact ⟨fun v hv => by have := h3 v hv; simp; lia, ⟨_, h1, rfl⟩, by simp; lia, by simp; lia⟩
  · exact ⟨fun v hv => by have := h3 v hv; simp; lia, ⟨_, h2, rfl⟩, by simp; lia, by simp; lia⟩
  · exact ⟨fun v hv => by have := h3 v hv; simp; lia, ⟨_, h1, rfl⟩, by simp; lia, by simp; lia⟩
  · exact ⟨fun v hv => by have := h3 v hv; simp; lia, ⟨_, h2, rfl⟩, by simp; lia, by simp; lia⟩
noncomputable def rB (a : Int) : String := if 0 < a then "<=" else ">="
noncomputable def sR (a most : Int) : Int := if 0 < a then most.fdiv a else -(most.fdiv (-a))
theorem f9 {k : Int} (h : -9 ≤ k ∧ k ≤ 9) : k ∈ ks := List.mem_map.mpr ⟨(k + 9).toNat, List.mem_range.mpr (by lia), by lia⟩
theorem Bt {a most : Int} (ca : Coef a) (h : -9 ≤ most ∧ most ≤ 9) : SK (rB a) (sR a most) := by
  rcases ca with rfl | rfl | rfl | rfl
  · exact .inl ⟨rfl, f9 (by unfold sR; simp [Int.fdiv_eq_ediv]; lia)⟩
  · exact .inr (.inl ⟨rfl, f9 (by unfold sR; simp [Int.fdiv_eq_ediv]; lia)⟩)
  · exact .inl ⟨rfl, f9 (by unfold sR; simp [Int.fdiv_eq_ediv]; lia)⟩
  · exact .inr (.inl ⟨rfl, f9 (by unfold sR; simp [Int.fdiv_eq_ediv]; lia)⟩)
theorem C7 (k v : Int) : ob "<=" k v = decide (v ≤ k) := rfl
theorem C5 (k v : Int) : ob ">=" k v = decide (k ≤ v) := rfl
theorem nC (k v : Int) : ob "!=" k v = !decide (v = k) := rfl
theorem zL {a : Int} (ca : Coef a) (most : Int) : ob (rB a) (sR a most) = fun v => decide (a * v ≤ most) := by
  funext v
  rcases ca with rfl | rfl | rfl | rfl
  · exact decide_eq_decide.mpr (by unfold sR; simp [Int.fdiv_eq_ediv])
  · exact decide_eq_decide.mpr (by unfold sR; simp [Int.fdiv_eq_ediv]; lia)
  · exact decide_eq_decide.mpr (by unfold sR; simp [Int.fdiv_eq_ediv]; lia)
  · exact decide_eq_decide.mpr (by unfold sR; simp [Int.fdiv_eq_ediv]; lia)
theorem kE {a : Int} (h : -1000 ≤ a ∧ a ≤ 1000) : b7 a = true := decide_eq_true (by lia)
theorem iP {a b : Int} (σ : AH) (h : -1000 ≤ b ∧ b ≤ 1000) : gk (.int a) (.int b) σ = some (.int (a * b), σ) := if_pos (.inr (kE h))
theorem ls {a b : Int} (σ : AH) (h : b ≠ 0 ∧ -1000 ≤ b ∧ b ≤ 1000) : mU (.int a) (.int b) σ = some (.int (a.fdiv b), σ) := if_pos ⟨h.1, kE h.2⟩
noncomputable def dZ : Int × Nat → PV | (a, z) => .tup [.int a, .int z]
section
variable {σ : AH} {A : SA} {s : StS} {R : List (Nat × AObj)} {K : KP} {x : Nat} {l : List Int} {i : Nat} {L : List PV} {v : PV}
theorem jE (h : At σ (bm A s R)) (b : Bnd s) {a : Int} (hx : s.dom[x]? = some l) (k : K (.int (gq a l)) σ) : Ok (fi [.obj A.S, .int a, .int x] σ) K := by
  obtain ⟨hl, n⟩ := b.d l (List.mem_of_getElem? hx)
  obtain ⟨h1, h2, h3⟩ := dK hl n
  refine kf rfl (kB ?_)
  and_intros
  unfold gq at k
  refine iZ (fun c => ?_) fun c => ?_
  · rw [if_pos c] at k
    and_intros
    refine b9 (h.get 0 rfl) rfl rfl ?_
    and_intros
    refine qJ h b.sb hx n ?_
    refine .eq (iP σ (by have := h3 _ h1; lia)) ?_
    and_intros
    exact k
  · rw [if_neg c] at k
    and_intros
    refine b9 (h.get 0 rfl) rfl rfl ?_
    and_intros
    refine kS h b.sb hx n ?_
    refine .eq (iP σ (by have := h3 _ h2; lia)) ?_
    and_intros
    exact k
theorem Ae (hl : Dom l) (n : l ≠ []) (k : ∀ b, K (.tup [.int (jl l), .int b]) σ) : K2b aK (pl l) K (.int 0) σ := by
  obtain ⟨b, t, e, _⟩ := f8 hl n
  rw [show pl l = .tup (cg (jl l, b) :: t.map cg) by unfold pl; rw [e]; rfl]
  exact B9 (k b)
theorem Bu (hl : Dom l) (n : l ≠ []) (k : ∀ a b, K (.tup [.int a, .int b]) σ) : K2b aK (pl l) K (.int (-1)) σ := by
  obtain ⟨b, t, e, _⟩ := f8 hl n
  obtain ⟨⟨a, c⟩, h⟩ : ∃ p, (gc l).getLast? = some p := ⟨_, List.getLast?_eq_some_getLast (by rw [e]; exact List.cons_ne_nil _ _)⟩
  exact Dd (a := cg (a, c)) (by rw [List.getLast?_map, h]; rfl) (k a c)
theorem rQ {rows : List (Int × Nat)} {j : Nat} (e : ((rows.map dZ).mapIdx fun (j : Nat) v => PV.tup [.int j, v])[j]? = some v) : ∃ r, rows[j]? = some r ∧ v = .tup [.int j, dZ r] := by
  rw [List.getElem?_mapIdx, List.getElem?_map, Option.map_map] at e
  obtain ⟨r, h1, h2⟩ := Option.map_eq_some_iff.mp e
  exact ⟨r, h1, h2.symm⟩
theorem gQ (h : At σ (bm A s R)) (b : Bnd s) {n Ro : Nat} {rows : List (Int × Nat)} (hR : R[n]? = some (Ro, .list (rows.map dZ))) (hr : rows.length ≤ 2) (hx : ∀ r ∈ rows, r.2 < 4) {sk : Int}
    (k : ∀ q σ', q.length ≤ 2 → At σ' (bm A s R) → K (.tup q) σ') : Ok (dw [.obj A.S, .obj Ro, .int sk] σ) K := by
  refine kf rfl (kB ?_)
  and_intros
  refine dL h (Nat.zero_le _) fun i τ h => ?_
  and_intros
  refine Bj ?_
  and_intros
  refine CZ (h.get (n + 7) hR) ?_
  refine gD (fun j m τ => m "store" = some (.obj A.S) ∧ m "found" = some (.obj i) ∧ m "skipped" = some (.int sk) ∧ ∃ q : List PV, At τ ((i, .list q) :: bm A s R) ∧ q.length ≤ j) (fun j m τ zz => by obtain ⟨_, _, _, q, h, _⟩ := zz; exact Bo (h.get (n + 7) hR)) ⟨rfl, rfl, rfl, [], h, Nat.le_refl _⟩ (fun j v e m τ zz => ?_) fun m τ zz => ?_
  · obtain ⟨q1, q2, q3, q, h, hq⟩ := zz
    obtain ⟨⟨c, z⟩, er, rfl⟩ := rQ e
    have j2 : j < 2 := Nat.lt_of_lt_of_le (List.getElem?_eq_some_iff.mp er).1 hr
    have z4 := hx _ (List.mem_of_getElem? er)
    obtain ⟨l, hl, dl, nl⟩ := b.at z4
    obtain ⟨l', hl', dl', nl'⟩ := b.fat z4
    refine go rfl ?_
    and_intros
    refine iZ (fun _ => ?_) fun _ => ?_
    · and_intros
      exact ⟨q1, q2, q3, q, h, Nat.le_succ_of_le hq⟩
    refine k0 (kB (nN (fun τ => At τ ((i, .list q) :: bm A s R)) (fun τ h => kB (nN (fun τ => At τ ((i, .list q) :: bm A s R)) (fun τ h => ?_) ?_)) ?_))
    · and_intros
      exact ⟨q1, q2, q3, q, h, Nat.le_succ_of_le hq⟩
    · and_intros
      refine iZ (fun _ => ?_) fun _ => h
      and_intros
      refine b9 (h.get 1 rfl) rfl rfl ?_
      and_intros
      refine kS h.tl b.sb hl nl ?_
      and_intros
      refine b9 (h.get 1 rfl) rfl rfl ?_
      and_intros
      refine jN h.tl b.sb hl' ?_
      and_intros
      refine Bu dl' nl' fun a b1 => ?_
      and_intros
      refine iZ (fun _ => ?_) fun _ => h
      and_intros
      refine jf (h.get 0 rfl) ?_
      and_intros
      refine b9 (h.get 1 rfl) rfl rfl ?_
      and_intros
      refine kS h.tl b.sb hl nl ?_
      and_intros
      refine gR h 0 rfl (by lia) rfl fun τ h => ?_
      and_intros
      exact ⟨q1, q2, q3, _, h, by rw [List.length_append]; exact Nat.add_le_add_right hq 1⟩
    · and_intros
      refine iZ (fun _ => ?_) fun _ => h
      and_intros
      refine b9 (h.get 1 rfl) rfl rfl ?_
      and_intros
      refine qJ h.tl b.sb hl nl ?_
      and_intros
      refine b9 (h.get 1 rfl) rfl rfl ?_
      and_intros
      refine jN h.tl b.sb hl' ?_
      and_intros
      refine Ae dl' nl' fun b1 => ?_
      and_intros
      refine iZ (fun _ => ?_) fun _ => h
      and_intros
      refine jf (h.get 0 rfl) ?_
      and_intros
      refine b9 (h.get 1 rfl) rfl rfl ?_
      and_intros
      refine qJ h.tl b.sb hl nl ?_
      and_intros
      refine gR h 0 rfl (by lia) rfl fun τ h => ?_
      and_intros
      exact ⟨q1, q2, q3, _, h, by rw [List.length_append]; exact Nat.add_le_add_right hq 1⟩
  · obtain ⟨q1, q2, q3, q, h, hq⟩ := zz
    and_intros
    rw [List.length_mapIdx, List.length_map] at hq
    refine xY (h.get 0 rfl) (by lia) ?_
    and_intros
    exact k q τ (Nat.le_trans hq hr) h.tl
end
theorem BO {α : Type} {r : Option (α × AH)} {K : α → AH → Prop} (v : α) (P : AH → Prop) (h1 : Ok r fun u τ => u = v ∧ P τ) (h2 : ∀ τ, P τ → K v τ) : Ok r K := h1.mono fun _ _ ⟨e, p⟩ => e ▸ h2 _ p
theorem eW {α : Type} {ds : List α} {x : Nat} {l : α} (h : ds[x]? = some l) : ds.set x l = ds := by
  obtain ⟨hlt, e⟩ := List.getElem?_eq_some_iff.mp h
  rw [← e, List.set_getElem_self]
noncomputable def AO : SF := (am (a6 (e2 bM (af "room") (aD fi (aj (af "store") (aj (af "coef") (aj (af "x") ao))))) (aF "most")) (am (a6 (sS (bL (e2 (bU fun a b => decide (b < a)) (af "coef") (an (.int 0)))) (eL aX (aj (af "x") (aj (an (.str "<=")) (aj (e2 mU (af "most") (af "coef")) ao)))) (eL aX (aj (af "x") (aj (an (.str ">=")) (aj (e1 cM (e2 mU (af "most") (e1 cM (af "coef")))) ao))))) (aF "literal")) (am (df (hU (bL (e2 dE (a9 "holds" [(393, fE)] (af "store") (aj (af "literal") ao)) (an (.int 1)))) (fU (bL (a9 "strike" [(393, bC)] (af "store") (aj (af "literal") (aj (aD dw (aj (af "store") (aj (af "rows") (aj (af "place") ao)))) ao)))))) (am (bk (an (.bool false))) aB) aB) aB)))
section
variable {σ : AH} {A : SA} {s : StS} {R : List (Nat × AObj)} {K : KP} {Ks : KZ} {x y : Nat} {l lx ly : List Int} {i : Nat} {L : List PV} {v : PV}
theorem u7 (h : At σ (bm A s R)) (b : Bnd s) {n Ro : Nat} {rows : List (Int × Nat)} (hR : R[n]? = some (Ro, .list (rows.map dZ))) (hr : rows.length ≤ 2) (hx : ∀ r ∈ rows, r.2 < 4) {sc : Nat → Prop} (hsc : sc x)
    {m : Loc} {k room j : Int} (ck : Coef k) (hl : s.dom[x]? = some l) (m1 : m "store" = some (.obj A.S)) (m2 : m "rows" = some (.obj Ro)) (m3 : m "room" = some (.int room)) (m4 : m "place" = some (.int j)) (m5 : m "coef" = some (.int k)) (m6 : m "x" = some (.int x))
    (r0 : 0 ≤ room) (hm : -9 ≤ room + gq k l ∧ room + gq k l ≤ 9)
    (kk : ∀ m' τ s', m' "store" = some (.obj A.S) → m' "rows" = some (.obj Ro) → m' "room" = some (.int room) → At τ (bm A s' R) → Gr sc s.sp s s' → s'.dom = s.dom.set x (l.filter fun v => decide (k * v ≤ room + gq k l)) → Ks (.next, m') τ) : Ok (AO m σ) Ks := by
  obtain ⟨dl, nl⟩ := b.d l (List.mem_of_getElem? hl)
  have sk : SK (rB k) (sR k (room + gq k l)) := Bt ck hm
  have nf : l.filter (ob (rB k) (sR k (room + gq k l))) ≠ [] := by
    obtain ⟨v, hv, e⟩ := (xa ck dl nl).at_
    rw [zL ck]
    exact List.ne_nil_of_mem (List.mem_filter.mpr ⟨hv, decide_eq_true (by rw [← e]; lia)⟩)
  rw [← zL ck] at kk
  refine kB ?_
  and_intros
  refine jE h b hl (kadd (kan (kB (kas (BO (i8 x (rB k) (sR k (room + gq k l))) (fun τ => At τ (bm A s R)) ?_ fun τ h => ?_)))))
  · and_intros
    refine iZ (fun c => ?_) fun c => ?_
    · have e : k ≠ 0 ∧ -1000 ≤ k ∧ k ≤ 1000 := by rcases ck with rfl | rfl | rfl | rfl <;> decide
      and_intros
      exists K2b.eq (ls σ e)
      refine ⟨?_, h⟩
      unfold rB sR
      rw [if_pos c, if_pos c]
    · have e : -k ≠ 0 ∧ -1000 ≤ -k ∧ -k ≤ 1000 := by rcases ck with rfl | rfl | rfl | rfl <;> decide
      and_intros
      exists K2b.eq (ls σ e)
      refine ⟨?_, h⟩
      unfold rB sR
      rw [if_neg c, if_neg c]
  · refine kan (kB (nN (fun τ => ∃ s', At τ (bm A s' R) ∧ Gr sc s.sp s s' ∧ s'.dom = s.dom.set x (l.filter (ob (rB k) (sR k (room + gq k l))))) (fun τ ⟨s', h1, h2, h3⟩ => ?_) ?_))
    · and_intros
      exact kk _ τ s' m1 m2 m3 h1 h2 h3
    · and_intros
      exists b9 (h.get 0 rfl) rfl rfl, w8 h b.sb hl sk
      refine zv (fun c => ?_) fun c => ?_
      · refine ⟨s, h, .refl, ?_⟩
        split at c
        · rename_i z; rw [z, eW hl]
        · cases c
      · and_intros
        exists b9 (h.get 0 rfl) rfl rfl
        refine gQ h b hR hr hx fun q τ hq h => ?_
        and_intros
        refine iS h b hl hsc sk (Nat.le_trans hq (by decide)) (fun z => absurd z nf) fun _ τ s' h1 h2 h3 => ?_
        and_intros
        exact ⟨s', h1, h2, h3⟩
theorem qk (h : At σ (bm A s R)) (b : Bnd s) {n Ro : Nat} {a e c : Int} (hR : R[n]? = some (Ro, .list ([(a, x), (e, y)].map dZ))) (x4 : x < 4) (y4 : y < 4) (hxy : x ≠ y) (ca : Coef a) (ce : Coef e) (hc : -3 ≤ c ∧ c ≤ 3) (hx : s.dom[x]? = some lx) (hy : s.dom[y]? = some ly)
    (no : ∀ σ' cl, At σ' (bm A { s with fl := true, cl := cl } R) → c < gq a lx + gq e ly → K (.bool false) σ')
    (yes : ∀ σ' s', At σ' (bm A s' R) → Gr (fun z => z = x ∨ z = y) s.sp s s' → gq a lx + gq e ly ≤ c → s'.dom = (s.dom.set x (lx.filter fun v => decide (a * v ≤ c - gq e ly))).set y (ly.filter fun w => decide (e * w ≤ c - gq a lx)) → K (.bool true) σ') : Ok (ia [.obj A.S, .obj Ro, .int c] σ) K := by
  have la := xa ca (b.d lx (List.mem_of_getElem? hx)).1 (b.d lx (List.mem_of_getElem? hx)).2
  have le := xa ce (b.d ly (List.mem_of_getElem? hy)).1 (b.d ly (List.mem_of_getElem? hy)).2
  have mem : ∀ r ∈ [(a, x), (e, y)], r.2 < 4 := fun r hr => by
    rcases List.mem_cons.mp hr with rfl | hr
    · exact x4
    · rw [List.mem_singleton.mp hr]; exact y4
  refine kf rfl (kB ?_)
  and_intros
  refine wq (h.get (n + 6) hR) ?_
  refine As (L := [(a, x), (e, y)]) (fun r => [.int (gq r.1 ((s.dom[r.2]?).getD []))]) (fun m τ => m "store" = some (.obj A.S) ∧ At τ (bm A s R)) (fun m τ p => mq (p.2.get (n + 6) hR)) ⟨rfl, h⟩ (Nat.le_of_ble_eq_true rfl) (fun r hr ys m τ ⟨q1, q2⟩ hz => ?_) fun m τ ⟨_, q2⟩ => ?_
  · obtain ⟨k, z⟩ := r
    obtain ⟨l, hl, _⟩ := b.at (mem _ hr)
    refine go rfl ?_
    and_intros
    refine zY hz ?_
    and_intros
    refine jE q2 b hl ⟨⟨q1, q2⟩, ?_⟩
    dsimp only
    rw [hl]; rfl
  · have q3 := q2.new (.list ([(a, x), (e, y)].flatMap fun r => [PV.int (gq r.1 ((s.dom[r.2]?).getD []))]))
    and_intros
    refine BD q3 0 (ns := [gq a lx, gq e ly]) ?_ ⟨Nat.le_of_ble_eq_true rfl, ?_⟩ ?_
    · show some (τ.next, AObj.list [.int (gq a ((s.dom[x]?).getD [])), .int (gq e ((s.dom[y]?).getD []))]) = _
      rw [hx, hy]; rfl
    · have h1 := kE (a := gq a lx) (by have := la.lo; have := la.hi; lia)
      have h2 := kE (a := gq e ly) (by have := le.lo; have := le.hi; lia)
      show (b7 _ && (b7 _ && true)) = true
      rw [h1, h2]; rfl
    have room : c - yE [gq a lx, gq e ly] = c - gq a lx - gq e ly := by show c - (0 + gq a lx + gq e ly) = _; lia
    have h1 := la.lo; have h2 := la.hi; have h3 := le.lo; have h4 := le.hi
    and_intros
    rw [room]
    refine iZ (fun c0 => ?_) fun c0 => ?_
    · and_intros
      exists b9 (q3.get 1 rfl) rfl rfl
      refine gQ q3.tl b hR (Nat.le_refl _) mem fun q τ hq h => ?_
      and_intros
      refine mO h fun τ h => ?_
      and_intros
      exact no τ _ h (by lia)
    · and_intros
      refine Bj ?_
      and_intros
      refine CZ (q3.get (n + 7) hR) ?_
      refine gD (fun j m τ => m "store" = some (.obj A.S) ∧ m "rows" = some (.obj Ro) ∧ m "room" = some (.int (c - gq a lx - gq e ly)) ∧ ∃ s', At τ (bm A s' R) ∧ Gr (fun z => z = x ∨ z = y) s.sp s s' ∧
        s'.dom = match j with | 0 => s.dom | 1 => s.dom.set x (lx.filter fun v => decide (a * v ≤ c - gq e ly)) | _ => (s.dom.set x (lx.filter fun v => decide (a * v ≤ c - gq e ly))).set y (ly.filter fun w => decide (e * w ≤ c - gq a lx))) (fun j m τ zz => by obtain ⟨_, _, _, s', h, _⟩ := zz; exact Bo (h.get (n + 6) hR)) ⟨rfl, rfl, rfl, s, q3.tl, .refl, rfl⟩ (fun j v ej m τ zz => ?_) fun m τ zz => ?_
      · obtain ⟨m1, m2, m3, s', h, g, d⟩ := zz
        obtain ⟨r, er, rfl⟩ := rQ ej
        have b' := g.bnd b
        match j, er, d with
        | 0, er, d =>
          cases er
          have d : s'.dom = s.dom := d
          have hx' : s'.dom[x]? = some lx := by rw [d]; exact hx
          refine go rfl (u7 (sc := fun z => z = x ∨ z = y) h b' hR (Nat.le_refl _) mem (.inl rfl) ca hx' m1 m2 m3 rfl rfl rfl (by lia) (by lia) fun m' τ s2 m1 m2 m3 h g2 d2 => ?_)
          have z : c - gq a lx - gq e ly + gq a lx = c - gq e ly := by lia
          rw [d, z] at d2
          exact ⟨m1, m2, m3, s2, h, g.trans (g.sp_eq ▸ g2), d2⟩
        | 1, er, d =>
          cases er
          have d : s'.dom = s.dom.set x (lx.filter fun v => decide (a * v ≤ c - gq e ly)) := d
          have hy' : s'.dom[y]? = some ly := by rw [d, List.getElem?_set_ne hxy]; exact hy
          refine go rfl (u7 (sc := fun z => z = x ∨ z = y) h b' hR (Nat.le_refl _) mem (.inr rfl) ce hy' m1 m2 m3 rfl rfl rfl (by lia) (by lia) fun m' τ s2 m1 m2 m3 h g2 d2 => ?_)
          have z : c - gq a lx - gq e ly + gq e ly = c - gq a lx := by lia
          rw [d, z] at d2
          exact ⟨m1, m2, m3, s2, h, g.trans (g.sp_eq ▸ g2), d2⟩
      · obtain ⟨m1, m2, m3, s', h, g, d⟩ := zz
        and_intros
        exact yes τ s' h g (by lia) d
end
noncomputable def fT (R : Int → Int → Bool) (x y : Nat) (lx ly : List Int) (ds : List (List Int)) : List (List Int) := (ds.set x (lx.filter fun v => ly.any fun w => R v w)).set y (ly.filter fun w => lx.any fun v => R v w)
structure PK (K : KP) (A : SA) (s : StS) (R : List (Nat × AObj)) (r : Int → Int → Bool) (x y : Nat) (lx ly : List Int) : Prop where
  no : ∀ σ' s' cl, Gr (fun z => z = x ∨ z = y) s.sp s s' → At σ' (bm A { s' with fl := true, cl := cl } R) → (∀ v ∈ lx, ∀ w ∈ ly, r v w = false) → K (.bool false) σ'
  yes : ∀ σ' s', Gr (fun z => z = x ∨ z = y) s.sp s s' → At σ' (bm A s' R) → s'.dom = fT r x y lx ly s.dom → (∃ v ∈ lx, ∃ w ∈ ly, r v w = true) → K (.bool true) σ'
noncomputable def x7 (n : Int) (x y : Nat) (a e c : Int) (R : Nat) : List (String × PV) := [("number", .int n), ("scope", .tup [.int x, .int y]), ("strength", .str "values"), ("coefs", .tup [.int a, .int e]), ("c", .int c), ("rows", .obj R)]
noncomputable def Am (n : Int) (x y : Nat) : List (String × PV) := [("number", .int n), ("scope", .tup [.int x, .int y]), ("strength", .str "values")]
theorem any_iff {l : List Int} {p : Int → Bool} : l.any p = true ↔ ∃ v ∈ l, p v = true := List.any_eq_true
theorem Dom.one {l : List Int} (h : l.length = 1) : l = [jl l] := match l, h with | [_], _ => rfl
theorem Dom.two {l : List Int} (hl : Dom l) (n : l ≠ []) (h : l.length ≠ 1) : ∃ v ∈ l, ∃ w ∈ l, v ≠ w := match l, n, h with
  | v :: w :: t, _, _ => ⟨v, .head _, w, .tail _ (.head _), fun e => by
    subst e
    exact (List.nodup_cons.mp (hl.nodup (by decide))).1 (.head _)⟩
  | [_], _, h => absurd rfl h
theorem lE {R : Int → Int → Bool} {x y : Nat} {lx ly : List Int} {ds : List (List Int)} (hx : ds[x]? = some lx) (hy : ds[y]? = some ly) (h1 : ∀ v ∈ lx, ∃ w ∈ ly, R v w = true) (h2 : ∀ w ∈ ly, ∃ v ∈ lx, R v w = true) : fT R x y lx ly ds = ds := by
  unfold fT
  rw [List.filter_eq_self.mpr fun v hv => any_iff.mpr (h1 v hv), List.filter_eq_self.mpr fun w hw => any_iff.mpr (h2 w hw), eW hx, eW hy]
section
variable {σ : AH} {A : SA} {s : StS} {R : List (Nat × AObj)} {K : KP} {x y : Nat} {lx ly : List Int}
theorem qV (h : At σ (bm A s R)) (b : Bnd s) {np n p Ro : Nat} {a e c k : Int} (hp : R[np]? = some (p, .inst 545 (x7 k x y a e c Ro))) (hR : R[n]? = some (Ro, .list ([(a, x), (e, y)].map dZ))) (x4 : x < 4) (y4 : y < 4) (hxy : x ≠ y) (ca : Coef a) (ce : Coef e) (hc : -3 ≤ c ∧ c ≤ 3) (hx : s.dom[x]? = some lx) (hy : s.dom[y]? = some ly)
    (pk : PK K A s R (fun v w => decide (a * v + e * w ≤ c)) x y lx ly) : Ok (cZ [.obj p, .obj A.S] σ) K := by
  have la := xa ca (b.d lx (List.mem_of_getElem? hx)).1 (b.d lx (List.mem_of_getElem? hx)).2
  have le := xa ce (b.d ly (List.mem_of_getElem? hy)).1 (b.d ly (List.mem_of_getElem? hy)).2
  refine kf rfl (kB ?_)
  and_intros
  exists gp (h.get (np + 6) hp) rfl rfl, gp (h.get (np + 6) hp) rfl rfl
  refine qk h b hR x4 y4 hxy ca ce hc hx hy (fun σ' cl h q => ?_) fun σ' s' h g q d => ?_
  · and_intros
    exact pk.no σ' s cl .refl h fun v hv w hw => decide_eq_false (by have := la.le v hv; have := le.le w hw; lia)
  · and_intros
    obtain ⟨v0, hv0, ev0⟩ := la.at_
    obtain ⟨w0, hw0, ew0⟩ := le.at_
    refine pk.yes σ' s' g h ?_ ⟨v0, hv0, w0, hw0, decide_eq_true (by lia)⟩
    rw [d]
    unfold fT
    congr 1
    · congr 1
      refine List.filter_congr fun v hv => Bool.eq_iff_iff.mpr ⟨fun z => any_iff.mpr ⟨w0, hw0, decide_eq_true (by have := of_decide_eq_true z; lia)⟩, fun z => ?_⟩
      obtain ⟨w, hw, z⟩ := any_iff.mp z
      exact decide_eq_true (by have := of_decide_eq_true z; have := le.le w hw; lia)
    · refine List.filter_congr fun w hw => Bool.eq_iff_iff.mpr ⟨fun z => any_iff.mpr ⟨v0, hv0, decide_eq_true (by have := of_decide_eq_true z; lia)⟩, fun z => ?_⟩
      obtain ⟨v, hv, z⟩ := any_iff.mp z
      exact decide_eq_true (by have := of_decide_eq_true z; have := la.le v hv; lia)
end
theorem mH {r k v : Int} (ck : Coef k) (h : r.fmod k = 0) : v = r.fdiv k ↔ k * v = r := by
  have e := Int.fmod_add_mul_fdiv r k
  rw [h, Int.zero_add] at e
  constructor
  · intro q; rw [q, e]
  · intro q
    rcases ck with rfl | rfl | rfl | rfl <;> lia
theorem sZ {r k v : Int} (h : r.fmod k ≠ 0) : k * v ≠ r := fun q => h (by rw [← q]; exact Int.mul_fmod_right k v)
theorem Coef.inj {k v w : Int} (ck : Coef k) (h : k * v = k * w) : v = w := by rcases ck with rfl | rfl | rfl | rfl <;> lia
theorem Coef.ne {k : Int} (ck : Coef k) : k ≠ 0 ∧ -1000 ≤ k ∧ k ≤ 1000 := by rcases ck with rfl | rfl | rfl | rfl <;> decide
theorem Ag {k r : Int} (ck : Coef k) (h : -9 ≤ r ∧ r ≤ 9) : r.fdiv k ∈ ks := f9 (by
  rcases ck with rfl | rfl | rfl | rfl
  · rw [Int.fdiv_eq_ediv]; split <;> lia
  · rw [Int.fdiv_eq_ediv, if_pos (.inr ⟨-r, by lia⟩)]; lia
  · rw [Int.fdiv_eq_ediv]; split <;> lia
  · rw [Int.fdiv_eq_ediv]; split <;> lia)
theorem Ap {r k : Int} {K : KP} {σ : AH} (ck : Coef k) (q : K (.int (r.fmod k)) σ) : K2b lX (.int r) K (.int k) σ := go (if_pos ck.ne.1) q
noncomputable def yk (ds : List (List Int)) (t : Int × List (Int × Nat)) (r : Int × Nat) : Int × List (Int × Nat) := if ((ds[r.2]?).getD []).length = 1 then (t.1 - r.1 * jl ((ds[r.2]?).getD []), t.2) else (t.1, t.2 ++ [r])
structure NeI (A : SA) (s : StS) (R : List (Nat × AObj)) (wi ri j : Nat) (t : Int × List (Int × Nat)) (m : Loc) (τ : AH) : Prop where
  st : m "store" = some (.obj A.S)
  rest : m "rest" = some (.int t.1)
  wai : m "waiting" = some (.obj wi)
  rea : m "reasons" = some (.obj ri)
  at_ : ∃ q : List PV, At τ ((wi, .list (t.2.map dZ)) :: (ri, .list q) :: bm A s R) ∧ q.length ≤ j
noncomputable def z9 : SF := (am (df (fU (bL (a9 "is_fixed" [(393, dT)] (af "store") (aj (af "x") ao)))) (am (bO (jA (af "waiting") (aj (eL aX (aj (af "coef") (aj (af "x") ao))) ao) bP)) (am qU aB)) aB) (am (a6 (e2 (c7 (· - ·)) (af "rest") (e2 gk (af "coef") (a9 "value" [(393, dz)] (af "store") (aj (af "x") ao)))) (aF "rest")) (am (df (bL (e2 dE (a9 "initial" [(393, cR)] (af "store") (aj (af "x") ao)) (a9 "dom" [(393, cj)] (af "store") (aj (af "x") ao)))) (am (bO (jA (af "reasons") (aj (eL aX (aj (af "x") (aj (an (.str "=")) (aj (a9 "value" [(393, dz)] (af "store") (aj (af "x") ao)) ao)))) ao) bP)) aB) aB) aB)))
section
variable {σ : AH} {A : SA} {s : StS} {R : List (Nat × AObj)} {K : KP} {Ks : KZ} {x y : Nat} {l lx ly : List Int}
theorem uS (b : Bnd s) {wi ri j : Nat} {t : Int × List (Int × Nat)} {m : Loc} (i : NeI A s R wi ri j t m σ) (hj : j ≤ 5) (ht : t.2.length ≤ 5) {k : Int} {z : Nat} (hl : s.dom[z]? = some l)
    {J : Loc → AH → Prop} (kk : ∀ m τ, NeI A s R wi ri (j + 1) (yk s.dom t (k, z)) m τ → J m τ) : Ok (z9 ((m.put "coef" (.int k)).put "x" (.int z)) σ) (Klp J Ks) := by
  obtain ⟨dl, nl⟩ := b.d l (List.mem_of_getElem? hl)
  have lb := (dK dl nl).2.2 _ (dK dl nl).1
  obtain ⟨l', hl', dl', nl'⟩ := b.fat (x := z) (b.dl ▸ (List.getElem?_eq_some_iff.mp hl).1)
  obtain ⟨m1, m2, m3, m4, q, h, hq⟩ := i
  have e : (s.dom[z]?).getD [] = l := by rw [hl]; rfl
  unfold yk at kk
  dsimp only at kk
  rw [e] at kk
  refine kB ?_
  and_intros
  exists b9 (h.get 2 rfl) rfl rfl
  refine rm h.tl.tl b.sb hl nl (fun c => ?_) fun c => ?_
  · rw [if_pos c] at kk
    and_intros
    exists b9 (h.get 2 rfl) rfl rfl
    refine r9 h.tl.tl b.sb hl nl (.eq (iP σ (by lia)) ?_)
    and_intros
    exists b9 (h.get 2 rfl) rfl rfl
    refine jN h.tl.tl b.sb hl' ?_
    and_intros
    exists b9 (h.get 2 rfl) rfl rfl
    refine ij h.tl.tl b.sb hl (.eq (y7 dl' dl) (zv (fun _ => ?_) fun _ => ?_))
    · and_intros
      exact kk _ _ ⟨m1, rfl, m3, m4, q, h, Nat.le_succ_of_le hq⟩
    · and_intros
      exists jf (h.get 1 rfl), b9 (h.get 2 rfl) rfl rfl
      refine r9 h.tl.tl b.sb hl nl ?_
      and_intros
      refine gR h 1 rfl (by lia) rfl fun τ h => ?_
      and_intros
      exact kk _ _ ⟨m1, rfl, m3, m4, _, h, by rw [List.length_append]; exact Nat.add_le_add_right hq 1⟩
  · rw [if_neg c] at kk
    and_intros
    exists jf (h.get 0 rfl)
    refine gR h 0 rfl (by rw [List.length_map]; lia) (eh dZ _ (k, z)) fun τ h => ?_
    and_intros
    exact kk _ _ ⟨m1, m2, m3, m4, q, h, Nat.le_succ_of_le hq⟩
theorem pQ {r : Int → Int → Bool} {ds : List (List Int)} (hxy : x ≠ y) : fT r x y lx ly ds = fT (fun w v => r v w) y x ly lx ds := List.set_comm _ _ hxy
structure NeH (r : Int → Int → Bool) (x y : Nat) (lx ly : List Int) (ds : List (List Int)) (k rest : Int) (z : Nat) (l : List Int) : Prop where
  ck : Coef k
  at_ : ds[z]? = some l
  zz : z = x ∨ z = y
  rs : -9 ≤ rest ∧ rest ≤ 9
  one : rest.fmod k ≠ 0 → fT r x y lx ly ds = ds ∧ ∃ v ∈ lx, ∃ w ∈ ly, r v w = true
  no : rest.fmod k = 0 → l.filter (ob "!=" (rest.fdiv k)) = [] → ∀ v ∈ lx, ∀ w ∈ ly, r v w = false
  yes : rest.fmod k = 0 → l.filter (ob "!=" (rest.fdiv k)) ≠ [] → ds.set z (l.filter (ob "!=" (rest.fdiv k))) = fT r x y lx ly ds ∧ ∃ v ∈ lx, ∃ w ∈ ly, r v w = true
theorem CU {ds : List (List Int)} (hx : ds[x]? = some lx) (hy : ds[y]? = some ly) (hxy : x ≠ y) (dx : Dom lx) (nx : lx ≠ []) (dy : Dom ly) (ny : ly ≠ []) {a e c : Int} (ca : Coef a) (ce : Coef e) (hc : -3 ≤ c ∧ c ≤ 3) (fy : ly.length = 1) : NeH (fun v w => !decide (a * v + e * w = c)) x y lx ly ds a (c - e * jl ly) x lx := by
  have by_ := (dK dy ny).2.2 _ (dK dy ny).1
  have sy : ∀ w ∈ ly, w = jl ly := fun v hv => by rw [Dom.one fy] at hv; exact List.mem_singleton.mp hv
  have r1 : ∀ v, a * v ≠ c - e * jl ly → ∀ w ∈ ly, (!decide (a * v + e * w = c)) = true := fun v n w hw => by rw [sy w hw, decide_eq_false (by lia)]; rfl
  have r2 : ∀ v, a * v = c - e * jl ly → ∀ w ∈ ly, (!decide (a * v + e * w = c)) = false := fun v n w hw => by rw [sy w hw, decide_eq_true (by lia)]; rfl
  refine ⟨ca, hx, .inl rfl, by rcases ce with rfl | rfl | rfl | rfl <;> lia, fun n => ?_, fun n q v hv w hw => ?_, fun n q => ?_⟩
  · exact ⟨lE hx hy (fun v _ => ⟨_, (dK dy ny).1, r1 v (sZ n) _ (dK dy ny).1⟩) fun w hw => ⟨_, (dK dx nx).1, r1 _ (sZ n) w hw⟩, _, (dK dx nx).1, _, (dK dy ny).1, r1 _ (sZ n) _ (dK dy ny).1⟩
  · refine r2 v ((mH ca n).mp ?_) w hw
    have := List.filter_eq_nil_iff.mp q v hv
    rw [nC] at this
    exact Decidable.byContradiction fun z => this (by rw [decide_eq_false z]; rfl)
  · obtain ⟨v0, hv0⟩ := List.exists_mem_of_ne_nil _ q
    obtain ⟨h0, q0⟩ := List.mem_filter.mp hv0
    have n0 : a * v0 ≠ c - e * jl ly := fun z => by rw [nC, decide_eq_true ((mH ca n).mpr z)] at q0; cases q0
    refine ⟨?_, v0, h0, _, (dK dy ny).1, r1 v0 n0 _ (dK dy ny).1⟩
    unfold fT
    rw [List.filter_eq_self.mpr fun w hw => any_iff.mpr ⟨v0, h0, r1 v0 n0 w hw⟩]
    refine Eq.trans (congrArg _ ?_) (eW (by rw [List.getElem?_set_ne hxy]; exact hy)).symm
    refine List.filter_congr fun v hv => ?_
    rw [nC]
    by_cases z : v = (c - e * jl ly).fdiv a
    · rw [decide_eq_true z]
      refine (Bool.eq_false_iff.mpr fun w => ?_).symm
      obtain ⟨w, hw, e⟩ := any_iff.mp w
      cases (r2 v ((mH ca n).mp z) w hw).symm.trans e
    · rw [decide_eq_false z]
      exact (any_iff.mpr ⟨_, (dK dy ny).1, r1 v (fun q => z ((mH ca n).mpr q)) _ (dK dy ny).1⟩).symm
theorem NeH.swap {r : Int → Int → Bool} {ds : List (List Int)} {k rest : Int} {z : Nat} {l : List Int} (hxy : x ≠ y) (i : NeH (fun w v => r v w) y x ly lx ds k rest z l) : NeH r x y lx ly ds k rest z l :=
  ⟨i.ck, i.at_, i.zz.symm, i.rs, fun n => let ⟨h, v, hv, w, hw, q⟩ := i.one n; ⟨(pQ hxy).trans h, w, hw, v, hv, q⟩, fun n q v hv w hw => i.no n q w hw v hv, fun n q => let ⟨h, v, hv, w, hw, q⟩ := i.yes n q; ⟨h.trans (pQ hxy).symm, w, hw, v, hv, q⟩⟩
theorem yx {ds : List (List Int)} (hx : ds[x]? = some lx) (hy : ds[y]? = some ly) (dx : Dom lx) (nx : lx ≠ []) (dy : Dom ly) (ny : ly ≠ []) {a e c : Int} (ca : Coef a) (ce : Coef e) (fx : lx.length ≠ 1) (fy : ly.length ≠ 1) : (fT (fun v w => !decide (a * v + e * w = c)) x y lx ly ds = ds) ∧ ∃ v ∈ lx, ∃ w ∈ ly, (!decide (a * v + e * w = c)) = true := by
  obtain ⟨v1, hv1, v2, hv2, nv⟩ := Dom.two dx nx fx
  obtain ⟨w1, hw1, w2, hw2, nw⟩ := Dom.two dy ny fy
  have h1 : ∀ v ∈ lx, ∃ w ∈ ly, (!decide (a * v + e * w = c)) = true := fun v _ => by
    by_cases q : a * v + e * w1 = c
    · exact ⟨w2, hw2, by rw [decide_eq_false fun z => nw (ce.inj (by lia))]; rfl⟩
    · exact ⟨w1, hw1, by rw [decide_eq_false q]; rfl⟩
  refine ⟨lE hx hy h1 fun w _ => ?_, v1, hv1, h1 v1 hv1⟩
  by_cases q : a * v1 + e * w = c
  · exact ⟨v2, hv2, by rw [decide_eq_false fun z => nv (ca.inj (by lia))]; rfl⟩
  · exact ⟨v1, hv1, by rw [decide_eq_false q]; rfl⟩
theorem sm (h : At σ (bm A s R)) (b : Bnd s) {np n p Ro : Nat} {a e c k : Int} (hp : R[np]? = some (p, .inst 587 (x7 k x y a e c Ro))) (hR : R[n]? = some (Ro, .list ([(a, x), (e, y)].map dZ))) (x4 : x < 4) (y4 : y < 4) (hxy : x ≠ y) (ca : Coef a) (ce : Coef e) (hc : -3 ≤ c ∧ c ≤ 3) (hx : s.dom[x]? = some lx) (hy : s.dom[y]? = some ly)
    (pk : PK K A s R (fun v w => !decide (a * v + e * w = c)) x y lx ly) : Ok (cV [.obj p, .obj A.S] σ) K := by
  obtain ⟨dx, nx⟩ := b.d lx (List.mem_of_getElem? hx)
  obtain ⟨dy, ny⟩ := b.d ly (List.mem_of_getElem? hy)
  have bx := (dK dx nx).2.2 _ (dK dx nx).1
  have by_ := (dK dy ny).2.2 _ (dK dy ny).1
  have ex : (s.dom[x]?).getD [] = lx := by rw [hx]; rfl
  have ey : (s.dom[y]?).getD [] = ly := by rw [hy]; rfl
  have mem : ∀ r ∈ [(a, x), (e, y)], r.2 < 4 := fun r hr => by
    rcases List.mem_cons.mp hr with rfl | hr
    · exact x4
    · rw [List.mem_singleton.mp hr]; exact y4
  refine kf rfl (kB ?_)
  and_intros
  exists gp (h.get (np + 6) hp) rfl rfl
  refine dL h (Nat.zero_le _) fun ri τ h => ?_
  and_intros
  refine dL h (Nat.zero_le _) fun wi τ h => ?_
  and_intros
  exists gp (h.get (np + 8) hp) rfl rfl, wq (h.get (n + 8) hR)
  refine gD (fun j => NeI A s R wi ri j (([(a, x), (e, y)].take j).foldl (yk s.dom) (c, []))) (fun j m τ i => by obtain ⟨q, h, _⟩ := i.at_; exact mq (h.get (n + 8) hR)) ⟨rfl, rfl, rfl, rfl, [], h, Nat.le_refl _⟩ (fun j v ej m τ i => ?_) fun m τ i => ?_
  · match j, ej with
    | 0, ej =>
      cases ej
      exact go rfl (uS b i (by decide) (Nat.le_of_ble_eq_true rfl) hx fun m τ i => i)
    | 1, ej =>
      cases ej
      refine go rfl (uS b i (by decide) ?_ hy fun m τ i => i)
      show (yk s.dom (c, []) (a, x)).2.length ≤ 5
      unfold yk
      split <;> exact Nat.le_of_ble_eq_true rfl
  · obtain ⟨m1, m2, m3, m4, q, h, hq⟩ := i
    change m "rest" = some (.int (yk s.dom (yk s.dom (c, []) (a, x)) (e, y)).1) at m2
    change At τ ((wi, .list ((yk s.dom (yk s.dom (c, []) (a, x)) (e, y)).2.map dZ)) :: _) at h
    have hq : q.length ≤ 1000 := Nat.le_trans hq (Nat.le_of_ble_eq_true rfl)
    unfold yk at m2 h
    dsimp only at m2 h
    rw [ex, ey] at m2 h
    by_cases fx : lx.length = 1 ∧ ly.length = 1
    · rw [if_pos fx.1, if_pos fx.2] at m2 h
      have sx : ∀ v ∈ lx, v = jl lx := fun v hv => by rw [Dom.one fx.1] at hv; exact List.mem_singleton.mp hv
      have sy : ∀ v ∈ ly, v = jl ly := fun v hv => by rw [Dom.one fx.2] at hv; exact List.mem_singleton.mp hv
      and_intros
      refine fN (h.get 0 rfl) (Nat.zero_le _) ?_
      and_intros
      refine Cf rfl ?_
      and_intros
      refine zv (fun z => ?_) fun z => ?_
      · and_intros
        exists b9 (h.get 2 rfl) rfl rfl, xY (h.get 1 rfl) (Nat.le_trans hq (by decide))
        refine mO h.tl.tl fun τ h => ?_
        and_intros
        refine pk.no τ s _ .refl h fun v hv w hw => ?_
        rw [sx v hv, sy w hw, decide_eq_true (by lia)]
        rfl
      · and_intros
        have r0 : (!decide (a * jl lx + e * jl ly = c)) = true := by rw [decide_eq_false (by lia)]; rfl
        exact pk.yes τ s .refl h.tl.tl (lE hx hy (fun v hv => ⟨_, (dK dy ny).1, by rw [sx v hv]; exact r0⟩) fun w hw => ⟨_, (dK dx nx).1, by rw [sy w hw]; exact r0⟩).symm ⟨_, (dK dx nx).1, _, (dK dy ny).1, r0⟩
    by_cases fo : lx.length = 1 ∨ ly.length = 1
    · obtain ⟨k, rest, z, l, i, m2, h⟩ : ∃ k rest z l, NeH (fun v w => !decide (a * v + e * w = c)) x y lx ly s.dom k rest z l ∧ m "rest" = some (.int rest) ∧ At τ ((wi, .list [dZ (k, z)]) :: (ri, .list q) :: bm A s R) := by
        by_cases f : lx.length = 1
        · have f2 : ly.length ≠ 1 := fun z => fx ⟨f, z⟩
          rw [if_pos f, if_neg f2] at m2 h
          refine ⟨e, _, y, ly, .swap hxy ?_, m2, h⟩
          have := CU (c := c) hy hx hxy.symm dy ny dx nx ce ca hc f
          simpa only [Int.add_comm] using this
        · rw [if_neg f, if_pos (fo.resolve_left f)] at m2 h
          exact ⟨a, _, x, lx, CU hx hy hxy dx nx dy ny ca ce hc (fo.resolve_left f), m2, h⟩
      and_intros
      refine fN (h.get 0 rfl) (Nat.le_of_ble_eq_true rfl) ?_
      and_intros
      refine Bf (by show ¬ (1 : Int) = 0; decide) ?_
      and_intros
      refine uv (h.get 0 rfl) (x := 0) rfl (Nat.zero_le _) rfl (go rfl ?_)
      and_intros
      refine fN (h.get 0 rfl) (Nat.le_of_ble_eq_true rfl) ?_
      and_intros
      refine Bf (by show ¬ (1 : Int) < 1; decide) ?_
      and_intros
      refine Ap i.ck ?_
      and_intros
      refine zv (fun f => ?_) fun f => ?_
      · and_intros
        exists b9 (h.get 2 rfl) rfl rfl, K2b.eq (ls τ i.ck.ne), xY (h.get 1 rfl) (Nat.le_trans hq (by decide))
        refine iS (sc := fun z => z = x ∨ z = y) h.tl.tl b i.at_ i.zz (.inr (.inr (.inr ⟨rfl, Ag i.ck i.rs⟩))) hq (fun n τ cl h => ?_) fun n τ s' h g d => ?_
        · and_intros
          exact pk.no τ s cl .refl h (i.no f n)
        · and_intros
          exact pk.yes τ s' g h (d.trans (i.yes f n).1) (i.yes f n).2
      · and_intros
        exact pk.yes τ s .refl h.tl.tl (i.one f).1.symm (i.one f).2
    · have f1 : lx.length ≠ 1 := fun z => fo (.inl z)
      have f2 : ly.length ≠ 1 := fun z => fo (.inr z)
      rw [if_neg f1, if_neg f2] at m2 h
      have i := yx (c := c) hx hy dx nx dy ny ca ce f1 f2
      and_intros
      refine fN (h.get 0 rfl) (Nat.le_of_ble_eq_true rfl) ?_
      and_intros
      refine Bf (by show ¬ (2 : Int) = 0; decide) ?_
      and_intros
      refine uv (h.get 0 rfl) (x := 0) rfl (Nat.zero_le _) rfl (go rfl ?_)
      and_intros
      refine fN (h.get 0 rfl) (Nat.le_of_ble_eq_true rfl) ?_
      and_intros
      refine Cf (by show (1 : Int) < 2; decide) ?_
      and_intros
      exact pk.yes τ s .refl h.tl.tl i.1.symm i.2
end
noncomputable def kR (v w : Int) : Bool := decide (0 ≤ w) && (decide (v = w) || decide (v = -w))
theorem absR_iff {v w : Int} : kR v w = true ↔ 0 ≤ w ∧ (v = w ∨ v = -w) := by simp [kR]
theorem tj {l' l : List Int} (h : l'.Sublist l) (n : l.Nodup) : l' = l.filter fun v => l'.contains v := by
  induction h with
  | slnil => rfl
  | @cons a b x h ih =>
    obtain ⟨n1, n2⟩ := List.nodup_cons.mp n
    rw [List.filter_cons, if_neg fun q => n1 (h.subset (List.contains_iff_mem.mp q))]
    exact ih n2
  | @cons_cons a b x h ih =>
    obtain ⟨n1, n2⟩ := List.nodup_cons.mp n
    rw [List.filter_cons, if_pos (List.contains_iff_mem.mpr (.head _))]
    refine congrArg _ ((ih n2).trans (List.filter_congr fun v hv => Bool.eq_iff_iff.mpr ⟨fun q => List.contains_iff_mem.mpr (.tail _ (List.contains_iff_mem.mp q)), fun q => ?_⟩))
    rcases List.mem_cons.mp (List.contains_iff_mem.mp q) with rfl | q
    · exact absurd hv n1
    · exact List.contains_iff_mem.mpr q
theorem Dom.nd {l : List Int} (h : Dom l) : l.Nodup := h.nodup (by decide)
theorem xT {l' l : List Int} {p : Int → Bool} (h : l'.Sublist l) (dl : Dom l) (q : ∀ v ∈ l, v ∈ l' ↔ p v = true) : l' = l.filter p :=
  (tj h dl.nd).trans (List.filter_congr fun v hv => Bool.eq_iff_iff.mpr (List.contains_iff_mem.trans (q v hv)))
noncomputable def sO (l r : List Int) : List Int := l.filter fun v => !((kW r).contains v || (kW r).contains (-v))
theorem mJ {l r : List Int} {v : Int} (hl : Dom l) : v ∈ sO l r ↔ v ∈ l ∧ v ∉ r ∧ -v ∉ r := by
  have ma : ∀ u : Int, u ∈ kW r ↔ (u = 0 ∨ u = 1 ∨ u = 2 ∨ u = 3) ∧ (u ∈ r ∨ -u ∈ r) := fun u => by simp [kW, List.mem_filter]
  unfold sO
  rw [List.mem_filter]
  refine and_congr_right fun hv => ?_
  have b : -2 ≤ v ∧ v ≤ 3 := by
    have := hl.subset hv
    simp at this; omega
  have key : (!((kW r).contains v || (kW r).contains (-v))) = true ↔ v ∉ kW r ∧ -v ∉ kW r := by
    rw [Bool.not_eq_true', Bool.or_eq_false_iff, ← Bool.not_eq_true, ← Bool.not_eq_true, List.contains_iff_mem, List.contains_iff_mem]
  rw [key, ma, ma, Int.neg_neg]
  constructor
  · rintro ⟨h1, h2⟩
    by_cases z : 0 ≤ v
    · exact ⟨fun q => h1 ⟨by omega, .inl q⟩, fun q => h1 ⟨by omega, .inr q⟩⟩
    · exact ⟨fun q => h2 ⟨by omega, .inr q⟩, fun q => h2 ⟨by omega, .inl q⟩⟩
  · rintro ⟨h1, h2⟩
    exact ⟨fun q => q.2.elim h1 h2, fun q => q.2.elim h2 h1⟩
theorem At.into {σ : AH} {A : SA} {s : StS} {p : Nat × AObj} {R : List (Nat × AObj)} (h : At σ (p :: bm A s R)) : At σ (bm A s (p :: R)) :=
  h.perm (List.perm_middle (l₁ := bm A s []) (l₂ := R)).symm
theorem At.out {σ : AH} {A : SA} {s : StS} {p : Nat × AObj} {R : List (Nat × AObj)} (h : At σ (bm A s (p :: R))) : At σ (bm A s R) := h.sub (.cons_cons _ (.cons_cons _ (.cons_cons _ (.cons_cons _ (.cons_cons _ (.cons_cons _ (List.sublist_cons_self _ _)))))))
structure AI (A : SA) (s : StS) (R : List (Nat × AObj)) (x y : Nat) (lx ly cx cy : List Int) (s' : StS) (τ : AH) : Prop where
  at_ : At τ (bm A s' R)
  g : Gr (fun z => z = x ∨ z = y) s.sp s s'
  d : s'.dom = (s.dom.set x cx).set y cy
  sx : cx.Sublist lx
  sy : cy.Sublist ly
  keep : ∀ v ∈ lx, ∀ w ∈ ly, kR v w = true → v ∈ cx ∧ w ∈ cy
section
variable {σ τ : AH} {A : SA} {s s' : StS} {R : List (Nat × AObj)} {K : KP} {Ks : KZ} {x y : Nat} {l lx ly cx cy : List Int}
noncomputable def mB (a : Int) : Int := if a < 0 then -a else a
noncomputable def ua (a b : Int) : Int := if b > a then b else a
theorem A6 {a : Int} (k : K (.int (mB a)) σ) : K1 wO K [.int a] σ := go rfl k
theorem Ct {a b : Int} (k : K (.int (ua a b)) σ) : K1 wY K [.int a, .int b] σ := go rfl k
theorem yz {a b : Int} (h : -2 ≤ a ∧ b ≤ 3 ∧ a ≤ b) : 0 ≤ ua (mB a) (mB b) ∧ ua (mB a) (mB b) ≤ 3 ∧ ∀ v, a ≤ v → v ≤ b → v ≤ ua (mB a) (mB b) ∧ -v ≤ ua (mB a) (mB b) := by
  unfold ua mB
  refine ⟨?_, ?_, fun v h1 h2 => ⟨?_, ?_⟩⟩ <;> (split <;> split <;> split <;> omega)
theorem AI.dx (i : AI A s R x y lx ly cx cy s' τ) (b : Bnd s) (x4 : x < 4) (hxy : x ≠ y) : s'.dom[x]? = some cx := by rw [i.d, List.getElem?_set_ne hxy.symm, List.getElem?_set_self (b.dl ▸ x4)]
theorem AI.dy (i : AI A s R x y lx ly cx cy s' τ) (b : Bnd s) (y4 : y < 4) : s'.dom[y]? = some cy := by rw [i.d, List.getElem?_set_self (by rw [List.length_set, b.dl]; exact y4)]
theorem set_set {α : Type} (l : List α) (x : Nat) (a b : α) : (l.set x a).set x b = l.set x b := List.set_set a
theorem AI.strikeX (i : AI A s R x y lx ly cx cy s' τ) (b : Bnd s) (x4 : x < 4) (hxy : x ≠ y) {sg : String} {c : Int} {q : List PV} (sk : SK sg c) (hq : q.length ≤ 1000) (kp : ∀ v ∈ cx, ∀ w ∈ cy, kR v w = true → ob sg c v = true)
    (no : ∀ σ' cl, At σ' (bm A { s' with fl := true, cl := cl } R) → (∀ v ∈ lx, ∀ w ∈ ly, kR v w = false) → K (.bool false) σ') (yes : ∀ τ s2, AI A s R x y lx ly (cx.filter (ob sg c)) cy s2 τ → K (.bool true) τ) : Ok (bC [.obj A.S, i8 x sg c, .tup q] τ) K :=
  iS (sc := fun z => z = x ∨ z = y) i.at_ (i.g.bnd b) (i.dx b x4 hxy) (.inl rfl) sk hq (fun n σ' cl h => no σ' cl h fun v hv w hw => Bool.eq_false_iff.mpr fun r => by
      obtain ⟨h1, h2⟩ := i.keep v hv w hw r
      exact List.filter_eq_nil_iff.mp n v h1 (kp v h1 w h2 r)) fun n τ s2 h g d => yes τ s2 ⟨h, i.g.trans (i.g.sp_eq ▸ g), by rw [d, i.d, List.set_comm _ _ hxy.symm, set_set, List.set_comm _ _ hxy], List.filter_sublist.trans i.sx, i.sy, fun v hv w hw r => ⟨List.mem_filter.mpr ⟨(i.keep v hv w hw r).1, kp v (i.keep v hv w hw r).1 w (i.keep v hv w hw r).2 r⟩, (i.keep v hv w hw r).2⟩⟩
theorem AI.strikeY (i : AI A s R x y lx ly cx cy s' τ) (b : Bnd s) (y4 : y < 4) {sg : String} {c : Int} {q : List PV} (sk : SK sg c) (hq : q.length ≤ 1000) (kp : ∀ v ∈ cx, ∀ w ∈ cy, kR v w = true → ob sg c w = true)
    (no : ∀ σ' cl, At σ' (bm A { s' with fl := true, cl := cl } R) → (∀ v ∈ lx, ∀ w ∈ ly, kR v w = false) → K (.bool false) σ') (yes : ∀ τ s2, AI A s R x y lx ly cx (cy.filter (ob sg c)) s2 τ → K (.bool true) τ) : Ok (bC [.obj A.S, i8 y sg c, .tup q] τ) K :=
  iS (sc := fun z => z = x ∨ z = y) i.at_ (i.g.bnd b) (i.dy b y4) (.inr rfl) sk hq (fun n σ' cl h => no σ' cl h fun v hv w hw => Bool.eq_false_iff.mpr fun r => by
      obtain ⟨h1, h2⟩ := i.keep v hv w hw r
      exact List.filter_eq_nil_iff.mp n w h2 (kp v h1 w h2 r)) fun n τ s2 h g d => yes τ s2 ⟨h, i.g.trans (i.g.sp_eq ▸ g), by rw [d, i.d, set_set], i.sx, List.filter_sublist.trans i.sy, fun v hv w hw r => ⟨(i.keep v hv w hw r).1, List.mem_filter.mpr ⟨(i.keep v hv w hw r).2, kp v (i.keep v hv w hw r).1 w (i.keep v hv w hw r).2 r⟩⟩⟩
theorem rG (h : At σ (bm A s R)) (b : Bnd s) (fl : s.fl = false) {np p : Nat} {k : Int} (hp : R[np]? = some (p, .inst 479 (Am k x y))) (x4 : x < 4) (y4 : y < 4) (hxy : x ≠ y) (hx : s.dom[x]? = some lx) (hy : s.dom[y]? = some ly)
    (pk : PK K A s R kR x y lx ly) : Ok (cY [.obj p, .obj A.S] σ) K := by
  obtain ⟨dx, nx⟩ := b.d lx (List.mem_of_getElem? hx)
  obtain ⟨dy, ny⟩ := b.d ly (List.mem_of_getElem? hy)
  have i0 : AI A s R x y lx ly lx ly s σ := ⟨h, .refl, by rw [eW hx, eW hy], .refl _, .refl _, fun v hv w hw _ => ⟨hv, hw⟩⟩
  have no : ∀ {s' : StS} {τ : AH} {cx cy : List Int}, AI A s R x y lx ly cx cy s' τ → ∀ σ' cl, At σ' (bm A { s' with fl := true, cl := cl } R) → (∀ v ∈ lx, ∀ w ∈ ly, kR v w = false) → K (.bool false) σ' := fun i σ' cl h q => pk.no σ' _ cl i.g h q
  have r6 : ∀ {l : List Int}, Dom l → l ≠ [] → -2 ≤ jl l ∧ xu l ≤ 3 ∧ jl l ≤ xu l := fun hl n => ⟨((dK hl n).2.2 _ (dK hl n).1).2.2.1, ((dK hl n).2.2 _ (dK hl n).2.1).2.2.2, ((dK hl n).2.2 _ (dK hl n).1).2.1⟩
  refine kf rfl (kB ?_)
  and_intros
  exists gp (h.get (np + 6) hp) rfl rfl
  refine go rfl ?_
  and_intros
  rw [fl]
  and_intros
  exists b9 (h.get 0 rfl) rfl rfl
  refine i0.strikeY b y4 (.inr (.inl ⟨rfl, f9 (by decide)⟩)) (Nat.zero_le _) (fun v _ w _ r => decide_eq_true (absR_iff.mp r).1) (fun σ' cl h q => ?_) fun τ s1 i1 => ?_
  · and_intros
    exact no i0 σ' cl h q
  have b1 := i1.g.bnd b
  obtain ⟨d1, n1⟩ := b1.d _ (List.mem_of_getElem? (i1.dy b y4))
  have e1 := r6 d1 n1
  have nn1 : ∀ w ∈ ly.filter (ob ">=" 0), 0 ≤ w := fun w hw => of_decide_eq_true (List.mem_filter.mp hw).2
  have hh := nn1 _ (dK d1 n1).2.1
  generalize ly.filter (ob ">=" 0) = c1 at i1 d1 n1 e1 nn1 hh
  and_intros
  exists b9 (i1.at_.get 0 rfl) rfl rfl
  refine kS i1.at_ b1.sb (i1.dy b y4) n1 ?_
  and_intros
  exists b9 (i1.at_.get 0 rfl) rfl rfl
  refine i1.strikeX b x4 hxy (.inl ⟨rfl, f9 (by omega)⟩) (Nat.le_of_ble_eq_true rfl) (fun v _ w hw r => decide_eq_true (by have := absR_iff.mp r; have := (dK d1 n1).2.2 w hw; omega)) (fun σ' cl h q => ?_) fun τ s2 i2 => ?_
  · and_intros
    exact no i1 σ' cl h q
  and_intros
  exists b9 (i2.at_.get 0 rfl) rfl rfl
  refine i2.strikeX b x4 hxy (.inr (.inl ⟨rfl, f9 (by omega)⟩)) (Nat.le_of_ble_eq_true rfl) (fun v _ w hw r => decide_eq_true (by have := absR_iff.mp r; have := (dK d1 n1).2.2 w hw; omega)) (fun σ' cl h q => ?_) fun τ s3 i3 => ?_
  · and_intros
    exact no i2 σ' cl h q
  generalize (lx.filter _).filter _ = c3 at i3
  obtain ⟨d3, n3⟩ := (i3.g.bnd b).d _ (List.mem_of_getElem? (i3.dx b x4 hxy))
  have b3 := (i3.g.bnd b).sb
  and_intros
  exists b9 (i3.at_.get 0 rfl) rfl rfl, ij i3.at_ b3 (i3.dx b x4 hxy), b9 (i3.at_.get 0 rfl) rfl rfl, ij i3.at_ b3 (i3.dy b y4), b9 (i3.at_.get 0 rfl) rfl rfl, ij i3.at_ b3 (i3.dy b y4), K1.eq (xd d1), K1.eq (uX d1), K1.eq (qP d3 d1), K1.eq (ph (d3.filter _))
  refine wq ((i3.at_.new _).get 0 rfl) ?_
  have h4 := (i3.at_.new (.list ((sO c3 c1).map .int))).into
  refine gD (fun j m τ => m "store" = some (.obj A.S) ∧ m "x" = some (.int x) ∧ m "z" = some (.int y) ∧ ∃ cx s', AI A s ((_, .list ((sO c3 c1).map .int)) :: R) x y lx ly cx c1 s' τ ∧ ∀ v ∈ cx, v ∈ c3 ∧ v ∉ (sO c3 c1).take j) (fun j m τ zz => by obtain ⟨_, _, _, _, _, i, _⟩ := zz; exact mq (i.at_.get 6 rfl)) ⟨rfl, rfl, rfl, c3, s3, ⟨h4, i3.g, i3.d, i3.sx, i3.sy, i3.keep⟩, fun v hv => ⟨hv, List.not_mem_nil⟩⟩ (fun j v ej m τ zz => ?_) fun m τ zz => ?_
  · obtain ⟨m1, m2, m3, cx, s', i, q⟩ := zz
    rw [List.getElem?_map] at ej
    obtain ⟨u, hu, rfl⟩ := Option.map_eq_some_iff.mp ej
    have mu := (mJ d3).mp (List.mem_of_getElem? hu)
    have bu := (dK d3 n3).2.2 u mu.1
    and_intros
    exists b9 (i.at_.get 0 rfl) rfl rfl, A6
    refine i.strikeX b x4 hxy (.inr (.inr (.inr ⟨rfl, f9 (by omega)⟩))) (Nat.le_of_ble_eq_true rfl) (fun v hv w hw r => ?_) (fun σ' cl h q => ?_) fun τ s4 i4 => ?_
    · rw [nC, decide_eq_false]
      · rfl
      · rintro rfl
        rcases (absR_iff.mp r).2 with e | e
        · exact mu.2.1 (e ▸ hw)
        · exact mu.2.2 (by rw [e, Int.neg_neg]; exact hw)
    · and_intros
      exact no ⟨i.at_.out, i.g, i.d, i.sx, i.sy, i.keep⟩ σ' cl h.out q
    · and_intros
      refine ⟨m1, m2, m3, _, s4, i4, fun v hv => ?_⟩
      obtain ⟨h1, h2⟩ := List.mem_filter.mp hv
      refine ⟨(q v h1).1, ?_⟩
      rw [List.take_succ, hu]
      intro z
      rcases List.mem_append.mp z with z | z
      · exact (q v h1).2 z
      · rw [List.mem_singleton.mp z, nC, decide_eq_true rfl] at h2
        cases h2
  obtain ⟨m1, m2, m3, cx, s', i, q⟩ := zz
  rw [List.length_map, List.take_length] at q
  have q : ∀ v ∈ cx, v ∈ c1 ∨ -v ∈ c1 := fun v hv => Decidable.byContradiction fun z => (q v hv).2 ((mJ d3).mpr ⟨(q v hv).1, fun y => z (.inl y), fun y => z (.inr y)⟩)
  have i4 : AI A s R x y lx ly cx c1 s' τ := ⟨i.at_.out, i.g, i.d, i.sx, i.sy, i.keep⟩
  obtain ⟨d4, n4⟩ := (i4.g.bnd b).d _ (List.mem_of_getElem? (i4.dx b x4 hxy))
  have b4 := (i4.g.bnd b).sb
  have e4 := r6 d4 n4
  and_intros
  exists b9 (i4.at_.get 0 rfl) rfl rfl, qJ i4.at_ b4 (i4.dx b x4 hxy) n4, A6, b9 (i4.at_.get 0 rfl) rfl rfl, kS i4.at_ b4 (i4.dx b x4 hxy) n4, A6, Ct, b9 (i4.at_.get 0 rfl) rfl rfl
  have M := yz e4
  refine i4.strikeY b y4 (.inl ⟨rfl, f9 (by omega)⟩) (Nat.le_of_ble_eq_true rfl) (fun v hv w _ r => decide_eq_true (by have := absR_iff.mp r; have h1 := (dK d4 n4).2.2 v hv; have := M.2.2 v h1.1 h1.2.1; omega)) (fun σ' cl h q => ?_) fun τ s5 i5 => ?_
  · and_intros
    exact no i4 σ' cl h q
  have s1 : ∀ w ∈ c1.filter (ob "<=" (ua (mB (jl cx)) (mB (xu cx)))), 0 ≤ w := fun w hw => nn1 w (List.mem_filter.mp hw).1
  generalize c1.filter _ = c5 at i5 s1
  obtain ⟨d5, n5⟩ := (i5.g.bnd b).d _ (List.mem_of_getElem? (i5.dy b y4))
  have b5 := (i5.g.bnd b).sb
  and_intros
  exists b9 (i5.at_.get 0 rfl) rfl rfl, ij i5.at_ b5 (i5.dy b y4), b9 (i5.at_.get 0 rfl) rfl rfl, ij i5.at_ b5 (i5.dx b x4 hxy), b9 (i5.at_.get 0 rfl) rfl rfl, ij i5.at_ b5 (i5.dx b x4 hxy), K1.eq (xd d4), K1.eq (uX d4), K1.eq (qP d5 d4), K1.eq (ph (d5.filter _))
  refine wq ((i5.at_.new _).get 0 rfl) ?_
  have h6 := (i5.at_.new (.list ((sO c5 cx).map .int))).into
  refine gD (fun j m τ => m "store" = some (.obj A.S) ∧ m "x" = some (.int x) ∧ m "z" = some (.int y) ∧ ∃ cy s', AI A s ((_, .list ((sO c5 cx).map .int)) :: R) x y lx ly cx cy s' τ ∧ ∀ v ∈ cy, v ∈ c5 ∧ v ∉ (sO c5 cx).take j) (fun j m τ zz => by obtain ⟨_, _, _, _, _, i, _⟩ := zz; exact mq (i.at_.get 6 rfl)) ⟨m1, m2, m3, c5, s5, ⟨h6, i5.g, i5.d, i5.sx, i5.sy, i5.keep⟩, fun v hv => ⟨hv, List.not_mem_nil⟩⟩ (fun j v ej m τ zz => ?_) fun m τ zz => ?_
  · obtain ⟨m1, m2, m3, cy, s', i, q⟩ := zz
    rw [List.getElem?_map] at ej
    obtain ⟨u, hu, rfl⟩ := Option.map_eq_some_iff.mp ej
    have mu := (mJ d5).mp (List.mem_of_getElem? hu)
    have bu := (dK d5 n5).2.2 u mu.1
    and_intros
    exists b9 (i.at_.get 0 rfl) rfl rfl
    refine i.strikeY b y4 (.inr (.inr (.inr ⟨rfl, f9 (by omega)⟩))) (Nat.le_of_ble_eq_true rfl) (fun v hv w hw r => ?_) (fun σ' cl h q => ?_) fun τ s7 i7 => ?_
    · rw [nC, decide_eq_false]
      · rfl
      · rintro rfl
        rcases (absR_iff.mp r).2 with e | e
        · exact mu.2.1 (e ▸ hv)
        · exact mu.2.2 (e ▸ hv)
    · and_intros
      exact no ⟨i.at_.out, i.g, i.d, i.sx, i.sy, i.keep⟩ σ' cl h.out q
    · and_intros
      refine ⟨m1, m2, m3, _, s7, i7, fun v hv => ?_⟩
      obtain ⟨h1, h2⟩ := List.mem_filter.mp hv
      refine ⟨(q v h1).1, ?_⟩
      rw [List.take_succ, hu]
      intro z
      rcases List.mem_append.mp z with z | z
      · exact (q v h1).2 z
      · rw [List.mem_singleton.mp z, nC, decide_eq_true rfl] at h2
        cases h2
  obtain ⟨m1, m2, m3, cy, s', i, q5⟩ := zz
  rw [List.length_map, List.take_length] at q5
  have fx : ∀ v ∈ cx, ∃ w ∈ ly, kR v w = true := fun v hv => (q v hv).elim (fun z => ⟨v, i4.sy.subset z, absR_iff.mpr ⟨nn1 v z, .inl rfl⟩⟩) fun z => ⟨-v, i4.sy.subset z, absR_iff.mpr ⟨nn1 _ z, .inr (Int.neg_neg v).symm⟩⟩
  have fy : ∀ w ∈ cy, ∃ v ∈ lx, kR v w = true := fun w hw => by
    have z : w ∈ cx ∨ -w ∈ cx := Decidable.byContradiction fun z => (q5 w hw).2 ((mJ d5).mpr ⟨(q5 w hw).1, fun y => z (.inl y), fun y => z (.inr y)⟩)
    exact z.elim (fun z => ⟨w, i4.sx.subset z, absR_iff.mpr ⟨s1 w (q5 w hw).1, .inl rfl⟩⟩) fun z => ⟨-w, i4.sx.subset z, absR_iff.mpr ⟨s1 w (q5 w hw).1, .inr rfl⟩⟩
  and_intros
  obtain ⟨v0, h0⟩ := List.exists_mem_of_ne_nil _ n4
  obtain ⟨w0, g0, r0⟩ := fx v0 h0
  refine pk.yes τ s' i.g i.at_.out ?_ ⟨v0, i4.sx.subset h0, w0, g0, r0⟩
  rw [i.d]
  unfold fT
  rw [xT i.sx dx fun v hv => ⟨fun z => any_iff.mpr (fx v z), fun z => by obtain ⟨w, hw, r⟩ := any_iff.mp z; exact (i.keep v hv w hw r).1⟩, xT i.sy dy fun w hw => ⟨fun z => any_iff.mpr (fy w z), fun z => by obtain ⟨v, hv, r⟩ := any_iff.mp z; exact (i.keep v hv w hw r).2⟩]
end
inductive Kd | le | ne | abs
structure Rule where
  kd : Kd
  a : Int
  x : Nat
  b : Int
  y : Nat
  c : Int
noncomputable def Rule.R (r : Rule) (v w : Int) : Bool := match r.kd with
  | .le => decide (r.a * v + r.b * w ≤ r.c)
  | .ne => !decide (r.a * v + r.b * w = r.c)
  | .abs => kR v w
structure Rule.Ok (r : Rule) : Prop where
  x : r.x < 4
  y : r.y < 4
  ne : r.x ≠ r.y
  a : Coef r.a
  b : Coef r.b
  c : -3 ≤ r.c ∧ r.c ≤ 3
noncomputable def Rule.D (r : Rule) : Addr := match r.kd with | .le => 545 | .ne => 587 | .abs => 479
noncomputable def Rule.F (r : Rule) (n : Int) (Ro : Nat) : List (String × PV) := match r.kd with
  | .abs => Am n r.x r.y
  | _ => x7 n r.x r.y r.a r.b r.c Ro
noncomputable abbrev Cx : List (Addr × FF) := [(479, cY), (545, cZ), (587, cV)]
theorem yV {σ : AH} {A : SA} {s : StS} {R : List (Nat × AObj)} {K : KP} (h : At σ (bm A s R)) (b : Bnd s) (fl : s.fl = false) {r : Rule} (ok : r.Ok) {n : Int} {p Ro : Nat} (hp : (p, .inst r.D (r.F n Ro)) ∈ R) (hR : r.kd ≠ .abs → (Ro, .list ([(r.a, r.x), (r.b, r.y)].map dZ)) ∈ R)
    {l : LF} {m : Loc} (hl : ∀ {K' : List PV → AH → Prop}, K' [.obj A.S] σ → Ok (l m σ) K') {lx ly : List Int} (hx : s.dom[r.x]? = some lx) (hy : s.dom[r.y]? = some ly) (pk : PK K A s R r.R r.x r.y lx ly) : yc "propagate" Cx l m K (.obj p) σ := by
  obtain ⟨np, hp⟩ := List.getElem?_of_mem hp
  obtain ⟨kd, a, x, b', y, c⟩ := r
  obtain ⟨o1, o2, o3, o4, o5, o6⟩ := ok
  cases kd with
  | abs => exact b9 (h.get (np + 6) hp) rfl rfl (hl (rG h b fl hp o1 o2 o3 hx hy pk))
  | le =>
    obtain ⟨n, hR⟩ := List.getElem?_of_mem (hR (by intro z; cases z))
    exact b9 (h.get (np + 6) hp) rfl rfl (hl (qV h b hp hR o1 o2 o3 o4 o5 o6 hx hy pk))
  | ne =>
    obtain ⟨n, hR⟩ := List.getElem?_of_mem (hR (by intro z; cases z))
    exact b9 (h.get (np + 6) hp) rfl rfl (hl (sm h b hp hR o1 o2 o3 o4 o5 o6 hx hy pk))
noncomputable def bG (ds : List (List Int)) (x : Nat) (v : Int) : Prop := ∃ l, ds[x]? = some l ∧ v ∈ l
noncomputable def Fix (r : Rule) (P : Nat → Int → Prop) : Prop := (∀ v, P r.x v → ∃ w, P r.y w ∧ r.R v w = true) ∧ ∀ w, P r.y w → ∃ v, P r.x v ∧ r.R v w = true
noncomputable def jT (rules : List Rule) (P : Nat → Int → Prop) : Prop := ∀ r ∈ rules, Fix r P
noncomputable def Full (P : Nat → Int → Prop) : Prop := ∀ x, x < 4 → ∃ v, P x v
structure Rev (r : Rule) (ds es : List (List Int)) : Prop where
  hx : ∀ v, bG es r.x v ↔ bG ds r.x v ∧ ∃ w, bG ds r.y w ∧ r.R v w = true
  hy : ∀ w, bG es r.y w ↔ bG ds r.y w ∧ ∃ v, bG ds r.x v ∧ r.R v w = true
  ho : ∀ z, z ≠ r.x → z ≠ r.y → es[z]? = ds[z]?
theorem dc {ds : List (List Int)} {x : Nat} {l : List Int} (h : ds[x]? = some l) (v : Int) : bG ds x v ↔ v ∈ l :=
  ⟨fun ⟨_, e, q⟩ => by rw [h] at e; cases e; exact q, fun q => ⟨l, h, q⟩⟩
theorem rh {r : Rule} {ds : List (List Int)} (ne : r.x ≠ r.y) {lx ly : List Int} (hx : ds[r.x]? = some lx) (hy : ds[r.y]? = some ly) : Rev r ds (fT r.R r.x r.y lx ly ds) := by
  have ex : (fT r.R r.x r.y lx ly ds)[r.x]? = some (lx.filter fun v => ly.any fun w => r.R v w) := by
    unfold fT
    rw [List.getElem?_set_ne ne.symm, List.getElem?_set_self (List.getElem?_eq_some_iff.mp hx).1]
  have ey : (fT r.R r.x r.y lx ly ds)[r.y]? = some (ly.filter fun w => lx.any fun v => r.R v w) := by
    unfold fT
    rw [List.getElem?_set_self (by rw [List.length_set]; exact (List.getElem?_eq_some_iff.mp hy).1)]
  refine ⟨fun v => ?_, fun w => ?_, fun z h1 h2 => ?_⟩
  · rw [dc ex, dc hx, List.mem_filter, any_iff]
    exact and_congr_right fun _ => exists_congr fun w => and_congr_left fun _ => (dc hy w).symm
  · rw [dc ey, dc hy, List.mem_filter, any_iff]
    exact and_congr_right fun _ => exists_congr fun w => and_congr_left fun _ => (dc hx w).symm
  · unfold fT
    rw [List.getElem?_set_ne h2.symm, List.getElem?_set_ne h1.symm]
theorem Rev.sub {r : Rule} {ds es : List (List Int)} (rv : Rev r ds es) {z : Nat} {v : Int} (q : bG es z v) : bG ds z v := by
  by_cases h1 : z = r.x
  · subst h1; exact ((rv.hx v).mp q).1
  · by_cases h2 : z = r.y
    · subst h2; exact ((rv.hy v).mp q).1
    · obtain ⟨l, e, m⟩ := q
      exact ⟨l, (rv.ho z h1 h2) ▸ e, m⟩
theorem Rev.keep {r : Rule} {ds es : List (List Int)} (rv : Rev r ds es) {P : Nat → Int → Prop} (f : Fix r P) (h : ∀ x v, P x v → bG ds x v) {z : Nat} {v : Int} (q : P z v) : bG es z v := by
  by_cases h1 : z = r.x
  · subst h1
    obtain ⟨w, a, b⟩ := f.1 v q
    exact (rv.hx v).mpr ⟨h _ _ q, w, h _ _ a, b⟩
  · by_cases h2 : z = r.y
    · subst h2
      obtain ⟨w, a, b⟩ := f.2 v q
      exact (rv.hy v).mpr ⟨h _ _ q, w, h _ _ a, b⟩
    · obtain ⟨l, e, m⟩ := h _ _ q
      exact ⟨l, (rv.ho z h1 h2).trans e, m⟩
theorem Rev.fix {r : Rule} {ds es : List (List Int)} (rv : Rev r ds es) : Fix r (bG es) := by
  refine ⟨fun v q => ?_, fun w q => ?_⟩
  · obtain ⟨h1, w, h2, h3⟩ := (rv.hx v).mp q
    exact ⟨w, (rv.hy w).mpr ⟨h2, v, h1, h3⟩, h3⟩
  · obtain ⟨h1, v, h2, h3⟩ := (rv.hy w).mp q
    exact ⟨v, (rv.hx v).mpr ⟨h2, w, h1, h3⟩, h3⟩
theorem Fix.same {r : Rule} {ds es : List (List Int)} (h : Fix r (bG ds)) (hx : es[r.x]? = ds[r.x]?) (hy : es[r.y]? = ds[r.y]?) : Fix r (bG es) := by
  unfold Fix bG at *
  rw [hx, hy]; exact h
theorem Fix.none {r : Rule} {P : Nat → Int → Prop} (f : Fix r P) (x4 : r.x < 4) {ds : List (List Int)} (h : ∀ x v, P x v → bG ds x v) (no : ∀ v w, bG ds r.x v → bG ds r.y w → r.R v w = false) : ¬ Full P := fun u => by
  obtain ⟨v, hv⟩ := u r.x x4
  obtain ⟨w, h1, h2⟩ := f.1 v hv
  rw [no v w (h _ _ hv) (h _ _ h1)] at h2
  cases h2
theorem Bnd.full {s : StS} (b : Bnd s) : Full (bG s.dom) := fun x hx => by
  obtain ⟨l, h1, h2, h3⟩ := b.at hx
  obtain ⟨v, hv⟩ := List.exists_mem_of_ne_nil _ h3
  exact ⟨v, l, h1, hv⟩
theorem Gr.tr {sc : Nat → Prop} {sp : Int} {a c : StS} (g : Gr sc sp a c) : ∃ es, c.trail = a.trail ++ es ∧ (∀ e ∈ es, sc e.x ∧ e.sp = sp) ∧ iI c.dom es.reverse = a.dom ∧ (es = [] → c = a) ∧ es.length + Mine.sz c.dom ≤ Mine.sz a.dom := by
  induction g with
  | refl => exact ⟨[], (List.append_nil _).symm, fun _ h => (nomatch h), rfl, fun _ => rfl, Nat.le_of_eq (Nat.zero_add _)⟩
  | @step s1 x l l' q r _ h1 h2 h3 h4 h5 ih =>
    obtain ⟨es, t1, t2, t3, t4, t5⟩ := ih
    have e1 : l'.length < l.length := Nat.lt_of_le_of_ne h3.length_le fun e => h4 (h3.eq_of_length e)
    have e2 := qI s1.dom x l l' h2
    refine ⟨es ++ [⟨x, l, q, r, sp⟩], ?_, fun e he => ?_, ?_, fun z => absurd z (List.append_ne_nil_of_right_ne_nil _ (List.cons_ne_nil _ _)), ?_⟩
    · show s1.trail ++ _ = _
      rw [t1, List.append_assoc]
    · rcases List.mem_append.mp he with he | he
      · exact t2 e he
      · rw [List.mem_singleton.mp he]; exact ⟨h1, rfl⟩
    · rw [List.reverse_append]
      show iI ((s1.dom.set x l').set x l) es.reverse = _
      rw [set_set, eW h2]
      exact t3
    · rw [List.length_append, List.length_singleton]
      show es.length + 1 + Mine.sz (s1.dom.set x l') ≤ _
      lia
theorem Gr.sz {sc : Nat → Prop} {sp : Int} {a c : StS} (g : Gr sc sp a c) : c = a ∨ Mine.sz c.dom < Mine.sz a.dom := by
  obtain ⟨es, _, _, _, t4, t5⟩ := g.tr
  cases es with
  | nil => exact .inl (t4 rfl)
  | cons e es => exact .inr (Nat.lt_of_lt_of_le (by rw [List.length_cons]; lia) t5)
theorem Gr.sub {sc : Nat → Prop} {sp : Int} {a c : StS} (g : Gr sc sp a c) : ∀ x v, bG c.dom x v → bG a.dom x v := by
  induction g with
  | refl => exact fun _ _ q => q
  | @step s1 y l l' q r _ h1 h2 h3 h4 h5 ih =>
    rintro x v ⟨u, e, hv⟩
    refine ih x v ?_
    replace e : (s1.dom.set y l')[x]? = some u := e
    by_cases z : y = x
    · subst z
      rw [List.getElem?_set_self (List.getElem?_eq_some_iff.mp h2).1] at e
      cases e
      exact ⟨l, h2, h3.subset hv⟩
    · rw [List.getElem?_set_ne z] at e
      exact ⟨u, e, hv⟩
theorem Gr.news {sc : Nat → Prop} {sp : Int} {a c : StS} (g : Gr sc sp a c) : (∀ z : Nat, c.dom[z]? = a.dom[z]? ∨ (z : Int) ∈ c.news) ∧ ∀ k ∈ a.news, k ∈ c.news := by
  induction g with
  | refl => exact ⟨fun _ => .inl rfl, fun _ h => h⟩
  | @step s1 x l l' q r _ h1 h2 h3 h4 h5 ih =>
    refine ⟨fun z => ?_, fun k hk => (dr _ _ _).mpr (.inl (ih.2 k hk))⟩
    by_cases e : x = z
    · exact .inr ((dr _ _ _).mpr (.inr (by rw [e])))
    · refine (ih.1 z).imp (fun q => ?_) fun q => (dr _ _ _).mpr (.inl q)
      show (s1.dom.set x l')[z]? = _
      rw [List.getElem?_set_ne e, q]
structure Hist (rules : List Rule) (a c : StS) : Prop where
  fst : c.fst = a.fst
  marks : c.marks = a.marks
  tr : ∃ es, c.trail = a.trail ++ es ∧ (∀ e ∈ es, ∃ (i : Nat) (r : Rule), e.sp = i ∧ rules[i]? = some r ∧ (e.x = r.x ∨ e.x = r.y)) ∧ iI c.dom es.reverse = a.dom ∧ (es = [] → c.dom = a.dom) ∧ es.length + sz c.dom ≤ sz a.dom
theorem Hist.refl {rules : List Rule} {a c : StS} (h1 : c.fst = a.fst) (h2 : c.marks = a.marks) (h3 : c.trail = a.trail) (h4 : c.dom = a.dom) : Hist rules a c := ⟨h1, h2, [], by rw [h3, List.append_nil], fun _ h => (nomatch h), h4, fun _ => h4, by rw [h4, List.length_nil, Nat.zero_add]; exact Nat.le_refl _⟩
theorem Hist.trans {rules : List Rule} {a b c : StS} (x : Hist rules a b) (y : Hist rules b c) : Hist rules a c := by
  obtain ⟨es, t1, t2, t3, t4, t5⟩ := x.tr
  obtain ⟨fs, u1, u2, u3, u4, u5⟩ := y.tr
  refine ⟨y.fst.trans x.fst, y.marks.trans x.marks, es ++ fs, by rw [u1, t1, List.append_assoc], fun e he => (List.mem_append.mp he).elim (t2 e) (u2 e), by rw [List.reverse_append, fW, u3, t3], fun q => ?_, by rw [List.length_append]; lia⟩
  obtain ⟨q1, q2⟩ := List.append_eq_nil_iff.mp q
  rw [u4 q2, t4 q1]
theorem Gr.hist {rules : List Rule} {i : Nat} {r : Rule} (hr : rules[i]? = some r) {a c : StS} (g : Gr (fun z => z = r.x ∨ z = r.y) i a c) : Hist rules a c := by
  obtain ⟨es, t1, t2, t3, t4, t5⟩ := g.tr
  exact ⟨g.same.1, g.same.2.1, es, t1, fun e he => ⟨i, r, (t2 e he).2, hr, (t2 e he).1⟩, t3, fun q => by rw [t4 q], t5⟩
structure EA where
  E : Nat
  P : Nat
  U : Nat
  W : Nat
  N : Nat
  K : Nat
structure EnS where
  props : List Nat
  u : List (Int × Nat × List Int)
  w : List Int
  n : List Int
  bn : List Int
  fb : Int
noncomputable def kh (u : List (Int × Nat × List Int)) : List (Int × PV) := u.map fun p => (p.1, .obj p.2.1)
noncomputable def rF (u : List (Int × Nat × List Int)) : List (Nat × AObj) := u.map fun p => (p.2.1, .list (p.2.2.map .int))
noncomputable def dk (u : List (Int × Nat × List Int)) (x : Int) : List Int := match u with
  | [] => []
  | p :: r => if p.1 = x then p.2.2 else dk r x
noncomputable def qt (S : Nat) (E : EA) (e : EnS) : List (String × PV) := [("store", .obj S), ("propagators", .obj E.P), ("users", .obj E.U), ("waiting", .obj E.W), ("unasked", .obj E.N), ("book", .none), ("book_news", .obj E.K), ("is_book_due", .bool true), ("failed_by", .int e.fb)]
noncomputable def dh (E : EA) (e : EnS) (S : Nat) (X : List (Nat × AObj)) : List (Nat × AObj) := (E.E, .inst 80 (qt S E e)) :: (E.P, .list (e.props.map .obj)) :: (E.U, .idict (kh e.u)) :: (E.W, .idict (bX e.w)) :: (E.N, .idict (bX e.n)) :: (E.K, .idict (bX e.bn)) :: (rF e.u ++ X)
structure Rg (N : Nat) (l : List Int) : Prop where
  nd : l.Nodup
  r : ∀ k ∈ l, 0 ≤ k ∧ k < (N : Int)
theorem Rg.len {N : Nat} {l : List Int} (h : Rg N l) : l.length ≤ N := wG h.nd h.r
theorem Rg.nil (N : Nat) : Rg N [] := ⟨List.nodup_nil, fun _ h => (nomatch h)⟩
theorem Rg.put {N : Nat} {l : List Int} (h : Rg N l) {k : Int} (hk : 0 ≤ k ∧ k < (N : Int)) : Rg N (b6 l k) :=
  ⟨jF _ h.nd, fun z hz => ((dr _ _ _).mp hz).elim (h.r z) fun e => e ▸ hk⟩
structure EP (e : EnS) (rules : List Rule) (X : List (Nat × AObj)) : Prop where
  pl : e.props.length = rules.length
  ra : ∀ (i : Nat) (r : Rule), rules[i]? = some r → ∃ p Ro, e.props[i]? = some p ∧ (p, .inst r.D (r.F i Ro)) ∈ X ∧ (r.kd ≠ .abs → (Ro, .list ([(r.a, r.x), (r.b, r.y)].map dZ)) ∈ X)
  ok : ∀ r ∈ rules, r.Ok
  us : ∀ x n, n ∈ dk e.u x ↔ ∃ (i : Nat) (r : Rule), n = i ∧ rules[i]? = some r ∧ ((r.x : Int) = x ∨ (r.y : Int) = x)
  ul : e.u.length ≤ 2 * rules.length ∧ ∀ x, (dk e.u x).length ≤ rules.length
  rl : rules.length ≤ 10
  w : Rg rules.length e.w
  n : Rg rules.length e.n
  bn : Rg 4 e.bn
theorem EP.re {e e' : EnS} {rules : List Rule} {X : List (Nat × AObj)} (p : EP e rules X) (hp : e'.props = e.props) (hu : e'.u = e.u) (w : Rg rules.length e'.w) (n : Rg rules.length e'.n) (bn : Rg 4 e'.bn) : EP e' rules X :=
  ⟨hp ▸ p.pl, hp ▸ p.ra, p.ok, hu ▸ p.us, hu ▸ p.ul, p.rl, w, n, bn⟩
theorem EP.ur {e : EnS} {rules : List Rule} {X : List (Nat × AObj)} (p : EP e rules X) {x n : Int} (h : n ∈ dk e.u x) : 0 ≤ n ∧ n < (rules.length : Int) := by
  obtain ⟨i, r, rfl, hr, _⟩ := (p.us x n).mp h
  have := (List.getElem?_eq_some_iff.mp hr).1
  lia
theorem p7 {n : Nat} (h : n ≤ 10) : n ≤ 100000 := Nat.le_trans h (by decide)
section
variable {σ : AH} {A : SA} {s : StS} {E : EA} {e : EnS} {rules : List Rule} {X : List (Nat × AObj)} {K : KP} {Ks : KZ}
theorem BB {i : Nat} {es : List (Int × PV)} {j : Int} {d : PV} (h : σ.get i = some (.idict es)) (k : K ((dq es j).getD d) σ) : Km vD i K [.int j, d] σ := go (by unfold vD; dsimp only [w3]; rw [fq h]; rfl) k
theorem u0 (u : List (Int × Nat × List Int)) (x : Int) : (dq (kh u) x = none ∧ dk u x = []) ∨ ∃ (i : Nat) (k : Nat) , dq (kh u) x = some (.obj i) ∧ (rF u)[k]? = some (i, .list ((dk u x).map .int)) := by
  induction u with
  | nil => exact .inl ⟨rfl, rfl⟩
  | cons p r ih =>
    have hf : kh (p :: r) = (p.1, .obj p.2.1) :: kh r := rfl
    unfold dq dk
    rw [hf, List.find?_cons]
    by_cases q : p.1 = x
    · rw [if_pos q, decide_eq_true q]
      exact .inr ⟨p.2.1, 0, rfl, rfl⟩
    · rw [if_neg q, decide_eq_false q]
      exact ih.imp id fun ⟨i, k, h1, h2⟩ => ⟨i, k + 1, h1, h2⟩
theorem uJ (h : At σ (bm A s (dh E e A.S X))) (b : Bnd s) (p : EP e rules X) {sp : Int} (hsp : sp ≠ -2)
    (k : ∀ σ' A' w' bn', A'.S = A.S → At σ' (bm A' { s with news := [] } (dh E { e with w := w', bn := bn' } A'.S X)) → Rg rules.length w' → Rg 4 bn' → (∀ n, n ∈ w' ↔ n ∈ e.w ∨ (n ≠ sp ∧ ∃ x ∈ s.news, n ∈ dk e.u x)) → K .none σ') : Ok (fB [.obj E.E, .int sp] σ) K := by
  refine kf rfl (kB ?_)
  and_intros
  exists gp (h.get 6 rfl) rfl rfl, b9 (h.get 0 rfl) rfl rfl
  refine ug h b fun τ vi A' hA h => ?_
  refine wq (h.get 0 rfl) ?_
  refine gD (fun j m τ => m "self" = some (.obj E.E) ∧ m "speaker" = some (.int sp) ∧ ∃ w' bn', At τ ((vi, .list ((gY s.news).map .int)) :: bm A' { s with news := [] } (dh E { e with w := w', bn := bn' } A.S X)) ∧ Rg rules.length w' ∧ Rg 4 bn' ∧ ∀ n, n ∈ w' ↔ n ∈ e.w ∨ (n ≠ sp ∧ ∃ x ∈ (gY s.news).take j, n ∈ dk e.u x))
    (fun j m τ zz => by obtain ⟨_, _, _, _, h, _⟩ := zz; exact mq (h.get 0 rfl)) ⟨rfl, rfl, e.w, e.bn, h, p.w, p.bn, fun n => ⟨.inl, fun q => q.elim id fun ⟨_, _, h, _⟩ => (nomatch h)⟩⟩ (fun j v ej m τ zz => ?_) fun m τ zz => ?_
  · obtain ⟨m1, m2, w', bn', h, hw, hb, hn⟩ := zz
    rw [List.getElem?_map] at ej
    obtain ⟨x, hx, rfl⟩ := Option.map_eq_some_iff.mp ej
    have x4 := b.nr x ((fX _).mem_iff.mp (List.mem_of_getElem? hx))
    and_intros
    refine C1 (by lia) ?_
    and_intros
    exists gp (h.get 7 rfl) rfl rfl
    refine ya h 12 rfl (by rw [cI]; exact p7 (Nat.le_trans hb.len (by decide))) (f6 _ _) fun τ h => ?_
    and_intros
    refine bS h 7 rfl ⟨rfl, Nat.le_of_ble_eq_true rfl⟩ fun τ h => ?_
    and_intros
    exists gp (h.get 7 rfl) rfl rfl, yK (h.get 9 rfl)
    refine BB (h.get 9 rfl) ?_
    have hb' := hb.put x4
    have fin : ∀ (m : Loc) (τ : AH) (w2 : List Int), m "self" = some (.obj E.E) → m "speaker" = some (.int sp) → At τ ((vi, .list ((gY s.news).map .int)) :: bm A' { s with news := [] } (dh E { e with w := w2, bn := b6 bn' x } A.S X)) → Rg rules.length w2 → (∀ n, n ∈ w2 ↔ n ∈ w' ∨ (n ≠ sp ∧ n ∈ dk e.u x)) →
        m "self" = some (.obj E.E) ∧ m "speaker" = some (.int sp) ∧ ∃ w' bn', At τ ((vi, .list ((gY s.news).map .int)) :: bm A' { s with news := [] } (dh E { e with w := w', bn := bn' } A.S X)) ∧ Rg rules.length w' ∧ Rg 4 bn' ∧ ∀ n, n ∈ w' ↔ n ∈ e.w ∨ (n ≠ sp ∧ ∃ x ∈ (gY s.news).take (j + 1), n ∈ dk e.u x) := fun m τ w2 m1 m2 h hw hn2 => by
      refine ⟨m1, m2, w2, _, h, hw, hb', fun n => ?_⟩
      rw [hn2, hn, List.take_succ, hx, or_assoc]
      refine or_congr_right ?_
      rw [← and_or_left]
      refine and_congr_right fun _ => ?_
      simp only [List.mem_append, Option.toList_some, List.mem_singleton, or_and_right, exists_or, exists_eq_left]
    rcases u0 e.u x with ⟨e1, e2⟩ | ⟨i, z, e1, e2⟩
    · rw [show dq (kh e.u) x = none from e1]
      refine Ch (gD (l := []) (fun j m τ' => m "self" = some (.obj E.E) ∧ m "speaker" = some (.int sp) ∧ τ' = τ) (fun _ _ _ _ => qr _ _) ⟨m1, m2, rfl⟩ (fun j v ej => (nomatch ej)) fun m τ' ⟨m1, m2, et⟩ => ?_)
      subst et
      and_intros
      exact fin _ _ w' m1 m2 h hw fun n => ⟨.inl, fun q => q.elim id fun ⟨_, q⟩ => by rw [e2] at q; cases q⟩
    · rw [show dq (kh e.u) x = some (.obj i) from e1]
      have gi : ∀ {τ : AH} {w2 : List Int}, At τ ((vi, .list ((gY s.news).map .int)) :: bm A' { s with news := [] } (dh E { e with w := w2, bn := b6 bn' x } A.S X)) → τ.get i = some (.list ((dk e.u x).map .int)) := fun h => h.get (z + 13) (by
        show (rF e.u ++ X)[z]? = _
        rw [List.getElem?_append_left (List.getElem?_eq_some_iff.mp e2).1]; exact e2)
      refine wq (gi h) ?_
      refine gD (fun j m τ => m "self" = some (.obj E.E) ∧ m "speaker" = some (.int sp) ∧ ∃ w2, At τ ((vi, .list ((gY s.news).map .int)) :: bm A' { s with news := [] } (dh E { e with w := w2, bn := b6 bn' x } A.S X)) ∧ Rg rules.length w2 ∧ ∀ n, n ∈ w2 ↔ n ∈ w' ∨ (n ≠ sp ∧ n ∈ (dk e.u x).take j)) (fun j m τ zz => by obtain ⟨_, _, _, h, _⟩ := zz; exact mq (gi h)) ⟨m1, m2, w', h, hw, fun n => ⟨.inl, fun q => q.elim id fun ⟨_, h⟩ => (nomatch h)⟩⟩ (fun j v ej m τ zz => ?_) fun m τ zz => ?_
      · obtain ⟨m1, m2, w2, h, hw2, hn2⟩ := zz
        rw [List.getElem?_map] at ej
        obtain ⟨n0, hn0, rfl⟩ := Option.map_eq_some_iff.mp ej
        have tk : ∀ n, n ∈ (dk e.u x).take (j + 1) ↔ n ∈ (dk e.u x).take j ∨ n = n0 := fun n => by rw [List.take_succ, hn0, List.mem_append]; simp
        and_intros
        refine zv (fun c => ?_) fun c => ?_
        · and_intros
          refine ⟨m1, m2, w2, h, hw2, fun n => ?_⟩
          rw [hn2, tk]
          exact or_congr_right ⟨fun q => ⟨q.1, .inl q.2⟩, fun q => ⟨q.1, q.2.elim id fun z => absurd (z.trans c) q.1⟩⟩
        · and_intros
          exists gp (h.get 7 rfl) rfl rfl
          refine ya h 10 rfl (by rw [cI]; exact p7 (Nat.le_trans hw2.len p.rl)) (f6 _ _) fun τ h => ?_
          and_intros
          refine ⟨m1, m2, b6 w2 n0, h, hw2.put (p.ur (List.mem_of_getElem? hn0)), fun n => ?_⟩
          rw [dr, hn2, tk, or_assoc]
          refine or_congr_right ⟨fun q => q.elim (fun q => ⟨q.1, .inl q.2⟩) fun q => ⟨fun z => c (q.symm.trans z), .inr q⟩, fun q => q.2.elim (fun z => .inl ⟨q.1, z⟩) .inr⟩
      · obtain ⟨m1, m2, w2, h, hw2, hn2⟩ := zz
        rw [List.length_map, List.take_length] at hn2
        and_intros
        exact fin _ _ w2 m1 m2 h hw2 hn2
  · obtain ⟨m1, m2, w', bn', h, hw, hb, hn⟩ := zz
    rw [List.length_map, List.take_length] at hn
    and_intros
    refine k τ A' w' bn' hA (by rw [hA]; exact h.tl) hw hb fun n => (hn n).trans (or_congr_right (and_congr_right fun _ => exists_congr fun x => and_congr_left fun _ => (fX _).mem_iff))
end
@[reducible] noncomputable def Kj3 (m : Loc) (P : AH → Prop) (p : Res × Loc) (σ : AH) : Prop := p = (.next, m) ∧ P σ
@[reducible] noncomputable def Kj4 (f : SF) (m : Loc) (P : AH → Prop) (c : Bool) (σ : AH) : Prop := match c with | true => Ok (f m σ) (Kj3 m P) | false => P σ
theorem Cs {t : TF} {m : Loc} {σ : AH} {f : SF} {K : KZ} (P : AH → Prop) (hk : ∀ τ, P τ → K (.next, m) τ) (k : Ok (t m σ) (Kj4 f m P)) : Ok (df t f aB m σ) K :=
  kif (k.mono fun c τ q => match c, q with
    | true, q => q.mono fun p τ ⟨e, q⟩ => e ▸ hk τ q
    | false, q => k0 (hk τ q))
theorem jL (l : List Int) (k : Int) : dq (bX l) k = if k ∈ l then some (.bool true) else none := by
  induction l with
  | nil => rfl
  | cons a l ih =>
    show (List.find? _ ((a, PV.bool true) :: bX l)).map _ = _
    rw [List.find?_cons]
    by_cases c : a = k
    · rw [decide_eq_true c, if_pos (c ▸ .head _)]; rfl
    · rw [decide_eq_false c]
      refine ih.trans ?_
      by_cases h : k ∈ l
      · rw [if_pos h, if_pos (.tail _ h)]
      · rw [if_neg h, if_neg fun q => (List.mem_cons.mp q).elim (fun e => c e.symm) h]
noncomputable def je (l : List Int) (k : Int) : List Int := l.filter fun n => decide (n ≠ k)
theorem pN (l : List Int) (k : Int) : qO (bX l) k = bX (je l k) := by
  unfold qO bX je
  rw [List.filter_map]
  rfl
theorem mem_offK {l : List Int} {k n : Int} : n ∈ je l k ↔ n ∈ l ∧ n ≠ k := by
  unfold je
  rw [List.mem_filter, decide_eq_true_iff]
theorem Rg.off {N : Nat} {l : List Int} (h : Rg N l) (k : Int) : Rg N (je l k) := ⟨h.nd.filter _, fun z hz => h.r z (mem_offK.mp hz).1⟩
section
variable {σ : AH} {m : Loc} {K : KP} {Ks : KZ} {i : Nat} {j : Int} {L : List (Nat × AObj)} {l : List Int}
theorem Bw (h : At σ L) (n : Nat) (e : L[n]? = some (i, .idict (bX l))) (hl : l.length ≤ 100000) (hj : j ∈ l) (k : ∀ τ, At τ (L.set n (i, .idict (bX (je l j)))) → Ks (.next, m) τ) : Kdel2 (.obj i) m Ks (.int j) σ := by
  refine ⟨_, ?_, k _ (h.set n e _)⟩
  unfold yb
  rw [fq (h.get n e)]
  dsimp only [cr]
  rw [eG ⟨by rw [cI]; exact hl, by rw [jL, if_pos hj]; rfl⟩, pN]
theorem AP (h : At σ L) (n : Nat) (e : L[n]? = some (i, .idict (bX l))) (hl : l.length ≤ 100000) {d : PV} (k : ∀ v τ, At τ (L.set n (i, .idict (bX (je l j)))) → K v τ) : Km nX i K [.int j, d] σ := by
  have q : ∀ v τ, nX [.obj i, .int j, d] σ = some (v, τ) → At τ (L.set n (i, .idict (bX (je l j)))) → Km nX i K [.int j, d] σ := fun v τ e h => go e (k v τ h)
  by_cases z : j ∈ l
  · refine q (.bool true) _ ?_ (h.set n e _)
    unfold nX
    dsimp only [w3]
    rw [fq (h.get n e)]
    dsimp only [cr]
    rw [eG (by rw [cI]; exact hl), jL, if_pos z, pN]
  · refine q d σ ?_ ?_
    · unfold nX
      dsimp only [w3]
      rw [fq (h.get n e)]
      dsimp only [cr]
      rw [eG (by rw [cI]; exact hl), jL, if_neg z]
    · rw [show je l j = l from List.filter_eq_self.mpr fun n hn => decide_eq_true fun e => z (e ▸ hn), eW e]
      exact h
theorem ss : ∀ {l : List Int}, l ≠ [] → ∃ b, gX l = some b
  | [], n => absurd rfl n
  | a :: r, _ => by
    unfold gX
    cases gX r <;> exact ⟨_, rfl⟩
theorem BH (h : σ.get i = some (.idict (bX l))) (n : l ≠ []) (k : ∀ b, b ∈ l → K (.int b) σ) : K1 t6 K [.obj i] σ := by
  obtain ⟨b, e⟩ := ss n
  have hb := (iE e).1
  refine go ?_ (k b hb)
  unfold t6
  dsimp only
  rw [fq h, mT, e]
  rfl
end
theorem PK.of {K : KP} {A : SA} {s : StS} {R : List (Nat × AObj)} {r : Int → Int → Bool} {x y : Nat} {lx ly : List Int} (fl : s.fl = false)
    (h : ∀ bb s' cl τ, Gr (fun z => z = x ∨ z = y) s.sp s s' → At τ (bm A { s' with fl := !bb, cl := cl } R) → (bb = true → s'.dom = fT r x y lx ly s.dom) → (bb = false → ∀ v ∈ lx, ∀ w ∈ ly, r v w = false) → K (.bool bb) τ) : PK K A s R r x y lx ly :=
  ⟨fun σ' s' cl g at_ q => h false s' cl σ' g at_ (fun z => (nomatch z)) fun _ => q, fun σ' s' g at_ q _ => h true s' s'.cl σ' g (by
    have e : s'.fl = false := g.same.2.2.2.trans fl
    have : ({ s' with fl := !true, cl := s'.cl } : StS) = s' := by cases s'; cases e; rfl
    rw [this]; exact at_) (fun _ => q) fun z => (nomatch z)⟩
structure Turn (s s' : StS) (e e' : EnS) (rules : List Rule) (i : Nat) (r : Rule) (bb : Bool) : Prop where
  bnd : Bnd s'
  news : s'.news = []
  hr : rules[i]? = some r
  kw : (i : Int) ∈ e.w
  hist : Hist rules s s'
  sub : ∀ x v, bG s'.dom x v → bG s.dom x v
  pr : e'.props = e.props
  us : e'.u = e.u
  fb : e'.fb = e.fb
  g : ∃ nw : List Int, (∀ n, n ∈ e'.w ↔ (n ∈ e.w ∧ n ≠ i) ∨ (n ≠ i ∧ ∃ x ∈ nw, n ∈ dk e.u x)) ∧ (∀ z : Nat, s'.dom[z]? = s.dom[z]? ∨ (z : Int) ∈ nw) ∧ ((s'.dom = s.dom ∧ nw = []) ∨ sz s'.dom < sz s.dom)
  n : ∀ n, n ∈ e'.n ↔ n ∈ e.n ∧ (s.marks = [] → n ≠ i)
  yes : bb = true → s'.fl = false ∧ Rev r s.dom s'.dom
  no : bb = false → s'.fl = true ∧ ∀ v w, bG s.dom r.x v → bG s.dom r.y w → r.R v w = false
section
variable {σ : AH} {A : SA} {s : StS} {E : EA} {e : EnS} {rules : List Rule} {X : List (Nat × AObj)} {K : KP} {Ks : KZ}
theorem Bnd.sp {s : StS} (b : Bnd s) (k : Int) : Bnd { s with sp := k } := ⟨b.dl, b.d, b.fl, b.f, b.t, b.m, b.n, b.nr⟩
theorem Bnd.nonews {s : StS} (b : Bnd s) : Bnd { s with news := [] } := ⟨b.dl, b.d, b.fl, b.f, b.t, b.m, List.nodup_nil, fun _ h => (nomatch h)⟩
theorem wC {q : Nat × AObj} {S : Nat} (h : q ∈ X) : q ∈ dh E e S X := .tail _ (.tail _ (.tail _ (.tail _ (.tail _ (.tail _ (List.mem_append_right _ h))))))
theorem AZ (h : At σ (bm A s (dh E e A.S X))) (b : Bnd s) (p : EP e rules X) (fl : s.fl = false) (hn : s.news = []) (hw : e.w ≠ [])
    (k : ∀ bb i r σ' A' s' e', A'.S = A.S → At σ' (bm A' s' (dh E e' A'.S X)) → EP e' rules X → Turn s s' e e' rules i r bb → K (.bool bb) σ') : Ok (eX [.obj E.E] σ) K := by
  refine kf rfl (kB (nN (fun τ => τ = σ) ?_ ?_))
  · rintro τ rfl
    and_intros
    exists gp (h.get 6 rfl) rfl rfl
    refine BH (h.get 9 rfl) hw fun b0 hb0 => ?_
    have r0 := p.w.r b0 hb0
    obtain ⟨i, rfl⟩ : ∃ i : Nat, b0 = i := ⟨b0.toNat, by lia⟩
    obtain ⟨r, hr⟩ : ∃ r, rules[i]? = some r := ⟨_, List.getElem?_eq_getElem (by lia)⟩
    obtain ⟨po, Ro, hp, hpX, hRX⟩ := p.ra i r hr
    have ok := p.ok r (List.mem_of_getElem? hr)
    have wl : e.w.length ≤ 100000 := p7 (Nat.le_trans p.w.len p.rl)
    have nl : e.n.length ≤ 100000 := p7 (Nat.le_trans p.n.len p.rl)
    and_intros
    exists gp (h.get 6 rfl) rfl rfl
    refine Bw h 9 rfl wl hb0 fun τ h => ?_
    refine kB (Cs (fun τ => ∃ n', At τ (bm A s (dh E { e with w := je e.w i, n := n' } A.S X)) ∧ Rg rules.length n' ∧ ∀ n, n ∈ n' ↔ n ∈ e.n ∧ (s.marks = [] → n ≠ (i : Int))) (fun τ ⟨n', h, rn, hn'⟩ => ?_) ?_)
    · have p1 : EP { e with w := je e.w i, n := n' } rules X := p.re rfl rfl (p.w.off i) rn p.bn
      obtain ⟨lx, hx, _⟩ := b.at ok.x
      obtain ⟨ly, hy, _⟩ := b.at ok.y
      and_intros
      exists gp (h.get 6 rfl) rfl rfl
      refine bS h 0 rfl ⟨rfl, Nat.le_of_ble_eq_true rfl⟩ fun τ h => ?_
      have h : At τ (bm A { s with sp := i } (dh E { e with w := je e.w i, n := n' } A.S X)) := h
      and_intros
      exists gp (h.get 6 rfl) rfl rfl, uv (h.get 7 rfl) (gI hp) (Nat.le_trans (Nat.le_of_lt (List.getElem?_eq_some_iff.mp hr).1) (Nat.le_trans p.rl (by decide))) rfl
      refine yV h (b.sp i) fl ok (wC hpX) (fun z => wC (hRX z)) (fun q => ?_) hx hy (PK.of fl fun bb s2 cl τ g h yes no => ?_)
      · and_intros
        exists gp (h.get 6 rfl) rfl rfl
        exact q
      · have b2 := g.bnd (b.sp i)
        have sp : s2.sp = i := g.sp_eq
        and_intros
        exists b9 (h.get 6 rfl) rfl rfl, gp (h.get 6 rfl) rfl rfl
        refine uJ h (b2.fail (!bb) cl) p1 (by show s2.sp ≠ -2; lia) fun τ A' w' bn' hA h rw_ rb hw' => ?_
        and_intros
        refine k bb i r τ A' { s2 with news := [], fl := !bb, cl := cl } { e with w := w', n := n', bn := bn' } hA h (p1.re rfl rfl rw_ rn rb) ⟨(b2.fail (!bb) cl).nonews, rfl, hr, hb0, ?_, g.sub, rfl, rfl, rfl, ⟨s2.news, fun n => ?_, g.news.1, ?_⟩, hn', fun e => ?_, fun e => ?_⟩
        · obtain ⟨es, t1, t2, t3, t4⟩ := (g.hist hr).tr
          exact ⟨g.same.1, g.same.2.1, es, t1, t2, t3, t4⟩
        · rw [hw']
          show n ∈ je e.w i ∨ (n ≠ s2.sp ∧ _) ↔ _
          rw [mem_offK, sp]
        · refine g.sz.imp (fun e => ?_) id
          subst e
          exact ⟨rfl, hn⟩
        · subst e
          refine ⟨rfl, ?_⟩
          show Rev r s.dom s2.dom
          rw [yes rfl]
          exact rh ok.ne hx hy
        · subst e
          exact ⟨rfl, fun v w hv hw => no rfl v ((dc hx v).mp hv) w ((dc hy w).mp hw)⟩
    · and_intros
      exists gp (h.get 6 rfl) rfl rfl, b9 (h.get 0 rfl) rfl rfl
      refine sn h b.sb ?_
      and_intros
      refine iZ (fun c => ?_) fun c => ?_
      · and_intros
        exists gp (h.get 6 rfl) rfl rfl, yK (h.get 10 rfl)
        refine AP h 10 rfl nl fun v τ h => ?_
        and_intros
        have m0 : s.marks = [] := List.length_eq_zero_iff.mp (by lia)
        exact ⟨rfl, je e.n i, h, p.n.off i, fun n => mem_offK.trans (and_congr_right fun _ => ⟨fun q _ => q, fun q => q m0⟩)⟩
      · exact ⟨e.n, h, p.n, fun n => ⟨fun q => ⟨q, fun z => absurd (by rw [z]; rfl) c⟩, fun q => q.1⟩⟩
  · and_intros
    exists gp (h.get 6 rfl) rfl rfl, gp (h.get 6 rfl) rfl rfl
    rfl
end
structure LI (rules : List Rule) (s0 : StS) (e0 : EnS) (bb : Bool) (s : StS) (e : EnS) : Prop where
  bnd : Bnd s
  news : s.news = []
  hist : Hist rules s0 s
  sub : ∀ x v, bG s.dom x v → bG s0.dom x v
  us : e.u = e0.u
  pr : e.props = e0.props
  nsub : ∀ n ∈ e.n, n ∈ e0.n
  nall : s0.marks ≠ [] → ∀ n ∈ e0.n, n ∈ e.n
  big : bb = true → s0.fl = false ∧ s.fl = false ∧ (∀ P, jT rules P → (∀ x v, P x v → bG s0.dom x v) → ∀ x v, P x v → bG s.dom x v) ∧ (∀ (i : Nat) (r : Rule), rules[i]? = some r → (i : Int) ∈ e.w ∨ Fix r (bG s.dom)) ∧ (s0.marks = [] → ∀ n ∈ e.n, n ∈ e.w)
  bad : bb = false → s.fl = true ∧ (s0.fl = true ∨ ∀ P, jT rules P → (∀ x v, P x v → bG s0.dom x v) → ¬ Full P)
theorem LI.turn {rules : List Rule} {s0 s s' : StS} {e0 e e' : EnS} {bb : Bool} {i : Nat} {r : Rule} {X : List (Nat × AObj)} (l : LI rules s0 e0 true s e) (p : EP e rules X) (p' : EP e' rules X) (t : Turn s s' e e' rules i r bb) : LI rules s0 e0 bb s' e' ∧ sz s'.dom * 11 + e'.w.length < sz s.dom * 11 + e.w.length := by
  obtain ⟨b0, b1, b2, b3, b4⟩ := l.big rfl
  obtain ⟨nw, g1, g2, g3⟩ := t.g
  have hm := List.mem_of_getElem? t.hr
  have ok := p.ok r hm
  refine ⟨⟨t.bnd, t.news, l.hist.trans t.hist, fun x v q => l.sub x v (t.sub x v q), t.us.trans l.us, t.pr.trans l.pr, fun n q => l.nsub n ((t.n n).mp q).1, fun z n q => (t.n n).mpr ⟨l.nall z n q, fun y => absurd (l.hist.marks.symm.trans y) z⟩, fun e => ⟨b0, (t.yes e).1, fun P c h x v q => (t.yes e).2.keep (c r hm) (b2 P c h) q, fun j rj hj => ?_, fun z n q => ?_⟩, fun e => ⟨(t.no e).1, .inr fun P c h => (c r hm).none ok.x (b2 P c h) (t.no e).2⟩⟩, ?_⟩
  · by_cases ji : j = i
    · subst ji
      cases hj.symm.trans t.hr
      exact .inr (t.yes e).2.fix
    · have ne : (j : Int) ≠ i := fun z => ji (Int.ofNat_inj.mp z)
      rcases b3 j rj hj with q | q
      · exact .inl ((g1 j).mpr (.inl ⟨q, ne⟩))
      · rcases g2 rj.x with q1 | q1
        · rcases g2 rj.y with q2 | q2
          · exact .inr (q.same q1 q2)
          · exact .inl ((g1 j).mpr (.inr ⟨ne, _, q2, (p.us _ _).mpr ⟨j, rj, rfl, hj, .inr rfl⟩⟩))
        · exact .inl ((g1 j).mpr (.inr ⟨ne, _, q1, (p.us _ _).mpr ⟨j, rj, rfl, hj, .inl rfl⟩⟩))
  · obtain ⟨h1, h2⟩ := (t.n n).mp q
    exact (g1 n).mpr (.inl ⟨b4 z n h1, h2 (l.hist.marks.trans z)⟩)
  · have w' := p'.w.len
    have rl := p.rl
    rcases g3 with ⟨h1, h2⟩ | h1
    · rw [h1]
      have : e'.w.length < e.w.length := by
        have h3 : e'.w.length ≤ (je e.w i).length := p'.w.nd.length_le_of_subset fun n hn => ((g1 n).mp hn).elim (fun q => mem_offK.mpr q) fun ⟨_, _, q, _⟩ => by rw [h2] at q; cases q
        have h4 : (je e.w i).length < e.w.length := List.length_filter_lt_length_iff_exists.mpr ⟨i, t.kw, by simp⟩
        lia
      lia
    · lia
structure PR (rules : List Rule) (s s' : StS) (e e' : EnS) (bb : Bool) : Prop where
  bnd : Bnd s'
  news : s'.news = []
  hist : Hist rules s s'
  sub : ∀ x v, bG s'.dom x v → bG s.dom x v
  us : e'.u = e.u
  pr : e'.props = e.props
  nsub : ∀ n ∈ e'.n, n ∈ e.n
  nall : s.marks ≠ [] → ∀ n ∈ e.n, n ∈ e'.n
  yes : bb = true → s.fl = false ∧ s'.fl = false ∧ (∀ P, jT rules P → (∀ x v, P x v → bG s.dom x v) → ∀ x v, P x v → bG s'.dom x v) ∧ (∀ r ∈ rules, Fix r (bG s'.dom)) ∧ (s.marks = [] → e'.n = [])
  no : bb = false → s'.fl = true ∧ (s.fl = true ∨ ∀ P, jT rules P → (∀ x v, P x v → bG s.dom x v) → ¬ Full P)
theorem LI.toPR {rules : List Rule} {s0 s : StS} {e0 e e' : EnS} {bb : Bool} (l : LI rules s0 e0 bb s e) (hw : bb = true → e.w = []) (hu : e'.u = e.u) (hp : e'.props = e.props) (hn : e'.n = e.n) (k : Int) : PR rules s0 { s with sp := k } e0 e' bb :=
  ⟨l.bnd.sp k, l.news, ⟨l.hist.fst, l.hist.marks, l.hist.tr⟩, l.sub, hu.trans l.us, hp.trans l.pr, fun n q => l.nsub n (hn ▸ q), fun z n q => hn ▸ l.nall z n q, fun z => (by
    obtain ⟨b0, b1, b2, b3, b4⟩ := l.big z
    have w := hw z
    refine ⟨b0, b1, b2, fun r hr => ?_, fun m => ?_⟩
    · obtain ⟨i, hi⟩ := List.getElem?_of_mem hr
      exact (b3 i r hi).elim (fun q => by rw [w] at q; cases q) id
    · rw [hn]
      exact List.eq_nil_iff_forall_not_mem.mpr fun n q => by have := b4 m n q; rw [w] at this; cases this), l.bad⟩
@[reducible] noncomputable def Kaf (P : Loc → AH → Prop) (p : Res × Loc) (σ : AH) : Prop := match p with | (.next, m) => P m σ | (.cont, _) => False | (.brk, _) => False | (.ret _, _) => False
theorem Ay {r : Option ((Res × Loc) × AH)} {K : KZ} (P : Loc → AH → Prop) (h1 : Ok r (Kaf P)) (h2 : ∀ m τ, P m τ → K (.next, m) τ) : Ok r K := h1.mono fun p τ q => match p, q with | (.next, m), q => h2 m τ q
theorem At.ne {σ : AH} {L : List (Nat × AObj)} (h : At σ L) {n m i j : Nat} {o o' : AObj} (e1 : L[n]? = some (i, o)) (e2 : L[m]? = some (j, o')) (ne : n ≠ m) : i ≠ j := fun z => by
  have a1 : (L.map (·.1))[n]? = some i := by rw [List.getElem?_map, e1]; rfl
  have a2 : (L.map (·.1))[m]? = some i := by rw [List.getElem?_map, e2, z]; rfl
  exact ne ((List.getElem?_inj (List.getElem?_eq_some_iff.mp a1).1 h.nd).mp (a1.trans a2.symm))
theorem tD (l2 : List Int) : ∀ l : List Int, lJ (bX l) (bX l2) = bX (l2.foldl b6 l) := by
  unfold lJ
  induction l2 with
  | nil => exact fun _ => rfl
  | cons a l2 ih =>
    intro l
    show List.foldl _ (jd (bX l) a (.bool true)) (bX l2) = _
    rw [f6]; exact ih _
theorem jz (l2 : List Int) : ∀ (l : List Int) (k : Int), k ∈ l2.foldl b6 l ↔ k ∈ l ∨ k ∈ l2 := by
  induction l2 with
  | nil => exact fun l k => ⟨.inl, fun q => q.elim id fun h => (nomatch h)⟩
  | cons a l2 ih => exact fun l k => by rw [List.foldl_cons, ih, dr, List.mem_cons, or_assoc]
theorem Rg.merge {N : Nat} {l2 : List Int} (h2 : Rg N l2) : ∀ {l : List Int}, Rg N l → Rg N (l2.foldl b6 l) := by
  suffices z : ∀ (l2 l : List Int), (∀ k ∈ l2, 0 ≤ k ∧ k < (N : Int)) → Rg N l → Rg N (l2.foldl b6 l) from fun {l} h => z l2 l h2.r h
  intro l2
  induction l2 with
  | nil => exact fun _ _ h => h
  | cons a l2 ih => exact fun l hr h => ih _ (fun k hk => hr k (.tail _ hk)) (h.put (hr a (.head _)))
section
variable {σ : AH} {A : SA} {s : StS} {E : EA} {e : EnS} {rules : List Rule} {X : List (Nat × AObj)} {K : KP} {Ks : KZ}
theorem BL {b : Bool} (k : K (.bool (!b)) σ) : Kb (Kn (Kv K)) (.bool b) σ := by cases b <;> exact k
theorem B1 {i j n m : Nat} {l l2 : List Int} {L : List (Nat × AObj)} (h : At σ L) (e1 : L[n]? = some (i, .idict (bX l))) (e2 : L[m]? = some (j, .idict (bX l2))) (ne : n ≠ m) (hl : l.length + l2.length ≤ 100000) (k : ∀ τ, At τ (L.set n (i, .idict (bX (l2.foldl b6 l)))) → K .none τ) : Km mG i K [.obj j] σ := by
  refine go ?_ (k _ (h.set n e1 _))
  unfold mG
  dsimp only [w2]
  rw [fq (h.get n e1), fq (h.get m e2), eG ⟨h.ne e1 e2 ne, by rw [cI, cI]; exact hl⟩, tD]
theorem Bs {i : Nat} {es : List (Int × PV)} (h : σ.get i = some (.idict es)) (hl : es.length ≤ 100000) (k : K (.int es.length) σ) : K1 cO K [.obj i] σ := go (by unfold cO; dsimp only [w1]; rw [h]; exact if_pos hl) k
theorem AL {i n : Nat} {es : List (Int × PV)} {L : List (Nat × AObj)} (h : At σ L) (e : L[n]? = some (i, .idict es)) (hl : es.length ≤ 100000) (k : ∀ j τ, At τ ((j, .idict es) :: L) → K (.obj j) τ) : K1 uF K [.obj i] σ := go (by unfold uF; dsimp only [w1]; rw [fq (h.get n e)]; exact if_pos hl) (k _ _ (h.new _))
theorem rJ (h : At σ (bm A s (dh E e A.S X))) (p : EP e rules X) (yes : e.w ≠ [] → K (.bool true) σ) (no : e.w = [] → K (.bool false) σ) : Ok (eV [.obj E.E] σ) K := by
  refine kf rfl (kB ?_)
  and_intros
  exists gp (h.get 6 rfl) rfl rfl, Bs (h.get 9 rfl) (by rw [cI]; exact p7 (Nat.le_trans p.w.len p.rl))
  rw [cI]
  refine iZ (fun c => ?_) fun c => ?_
  · and_intros
    exact yes fun z => by rw [z] at c; exact absurd c (by decide)
  · and_intros
    exists gp (h.get 6 rfl) rfl rfl, gp (h.get 6 rfl) rfl rfl
    exact no (List.length_eq_zero_iff.mp (by lia))
theorem kt (h : At σ (bm A s (dh E e A.S X))) (b : Bnd s) (p : EP e rules X) (hf : ∀ (i : Nat) (r : Rule), rules[i]? = some r → (i : Int) ∈ e.n ∨ Fix r (bG s.dom) ∨ (r.x : Int) ∈ s.news ∨ (r.y : Int) ∈ s.news)
    (k : ∀ bb σ' A' s' E' e', A'.S = A.S → E'.E = E.E → At σ' (bm A' s' (dh E' e' A'.S X)) → EP e' rules X → PR rules s s' e e' bb → K (.bool bb) σ') : Ok (bY [.obj E.E] σ) K := by
  have wl := Nat.le_trans p.w.len p.rl
  have nl := Nat.le_trans p.n.len p.rl
  refine kf rfl (kB ?_)
  and_intros
  refine bS h 6 rfl ⟨rfl, Nat.le_of_ble_eq_true rfl⟩ fun τ h => ?_
  have h : At τ (bm A s (dh E e A.S X)) := h
  and_intros
  exists gp (h.get 6 rfl) rfl rfl, yK (h.get 9 rfl), gp (h.get 6 rfl) rfl rfl
  refine B1 h (n := 9) (m := 10) rfl rfl (by decide) (by lia) fun τ h => ?_
  have p1 : EP { e with w := e.n.foldl b6 e.w } rules X := p.re rfl rfl (p.n.merge p.w) p.n p.bn
  have h : At τ (bm A s (dh E { e with w := e.n.foldl b6 e.w } A.S X)) := h
  and_intros
  exists b9 (h.get 6 rfl) rfl rfl
  refine uJ h b p1 (by decide) fun τ A1 w1 bn1 hA h rw1 rb1 hw1 => ?_
  and_intros
  exists gp (h.get 6 rfl) rfl rfl, BL, gp (h.get 6 rfl) rfl rfl
  refine bS h 0 rfl ⟨rfl, Nat.le_of_ble_eq_true rfl⟩ fun τ h => ?_
  have h : At τ (bm A1 { s with news := [], sp := -2 } (dh E { e with w := w1, bn := bn1 } A1.S X)) := h
  have p2 : EP { e with w := w1, bn := bn1 } rules X := p1.re rfl rfl rw1 p.n rb1
  have l0 : LI rules s e (!s.fl) { s with news := [], sp := -2 } { e with w := w1, bn := bn1 } := ⟨(b.sp (-2)).nonews, rfl, .refl rfl rfl rfl rfl, fun _ _ q => q, rfl, rfl, fun _ q => q, fun _ _ q => q, fun z => ⟨by simpa using z, by simpa using z, fun _ _ h => h, fun i r hr => ?_, fun _ n q => (hw1 n).mpr (.inl ((jz _ _ _).mpr (.inr q)))⟩, fun z => ⟨by simpa using z, .inl (by simpa using z)⟩⟩
  rotate_left
  · have us : ∀ x : Int, ((r.x : Int) = x ∨ (r.y : Int) = x) → x ∈ s.news → (i : Int) ∈ w1 := fun x hx hn => (hw1 i).mpr (.inr ⟨by lia, x, hn, (p.us _ _).mpr ⟨i, r, rfl, hr, hx⟩⟩)
    rcases hf i r hr with q | q | q | q
    · exact .inl ((hw1 i).mpr (.inl ((jz _ _ _).mpr (.inr q))))
    · exact .inr q
    · exact .inl (us _ (.inl rfl) q)
    · exact .inl (us _ (.inr rfl) q)
  and_intros
  refine Ay (fun m τ => m "self" = some (.obj E.E) ∧ ∃ bb A' s' e', m "stands" = some (.bool bb) ∧ At τ (bm A' s' (dh E e' A'.S X)) ∧ A'.S = A.S ∧ EP e' rules X ∧ LI rules s e bb s' e' ∧ (bb = true → e'.w = []))
    (CC (fun n m τ => m "self" = some (.obj E.E) ∧ ∃ bb A' s' e', m "stands" = some (.bool bb) ∧ At τ (bm A' s' (dh E e' A'.S X)) ∧ A'.S = A.S ∧ EP e' rules X ∧ LI rules s e bb s' e' ∧ n = sz s'.dom * 11 + e'.w.length) ⟨rfl, _, _, _, _, rfl, h, hA, p2, l0, rfl⟩ fun n m τ zz => ?_) fun m τ zz => ?_
  · obtain ⟨m1, bb, A', s', e', m2, h, hA, p', l, hn⟩ := zz
    and_intros
    cases bb with
    | false =>
      and_intros
      exact ⟨m1, false, A', s', e', m2, h, hA, p', l, fun z => (nomatch z)⟩
    | true =>
      and_intros
      exists b9 (h.get 6 rfl) rfl rfl
      refine rJ h p' (fun w => ?_) fun w => ?_
      · and_intros
        exists b9 (h.get 6 rfl) rfl rfl
        refine AZ h l.bnd p' (l.big rfl).2.1 l.news w fun bb i r τ A2 s2 e2 hA2 h p2 t => ?_
        and_intros
        obtain ⟨l2, lt⟩ := l.turn p' p2 t
        exact ⟨_, hn ▸ lt, m1, bb, A2, s2, e2, rfl, h, hA2.trans hA, p2, l2, rfl⟩
      · and_intros
        exact ⟨m1, true, A', s', e', m2, h, hA, p', l, fun _ => w⟩
  · obtain ⟨m1, bb, A', s', e', m2, h, hA, p', l, hw⟩ := zz
    and_intros
    cases bb with
    | true =>
      and_intros
      exists gp (h.get 6 rfl) rfl rfl
      refine bS h 0 rfl ⟨rfl, Nat.le_of_ble_eq_true rfl⟩ fun τ h => ?_
      and_intros
      exact k true τ A' { s' with sp := -1 } E e' hA rfl h p' (l.toPR hw rfl rfl rfl _)
    | false =>
      and_intros
      exists gp (h.get 6 rfl) rfl rfl
      refine bS h 6 rfl ⟨rfl, Nat.le_of_ble_eq_true rfl⟩ fun τ h => ?_
      and_intros
      exists gp (h.get 6 rfl) rfl rfl
      refine AL h (n := 10) rfl (by rw [cI]; exact p7 (Nat.le_trans p'.n.len p'.rl)) fun j τ h => ?_
      and_intros
      refine bS h 7 rfl ⟨rfl, Nat.le_of_ble_eq_true rfl⟩ fun τ h => ?_
      have h : At τ (bm A' s' (dh { E with W := j } { e' with fb := s'.sp, w := e'.n } A'.S X)) := h.mv 9 rfl
      and_intros
      refine sr h fun j2 τ h => ?_
      and_intros
      refine bS h 7 rfl ⟨rfl, Nat.le_of_ble_eq_true rfl⟩ fun τ h => ?_
      have h : At τ (bm A' s' (dh { E with W := j, K := j2 } { e' with fb := s'.sp, w := e'.n, bn := [] } A'.S X)) := h.mv 11 rfl
      and_intros
      exists gp (h.get 6 rfl) rfl rfl
      refine bS h 0 rfl ⟨rfl, Nat.le_of_ble_eq_true rfl⟩ fun τ h => ?_
      and_intros
      exact k false τ A' { s' with sp := -1 } { E with W := j, K := j2 } { e' with fb := s'.sp, w := e'.n, bn := [] } hA rfl h (p'.re rfl rfl p'.n p'.n (.nil 4)) (l.toPR (e' := { e' with fb := s'.sp, w := e'.n, bn := [] }) hw rfl rfl rfl _)
end
@[reducible] noncomputable def Knew (i : Nat) (K : KP) (v : PV) (σ : AH) : Prop := v = .none ∧ K (.obj i) σ
@[reducible] noncomputable def Ksup (g : FF) (i : Nat) (m : Loc) (K : KZ) (args : List PV) (σ : AH) : Prop := Ok (g (.obj i :: args) σ) (Kx m K)
section
variable {σ : AH} {m : Loc} {K : KP} {Ks : KZ} {L : List (Nat × AObj)} {R X : List (Nat × AObj)}
theorem xF {C : Addr} {f : FF} {args : List PV} (h : At σ L) (k : ∀ i τ, At τ ((i, .inst C []) :: L) → Ok (f (.obj i :: args) τ) (Knew i K)) : K1 (eC C f) K args σ := by
  obtain ⟨v, τ, e, rfl, q⟩ := k _ _ (h.newI (.inst C []))
  refine go ?_ q
  unfold eC
  rw [e]
theorem zU {C : Addr} {l : LF} {g : FF} {i : Nat} {fs : List (String × PV)} (hm : m "self" = some (.obj i)) (h : σ.get i = some (.inst C fs)) (k : Ok (l m σ) (Ksup g i m Ks)) : Ok (jO C l g m σ) Ks := by
  unfold jO
  unfold af
  rw [hm]
  dsimp only [bnd, Option.map, gP]
  rw [h]
  dsimp only [oX]
  rw [eG rfl]
  exact fh (k.mono fun _ _ q => fh (q.mono fun _ _ q => go rfl q))
noncomputable def Cb : StS := ⟨[], [], [], [], [], -1, false, .tup []⟩
theorem vS (h : At σ R) (k : ∀ A τ, At τ (bm A Cb R) → K (.obj A.S) τ) : K1 (eC 393 fu) K [] σ := by
  refine xF h fun S τ h => kf rfl (kB ?_)
  and_intros
  refine dL h (Nat.zero_le _) fun a τ h => ?_
  and_intros
  refine bS h 1 rfl ⟨rfl, Nat.le_of_ble_eq_true rfl⟩ fun τ h => ?_
  and_intros
  refine dL h (Nat.zero_le _) fun b τ h => ?_
  and_intros
  refine bS h 2 rfl ⟨rfl, Nat.le_of_ble_eq_true rfl⟩ fun τ h => ?_
  and_intros
  refine dL h (Nat.zero_le _) fun c τ h => ?_
  and_intros
  refine bS h 3 rfl ⟨rfl, Nat.le_of_ble_eq_true rfl⟩ fun τ h => ?_
  and_intros
  refine dL h (Nat.zero_le _) fun e τ h => ?_
  and_intros
  refine bS h 4 rfl ⟨rfl, Nat.le_of_ble_eq_true rfl⟩ fun τ h => ?_
  and_intros
  refine sr h fun n τ h => ?_
  and_intros
  refine bS h 5 rfl ⟨rfl, Nat.le_of_ble_eq_true rfl⟩ fun τ h => ?_
  and_intros
  refine bS h 5 rfl ⟨rfl, Nat.le_of_ble_eq_true rfl⟩ fun τ h => ?_
  and_intros
  refine bS h 5 rfl ⟨rfl, Nat.le_of_ble_eq_true rfl⟩ fun τ h => ?_
  and_intros
  refine bS h 5 rfl ⟨rfl, Nat.le_of_ble_eq_true rfl⟩ fun τ h => ?_
  and_intros
  exact ⟨rfl, k ⟨S, a, b, c, e, n⟩ τ (At.perm (L := (bm ⟨S, a, b, c, e, n⟩ Cb []).reverse ++ R) h ((List.reverse_perm _).append_right R))⟩
noncomputable def AN : EnS := ⟨[], [], [], [], [], -1⟩
theorem tm {A : SA} {s : StS} (h : At σ (bm A s X)) (k : ∀ E τ, At τ (bm A s (dh E AN A.S X)) → K (.obj E.E) τ) : K1 (eC 80 dJ) K [.obj A.S] σ := by
  refine xF h fun E τ h => kf rfl (kB ?_)
  and_intros
  refine bS h 0 rfl ⟨rfl, Nat.le_of_ble_eq_true rfl⟩ fun τ h => ?_
  and_intros
  refine dL h (Nat.zero_le _) fun P τ h => ?_
  and_intros
  refine bS h 1 rfl ⟨rfl, Nat.le_of_ble_eq_true rfl⟩ fun τ h => ?_
  and_intros
  refine sr h fun U τ h => ?_
  and_intros
  refine bS h 2 rfl ⟨rfl, Nat.le_of_ble_eq_true rfl⟩ fun τ h => ?_
  and_intros
  refine sr h fun W τ h => ?_
  and_intros
  refine bS h 3 rfl ⟨rfl, Nat.le_of_ble_eq_true rfl⟩ fun τ h => ?_
  and_intros
  refine sr h fun N τ h => ?_
  and_intros
  refine bS h 4 rfl ⟨rfl, Nat.le_of_ble_eq_true rfl⟩ fun τ h => ?_
  and_intros
  refine bS h 4 rfl ⟨rfl, Nat.le_of_ble_eq_true rfl⟩ fun τ h => ?_
  and_intros
  refine sr h fun D τ h => ?_
  and_intros
  refine bS h 5 rfl ⟨rfl, Nat.le_of_ble_eq_true rfl⟩ fun τ h => ?_
  and_intros
  refine bS h 5 rfl ⟨rfl, Nat.le_of_ble_eq_true rfl⟩ fun τ h => ?_
  and_intros
  refine bS h 5 rfl ⟨rfl, Nat.le_of_ble_eq_true rfl⟩ fun τ h => ?_
  and_intros
  exact ⟨rfl, k ⟨E, P, U, W, N, D⟩ τ (At.swap (A := dh ⟨E, P, U, W, N, D⟩ AN A.S []) (B := bm A s []) (C := X) (At.perm (L := (dh ⟨E, P, U, W, N, D⟩ AN A.S []).reverse ++ bm A s X) h ((List.reverse_perm _).append_right _)))⟩
theorem lh {i : Nat} {C : Addr} (hC : [479, 545, 587].contains C = true) {l : List PV} {x : String} (h : At σ ((i, .inst C []) :: L)) (k : ∀ τ, At τ ((i, .inst C [("number", .int (-1)), ("scope", .tup l), ("strength", .str x)]) :: L) → K .none τ) : Ok (cm [.obj i, .tup l, .str x] σ) K := by
  refine kf rfl (kB ?_)
  and_intros
  refine bS h 0 rfl ⟨hC, Nat.le_of_ble_eq_true rfl⟩ fun τ h => ?_
  and_intros
  refine bS h 0 rfl ⟨hC, Nat.le_of_ble_eq_true rfl⟩ fun τ h => ?_
  and_intros
  refine bS h 0 rfl ⟨hC, Nat.le_of_ble_eq_true rfl⟩ fun τ h => ?_
  and_intros
  exact k τ h
theorem y8 {x y : Nat} (h : At σ L) (k : ∀ p τ, At τ ((p, .inst 479 (Am (-1) x y)) :: L) → K (.obj p) τ) : K1 (eC 479 d8) K [.int x, .int y] σ := by
  refine xF h fun p τ h => kf rfl (kB (zU rfl (h.get 0 rfl) ?_))
  and_intros
  refine lh rfl h fun τ h => ?_
  and_intros
  exact ⟨rfl, k p τ h⟩
theorem uB {a b : Int} {x y : Nat} (hx : x ≠ y) (ha : a ≠ 0) (hb : b ≠ 0) : iQ [.tup [.int a, .int b], .tup [.int x, .int y]] σ = some (.obj σ.next, σ.new (.list ([(a, x), (b, y)].map dZ))) := if_pos ⟨fun z => hx (Int.ofNat_inj.mp z), ha, hb⟩
theorem zW {a b c : Int} {x y : Nat} (h : At σ L) (hx : x ≠ y) (ha : a ≠ 0) (hb : b ≠ 0) (k : ∀ p Ro τ, At τ ((p, .inst 545 (x7 (-1) x y a b c Ro)) :: (Ro, .list ([(a, x), (b, y)].map dZ)) :: L) → K (.obj p) τ) : K1 (eC 545 d6) K [.tup [.int a, .int b], .tup [.int x, .int y], .int c] σ := by
  refine xF h fun p τ h => kf rfl (kB (zU rfl (h.get 0 rfl) ?_))
  and_intros
  refine lh rfl h fun τ h => ?_
  and_intros
  refine bS h 0 rfl ⟨rfl, Nat.le_of_ble_eq_true rfl⟩ fun τ h => ?_
  and_intros
  refine bS h 0 rfl ⟨rfl, Nat.le_of_ble_eq_true rfl⟩ fun τ h => ?_
  and_intros
  refine .eq (uB hx ha hb) ?_
  have h := h.new (.list ([(a, x), (b, y)].map dZ))
  and_intros
  refine bS h 1 rfl ⟨rfl, Nat.le_of_ble_eq_true rfl⟩ fun τ h => ?_
  and_intros
  exact ⟨rfl, k p _ τ (h.perm (.swap _ _ _))⟩
theorem AA {a b c : Int} {x y : Nat} (h : At σ L) (hx : x ≠ y) (ha : a ≠ 0) (hb : b ≠ 0) (k : ∀ p Ro τ, At τ ((p, .inst 587 (x7 (-1) x y a b c Ro)) :: (Ro, .list ([(a, x), (b, y)].map dZ)) :: L) → K (.obj p) τ) : K1 (eC 587 d7) K [.tup [.int a, .int b], .tup [.int x, .int y], .int c] σ := by
  refine xF h fun p τ h => kf rfl (kB (zU rfl (h.get 0 rfl) ?_))
  and_intros
  refine lh rfl h fun τ h => ?_
  and_intros
  refine bS h 0 rfl ⟨rfl, Nat.le_of_ble_eq_true rfl⟩ fun τ h => ?_
  and_intros
  refine bS h 0 rfl ⟨rfl, Nat.le_of_ble_eq_true rfl⟩ fun τ h => ?_
  and_intros
  refine .eq (uB hx ha hb) ?_
  have h := h.new (.list ([(a, x), (b, y)].map dZ))
  and_intros
  refine bS h 1 rfl ⟨rfl, Nat.le_of_ble_eq_true rfl⟩ fun τ h => ?_
  and_intros
  exact ⟨rfl, k p _ τ (h.perm (.swap _ _ _))⟩
end
theorem jJ (σ : AH) (n : Nat) : ∀ l : List Int, eP (deep σ (n + 1)) (l.map .int) = some (l.map .int)
  | [] => rfl
  | a :: l => by rw [List.map_cons]; unfold eP; rw [jJ σ n l]; rfl
theorem yA (l : List Int) (k : Int) : (l.map PyData.int).any (fun y => PyData.eqv y (.int k)) = decide (k ∈ l) := by
  rw [List.any_map]
  refine Bool.eq_iff_iff.mpr ⟨fun h => ?_, fun h => ?_⟩
  · obtain ⟨a, ha, q⟩ := List.any_eq_true.mp h
    exact decide_eq_true ((show a = k by simpa [PyData.eqv] using q) ▸ ha)
  · exact List.any_eq_true.mpr ⟨k, of_decide_eq_true h, by simp [PyData.eqv]⟩
theorem xU {σ : AH} {i : Nat} {l : List Int} (h : σ.get i = some (.list (l.map .int))) (k : Int) : yj σ (.int k) (.obj i) = some (decide (k ∈ l)) := by
  rw [qF h rfl (jJ σ 6 l), yA]
noncomputable def hN (u : List (Int × Nat × List Int)) (x n : Int) : List (Int × Nat × List Int) := match u with
  | [] => []
  | p :: r => if p.1 = x then (p.1, p.2.1, p.2.2 ++ [n]) :: r else p :: hN r x n
theorem qs (x n : Int) : ∀ u, kh (hN u x n) = kh u
  | [] => rfl
  | p :: r => by
    unfold hN
    split
    · rfl
    · show (_ :: kh (hN r x n)) = _ :: kh r
      rw [qs x n r]
theorem we (x n : Int) (u : List (Int × Nat × List Int)) : (hN u x n).length = u.length := by
  have := congrArg List.length (qs x n u)
  unfold kh at this
  rw [List.length_map, List.length_map] at this
  exact this
theorem sj (x n : Int) : ∀ {u : List (Int × Nat × List Int)} {i : Nat}, dq (kh u) x = some (.obj i) → ∃ k : Nat, (rF u)[k]? = some (i, .list ((dk u x).map .int)) ∧ (rF u).set k (i, .list ((dk u x ++ [n]).map .int)) = rF (hN u x n) ∧ ∀ z, dk (hN u x n) z = if z = x then dk u x ++ [n] else dk u z
  | [], i, e => by cases e
  | p :: r, i, e => by
    have hf : kh (p :: r) = (p.1, .obj p.2.1) :: kh r := rfl
    unfold dq at e
    rw [hf, List.find?_cons] at e
    unfold hN
    by_cases q : p.1 = x
    · rw [decide_eq_true q] at e
      cases e
      unfold dk
      rw [if_pos q, if_pos q]
      refine ⟨0, rfl, rfl, fun z => ?_⟩
      dsimp only
      by_cases y : z = x
      · rw [if_pos (q.trans y.symm), if_pos y]
      · rw [if_neg fun w => y (w.symm.trans q), if_neg y, if_neg fun w => y (w.symm.trans q)]
    · rw [decide_eq_false q] at e
      obtain ⟨k, h1, h2, h3⟩ := sj x n (u := r) e
      rw [if_neg q]
      unfold dk
      rw [if_neg q]
      refine ⟨k + 1, h1, congrArg _ h2, fun z => ?_⟩
      rw [h3]
      by_cases w : p.1 = z
      · rw [if_pos w, if_pos w, if_neg fun y => q (w.trans y)]
      · rw [if_neg w, if_neg w]
theorem xx {u : List (Int × Nat × List Int)} {x : Int} {q : Nat} (h : dq (kh u) x = none) : dq (kh (u ++ [(x, q, [])])) x = some (.obj q) ∧ jd (kh u) x (.obj q) = kh (u ++ [(x, q, [])]) ∧ dk u x = [] ∧ ∀ z, dk (u ++ [(x, q, [])]) z = dk u z := by
  have nf : ∀ p ∈ kh u, p.1 ≠ x := fun p hp e => by
    have := Option.map_eq_none_iff.mp h
    exact absurd (decide_eq_true e) (by simpa using List.find?_eq_none.mp this p hp)
  have hd : kh (u ++ [(x, q, [])]) = kh u ++ [(x, .obj q)] := List.map_append
  refine ⟨?_, ?_, ?_, ?_⟩
  · rw [hd]
    unfold dq
    rw [List.find?_append, Option.map_eq_none_iff.mp h]
    simp
  · unfold jd
    rw [if_neg fun z => by obtain ⟨p, hp, e⟩ := List.any_eq_true.mp z; exact nf p hp (of_decide_eq_true e), hd]
  · clear h hd
    induction u with
    | nil => rfl
    | cons p r ih =>
      unfold dk
      rw [if_neg (nf (p.1, .obj p.2.1) (.head _))]
      exact ih fun p hp => nf p (.tail _ hp)
  · intro z
    clear h hd
    induction u with
    | nil => show (if x = z then [] else dk [] z) = _; split <;> rfl
    | cons p r ih =>
      show (if p.1 = z then _ else dk (r ++ _) z) = if p.1 = z then _ else dk r z
      rw [ih fun p hp => nf p (.tail _ hp)]
section
variable {σ : AH} {A : SA} {s : StS} {E : EA} {e : EnS} {rules : List Rule} {X : List (Nat × AObj)} {K : KP} {Ks : KZ}
theorem Aj {i : Nat} {es : List (Int × PV)} {j : Int} {d v : PV} (h : σ.get i = some (.idict es)) (hl : es.length ≤ 100000) (e : dq es j = some v) (k : K v σ) : Km eK i K [.int j, d] σ := go (by unfold eK; dsimp only [w3]; rw [fq h]; dsimp only [cr]; rw [eG hl, e]) k
theorem Az {i n : Nat} {es es' : List (Int × PV)} {j : Int} {d : PV} {L : List (Nat × AObj)} (h : At σ L) (e : L[n]? = some (i, .idict es)) (hl : es.length ≤ 100000) (e1 : dq es j = none) (e2 : jd es j d = es') (k : ∀ τ, At τ (L.set n (i, .idict es')) → K d τ) : Km eK i K [.int j, d] σ := by
  subst e2
  exact go (by unfold eK; dsimp only [w3]; rw [fq (h.get n e)]; dsimp only [cr]; rw [eG hl, e1]) (k _ (h.set n e _))
theorem Ak {i : Nat} {l : List Int} {k : Int} (h : σ.get i = some (.list (l.map .int))) (q : K (.bool (!decide (k ∈ l))) σ) : K2b e6 (.int k) K (.obj i) σ := go (by unfold e6; rw [xU h]; rfl) q
theorem Dk {i : Nat} {es : List (Int × PV)} {j : Int} {v : PV} (h : σ.get i = some (.idict es)) (e : dq es j = some v) (k : K v σ) : K2b aK (.obj i) K (.int j) σ := go (by unfold aK; dsimp only; rw [h]; dsimp only [cr]; rw [e]; rfl) k
theorem x5 {Y : List (Nat × AObj)} {p Ro : Nat} {r : Rule} (h : At σ ((p, .inst r.D (r.F (-1) Ro)) :: bm A s (dh E e A.S Y))) (ep : EP e rules X) (rl : rules.length ≤ 9) (ok : r.Ok) (hR : r.kd ≠ .abs → (Ro, .list ([(r.a, r.x), (r.b, r.y)].map dZ)) ∈ X)
    (k : ∀ τ e', At τ (bm A s (dh E e' A.S ((p, .inst r.D (r.F rules.length Ro)) :: Y))) → EP e' (rules ++ [r]) ((p, .inst r.D (r.F rules.length Ro)) :: X) → (∀ n, n ∈ e'.n ↔ n ∈ e.n ∨ n = rules.length) → K (.int rules.length) τ) : Ok (eZ [.obj E.E, .obj p] σ) K := by
  have pl := ep.pl
  have hsc : ∀ n : Int, [479, 545, 587].contains r.D = true ∧ AS "scope" (r.F n Ro) = some (.tup [.int r.x, .int r.y]) ∧ jV "number" (.int rules.length) (r.F n Ro) = r.F rules.length Ro ∧ (r.F n Ro).length ≤ 100 := fun n => by
    unfold Rule.F Rule.D
    cases r.kd <;> exact ⟨rfl, rfl, rfl, Nat.le_of_ble_eq_true rfl⟩
  refine kf rfl (kB ?_)
  and_intros
  exists gp (h.get 7 rfl) rfl rfl, fN (h.get 8 rfl) (by rw [List.length_map]; lia)
  rw [List.length_map, pl]
  refine bS h 0 rfl ⟨(hsc 0).1, (hsc (-1)).2.2.2⟩ fun τ h => ?_
  rw [(hsc (-1)).2.2.1] at h
  have h : At τ ((p, .inst r.D (r.F rules.length Ro)) :: bm A s (dh E e A.S Y)) := h
  and_intros
  exists gp (h.get 7 rfl) rfl rfl, jf (h.get 8 rfl)
  refine gR h 8 rfl (by rw [List.length_map]; lia) (eh PV.obj _ _) fun τ h => ?_
  have h : At τ ((p, .inst r.D (r.F rules.length Ro)) :: bm A s (dh E { e with props := e.props ++ [p] } A.S Y)) := h
  and_intros
  exists gp (h.get 0 rfl) (hsc 0).1 (hsc rules.length).2.1
  refine Ch (gD (l := [r.x, r.y].map fun (z : Nat) => PV.int z) (fun j m τ => m "self" = some (.obj E.E) ∧ m "number" = some (.int rules.length) ∧ ∃ u, At τ ((p, .inst r.D (r.F rules.length Ro)) :: bm A s (dh E { e with props := e.props ++ [p], u := u } A.S Y)) ∧ u.length ≤ e.u.length + j ∧ ∀ z : Int, dk u z = dk e.u z ++ (if z ∈ ([r.x, r.y].take j).map (fun (x : Nat) => (x : Int)) then [(rules.length : Int)] else [])) (fun _ _ _ _ => qr _ _) ⟨rfl, rfl, e.u, h, Nat.le_refl _, fun z => (List.append_nil _).symm⟩ (fun j v ej m τ zz => ?_) fun m τ zz => ?_)
  · obtain ⟨m1, m2, u, h, ul, us⟩ := zz
    rw [List.getElem?_map] at ej
    obtain ⟨x0, hx0, rfl⟩ := Option.map_eq_some_iff.mp ej
    have j2 : j < 2 := (List.getElem?_eq_some_iff.mp hx0).1
    have nx : (x0 : Int) ∉ ([r.x, r.y].take j).map (fun (x : Nat) => (x : Int)) := fun z => by
      match j, hx0, z with
      | 0, _, z => cases z
      | 1, hx0, z => cases hx0; exact ok.ne (Int.ofNat_inj.mp (List.mem_singleton.mp z)).symm
    have nu : (rules.length : Int) ∉ dk u x0 := fun z => by
      rw [us, if_neg nx, List.append_nil] at z
      exact absurd (ep.ur z).2 (Int.lt_irrefl _)
    have l0 : (dk u x0).length ≤ 10 := by rw [us, if_neg nx, List.append_nil]; have := ep.ul.2 x0; lia
    have ud : ∀ u' : List (Int × Nat × List Int), u'.length ≤ e.u.length + j + 1 → (kh u').length ≤ 100000 := fun u' h => by unfold kh; rw [List.length_map]; have := ep.ul.1; lia
    refine kan (kB (kif (kof (k2 (kn m2 (Ok.mono (K := fun v τ => ∃ u1 i, v = .obj i ∧ At τ ((p, .inst r.D (r.F rules.length Ro)) :: bm A s (dh E { e with props := e.props ++ [p], u := u1 } A.S Y)) ∧ dq (kh u1) x0 = some (.obj i) ∧ u1.length ≤ e.u.length + j + 1 ∧ ∀ z, dk u1 z = dk u z) ?_ fun v τ ⟨u1, i, ev, h, e1, ul1, us1⟩ => ?_))))))
    · and_intros
      exists gp (h.get 7 rfl) rfl rfl, yK (h.get 9 rfl)
      refine dL h (Nat.zero_le _) fun q τ h => ?_
      and_intros
      rcases u0 u x0 with ⟨e1, _⟩ | ⟨i, z, e1, _⟩
      · obtain ⟨f1, f2, f3, f4⟩ := xx (q := q) e1
        refine Az h (n := 10) rfl (ud u (by lia)) e1 f2 fun τ h => ⟨u ++ [((x0 : Int), q, [])], q, rfl, ?_, f1, by rw [List.length_append]; exact Nat.add_le_add_right ul 1, f4⟩
        have hu : rF (u ++ [((x0 : Int), q, [])]) = rF u ++ [(q, .list [])] := List.map_append
        refine h.perm (List.Perm.trans (List.perm_middle (l₁ := (p, .inst r.D (r.F rules.length Ro)) :: bm A s ((E.E, .inst 80 (qt A.S E { e with props := e.props ++ [p], u := u })) :: (E.P, .list ((e.props ++ [p]).map .obj)) :: (E.U, .idict (kh (u ++ [((x0 : Int), q, [])]))) :: (E.W, .idict (bX e.w)) :: (E.N, .idict (bX e.n)) :: (E.K, .idict (bX e.bn)) :: rF u)) (l₂ := Y)).symm ?_)
        show List.Perm (_ :: bm A s (_ :: _ :: _ :: _ :: _ :: _ :: (rF u ++ (q, .list []) :: Y))) (_ :: bm A s (_ :: _ :: _ :: _ :: _ :: _ :: (rF (u ++ [((x0 : Int), q, [])]) ++ Y)))
        rw [hu, List.append_assoc]
        exact .refl _
      · exact Aj (h.get 10 rfl) (ud u (by lia)) e1 ⟨u, i, rfl, h.tl, e1, Nat.le_succ_of_le ul, fun _ => rfl⟩
    · subst ev
      obtain ⟨z, f1, f2, f3⟩ := sj x0 rules.length e1
      have gi : ((p, .inst r.D (r.F rules.length Ro)) :: bm A s (dh E { e with props := e.props ++ [p], u := u1 } A.S Y))[z + 13]? = some (i, .list ((dk u1 x0).map .int)) := (List.getElem?_append_left (List.getElem?_eq_some_iff.mp f1).1).trans f1
      refine Ak (h.get _ gi) (C1 (by rw [us1]; exact nu) ?_)
      and_intros
      exists gp (h.get 7 rfl) rfl rfl, Dk (h.get 9 rfl) e1, jf (h.get _ gi)
      refine gR h _ gi (by rw [List.length_map, us1]; exact p7 l0) (eh PV.int _ _) fun τ h => ?_
      and_intros
      refine ⟨m1, m2, hN u1 x0 rules.length, ?_, by rw [we]; exact ul1, fun y => ?_⟩
      · have hu : ((p, .inst r.D (r.F rules.length Ro)) :: bm A s (dh E { e with props := e.props ++ [p], u := u1 } A.S Y)).set (z + 13) (i, .list ((dk u1 x0 ++ [(rules.length : Int)]).map .int)) = (p, .inst r.D (r.F rules.length Ro)) :: bm A s (dh E { e with props := e.props ++ [p], u := hN u1 x0 rules.length } A.S Y) := by
          show _ :: bm A s (_ :: _ :: _ :: _ :: _ :: _ :: (rF u1 ++ Y).set z _) = _ :: bm A s (_ :: _ :: (_, .idict (kh (hN u1 x0 rules.length))) :: _ :: _ :: _ :: (rF (hN u1 x0 rules.length) ++ Y))
          rw [List.set_append_left _ _ (List.getElem?_eq_some_iff.mp f1).1, f2, qs]
          rfl
        rw [← hu]; exact h
      · rw [f3, us1, us1, us, us, List.take_succ, hx0, List.map_append]
        simp only [Option.toList_some, List.map_cons, List.map_nil]
        by_cases q : y = x0
        · subst q
          rw [if_pos rfl, if_neg nx, List.append_nil, if_pos (List.mem_append_right _ (.head _))]
        · rw [if_neg q]
          congr 1
          refine ite_congr (propext ?_) (fun _ => rfl) fun _ => rfl
          rw [List.mem_append]
          exact ⟨.inl, fun w => w.elim id fun w => absurd (List.mem_singleton.mp w) q⟩
  · obtain ⟨m1, m2, u, h, ul, us⟩ := zz
    and_intros
    exists gp (h.get 7 rfl) rfl rfl
    refine ya h 10 rfl (by rw [cI]; exact p7 (Nat.le_trans ep.w.len ep.rl)) (f6 _ _) fun τ h => ?_
    and_intros
    exists gp (h.get 7 rfl) rfl rfl
    refine ya h 11 rfl (by rw [cI]; exact p7 (Nat.le_trans ep.n.len ep.rl)) (f6 _ _) fun τ h => ?_
    and_intros
    have up : ∀ {l : List Int}, Rg rules.length l → Rg (rules ++ [r]).length (b6 l rules.length) := fun h => Rg.put (N := (rules ++ [r]).length) ⟨h.nd, fun k hk => by have := h.r k hk; rw [List.length_append, List.length_singleton]; lia⟩ (by rw [List.length_append, List.length_singleton]; lia)
    refine k τ { e with props := e.props ++ [p], u := u, w := b6 e.w rules.length, n := b6 e.n rules.length } ?_ ⟨?_, fun i r' hr => ?_, fun r' hr => ?_, fun x n => ?_, ⟨?_, fun x => ?_⟩, ?_, up ep.w, up ep.n, ep.bn⟩ fun n => dr _ _ _
    · exact h.perm (List.perm_middle (l₁ := bm A s ((E.E, .inst 80 (qt A.S E { e with props := e.props ++ [p], u := u })) :: (E.P, .list ((e.props ++ [p]).map .obj)) :: (E.U, .idict (kh u)) :: (E.W, .idict (bX (b6 e.w rules.length))) :: (E.N, .idict (bX (b6 e.n rules.length))) :: (E.K, .idict (bX e.bn)) :: rF u)) (l₂ := Y)).symm |>.perm (.of_eq (by show bm A s (_ :: _ :: _ :: _ :: _ :: _ :: (rF u ++ _)) = bm A s (_ :: _ :: _ :: _ :: _ :: _ :: (rF u ++ _)); rfl))
    · show (e.props ++ [p]).length = _
      rw [List.length_append, List.length_append, pl]; rfl
    · rcases Nat.lt_or_ge i rules.length with q | q
      · rw [List.getElem?_append_left q] at hr
        obtain ⟨p', R', h1, h2, h3⟩ := ep.ra i r' hr
        exact ⟨p', R', (List.getElem?_append_left (pl ▸ q)).trans h1, .tail _ h2, fun z => .tail _ (h3 z)⟩
      · rw [List.getElem?_append_right q] at hr
        obtain ⟨rfl, e1⟩ : i = rules.length ∧ r = r' := by
          match hi : i - rules.length, hr with
          | 0, hr => cases hr; exact ⟨by lia, rfl⟩
        subst e1
        refine ⟨p, Ro, ?_, .head _, fun z => .tail _ (hR z)⟩
        show (e.props ++ [p])[rules.length]? = _
        rw [← pl, List.getElem?_append_right (Nat.le_refl _), Nat.sub_self]; rfl
    · rcases List.mem_append.mp hr with q | q
      · exact ep.ok r' q
      · rw [List.mem_singleton.mp q]; exact ok
    · show n ∈ dk u x ↔ _
      rw [us, List.mem_append, ep.us]
      have lt : ∀ {i : Nat} {q : Rule}, rules[i]? = some q → (rules ++ [r])[i]? = some q := fun h => (List.getElem?_append_left (List.getElem?_eq_some_iff.mp h).1).trans h
      have at_ : (rules ++ [r])[rules.length]? = some r := by rw [List.getElem?_append_right (Nat.le_refl _), Nat.sub_self]; rfl
      constructor
      · rintro (⟨i, q, h1, h2, h3⟩ | q)
        · exact ⟨i, q, h1, lt h2, h3⟩
        · split at q
          · rename_i z
            refine ⟨rules.length, r, List.mem_singleton.mp q, at_, ?_⟩
            rcases List.mem_cons.mp z with z | z
            · exact .inl z.symm
            · exact .inr (List.mem_singleton.mp z).symm
          · cases q
      · rintro ⟨i, q, h1, h2, h3⟩
        rcases Nat.lt_or_ge i rules.length with y | y
        · exact .inl ⟨i, q, h1, by rw [List.getElem?_append_left y] at h2; exact h2, h3⟩
        · have : i < (rules ++ [r]).length := (List.getElem?_eq_some_iff.mp h2).1
          rw [List.length_append, List.length_singleton] at this
          obtain rfl : i = rules.length := by lia
          rw [at_] at h2
          cases h2
          refine .inr ?_
          rw [if_pos (h3.elim (fun z => z ▸ .head _) fun z => z ▸ .tail _ (.head _))]
          exact List.mem_singleton.mpr h1
    · show u.length ≤ _
      have := ep.ul.1
      rw [List.length_append, List.length_singleton]
      have : u.length ≤ e.u.length + 2 := ul
      lia
    · show (dk u x).length ≤ _
      have := ep.ul.2 x
      rw [us, List.length_append, List.length_append]
      refine Nat.add_le_add this ?_
      split
      · exact Nat.le_refl _
      · exact Nat.zero_le _
    · rw [List.length_append, List.length_singleton]; lia
end
section
variable {σ : AH} {m : Loc} {K : KP} {Ka : Loc → AH → Prop} {v : PV} {i : Nat} {x : String} {es : List (String × PV)} {L : List (Nat × AObj)}
theorem At.mem (h : At σ L) {p : Nat × AObj} (hp : p ∈ L) : σ.get p.1 = some p.2 := (h.get' p hp).2
theorem Bn (h : σ.get i = some (.sdict es)) (e : AS x es = some v) (k : K v σ) : K2b aK (.obj i) K (.str x) σ := go (by unfold aK; dsimp only; rw [h]; dsimp only [zd]; rw [← pZ, e]; rfl) k
theorem CH (h : At σ L) (n : Nat) (e : L[n]? = some (i, .sdict es)) (hs : es.length ≤ 100000) {es' : List (String × PV)} (he : tR es x v = es') (k : ∀ τ, At τ (L.set n (i, .sdict es')) → Ka m τ) : Kset2 (.obj i) v m Ka (.str x) σ :=
  go (by subst he; unfold oz; dsimp only [gP]; rw [h.get n e]; exact if_pos hs) (k _ (h.set n e _))
theorem zf {a b : Int} (hb : b ≠ 0) (k : K (.int (a.fmod b)) σ) : K2b lX (.int a) K (.int b) σ := go (if_pos hb) k
theorem sv {a b : Int} (hb : -1000 ≤ b ∧ b ≤ 1000) (k : K (.int (a * b)) σ) : K2b gk (.int a) K (.int b) σ := go (iP σ hb) k
theorem vE {a b : String} (k : K (.bool (decide (a = b))) σ) : K2b cz (.str a) K (.str b) σ := go (by
  show some (PV.bool (PyData.eqv (.str (nm a)) (.str (nm b))), σ) = _
  have : PyData.eqv (.str (nm a)) (.str (nm b)) = decide (a = b) := by
    simp only [PyData.eqv]
    exact Bool.eq_iff_iff.mpr ⟨fun h => decide_eq_true (nB (by simpa using h)), fun h => by rw [of_decide_eq_true h]; simp⟩
  rw [this]) k
end
noncomputable abbrev d9 (c : Nat) (k : Nat) : AObj := .sdict [("cells", .obj c), ("at", .int k)]
noncomputable abbrev bH (c : Nat) (cells : List Int) : Nat × AObj := (c, .list (cells.map .int))
section
variable {σ : AH} {K : KP} {u c k : Nat} {cells : List Int} {L : List (Nat × AObj)}
theorem fz (h : At σ ((u, d9 c k) :: L)) (hc : bH c cells ∈ L) (cl : cells.length ≤ 100) (hk : k ≤ 900) {many : Int} (hm : 0 < many) (q : ∀ n τ, 0 ≤ n → n < many → At τ ((u, d9 c (k + 1)) :: L) → K (.int n) τ) : Ok (a8 [.obj u, .int many] σ) K := by
  have many0 : many ≠ 0 := Int.ne_of_gt hm
  refine kf rfl (kB ?_)
  and_intros
  exists Bn (h.get 0 rfl) rfl
  refine CH h 0 rfl (Nat.le_of_ble_eq_true rfl) rfl fun τ h => ?_
  have h : At τ ((u, d9 c (k + 1)) :: L) := h
  have hg := h.mem (.tail _ hc)
  have len : ∀ {K : KP}, K (.int cells.length) τ → K1 cO K [.obj c] τ := fun q => fN hg (by rw [List.length_map]; lia) (by rw [List.length_map]; exact q)
  and_intros
  exists Bn (h.get 0 rfl) rfl, len
  refine iZ (fun c0 => ?_) fun c0 => ?_
  · have hk2 : k < cells.length := by lia
    and_intros
    exists Bn (h.get 0 rfl) rfl, uv hg (by rw [List.getElem?_map, List.getElem?_eq_getElem hk2]; rfl) (by lia) rfl
    exact zf many0 (q _ τ (Int.fmod_nonneg_of_pos _ hm) (Int.fmod_lt_of_pos _ hm) h)
  · have mk : -1000 ≤ (k : Int) ∧ (k : Int) ≤ 1000 := by lia
    and_intros
    exists sv mk, sv mk, sv mk, Bn (h.get 0 rfl) rfl, len, sv (by lia), zf (by decide)
    exact zf many0 (q _ τ (Int.fmod_nonneg_of_pos _ hm) (Int.fmod_lt_of_pos _ hm) h)
end
noncomputable def C8 : Kd → String | .le => "le" | .ne => "ne" | .abs => "abs"
noncomputable abbrev dC (r : Rule) : PV := .tup [.str (C8 r.kd), .int r.a, .int r.x, .int r.b, .int r.y, .int r.c]
section
variable {σ : AH} {K : KP} {u c k : Nat} {cells : List Int} {L : List (Nat × AObj)}
theorem xp {n : Int} (h0 : 0 ≤ n) (h3 : n < 3) : n = 0 ∨ n = 1 ∨ n = 2 := by lia
theorem yR (h : At σ ((u, d9 c k) :: L)) (hc : bH c cells ∈ L) (cl : cells.length ≤ 100) (hk : k ≤ 800) (q : ∀ r k' τ, r.Ok → k' ≤ k + 6 → At τ ((u, d9 c k') :: L) → K (dC r) τ) : Ok (dn [.obj u] σ) K := by
  refine kf rfl (kB ?_)
  and_intros
  refine fz h hc cl (by lia) (by decide) fun n τ a1 a2 h => ?_
  have kd : ∃ kd : Kd, aK (.tup [.str "le", .str "ne", .str "abs"]) (.int n) τ = some (.str (C8 kd), τ) := by
    rcases xp a1 a2 with rfl | rfl | rfl
    · exact ⟨.le, rfl⟩
    · exact ⟨.ne, rfl⟩
    · exact ⟨.abs, rfl⟩
  obtain ⟨kd, ekd⟩ := kd
  refine .eq ekd ?_
  and_intros
  refine fz h hc cl (by lia) (by decide) fun x τ b1 b2 h => ?_
  and_intros
  refine fz h hc cl (by lia) (by decide) fun d τ c1 c2 h => ?_
  have ymod : (x + 1 + d).fmod 4 = (x + 1 + d) % 4 := Int.fmod_eq_emod_of_nonneg _ (by decide)
  and_intros
  refine zf (by decide) ?_
  generalize (x + 1 + d).fmod 4 = y at ymod
  obtain ⟨x, rfl⟩ : ∃ z : Nat, x = z := ⟨x.toNat, by lia⟩
  obtain ⟨y, rfl⟩ : ∃ z : Nat, y = z := ⟨y.toNat, by lia⟩
  and_intros
  refine vE (iZ (fun ck => ?_) fun ck => ?_)
  · have : kd = .abs := by cases kd <;> first | rfl | (exact absurd ck (by decide))
    subst this
    and_intros
    exact q ⟨.abs, 1, x, 1, y, 0⟩ _ _ ⟨by show x < 4; lia, by show y < 4; lia, by show x ≠ y; lia, .inl rfl, .inl rfl, by show -3 ≤ (0 : Int) ∧ (0 : Int) ≤ 3; decide⟩ (by lia) h
  · and_intros
    refine fz h hc cl (by lia) (by decide) fun n τ d1 d2 h => ?_
    have ea : ∃ a, Coef a ∧ aK (.tup [.int 1, .int (-1), .int 2]) (.int n) τ = some (.int a, τ) := by
      rcases xp d1 d2 with rfl | rfl | rfl
      · exact ⟨1, .inl rfl, rfl⟩
      · exact ⟨-1, .inr (.inl rfl), rfl⟩
      · exact ⟨2, .inr (.inr (.inl rfl)), rfl⟩
    obtain ⟨a, ca, ea⟩ := ea
    refine .eq ea ?_
    and_intros
    refine fz h hc cl (by lia) (by decide) fun n τ d1 d2 h => ?_
    have eb : ∃ b, Coef b ∧ aK (.tup [.int 1, .int (-1), .int (-2)]) (.int n) τ = some (.int b, τ) := by
      rcases xp d1 d2 with rfl | rfl | rfl
      · exact ⟨1, .inl rfl, rfl⟩
      · exact ⟨-1, .inr (.inl rfl), rfl⟩
      · exact ⟨-2, .inr (.inr (.inr rfl)), rfl⟩
    obtain ⟨b, cb, eb⟩ := eb
    refine .eq eb ?_
    and_intros
    refine fz h hc cl (by lia) (by decide) fun n τ d1 d2 h => ?_
    and_intros
    exact q ⟨kd, a, x, b, y, n - 3⟩ _ _ ⟨by show x < 4; lia, by show y < 4; lia, by show x ≠ y; lia, ca, cb, by show -3 ≤ n - 3 ∧ n - 3 ≤ 3; lia⟩ (by lia) h
end
section
variable {σ : AH} {m : Loc} {K : KP} {L X Y : List (Nat × AObj)} {G P R : List (Nat × AObj)} {A : SA} {s : StS} {E : EA} {e : EnS}
noncomputable def A7 (E : EA) (e : EnS) (S : Nat) : List (Nat × AObj) := (E.E, .inst 80 (qt S E e)) :: (E.P, .list (e.props.map .obj)) :: (E.U, .idict (kh e.u)) :: (E.W, .idict (bX e.w)) :: (E.N, .idict (bX e.n)) :: (E.K, .idict (bX e.bn)) :: rF e.u
theorem At.toS (h : At σ (G ++ bm A s R)) : At σ (bm A s (G ++ R)) := At.swap (A := G) (B := bm A s []) (C := R) h
theorem At.ofS (h : At σ (bm A s (G ++ R))) : At σ (G ++ bm A s R) := At.swap (A := bm A s []) (B := G) (C := R) h
theorem At.toE (h : At σ (G ++ bm A s (dh E e A.S Y))) : At σ (bm A s (dh E e A.S (G ++ Y))) := At.swap (A := G) (B := bm A s (A7 E e A.S)) (C := Y) h
theorem At.ofE (h : At σ (bm A s (dh E e A.S (G ++ Y)))) : At σ (G ++ bm A s (dh E e A.S Y)) := At.swap (A := bm A s (A7 E e A.S)) (B := G) (C := Y) h
noncomputable def Lot (L : List (Nat × AObj)) (o : Nat) (M : List (List Int)) : Prop := ∃ ids : List Nat, (o, AObj.list (ids.map .obj)) ∈ L ∧ All2 (fun i l => bH i l ∈ L) ids M
theorem Lot.sub {o : Nat} {M : List (List Int)} (h : Lot L o M) (k : ∀ p ∈ L, p ∈ X) : Lot X o M := let ⟨ids, h1, h2⟩ := h; ⟨ids, k _ h1, h2.mono fun _ _ q => k _ q⟩
theorem iW (n : Nat) {i : Nat} {l : List Int} (h : σ.get i = some (.list (l.map .int))) : deep σ (n + 2) (.obj i) = some (.list (l.map .int)) := by
  show gm (σ.get i) _ = _
  rw [h]
  show (eP (deep σ (n + 1)) (l.map .int)).map PyData.list = _
  rw [jJ]; rfl
theorem nW (h : At σ L) {ids : List Nat} {M : List (List Int)} (r : All2 (fun i l => bH i l ∈ L) ids M) : eP (deep σ 7) (ids.map .obj) = some (M.map fun l => .list (l.map .int)) := by
  induction r with
  | nil => rfl
  | cons q _ ih => rw [List.map_cons]; unfold eP; rw [ih, iW 5 (h.mem q)]; rfl
theorem dj (h : At σ L) {o : Nat} {M : List (List Int)} (q : Lot L o M) : deep σ 8 (.obj o) = some (.list (M.map fun l => .list (l.map .int))) := by
  obtain ⟨ids, h1, h2⟩ := q
  show gm (σ.get o) _ = _
  rw [show σ.get o = _ from h.mem h1]
  show (eP (deep σ 7) (ids.map .obj)).map PyData.list = _
  rw [nW h h2]; rfl
theorem nZ {α : Type} [DecidableEq α] {f : α → PyData} (hf : ∀ a b, PyData.eqv (f a) (f b) = decide (a = b)) : ∀ a b : List α, PyData.eqvAll (a.map f) (b.map f) = decide (a = b)
  | [], [] => by simp [PyData.eqvAll]
  | [], _ :: _ => by simp [PyData.eqvAll]
  | _ :: _, [] => by simp [PyData.eqvAll]
  | a :: l, b :: r => by
    rw [List.map_cons, List.map_cons]
    unfold PyData.eqvAll
    rw [nZ hf l r, hf]
    exact Bool.eq_iff_iff.mpr ⟨fun z => let z := Bool.and_eq_true_iff.mp z; decide_eq_true (by rw [of_decide_eq_true z.1, of_decide_eq_true z.2]), fun z => Bool.and_eq_true_iff.mpr (by cases of_decide_eq_true z; exact ⟨decide_eq_true rfl, decide_eq_true rfl⟩)⟩
theorem zN (a b : Int) : PyData.eqv (.int a) (.int b) = decide (a = b) := by
  simp only [PyData.eqv]
  by_cases h : a = b <;> simp [h]
theorem mX (a b : List Int) : PyData.eqv (.list (a.map .int)) (.list (b.map .int)) = decide (a = b) := by
  unfold PyData.eqv
  exact nZ zN a b
theorem kI (a b : List (List Int)) : PyData.eqv (.list (a.map fun l => .list (l.map .int))) (.list (b.map fun l => .list (l.map .int))) = decide (a = b) := by
  unfold PyData.eqv
  exact nZ mX a b
section
variable {a b : PV} {x y : PyData} {c : Bool}
theorem vZ (h1 : deep σ 8 a = some x) (h2 : deep σ 8 b = some y) (h3 : PyData.eqv x y = c) (k : K (.bool c) σ) : K2b cz a K b σ := go (by unfold cz; rw [h1, h2]; dsimp only; rw [h3]) k
theorem rk (h1 : deep σ 8 a = some x) (h2 : deep σ 8 b = some y) (h3 : PyData.eqv x y = c) (k : K (.bool (!c)) σ) : K2b dE a K b σ := go (by unfold dE; rw [h1, h2]; dsimp only; rw [h3]) k
end
end
section
variable {m : Loc} {σ : AH} {a : AF} {src : Src} {t : TF} {c : CF} {J : List PV → Loc → AH → Prop} {ys : List PV}
theorem t7 {α : Type} {L : List α} {G : α → PV} (F : α → List PV) (P : Loc → AH → Prop) (hs : ∀ m σ, P m σ → l4 src (L.map G) σ) (h0 : P m σ) (hl : ys.length + (L.flatMap F).length ≤ 100000)
    (step : ∀ v ∈ L, ∀ ys m σ, P m σ → ys.length + (F v).length ≤ 100000 → Ok (a (G v) m σ) (Kca t c ys fun ys' m σ => P m σ ∧ ys' = ys ++ F v)) (fin : ∀ m τ, P m τ → J (ys ++ L.flatMap F) m τ) : Ok (gT a t c src (src.len σ + 1) 0 ys m σ) (Kcy J) := by
  refine B8 (fun j zs m τ => P m τ ∧ zs = ys ++ (L.take j).flatMap F) (fun j zs m τ i => hs m τ i.1) ⟨h0, (List.append_nil _).symm⟩ (fun j v e zs m τ ⟨p, q⟩ => ?_) fun zs m τ ⟨p, q⟩ => ?_
  · rw [List.getElem?_map] at e
    obtain ⟨u, hu, rfl⟩ := Option.map_eq_some_iff.mp e
    have e2 : (L.take (j + 1)).flatMap F = (L.take j).flatMap F ++ F u := by rw [List.take_succ, hu, List.flatMap_append]; simp
    rw [e2, ← List.append_assoc, ← q]
    refine step u (List.mem_of_getElem? hu) zs m τ p ?_
    rw [q, List.length_append, Nat.add_assoc, ← List.length_append, ← e2]
    refine Nat.le_trans (Nat.add_le_add_left ?_ _) hl
    conv => rhs; rw [← List.take_append_drop (j + 1) L, List.flatMap_append, List.length_append]
    exact Nat.le_add_right _ _
  · rw [List.length_map, List.take_length] at q
    exact q ▸ fin m τ p
theorem qp {caps : List String} {K : KP} {α : Type} {L : List α} {G : α → PV} (F : α → List PV) (P : Loc → AH → Prop) (hs : ∀ m σ, P m σ → l4 src (L.map G) σ) (h0 : P (jI caps m) σ) (hl : (L.flatMap F).length ≤ 100000)
    (step : ∀ v ∈ L, ∀ ys m σ, P m σ → ys.length + (F v).length ≤ 100000 → Ok (a (G v) m σ) (Kca t c ys fun ys' m σ => P m σ ∧ ys' = ys ++ F v)) (fin : ∀ m τ, P m τ → K (.obj τ.next) (τ.new (.list (L.flatMap F)))) : pD caps a t c m K src σ :=
  t7 (ys := []) F P hs h0 (by rw [List.length_nil, Nat.zero_add]; exact hl) step fun m τ p => go (if_pos hl) (fin m τ p)
theorem yP {a b : Nat} (h : a + b ≤ 100000) : a ≤ 100000 := Nat.le_of_add_right_le h
@[reducible] noncomputable def Kgen (a : AF) (t : TF) (c : CF) (ys : List PV) (m : Loc) (J : List PV → Loc → AH → Prop) (src : Src) (σ : AH) : Prop := Ok (gT a t c src (src.len σ + 1) 0 ys m σ) (Kcy J)
theorem kgen {f : IF} (k : Ok (f m σ) (Kgen a t c ys m J)) : Ok (uk f a t c ys m σ) (Kcy J) := fh k
end
theorem BJ {l : List Int} {v : Int} : v ∈ gY l ↔ v ∈ l := (fX l).mem_iff
theorem z8 {ns l : List Int} (hl : Dom l) (h : ∀ v, v ∈ ns ↔ v ∈ l) : gY ns.eraseDups = l := by
  have pw : base6.Pairwise (· ≤ ·) := by decide
  exact (uw ((List.perm_ext_iff_of_nodup hl.nd (ou ns)).mpr fun v => by rw [List.mem_eraseDups]; exact (h v).symm) (pw.sublist hl)).symm
theorem Dom.mem {l : List Int} (h : Dom l) {v : Int} (hv : v ∈ l) : -2 ≤ v ∧ v ≤ 3 := by
  have : ∀ v ∈ base6, -2 ≤ v ∧ v ≤ 3 := by decide
  exact this v (h.subset hv)
theorem wA {σ : AH} {L : List (Nat × AObj)} {K : KP} {i : Nat} {ns l : List Int} (h : At σ L) (gi : bH i ns ∈ L) (hn : ns.length < 64) (hl : Dom l) (l3 : l.length ≤ 3) (hm : ∀ v, v ∈ ns ↔ v ∈ l) (k : ∀ j τ, At τ (bH j l :: L) → K (.obj j) τ) : K1 cX K (.obj i) σ := by
  have e := z8 hl hm
  refine go (a := .obj σ.next) (σ := σ.new (.list (l.map .int))) ?_ (k _ _ (h.new _))
  unfold cX
  rw [ew (h.mem gi)]
  unfold jB
  rw [nM]
  dsimp only
  rw [eG ⟨hn, List.all_eq_true.mpr fun v hv => decide_eq_true (hl.mem ((hm v).mp hv)), by rw [← (fX ns.eraseDups).length_eq, e]; exact l3⟩, e]
  rfl
section
variable {σ : AH} {m : Loc} {Ka : Loc → AH → Prop} {a : AF} {f : yh} {v : PV} {l : List PV}
@[reducible] noncomputable def Kac (f : yh) (l : List PV) (Ka : Loc → AH → Prop) (m : Loc) (σ : AH) : Prop := Ok (f l m σ) Ka
theorem katT (k : Ok (f l m σ) Ka) : Ok (dm f (.tup l) m σ) Ka := k
theorem kacons (k : Ok (a v m σ) (Kac f l Ka)) : Ok (aQ a f (v :: l) m σ) Ka := fh k
theorem kanil (k : Ka m σ) : Ok (ch [] m σ) Ka := go rfl k
end
section
variable {σ : AH} {Y Z G : List (Nat × AObj)} {A : SA} {s : StS} {E : EA} {e : EnS} {rules : List Rule}
theorem At.py (h : At σ (bm A s (dh E e A.S Y))) (p : Y.Perm Z) : At σ (bm A s (dh E e A.S Z)) := h.perm (p.append_left (bm A s (A7 E e A.S)))
theorem zO {S : Nat} : (G ++ bm A s (dh E e S Y)).Perm (bm A s (dh E e S (G ++ Y))) := by
  have : (G ++ (bm A s (A7 E e S) ++ Y)).Perm (bm A s (A7 E e S) ++ (G ++ Y)) := by rw [← List.append_assoc, ← List.append_assoc]; exact List.perm_append_comm.append_right _
  exact this
theorem At.park {P : List (Nat × AObj)} (h : At σ ((P ++ G) ++ bm A s (dh E e A.S Y))) : At σ (G ++ bm A s (dh E e A.S (P ++ Y))) := ((h.toE).py (by rw [← List.append_assoc]; exact List.perm_append_comm.append_right _)).ofE
theorem At.qS {Q R : List (Nat × AObj)} (h : At σ (Q ++ bm A s (G ++ R))) : At σ ((Q ++ G) ++ bm A s R) := by
  have p : (bm A s [] ++ (G ++ R)).Perm (G ++ (bm A s [] ++ R)) := by rw [← List.append_assoc, ← List.append_assoc]; exact List.perm_append_comm.append_right _
  rw [List.append_assoc]
  exact h.perm (p.append_left Q)
theorem EP.mono (p : EP e rules Y) (k : ∀ q ∈ Y, q ∈ Z) : EP e rules Z := ⟨p.pl, fun i r hr => let ⟨a, b, c, d, f⟩ := p.ra i r hr; ⟨a, b, c, k _ d, fun z => k _ (f z)⟩, p.ok, p.us, p.ul, p.rl, p.w, p.n, p.bn⟩
theorem PR.ep {s' : StS} {e' : EnS} {bb : Bool} (q : PR rules s s' e e' bb) (p : EP e rules Y) (p' : EP e' rules Z) : EP e' rules Y := p.re q.pr q.us p'.w p'.n p'.bn
end
section
variable {σ : AH} {K : KP} {Y G : List (Nat × AObj)} {A : SA} {s : StS} {E : EA} {e : EnS} {rules : List Rule} {q : Nat} {r : Rule}
noncomputable abbrev b8 (q : Nat) (rules : List Rule) : Nat × AObj := (q, .list (rules.map dC))
theorem dW {p : Nat × AObj} {S : Nat} (h : p ∈ Y) : p ∈ bm A s (dh E e S Y) := List.mem_append_right (bm A s (A7 E e S)) h
theorem xh (h : At σ (b8 q rules :: (G ++ bm A s (dh E e A.S Y)))) (ep : EP e rules Y) (rl : rules.length ≤ 9) (ok : r.Ok)
    (k : ∀ τ e' P, At τ (b8 q (rules ++ [r]) :: (G ++ bm A s (dh E e' A.S (P ++ Y)))) → EP e' (rules ++ [r]) (P ++ Y) → (∀ n, n ∈ e'.n ↔ n ∈ e.n ∨ n = rules.length) → K (.bool true) τ) : Ok (c6 [.obj E.E, .obj q, dC r] σ) K := by
  refine kf rfl (kB ?_)
  and_intros
  exists jf (h.get 0 rfl)
  refine gR h 0 rfl (by rw [List.length_map]; lia) (eh dC _ _) fun τ h => ?_
  have h : At τ (bm A s (dh E e A.S ((b8 q (rules ++ [r]) :: G) ++ Y))) := h.perm (zO (G := b8 q (rules ++ [r]) :: G))
  have fin : ∀ {P : List (Nat × AObj)} {τ : AH} {e' : EnS}, At τ (bm A s (dh E e' A.S (P ++ ((b8 q (rules ++ [r]) :: G) ++ Y)))) → EP e' (rules ++ [r]) (P ++ Y) → (∀ n, n ∈ e'.n ↔ n ∈ e.n ∨ n = rules.length) →
      K1 cO (fun v σ => K (.bool (decide ((rules.length : Int) = (match v with | .int n => n | _ => 0) - 1))) σ ∧ ∃ n, v = .int n) [.obj q] τ := fun {P τ e'} h ep' hn => by
    refine fN (h.mem (dW (List.mem_append_right _ (.head _)))) (by rw [List.length_map, List.length_append, List.length_singleton]; lia) ⟨?_, _, rfl⟩
    have e0 : decide ((rules.length : Int) = ((((rules ++ [r]).map dC).length : Nat) : Int) - 1) = true := decide_eq_true (by rw [List.length_map, List.length_append, List.length_singleton]; lia)
    show K (.bool (decide _)) _
    rw [e0]
    refine k τ e' P ?_ ep' hn
    refine At.ofE (G := b8 q (rules ++ [r]) :: G) (h.py ?_)
    rw [← List.append_assoc, ← List.append_assoc]
    exact List.perm_append_comm.append_right _
  have fin2 : ∀ {P : List (Nat × AObj)} {τ : AH} {e' : EnS} {m : Loc}, m "rules" = some (.obj q) → At τ (bm A s (dh E e' A.S (P ++ ((b8 q (rules ++ [r]) :: G) ++ Y)))) → EP e' (rules ++ [r]) (P ++ Y) → (∀ n, n ∈ e'.n ↔ n ∈ e.n ∨ n = rules.length) →
      K2 cz (e2 (c7 (· - ·)) (aD cO (aj (af "rules") ao)) (an (.int 1))) m K (.int rules.length) τ := fun {P τ e' m} m1 h ep' hn => by
    and_intros
    refine Ok.mono (fin h ep' hn) fun v σ ⟨q, n, ev⟩ => ?_
    subst ev
    and_intros
    exact q
  and_intros
  refine vE (iZ (fun ck => ?_) fun ck => ?_)
  · have hk : r.kd = .abs := by cases hh : r.kd <;> rw [hh] at ck <;> first | rfl | (exact absurd ck (by decide))
    and_intros
    exists b9 (h.get 6 rfl) rfl rfl
    refine y8 h fun p τ h => ?_
    have h : At τ ((p, .inst r.D (r.F (-1) 0)) :: bm A s (dh E e A.S ((b8 q (rules ++ [r]) :: G) ++ Y))) := by
      unfold Rule.D Rule.F; rw [hk]; exact h
    and_intros
    exact x5 h ep rl ok (fun n => absurd hk n) fun τ e' h ep' hn => fin2 rfl (P := [_]) h ep' hn
  · have hk : r.kd ≠ .abs := fun z => ck (by rw [z]; rfl)
    have ha := ok.a.ne.1
    have hb := ok.b.ne.1
    have made : ∀ {m : Loc} {p Ro : Nat} {τ : AH}, m "engine" = some (.obj E.E) → m "rules" = some (.obj q) → m "made" = some (.obj p) → At τ ((p, .inst r.D (r.F (-1) Ro)) :: (Ro, .list ([(r.a, r.x), (r.b, r.y)].map dZ)) :: bm A s (dh E e A.S ((b8 q (rules ++ [r]) :: G) ++ Y))) →
        Ok (am (bk (e2 cz (a9 "add" [(80, eZ)] (af "engine") (aj (af "made") ao)) (e2 (c7 (· - ·)) (aD cO (aj (af "rules") ao)) (an (.int 1))))) aB m τ) (Kf K) := fun {m p Ro τ} m1 m2 m3 h => by
      have h : At τ ((p, .inst r.D (r.F (-1) Ro)) :: bm A s (dh E e A.S ((Ro, .list ([(r.a, r.x), (r.b, r.y)].map dZ)) :: ((b8 q (rules ++ [r]) :: G) ++ Y)))) := h.perm ((zO (G := [_])).cons _)
      and_intros
      exists b9 (h.get 7 rfl) rfl rfl
      exact x5 h (ep.mono (Z := (Ro, .list ([(r.a, r.x), (r.b, r.y)].map dZ)) :: Y) fun _ => .tail _) rl ok (fun _ => .head _) fun τ e' h ep' hn => fin2 m2 (P := [_, _]) h ep' hn
    and_intros
    refine vE (iZ (fun ck2 => ?_) fun ck2 => ?_)
    · have hk2 : r.kd = .le := by cases hh : r.kd <;> rw [hh] at ck2 <;> first | rfl | (exact absurd ck2 (by decide))
      and_intros
      refine zW h ok.ne ha hb fun p Ro τ h => ?_
      refine kan (made (Ro := Ro) rfl rfl rfl ?_)
      unfold Rule.D Rule.F; rw [hk2]; exact h
    · have hk2 : r.kd = .ne := by cases hh : r.kd <;> rw [hh] at ck ck2 <;> first | rfl | (exact absurd rfl ck) | (exact absurd rfl ck2)
      and_intros
      refine AA h ok.ne ha hb fun p Ro τ h => ?_
      refine kan (made (Ro := Ro) rfl rfl rfl ?_)
      unfold Rule.D Rule.F; rw [hk2]; exact h
end
section
variable {σ : AH} {K : KP} {r : Rule} {v w : Int}
theorem uA (v a b : Int) (σ : AH) : yj σ (.int v) (.tup [.int a, .int b]) = some (decide (v = a) || decide (v = b)) := by
  have e : ∀ x y : Int, PyData.eqv (.int x) (.int y) = decide (y = x) := fun x y => by rw [zN]; exact decide_eq_decide.mpr eq_comm
  unfold yj
  rw [if_neg (show ¬ wH (.tup [.int a, .int b]) = true from Bool.false_ne_true), show deep σ 8 (.int v) = some (.int v) from rfl, show deep σ 8 (.tup [.int a, .int b]) = some (.tuple [.int a, .int b]) from rfl]
  show some (PyData.eqv (.int a) (.int v) || (PyData.eqv (.int b) (.int v) || false)) = _
  rw [e, e, Bool.or_false]
theorem Cy {a b : Int} (k : K (.bool (decide (v = a) || decide (v = b))) σ) : K2b ng (.int v) K (.tup [.int a, .int b]) σ := go (by unfold ng; rw [uA]; rfl) k
theorem BW (r : Rule) : nob (dC r) = true := rfl
theorem tO (hv : -1000 ≤ v ∧ v ≤ 1000) (hw : -1000 ≤ w ∧ w ≤ 1000) (σ : AH) : du [dC r, .int v, .int w] σ = some (.bool (r.R v w), σ) := by
  suffices z : Ok (eD [dC r, .int v, .int w] σN) fun x _ => x = .bool (r.R v w) by
    obtain ⟨x, τ, e, rfl⟩ := z
    exact rV (args := [dC r, .int v, .int w]) rfl e rfl σ
  unfold Rule.R
  refine kf rfl (kB ?_)
  and_intros
  refine vE ?_
  have m0 : (0 : Int) - w = -w := Int.zero_sub w
  cases hk : r.kd with
  | abs =>
    refine iZ (fun _ => ?_) fun n => absurd rfl n
    and_intros
    refine iZ (fun c => ?_) fun c => ?_
    · and_intros
      refine Cy ?_
      unfold kR
      rw [m0, decide_eq_true c]; rfl
    · and_intros
      unfold kR
      rw [decide_eq_false c]; rfl
  | le =>
    refine iZ (fun n => absurd n (by decide)) fun _ => ?_
    and_intros
    refine vE (iZ (fun _ => ?_) fun n => absurd rfl n)
    and_intros
    exists sv hv, sv hw
    exact rfl
  | ne =>
    refine iZ (fun n => absurd n (by decide)) fun _ => ?_
    and_intros
    refine vE (iZ (fun n => absurd n (by decide)) fun _ => ?_)
    and_intros
    exists sv hv, sv hw
    exact rfl
@[reducible] noncomputable def Ksd (xs : List String) (K : KP) (l : List PV) (σ : AH) : Prop := K (.obj σ.next) (σ.new (.sdict (mR [] (xs.zip l))))
theorem CR {xs : List String} {l : LF} {m : Loc} (k : Ok (l m σ) (Ksd xs K)) : Ok (qx xs l m σ) K := fh (k.mono fun _ _ q => go rfl q)
theorem wQ {sg : String} {x k v : Int} (hs : sg = "<=" ∨ sg = ">=" ∨ sg = "=" ∨ sg = "!=") (σ : AH) : fO [i8 x sg k, .int v] σ = some (.bool (ob sg k v), σ) := by
  suffices z : Ok (hM [i8 x sg k, .int v] σN) fun y _ => y = .bool (ob sg k v) by
    obtain ⟨y, τ, e, rfl⟩ := z
    exact rV (args := [i8 x sg k, .int v]) rfl e rfl σ
  refine kf rfl (kB ?_)
  and_intros
  refine CR ?_
  and_intros
  rcases hs with rfl | rfl | rfl | rfl <;> exact Bn ((At.new (L := []) ⟨List.nodup_nil, fun _ h => nomatch h⟩ _).get 0 rfl) rfl rfl
end
noncomputable def yD (a b : Int) : List Int := (List.range (b - a).toNat).map fun (i : Nat) => a + i
theorem yH (a b : Int) : gJ a b = (yD a b).map .int := by unfold gJ yD; rw [List.map_map]; rfl
theorem xm : ((gM base6).all fun l => decide ((gc l).flatMap (fun p => yD p.1 (p.2 + 1)) = l) && (gc l).all fun p => decide (-2 ≤ p.1 ∧ p.1 ≤ p.2 ∧ p.2 ≤ 3)) = true := by kernel_rfl
section
variable {σ : AH} {A : SA} {s : StS} {R : List (Nat × AObj)} {K : KP} {x : Nat} {l : List Int} {L : List (Nat × AObj)}
theorem Bb {a b : Int} (k : K (.rng a b) σ) : K1 ee K [.int a, .int b] σ := go rfl k
theorem pI {b : Int} (k : K (.rng 0 b) σ) : K1 ee K [.int b] σ := go rfl k
noncomputable abbrev Db : CF := dH (dR [] (gU (a9 "dom" [(393, cj)] (af "desk") (aj (af "x") ao))) (dm (aQ (aF "low") (aQ (aF "high") ch))) eN (uk (gU (aD ee (aj (af "low") (aj (e2 bM (af "high") (an (.int 1))) ao)))) (aF "v") eN (dH (af "v"))))
theorem zn {m : Loc} (h : At σ L) (dl : Dom l) (k : ∀ i τ, At τ (bH i l :: L) → K (.obj i) τ) : K1 iC (pD [] (dm (aQ (aF "low") (aQ (aF "high") ch))) eN (uk (gU (aD ee (aj (af "low") (aj (e2 bM (af "high") (an (.int 1))) ao)))) (aF "v") eN (dH (af "v"))) m K) (pl l) σ := by
  obtain ⟨e1, e2⟩ := Bool.and_eq_true_iff.mp (dg xm dl)
  have e1 : (gc l).flatMap (fun p => yD p.1 (p.2 + 1)) = l := of_decide_eq_true e1
  have e3 : (gc l).flatMap (fun p => gJ p.1 (p.2 + 1)) = l.map .int := by
    conv => rhs; rw [← e1, List.map_flatMap]
    exact congrArg (fun f => (gc l).flatMap f) (funext fun p => yH _ _)
  have l6 := dl.len
  refine Ch (qp (L := gc l) (G := cg) (fun p => gJ p.1 (p.2 + 1)) (fun _ τ => τ = σ) (fun _ _ _ => qr _ _) rfl (by rw [e3, List.length_map]; lia) (fun p hp ys m τ et hz => ?_) fun m τ et => ?_)
  · subst et
    have hb := of_decide_eq_true (List.all_eq_true.mp e2 p hp)
    have w : (gJ p.1 (p.2 + 1)).length ≤ 6 := by unfold gJ; rw [List.length_map, List.length_range]; lia
    show Ok (dm _ (.tup [.int p.1, .int p.2]) m τ) _
    and_intros
    refine Bb (A9 ⟨decide_eq_true (by lia), decide_eq_true (by lia)⟩ (t7 (L := gJ p.1 (p.2 + 1)) (G := id) (fun v => [v]) (fun _ τ' => τ' = τ) (fun _ _ _ => by rw [List.map_id]; exact qr _ _) rfl (by rw [List.flatMap_singleton']; lia) (fun v hv zs m τ' et hz => ?_) fun m τ' et => ?_))
    · subst et
      and_intros
      refine zY (yP hz) ?_
      and_intros
      exact ⟨rfl, rfl⟩
    · rw [List.flatMap_singleton']
      exact ⟨et, rfl⟩
  · subst et
    rw [e3]
    exact k _ _ (h.new _)
end
section
variable {σ : AH} {A : SA} {s : StS} {R : List (Nat × AObj)} {K : KP}
theorem zc (h : At σ (bm A s R)) (b : SB s) (k : ∀ P o τ, At τ (P ++ bm A s R) → Lot P o s.dom → K (.obj o) τ) : Ok (cU [.obj A.S] σ) K := by
  refine kf rfl (kB ?_)
  and_intros
  refine pI (A9 ⟨rfl, rfl⟩ ?_)
  refine B8 (l := [0, 1, 2, 3].map fun (i : Nat) => PV.int i) (fun j ys m τ => m "desk" = some (.obj A.S) ∧ ∃ P ids, At τ (P ++ bm A s R) ∧ ys = ids.map PV.obj ∧ ids.length = j ∧ All2 (fun i l => bH i l ∈ P) ids (s.dom.take j)) (fun _ _ _ _ _ => qr _ _) ⟨rfl, [], [], h, rfl, rfl, .nil⟩ (fun j v ej ys m τ zz => ?_) fun ys m τ zz => ?_
  · obtain ⟨m1, P, ids, h, e1, e2, r⟩ := zz
    rw [List.getElem?_map] at ej
    obtain ⟨i, hi, rfl⟩ := Option.map_eq_some_iff.mp ej
    have j4 : j < 4 := (List.getElem?_eq_some_iff.mp hi).1
    obtain rfl : j = i := by
      match j, hi with
      | 0, hi => exact Option.some.inj hi
      | 1, hi => exact Option.some.inj hi
      | 2, hi => exact Option.some.inj hi
      | 3, hi => exact Option.some.inj hi
    obtain ⟨l, hx⟩ : ∃ l, s.dom[j]? = some l := ⟨_, List.getElem?_eq_getElem (b.dl ▸ j4 : j < s.dom.length)⟩
    have yl : ys.length ≤ 100000 := by rw [e1, List.length_map]; lia
    and_intros
    refine zY yl ?_
    and_intros
    exists b9 (h.toS.get 0 rfl) rfl rfl
    refine ij h.toS b hx (zn h (b.at hx) fun i τ h => ?_)
    refine ⟨m1, bH i l :: P, ids ++ [i], h, ?_, by rw [List.length_append, List.length_singleton, e2], ?_⟩
    · rw [e1, List.map_append]; rfl
    · rw [List.take_succ, hx]
      exact (r.mono fun _ _ q => .tail _ q).append (.cons (.head _) .nil)
  · obtain ⟨_, P, ids, h, e1, e2, r⟩ := zz
    refine go (if_pos (by rw [e1, List.length_map, e2]; exact Nat.le_of_ble_eq_true rfl)) ?_
    rw [e1]
    refine k ((τ.next, .list (ids.map .obj)) :: P) _ _ (h.new _) ⟨ids, .head _, ?_⟩
    rw [List.take_of_length_le (by rw [b.dl]; exact Nat.le_of_ble_eq_true rfl)] at r
    exact r.mono fun _ _ q => .tail _ q
end
noncomputable def GL (M : List (List Int)) : Prop := M.length = 4 ∧ ∀ l ∈ M, Dom l ∧ l.length ≤ 3
theorem GL.at {M : List (List Int)} (g : GL M) {x : Nat} (hx : x < 4) : ∃ l, M[x]? = some l ∧ Dom l ∧ l.length ≤ 3 :=
  let q : x < M.length := g.1 ▸ hx
  ⟨_, List.getElem?_eq_getElem q, g.2 _ (List.getElem_mem q)⟩
noncomputable def eU (R : Int → Int → Bool) (lx ly : List Int) : List (Int × Int) := lx.flatMap fun v => (ly.filter (R v)).map fun w => (v, w)
theorem mem_pairs {R : Int → Int → Bool} {lx ly : List Int} {p : Int × Int} : p ∈ eU R lx ly ↔ p.1 ∈ lx ∧ p.2 ∈ ly ∧ R p.1 p.2 = true := by
  unfold eU
  rw [List.mem_flatMap]
  constructor
  · rintro ⟨v, hv, h⟩
    obtain ⟨w, hw, rfl⟩ := List.mem_map.mp h
    exact ⟨hv, List.mem_filter.mp hw⟩
  · exact fun h => ⟨p.1, h.1, List.mem_map.mpr ⟨p.2, List.mem_filter.mpr h.2, rfl⟩⟩
theorem rD {α β : Type} {f : α → List β} {n : Nat} (h : ∀ v, (f v).length ≤ n) : ∀ l : List α, (l.flatMap f).length ≤ l.length * n
  | [] => Nat.zero_le _
  | v :: l => by
    rw [List.flatMap_cons, List.length_append, List.length_cons, Nat.succ_mul, Nat.add_comm]
    exact Nat.add_le_add (rD h l) (h v)
theorem pd {R : Int → Int → Bool} {lx ly : List Int} (hx : lx.length ≤ 3) (hy : ly.length ≤ 3) : (eU R lx ly).length ≤ 9 :=
  Nat.le_trans (rD (n := 3) (fun v => by rw [List.length_map]; exact Nat.le_trans (List.length_filter_le _ _) hy) lx) (Nat.mul_le_mul_right 3 hx)
theorem y6 {R : Int → Int → Bool} {lx ly : List Int} (v : Int) : v ∈ (eU R lx ly).map (·.1) ↔ v ∈ lx.filter fun v => ly.any fun w => R v w := by
  rw [List.mem_map, List.mem_filter, any_iff]
  exact ⟨fun ⟨p, hp, e⟩ => let q := mem_pairs.mp hp; e ▸ ⟨q.1, p.2, q.2⟩, fun ⟨h, w, q⟩ => ⟨(v, w), mem_pairs.mpr ⟨h, q⟩, rfl⟩⟩
theorem yZ {R : Int → Int → Bool} {lx ly : List Int} (w : Int) : w ∈ (eU R lx ly).map (·.2) ↔ w ∈ ly.filter fun w => lx.any fun v => R v w := by
  rw [List.mem_map, List.mem_filter, any_iff]
  exact ⟨fun ⟨p, hp, e⟩ => let q := mem_pairs.mp hp; e ▸ ⟨q.2.1, p.1, q.1, q.2.2⟩, fun ⟨h, v, q⟩ => ⟨(v, w), mem_pairs.mpr ⟨q.1, h, q.2⟩, rfl⟩⟩
theorem mM {α β : Type} (p : α → Bool) (f : α → β) : ∀ l : List α, (l.flatMap fun v => if p v = true then [f v] else []) = (l.filter p).map f
  | [] => rfl
  | v :: l => by
    rw [List.flatMap_cons, mM p f l, List.filter_cons]
    split <;> rfl
section
variable {σ : AH} {K : KP} {Ks : KZ} {L Z : List (Nat × AObj)} {m : Loc} {r : Rule} {lx ly : List Int} {M : List (List Int)} {ids : List Nat} {o : Nat}
noncomputable abbrev B4 : TF := bL (aD du (aj (af "rule") (aj (af "v") (aj (af "w") ao))))
noncomputable abbrev zp : CF := uk (gU (e2 aK (af "lots") (af "y"))) (aF "w") B4 (dH (eL aX (aj (af "v") (aj (af "w") ao))))
theorem x9 {jy ix iy : Nat} (h : At σ L) (ho : (o, AObj.list (ids.map .obj)) ∈ L) (dx : Dom lx) (dy : Dom ly) (x3 : lx.length ≤ 3) (y3 : ly.length ≤ 3) (gx : bH ix lx ∈ L) (gy : bH iy ly ∈ L) (ey : ids[jy]? = some iy) (y4 : jy ≤ 1000)
    (m1 : m "lots" = some (.obj o)) (m2 : m "rule" = some (dC r)) (m3 : m "y" = some (.int jy)) (k : ∀ i τ, At τ ((i, .list ((eU r.R lx ly).map cg)) :: L) → K (.obj i) τ) : K1 iC (pD ["lots", "rule", "y"] (aF "v") eN zp m K) (.obj ix) σ := by
  have el : (lx.flatMap fun v => (ly.filter (r.R v)).map fun w => cg (v, w)) = (eU r.R lx ly).map cg := by
    unfold eU
    rw [List.map_flatMap]
    exact congrArg (fun f => lx.flatMap f) (funext fun v => by rw [List.map_map]; rfl)
  have pl := pd (R := r.R) x3 y3
  refine wq (h.mem gx) (qp (L := lx) (G := PV.int) (fun v => (ly.filter (r.R v)).map fun w => cg (v, w)) (fun m τ => τ = σ ∧ m "lots" = some (.obj o) ∧ m "rule" = some (dC r) ∧ m "y" = some (.int jy)) (fun _ _ p => mq (p.1 ▸ h.mem gx)) ⟨rfl, m1, m2, m3⟩ (by rw [el, List.length_map]; lia) (fun v hv ys m τ p hz => ?_) fun m τ p => ?_)
  · obtain ⟨et, m1, m2, m3⟩ := p
    subst et
    have vb := dx.mem hv
    and_intros
    exists uv (h.mem ho) (gI ey) (by lia) rfl
    refine wq (h.mem gy) (t7 (L := ly) (G := PV.int) (fun w => if r.R v w = true then [cg (v, w)] else []) (fun m τ' => τ' = τ ∧ m "lots" = some (.obj o) ∧ m "rule" = some (dC r) ∧ m "y" = some (.int jy) ∧ m "v" = some (.int v)) (fun _ _ p => mq (p.1 ▸ h.mem gy)) ⟨rfl, m1, m2, m3, rfl⟩ (by rw [mM]; exact hz) (fun w hw zs m τ' p hz => ?_) fun m τ' p => ?_)
    · obtain ⟨et, m1, m2, m3, m4⟩ := p
      subst et
      have wb := dy.mem hw
      and_intros
      refine .eq (tO (by lia) (by lia) _) ?_
      cases hb : r.R v w with
      | true =>
        refine zY (yP hz) ?_
        and_intros
        exact ⟨⟨rfl, m1, m2, m3, m4⟩, rfl⟩
      | false =>
        rw [if_neg Bool.false_ne_true, List.append_nil]
        exact ⟨⟨rfl, m1, m2, m3, m4⟩, rfl⟩
    · rw [mM]
      exact ⟨⟨p.1, p.2.1, p.2.2.1, p.2.2.2.1⟩, rfl⟩
  · rw [el, p.1]
    exact k _ _ (h.new _)
end
section
variable {σ : AH} {K : KP} {Ks : KZ} {L Z : List (Nat × AObj)} {m : Loc} {r : Rule} {lx ly : List Int} {M : List (List Int)} {ids : List Nat} {o : Nat}
theorem CJ {i j : Nat} {d : List (Int × Int)} (gi : σ.get i = some (.list (d.map cg))) (gj : σ.get j = some (.list [])) (yes : d = [] → K (.bool true) σ) (no : d ≠ [] → K (.bool false) σ) : K2b cz (.obj i) K (.obj j) σ := by
  obtain ⟨e, h1, h2⟩ := ic σ 5 d
  have e1 : deep σ 8 (.obj i) = some (.list e) := by
    show gm (σ.get i) _ = _
    rw [gi]
    show (eP (deep σ 7) (d.map cg)).map PyData.list = _
    rw [h1]; rfl
  have e2 : deep σ 8 (.obj j) = some (.list []) := by
    show gm (σ.get j) _ = _
    rw [gj]; rfl
  cases d with
  | nil =>
    have : e = [] := Option.some.inj (h1.symm.trans rfl)
    subst this
    exact vZ e1 e2 (by simp [PyData.eqv, PyData.eqvAll]) (yes rfl)
  | cons p d =>
    cases e with
    | nil => exact nomatch h2 rfl
    | cons a e => exact vZ e1 e2 (by simp [PyData.eqv, PyData.eqvAll]) (no (List.cons_ne_nil _ _))
theorem sG {α β : Type} (f : α → β) : ∀ l : List α, (l.flatMap fun v => [f v]) = l.map f
  | [] => rfl
  | v :: l => by rw [List.flatMap_cons, sG f l]; rfl
theorem su {F : Int × Int → Int} {x : String} {i : Nat} {d : List (Int × Int)} (h : At σ L) (gi : (i, AObj.list (d.map cg)) ∈ L) (hd : d.length ≤ 9) (hx : ∀ (n : Loc) (p : Int × Int), ((n.put "v" (.int p.1)).put "w" (.int p.2)) x = some (.int (F p))) (k : ∀ j τ, At τ (bH j (d.map F) :: L) → K (.obj j) τ) :
    K1 iC (pD [] (dm (aQ (aF "v") (aQ (aF "w") ch))) eN (dH (af x)) m K) (.obj i) σ := by
  have el : d.flatMap (fun p => [PV.int (F p)]) = (d.map F).map .int := by rw [List.map_map]; exact sG _ d
  refine wq (h.mem gi) (qp (L := d) (G := cg) (fun p => [.int (F p)]) (fun _ τ => τ = σ) (fun _ _ e => mq (e ▸ h.mem gi)) rfl (by rw [el, List.length_map, List.length_map]; lia) (fun p _ ys m τ et hz => ?_) fun m τ et => ?_)
  · subst et
    show Ok (dm _ (.tup [.int p.1, .int p.2]) m τ) _
    and_intros
    exact zY (yP hz) (kn (hx _ p) ⟨rfl, rfl⟩)
  · subst et
    rw [el]
    exact k _ _ (h.new _)
noncomputable abbrev Bz (x : String) : EF := e1 cX (dR [] (gU (af "pairs")) (dm (aQ (aF "v") (aQ (aF "w") ch))) eN (dH (af x)))
noncomputable abbrev vk : SF := (am (a6 (eL aX (aj (e2 aK (af "rule") (an (.int 2))) (aj (e2 aK (af "rule") (an (.int 4))) ao))) (dm (aQ (aF "x") (aQ (aF "y") ch)))) (am (a6 (dR ["lots", "rule", "y"] (gU (e2 aK (af "lots") (af "x"))) (aF "v") eN zp) (aF "pairs")) (am (df (bL (e2 cz (af "pairs") (eL bK ao))) (am (bk (an .none)) aB) aB) (am (a6 (eL aX (aj (Bz "v") (aj (Bz "w") ao))) (dm (aQ (fG (af "lots") (af "x")) (aQ (fG (af "lots") (af "y")) ch)))) aB))))
theorem sU {W : List (Nat × AObj)} (h : At σ ((o, .list (ids.map .obj)) :: Z)) (hW : ∀ p ∈ W, p ∈ Z) (rr : All2 (fun i l => bH i l ∈ W) ids M) (g : GL M) (ok : r.Ok) (hx : M[r.x]? = some lx) (hy : M[r.y]? = some ly) (m1 : m "lots" = some (.obj o)) (m2 : m "rule" = some (dC r))
    (no : (∀ v w, bG M r.x v → bG M r.y w → r.R v w = false) → ∀ P m τ, At τ (P ++ ((o, .list (ids.map .obj)) :: Z)) → Ks (.ret .none, m) τ)
    (yes : ∀ P ids' x y z τ, At τ ((o, .list (ids'.map .obj)) :: (P ++ Z)) → All2 (fun i l => bH i l ∈ P ++ W) ids' (fT r.R r.x r.y lx ly M) → (∃ v w, bG M r.x v ∧ bG M r.y w ∧ r.R v w = true) → Ks (.next, ((m.put "x" x).put "y" y).put "pairs" z) τ) : Ok (vk m σ) Ks := by
  obtain ⟨ix, ex, gx⟩ := rr.get' hx
  obtain ⟨iy, ey, gy⟩ := rr.get' hy
  obtain ⟨dx, x3⟩ := g.2 lx (List.mem_of_getElem? hx)
  obtain ⟨dy, y3⟩ := g.2 ly (List.mem_of_getElem? hy)
  have rx := ok.x
  have ry := ok.y
  have pl := pd (R := r.R) x3 y3
  have il : ids.length = 4 := rr.length.trans g.1
  and_intros
  exists uv (h.get 0 rfl) (gI ex) (by lia) rfl
  refine x9 (jy := r.y) h (.head _) dx dy x3 y3 (.tail _ (hW _ gx)) (.tail _ (hW _ gy)) ey (by lia) m1 m2 rfl fun ip τ h => ?_
  and_intros
  refine dL h (Nat.zero_le _) fun ie τ h => ?_
  refine CJ (h.get 1 rfl) (h.get 0 rfl) (fun c => ?_) fun c => ?_
  · and_intros
    refine no (fun v w hv hw => ?_) [_, _] _ _ h
    cases hb : r.R v w with
    | false => rfl
    | true =>
      have : (v, w) ∈ eU r.R lx ly := mem_pairs.mpr ⟨(dc hx v).mp hv, (dc hy w).mp hw, hb⟩
      rw [c] at this; cases this
  · and_intros
    refine su (F := (·.1)) (x := "v") h (.tail _ (.head _)) pl (fun _ _ => rfl) fun i1 τ h => ?_
    refine wA h (.head _) (by rw [List.length_map]; lia) (dx.filter _) (Nat.le_trans (List.length_filter_le _ _) x3) y6 fun s1 τ h => ?_
    and_intros
    refine su (F := (·.2)) (x := "w") h (.tail _ (.tail _ (.tail _ (.head _)))) pl (fun _ _ => rfl) fun i2 τ h => ?_
    refine wA h (.head _) (by rw [List.length_map]; lia) (dy.filter _) (Nat.le_trans (List.length_filter_le _ _) y3) yZ fun s2 τ h => ?_
    and_intros
    refine zi h 6 rfl (y := r.x) ⟨gN (by lia), eS (by rw [List.length_map]; lia)⟩ List.map_set.symm fun τ h => ?_
    and_intros
    refine zi h 6 rfl (y := r.y) ⟨gN (by lia), eS (by rw [List.length_map, List.length_set]; lia)⟩ List.map_set.symm fun τ h => ?_
    and_intros
    obtain ⟨P, hP, h1, h2⟩ : ∃ P, At τ ((o, .list (((ids.set r.x s1).set r.y s2).map .obj)) :: (P ++ Z)) ∧ bH s1 (lx.filter fun v => ly.any fun w => r.R v w) ∈ P ∧ bH s2 (ly.filter fun w => lx.any fun v => r.R v w) ∈ P :=
      ⟨[_, _, _, _, _, _], h.perm (List.perm_middle (l₁ := [_, _, _, _, _, _])), .tail _ (.tail _ (.head _)), .head _⟩
    refine yes P _ _ _ _ τ hP ?_ ?_
    · exact ((rr.mono (R' := fun i l => bH i l ∈ P ++ W) fun _ _ q => List.mem_append_right _ q).set (List.mem_append_left _ h1) r.x).set (List.mem_append_left _ h2) r.y
    · cases hd : eU r.R lx ly with
      | nil => exact absurd hd c
      | cons p d =>
        have q := mem_pairs.mp (hd ▸ List.Mem.head d : p ∈ eU r.R lx ly)
        exact ⟨p.1, p.2, (dc hx _).mpr q.1, (dc hy _).mpr q.2.1, q.2.2⟩
end
structure DI (rules : List Rule) (L0 M : List (List Int)) : Prop where
  g : GL M
  f : Full (bG M)
  sub : ∀ x v, bG M x v → bG L0 x v
  big : ∀ P, jT rules P → (∀ x v, P x v → bG L0 x v) → ∀ x v, P x v → bG M x v
noncomputable def xr (rules : List Rule) (L0 : List (List Int)) : Prop := ∀ P, jT rules P → (∀ x v, P x v → bG L0 x v) → ¬ Full P
noncomputable def uc (rules : List Rule) (L0 M : List (List Int)) : Prop := DI rules L0 M ∧ ∀ r ∈ rules, Fix r (bG M)
theorem GL.set {M : List (List Int)} (g : GL M) (x : Nat) {l : List Int} (h : Dom l ∧ l.length ≤ 3) : GL (M.set x l) :=
  ⟨by rw [List.length_set]; exact g.1, fun e he => (List.mem_or_eq_of_mem_set he).elim (g.2 e) fun q => q ▸ h⟩
theorem tS {M : List (List Int)} {x : Nat} {l : List Int} (h : M[x]? = some l) (p : Int → Bool) : M.set x (l.filter p) = M ∨ sz (M.set x (l.filter p)) < sz M := by
  have e := qI M x l (l.filter p) h
  have le := List.length_filter_le p l
  by_cases c : (l.filter p).length = l.length
  · rw [List.filter_sublist.eq_of_length c]
    exact .inl (eW h)
  · exact .inr (by lia)
theorem DI.step {rules : List Rule} {L0 M : List (List Int)} {r : Rule} {lx ly : List Int} (d : DI rules L0 M) (hr : r ∈ rules) (ok : r.Ok) (hx : M[r.x]? = some lx) (hy : M[r.y]? = some ly) (ne : ∃ v w, bG M r.x v ∧ bG M r.y w ∧ r.R v w = true) :
    DI rules L0 (fT r.R r.x r.y lx ly M) ∧ (fT r.R r.x r.y lx ly M = M ∨ sz (fT r.R r.x r.y lx ly M) < sz M) ∧ Fix r (bG (fT r.R r.x r.y lx ly M)) := by
  have rv := rh ok.ne hx hy
  obtain ⟨dx, x3⟩ := d.g.2 lx (List.mem_of_getElem? hx)
  obtain ⟨dy, y3⟩ := d.g.2 ly (List.mem_of_getElem? hy)
  refine ⟨⟨(d.g.set _ ⟨dx.filter _, Nat.le_trans (List.length_filter_le _ _) x3⟩).set _ ⟨dy.filter _, Nat.le_trans (List.length_filter_le _ _) y3⟩, fun x h4 => ?_, fun x v q => d.sub x v (rv.sub q), fun P c hP x v q => rv.keep (c r hr) (d.big P c hP) q⟩, ?_, rv.fix⟩
  · obtain ⟨v, w, h1, h2, h3⟩ := ne
    by_cases c : x = r.x
    · subst c; exact ⟨v, (rv.hx v).mpr ⟨h1, w, h2, h3⟩⟩
    · by_cases c2 : x = r.y
      · subst c2; exact ⟨w, (rv.hy w).mpr ⟨h2, v, h1, h3⟩⟩
      · obtain ⟨u, l, e, q⟩ := d.f x h4
        exact ⟨u, l, (rv.ho x c c2).trans e, q⟩
  · unfold fT
    have hy2 : (M.set r.x (lx.filter fun v => ly.any fun w => r.R v w))[r.y]? = some ly := by rw [List.getElem?_set_ne ok.ne]; exact hy
    rcases tS hx (fun v => ly.any fun w => r.R v w) with q | q
    · rw [q]
      exact tS hy _
    · refine .inr ?_
      rcases tS hy2 (fun w => lx.any fun v => r.R v w) with z | z
      · rw [z]; exact q
      · exact Nat.lt_trans z q
theorem Full.none {rules : List Rule} {L0 M : List (List Int)} {r : Rule} (d : DI rules L0 M) (hr : r ∈ rules) (ok : r.Ok) (no : ∀ v w, bG M r.x v → bG M r.y w → r.R v w = false) : xr rules L0 := fun P c hP => Fix.none (c r hr) ok.x (d.big P c hP) no
section
variable {σ : AH} {K : KP} {L Y : List (Nat × AObj)} {rules : List Rule} {L0 : List (List Int)} {o q : Nat}
theorem tM {i : Nat} {l : List PV} (h : At σ L) (e : (i, AObj.list l) ∈ L) (hl : l.length ≤ 100000) (k : ∀ j τ, At τ ((j, .list l) :: L) → K (.obj j) τ) : K1 lY K [.obj i] σ := go (by unfold lY; dsimp only [w1]; rw [ew (h.mem e)]; exact if_pos hl) (k _ _ (h.new _))
noncomputable def BF (L Y : List (Nat × AObj)) (rules : List Rule) (L0 : List (List Int)) (q o1 : Nat) (n : Nat) (m : Loc) (τ : AH) : Prop :=
  m "lots" = some (.obj o1) ∧ m "rules" = some (.obj q) ∧ ∃ P M ids, At τ ((o1, .list (ids.map .obj)) :: (P ++ L)) ∧ All2 (fun i l => bH i l ∈ P ++ Y) ids M ∧ DI rules L0 M ∧
    ((m "before" = some .none ∧ n = 2 * sz M + 1) ∨ ∃ ob B, m "before" = some (.obj ob) ∧ Lot (P ++ Y) ob B ∧ ((B = M ∧ ∀ r ∈ rules, Fix r (bG M)) ∨ (B ≠ M ∧ n = 2 * sz M + 1)))
noncomputable def Cu (L Y : List (Nat × AObj)) (rules : List Rule) (L0 M0 : List (List Int)) (q o1 ob j : Nat) (m : Loc) (τ : AH) : Prop :=
  m "lots" = some (.obj o1) ∧ m "rules" = some (.obj q) ∧ m "before" = some (.obj ob) ∧ ∃ P M ids, At τ ((o1, .list (ids.map .obj)) :: (P ++ L)) ∧ All2 (fun i l => bH i l ∈ P ++ Y) ids M ∧ DI rules L0 M ∧ Lot (P ++ Y) ob M0 ∧
    ((M = M0 ∧ ∀ (i : Nat) (r : Rule), i < j → rules[i]? = some r → Fix r (bG M0)) ∨ sz M < sz M0)
theorem Af (h : At σ L) (hq : b8 q rules ∈ L) (hY : ∀ p ∈ Y, p ∈ L) (ho : Lot Y o L0) (g : GL L0) (f : Full (bG L0)) (okr : ∀ r ∈ rules, r.Ok) (no : xr rules L0 → ∀ P τ, At τ (P ++ L) → K .none τ) (yes : ∀ P o' M τ, At τ (P ++ L) → Lot (P ++ Y) o' M → uc rules L0 M → K (.obj o') τ) : Ok (jY [.obj o, .obj q] σ) K := by
  obtain ⟨ids, ho, rr⟩ := ho
  refine kf rfl (kB ?_)
  and_intros
  refine tM h (hY _ ho) (by rw [List.length_map, rr.length, g.1]; exact Nat.le_of_ble_eq_true rfl) fun o1 τ h => ?_
  and_intros
  refine CC (BF L Y rules L0 q o1) (n := 2 * sz L0 + 1) ⟨rfl, rfl, [], L0, ids, h, rr, ⟨g, f, fun _ _ q => q, fun _ _ h => h⟩, .inl ⟨rfl, rfl⟩⟩ fun n m τ zz => ?_
  obtain ⟨m1, m2, P, M, ids, h, rr, d, hb⟩ := zz
  have inL : ∀ {P : List (Nat × AObj)}, ∀ p ∈ P ++ Y, p ∈ P ++ L := fun {P} p hp => (List.mem_append.mp hp).elim (List.mem_append_left _) fun z => List.mem_append_right _ (hY p z)
  have lotM : Lot ((o1, .list (ids.map .obj)) :: (P ++ Y)) o1 M := ⟨ids, .head _, rr.mono fun _ _ q => .tail _ q⟩
  have lotL : Lot ((o1, .list (ids.map .obj)) :: (P ++ L)) o1 M := ⟨ids, .head _, rr.mono fun _ _ q => .tail _ (inL _ q)⟩
  have body : n = 2 * sz M + 1 → ∀ m, m "lots" = some (.obj o1) → m "rules" = some (.obj q) → Ok ((am (a6 (aD lY (aj (af "lots") ao)) (aF "before")) (am (gt (gU (af "rules")) (aF "rule") vk aB) aB)) m τ) (Klp (fun m σ => ∃ n', n' < n ∧ BF L Y rules L0 q o1 n' m σ) (Kq (am (bk (af "lots")) aB) (Kf K))) := fun hn m m1 m2 => by
    and_intros
    refine tM h (.head _) (by rw [List.length_map, rr.length, d.g.1]; exact Nat.le_of_ble_eq_true rfl) fun ob τ h => ?_
    have h : At τ ((o1, .list (ids.map .obj)) :: (((ob, .list (ids.map .obj)) :: P) ++ L)) := h.perm (.swap _ _ _)
    have up : ∀ p ∈ P ++ Y, p ∈ ((ob, AObj.list (ids.map .obj)) :: P) ++ Y := fun _ => .tail _
    and_intros
    refine wq (h.mem (.tail _ (List.mem_append_right _ hq))) (gD (Cu L Y rules L0 M q o1 ob) (fun j m τ zz => by obtain ⟨_, _, _, _, _, _, h, _⟩ := zz; exact mq (h.mem (.tail _ (List.mem_append_right _ hq)))) ⟨m1, m2, rfl, _, M, ids, h, rr.mono fun _ _ => up _, d, ⟨ids, .head _, rr.mono fun _ _ => up _⟩, .inl ⟨rfl, fun i r hi => absurd hi (Nat.not_lt_zero _)⟩⟩ (fun j v ej m τ zz => ?_) fun m τ zz => ?_)
    · obtain ⟨m1, m2, m3, P, N, ids, h, rr, d, lb, hj⟩ := zz
      rw [List.getElem?_map] at ej
      obtain ⟨r, hr, rfl⟩ := Option.map_eq_some_iff.mp ej
      have mr := List.mem_of_getElem? hr
      obtain ⟨lx, hx, _⟩ := d.g.at (okr r mr).x
      obtain ⟨ly, hy, _⟩ := d.g.at (okr r mr).y
      refine kan (sU h inL rr d.g (okr r mr) hx hy m1 rfl (fun nn P' m τ h => ?_) fun P' ids' x y z τ h rr' ne => ?_)
      · refine no (Full.none d mr (okr r mr) nn) (P' ++ (o1, .list (ids.map .obj)) :: P) τ ?_
        rw [List.append_assoc]; exact h
      · obtain ⟨d', sd, fx⟩ := d.step mr (okr r mr) hx hy ne
        rw [← List.append_assoc] at h rr'
        refine ⟨m1, m2, m3, P' ++ P, _, ids', h, rr', d', lb.sub fun p hp => ?_, ?_⟩
        · rw [List.append_assoc]; exact List.mem_append_right _ hp
        · rcases hj with ⟨eM, hj⟩ | hj
          · refine sd.imp (fun e => ⟨e.trans eM, fun i r' hi hr' => ?_⟩) fun z => eM ▸ z
            rcases Nat.lt_succ_iff_lt_or_eq.mp hi with q | rfl
            · exact hj i r' q hr'
            · rw [hr] at hr'; cases hr'; rw [e, eM] at fx; exact fx
          · exact .inr (sd.elim (fun e => Nat.lt_of_le_of_lt (Nat.le_of_eq (congrArg sz e)) hj) fun z => Nat.lt_trans z hj)
    · obtain ⟨m1, m2, m3, P, N, ids, h, rr, d, lb, hj⟩ := zz
      and_intros
      rw [List.length_map] at hj
      rcases hj with ⟨eM, hj⟩ | hj
      · exact ⟨2 * sz N, hn ▸ eM ▸ Nat.lt_succ_self _, m1, m2, P, N, ids, h, rr, d, .inr ⟨ob, N, m3, eM ▸ lb, .inl ⟨rfl, fun r hr => let ⟨i, hi⟩ := List.getElem?_of_mem hr; eM ▸ hj i r (List.getElem?_eq_some_iff.mp hi).1 hi⟩⟩⟩
      · exact ⟨2 * sz N + 1, by lia, m1, m2, P, N, ids, h, rr, d, .inr ⟨ob, M, m3, lb, .inr ⟨fun e => absurd hj (e ▸ Nat.lt_irrefl _), rfl⟩⟩⟩
  rcases hb with ⟨mb, hn⟩ | ⟨ob, B, mb, lb, hB⟩
  · and_intros
    refine rk (x := .none) (c := false) rfl (dj h lotL) rfl ?_
    exact body hn m m1 m2
  · and_intros
    refine rk (dj h (lb.sub fun z hz => .tail _ (inL z hz))) (dj h lotL) (kI B M) (zv (fun e => ?_) fun ne => ?_)
    · and_intros
      rcases hB with ⟨_, hB⟩ | ⟨hB, _⟩
      · exact yes (((o1, .list (ids.map .obj)) :: P)) o1 M τ h lotM ⟨d, hB⟩
      · exact absurd e hB
    · rcases hB with ⟨hB, _⟩ | ⟨_, hn⟩
      · exact absurd hB ne
      · exact body hn m m1 m2
end
section
variable {σ : AH} {K : KP} {Y G : List (Nat × AObj)} {A : SA} {s : StS} {E : EA} {e : EnS} {rules : List Rule} {q : Nat} {m : Loc}
theorem At.engI (h : At σ (G ++ bm A s (dh E e A.S Y))) : σ.get E.E = some (.inst 80 (qt A.S E e)) := h.mem (List.mem_append_right _ (.tail _ (.tail _ (.tail _ (.tail _ (.tail _ (.tail _ (.head _))))))))
theorem At.stoI {R : List (Nat × AObj)} (h : At σ (G ++ bm A s R)) : σ.get A.S = some (.inst 393 (jU A s)) := h.mem (List.mem_append_right _ (.head _))
theorem At.traI {R : List (Nat × AObj)} (h : At σ (G ++ bm A s R)) : σ.get A.c = some (.list (s.trail.map pE)) := h.mem (List.mem_append_right _ (.tail _ (.tail _ (.tail _ (.head _)))))
theorem wL {a : PV} (k : K (.bool (lO a)) σ) : K2b jX a K .none σ := go rfl k
theorem BE {a : PV} (k : K (.bool (!lO a)) σ) : K2b iR a K .none σ := go rfl k
theorem z7 {a b : Bool} (k : K (.bool (a != b)) σ) : K2b dE (.bool a) K (.bool b) σ := rk rfl rfl (c := a == b) (by simp [PyData.eqv]) k
theorem BR {x n : Int} (k : K (.bool (!(decide (0 ≤ x) && decide (x < n)))) σ) : K2b e6 (.int x) K (.rng 0 n) σ := go rfl k
theorem BZ {v a b : Int} (k : K (.bool (!(decide (v = a) || decide (v = b)))) σ) : K2b e6 (.int v) K (.tup [.int a, .int b]) σ := go (by unfold e6; rw [uA]; rfl) k
theorem xB {L : List (Nat × AObj)} {i x : Nat} {l l' : List PV} (h : At σ L) (gi : σ.get i = some (.list l)) (hx : x ≤ l.length) (hl : l.length ≤ 100000) (he : l.drop x = l') (k : ∀ j τ, At τ ((j, .list l') :: L) → K (.obj j) τ) : K2b iN (.obj i) K (.int x) σ :=
  go (by subst he; unfold iN; rw [ew gi]; exact if_pos ⟨Int.natCast_nonneg x, hx, hl⟩) (k _ _ (h.new _))
noncomputable abbrev vB : SF := (am (df (o9 (bL (e2 e6 (af "speaker") (aD ee (aj (aD cO (aj (af "rules") ao)) ao)))) (bL (e2 e6 (af "x") (eL aX (aj (e2 aK (e2 aK (af "rules") (af "speaker")) (an (.int 2))) (aj (e2 aK (e2 aK (af "rules") (af "speaker")) (an (.int 4))) ao)))))) (am (bk (an (.str "wrong"))) aB) aB) aB)
theorem t9 {L : List (Nat × AObj)} {i : Nat} {es : List Ent} {Ks : KZ} {a b c : PV} (h : At σ L) (hq : b8 q rules ∈ L) (gi : (i, AObj.list (es.map pE)) ∈ L) (rl : rules.length ≤ 10) (he : ∀ e ∈ es, ∃ (k : Nat) (r : Rule), e.sp = k ∧ rules[k]? = some r ∧ (e.x = r.x ∨ e.x = r.y))
    (m1 : m "desk" = some a) (m2 : m "due" = some b) (m3 : m "engine" = some c) (m4 : m "rules" = some (.obj q)) (k : ∀ m, m "desk" = some a → m "due" = some b → m "engine" = some c → Ks (.next, m) σ) :
    K1 iC (AR (dm (aQ (aF "x") (aQ (aF "old") (aQ (aF "literal") (aQ (aF "reasons") (aQ (aF "speaker") ch)))))) vB aB m Ks) (.obj i) σ := by
  refine wq (h.mem gi) (gD (fun j m τ => τ = σ ∧ m "desk" = some a ∧ m "due" = some b ∧ m "engine" = some c ∧ m "rules" = some (.obj q)) (fun j m τ p => mq (p.1 ▸ h.mem gi)) ⟨rfl, m1, m2, m3, m4⟩ (fun j v ej m τ zz => ?_) fun m τ zz => ?_)
  · obtain ⟨et, m1, m2, m3, m4⟩ := zz
    subst et
    rw [List.getElem?_map] at ej
    obtain ⟨e, hej, rfl⟩ := Option.map_eq_some_iff.mp ej
    obtain ⟨kk, r, hsp, hr, hx⟩ := he e (List.mem_of_getElem? hej)
    have kl := (List.getElem?_eq_some_iff.mp hr).1
    have g := h.mem hq
    have c : (decide ((e.x : Int) = r.x) || decide ((e.x : Int) = r.y)) = true := Bool.or_eq_true_iff.mpr (hx.imp (fun z => decide_eq_true (congrArg _ z)) fun z => decide_eq_true (congrArg _ z))
    have c2 : (decide ((0 : Int) ≤ e.sp) && decide (e.sp < ((rules.map dC).length : Nat))) = true := Bool.and_eq_true_iff.mpr ⟨decide_eq_true (by lia), decide_eq_true (by rw [List.length_map]; lia)⟩
    and_intros
    exists fN g (by rw [List.length_map]; lia), pI, BR
    rw [c2, Bool.not_true]
    and_intros
    exists uv g (gI hr) (by lia) hsp, uv g (gI hr) (by lia) hsp, BZ
    rw [c, Bool.not_true]
    and_intros
    exact ⟨rfl, m1, m2, m3, m4⟩
  · obtain ⟨et, m1, m2, m3, m4⟩ := zz
    subst et
    exact go rfl (k m m1 m2 m3)
end
theorem uE {ds es : List (List Int)} (hd : ds.length = 4) (he : es.length = 4) (dd : ∀ l ∈ ds, Dom l) (de : ∀ l ∈ es, Dom l) (h : ∀ x v, bG ds x v ↔ bG es x v) : ds = es := by
  refine List.ext_getElem (hd.trans he.symm) fun x h1 h2 => ?_
  have e1 := List.getElem?_eq_getElem h1
  have e2 := List.getElem?_eq_getElem h2
  have pw : base6.Pairwise (· ≤ ·) := by decide
  have d1 := dd _ (List.getElem_mem h1)
  have d2 := de _ (List.getElem_mem h2)
  exact List.Perm.eq_of_pairwise (fun a b _ _ p q => Int.le_antisymm p q) (pw.sublist d1) (pw.sublist d2) ((List.perm_ext_iff_of_nodup d1.nd d2.nd).mpr fun v => by rw [← dc e1, ← dc e2]; exact h x v)
noncomputable def Few (ds : List (List Int)) : Prop := ∀ l ∈ ds, l.length ≤ 3
theorem Bnd.GL {s : StS} (b : Bnd s) (f : Few s.dom) : Mine.GL s.dom := ⟨b.dl, fun l hl => ⟨(b.d l hl).1, f l hl⟩⟩
theorem vC {rules : List Rule} {ds es M : List (List Int)} (k : es.length = 4 ∧ ∀ l ∈ es, Dom l) (sub : ∀ x v, bG es x v → bG ds x v) (big : ∀ P, jT rules P → (∀ x v, P x v → bG ds x v) → ∀ x v, P x v → bG es x v) (fx : ∀ r ∈ rules, Fix r (bG es)) (d : uc rules ds M) : es = M :=
  uE k.1 d.1.g.1 k.2 (fun l hl => (d.1.g.2 l hl).1) fun x v => ⟨d.1.big _ fx sub x v, big _ d.2 d.1.sub x v⟩
theorem p8 {σ : AH} {A : SA} {s : StS} {R : List (Nat × AObj)} {K : KP} {S : Nat} (hS : A.S = S) (h : At σ (bm A s R)) (b : SB s) (k : ∀ P o τ, At τ (P ++ bm A s R) → Lot P o s.dom → K (.obj o) τ) : Ok (cU [.obj S] σ) K := by subst hS; exact zc h b k
theorem kK {σ : AH} {A : SA} {s : StS} {X : List (Nat × AObj)} {K : KP} {E : EA} {e : EnS} {rules : List Rule} {EE : Nat} (hE : E.E = EE) (h : At σ (bm A s (dh E e A.S X))) (b : Bnd s) (p : EP e rules X) (hf : ∀ (i : Nat) (r : Rule), rules[i]? = some r → (i : Int) ∈ e.n ∨ Fix r (bG s.dom) ∨ (r.x : Int) ∈ s.news ∨ (r.y : Int) ∈ s.news)
    (k : ∀ bb σ' A' s' E' e', A'.S = A.S → E'.E = E.E → At σ' (bm A' s' (dh E' e' A'.S X)) → EP e' rules X → PR rules s s' e e' bb → K (.bool bb) σ') : Ok (bY [.obj EE] σ) K := by subst hE; exact kt h b p hf k
structure Asked (rules : List Rule) (s s' : StS) (e e' : EnS) : Prop where
  bnd : Bnd s'
  hist : Hist rules s s'
  sub : ∀ x v, bG s'.dom x v → bG s.dom x v
  news : s'.news = []
  nsub : ∀ n ∈ e'.n, n ∈ e.n
  nall : s.marks ≠ [] → ∀ n ∈ e.n, n ∈ e'.n
section
variable {σ : AH} {K : KP} {Y G : List (Nat × AObj)} {A : SA} {s : StS} {E : EA} {e : EnS} {rules : List Rule} {q o : Nat}
theorem wt (h : At σ (b8 q rules :: (G ++ bm A s (dh E e A.S Y)))) (b : Bnd s) (p : EP e rules Y) (fl : s.fl = false) (few : Few s.dom) (lo : Lot Y o s.dom)
    (hf : ∀ (i : Nat) (r : Rule), rules[i]? = some r → (i : Int) ∈ e.n ∨ Fix r (bG s.dom) ∨ (r.x : Int) ∈ s.news ∨ (r.y : Int) ∈ s.news)
    (k : ∀ v τ A' s' E' e' P, A'.S = A.S → E'.E = E.E → At τ (b8 q rules :: (G ++ bm A' s' (dh E' e' A'.S (P ++ Y)))) → EP e' rules (P ++ Y) → Asked rules s s' e e' →
      (v = .none ∧ s'.fl = true ∨ ∃ o', v = .obj o' ∧ s'.fl = false ∧ Lot (P ++ Y) o' s'.dom ∧ (∀ r ∈ rules, Fix r (bG s'.dom)) ∧ (s.marks = [] → e'.n = [])) → K v τ) : Ok (ci [.obj E.E, .obj o, .obj q] σ) K := by
  have rl := p.rl
  have bt := b.t
  have inL : ∀ z ∈ Y, z ∈ b8 q rules :: (G ++ bm A s (dh E e A.S Y)) := fun z hz => .tail _ (List.mem_append_right _ (dW hz))
  refine kf rfl (kB ?_)
  and_intros
  exists gp (At.engI (G := b8 q rules :: G) h) rfl rfl
  refine Ok.mono (Af (K := fun v τ => ∃ P, At τ (P ++ (b8 q rules :: (G ++ bm A s (dh E e A.S Y)))) ∧ (v = .none ∧ xr rules s.dom ∨ ∃ o' M, v = .obj o' ∧ Lot (P ++ Y) o' M ∧ uc rules s.dom M)) h (.head _) inL lo (b.GL few) b.full p.ok (fun n P τ h => ⟨P, h, .inl ⟨rfl, n⟩⟩) fun P o' M τ h l d => ⟨P, h, .inr ⟨o', M, rfl, l, d⟩⟩) fun due τ ⟨P, h, hd⟩ => ?_
  have h : At τ ((P ++ b8 q rules :: G) ++ bm A s (dh E e A.S Y)) := by rw [List.append_assoc]; exact h
  and_intros
  exists gp h.stoI rfl rfl, fN h.traI (by rw [List.length_map]; lia), b9 h.engI rfl rfl
  refine kt h.toE b (p.mono fun z hz => List.mem_append_right _ hz) hf fun bb τ A2 s2 E2 e2 hA hE h p2 pr => ?_
  have p2 : EP e2 rules Y := pr.ep p p2
  have h : At τ ((P ++ b8 q rules :: G) ++ bm A2 s2 (dh E2 e2 A2.S Y)) := h.ofE
  have b2 := pr.bnd
  have bt2 := b2.t
  have d2 : s2.dom.length = 4 ∧ ∀ l ∈ s2.dom, Dom l := ⟨b2.dl, fun l hl => (b2.d l hl).1⟩
  have flb : s2.fl = !bb := by
    cases hb : bb with
    | true => exact (pr.yes hb).2.1
    | false => exact (pr.no hb).1
  have hdn : (due = .none ∧ bb = false) ∨ ∃ o', due = .obj o' ∧ bb = true ∧ Lot (P ++ Y) o' s2.dom := by
    cases hb : bb with
    | true =>
      obtain ⟨_, _, big, fx, _⟩ := pr.yes hb
      rcases hd with ⟨_, no⟩ | ⟨o', M, e1, l, d⟩
      · exact (no _ fx pr.sub b2.full).elim
      · exact .inr ⟨o', e1, rfl, vC d2 pr.sub big fx d ▸ l⟩
    | false =>
      rcases hd with ⟨e1, _⟩ | ⟨o', M, e1, l, d⟩
      · exact .inl ⟨e1, rfl⟩
      · rcases (pr.no hb).2 with z | z
        · exact nomatch fl.symm.trans z
        · exact (z _ d.2 d.1.sub d.1.f).elim
  have ise : lO due = !bb := by
    rcases hdn with ⟨rfl, rfl⟩ | ⟨o', rfl, rfl, _⟩ <;> rfl
  have g1 : τ.get A.S = some (.inst 393 (jU A2 s2)) := hA ▸ h.stoI
  and_intros
  refine BE ?_
  rw [ise, Bool.not_not]
  refine z7 ?_
  rw [bne_self_eq_false]
  and_intros
  exists gp g1 rfl rfl, wL
  rw [ise, flb]
  refine z7 ?_
  rw [bne_self_eq_false]
  obtain ⟨es, tr1, tr2, tr3, tr4, tr5⟩ := pr.hist.tr
  and_intros
  exists gp g1 rfl rfl
  refine xB (x := (s.trail.map pE).length) (l' := es.map pE) h h.traI (by rw [List.length_map, List.length_map, tr1, List.length_append]; lia) (by rw [List.length_map]; lia) (by rw [tr1, List.map_append]; exact List.drop_left) fun it τ h => ?_
  have h : At τ (((it, .list (es.map pE)) :: P ++ b8 q rules :: G) ++ bm A2 s2 (dh E2 e2 A2.S Y)) := h
  refine t9 h (List.mem_append_left _ (List.mem_append_right _ (.head _))) (.head _) rl tr2 rfl rfl rfl rfl fun m m1 m2 m3 => ?_
  have g1 : τ.get A.S = some (.inst 393 (jU A2 s2)) := hA ▸ h.stoI
  have g2 : τ.get E.E = some (.inst 80 (qt A2.S E2 e2)) := hE ▸ h.engI
  and_intros
  refine wL ?_
  rcases hdn with ⟨rfl, rfl⟩ | ⟨o', rfl, rfl, lo'⟩
  · show Kb _ (.bool true) _
    and_intros
    exact k .none τ A2 s2 E2 e2 _ hA hE h.park (p2.mono fun z hz => List.mem_append_right _ hz) ⟨b2, pr.hist, pr.sub, pr.news, pr.nsub, pr.nall⟩ (.inl ⟨rfl, flb⟩)
  · obtain ⟨_, _, big, fx, nz⟩ := pr.yes rfl
    show Kb _ (.bool false) _
    and_intros
    exists gp g1 rfl rfl, fN h.traI (by rw [List.length_map]; lia)
    refine p8 hA h.toS b2.sb fun Q o2 τ h lq => ?_
    have h := h.qS
    have inQ : ∀ z ∈ P ++ Y, z ∈ (Q ++ ((it, .list (es.map pE)) :: P ++ b8 q rules :: G)) ++ bm A2 s2 (dh E2 e2 A2.S Y) := fun z hz => (List.mem_append.mp hz).elim (fun hz => List.mem_append_left _ (List.mem_append_right _ (List.mem_append_left _ (.tail _ hz)))) fun hz => List.mem_append_right _ (dW hz)
    and_intros
    refine rk (dj h (lq.sub fun z hz => List.mem_append_left _ (List.mem_append_left _ hz))) (dj h (lo'.sub inQ)) (kI _ _) (Cd rfl ?_)
    have g2 : τ.get E.E = some (.inst 80 (qt A2.S E2 e2)) := hE ▸ h.engI
    and_intros
    exists b9 g2 rfl rfl
    refine kK hE h.toE b2 (p2.mono fun z hz => List.mem_append_right _ hz) (fun i r hr => .inr (.inl (fx r (List.mem_of_getElem? hr)))) fun b5 τ A5 s5 E5 e5 hA5 hE5 h p5 pr5 => ?_
    have p5 := pr5.ep p2 p5
    have h := h.ofE
    obtain rfl : b5 = true := by
      cases z : b5 with
      | true => rfl
      | false =>
        rcases (pr5.no z).2 with y | y
        · exact nomatch flb.symm.trans y
        · exact (y _ fx (fun _ _ q => q) b2.full).elim
    obtain ⟨_, f5, big5, fx5, nz5⟩ := pr5.yes rfl
    have b5 := pr5.bnd
    have ed : s5.dom = s2.dom := uE b5.dl b2.dl (fun l hl => (b5.d l hl).1) d2.2 fun x v => ⟨pr5.sub x v, big5 _ fx (fun _ _ q => q) x v⟩
    have et : s5.trail = s2.trail := by
      obtain ⟨es5, t1, _, _, _, t5⟩ := pr5.hist.tr
      rw [ed] at t5
      have : es5 = [] := List.length_eq_zero_iff.mp (by lia)
      rw [t1, this, List.append_nil]
    have g1 : τ.get A.S = some (.inst 393 (jU A5 s5)) := hA ▸ hA5 ▸ h.stoI
    and_intros
    exists gp g1 rfl rfl, fN h.traI (by rw [List.length_map, et]; lia)
    refine Cd (by rw [et]) ?_
    and_intros
    have h : At τ ((Q ++ (it, .list (es.map pE)) :: P) ++ (b8 q rules :: G) ++ bm A5 s5 (dh E5 e5 A5.S Y)) := by
      rw [List.append_assoc Q]; exact h
    exact k _ τ A5 s5 E5 e5 _ (hA5.trans hA) (hE5.trans hE) h.park (p5.mono fun z hz => List.mem_append_right _ hz) ⟨b5, pr.hist.trans pr5.hist, fun x v q => pr.sub x v (pr5.sub x v q), pr5.news, fun n q => pr.nsub n (pr5.nsub n q), fun z n q => pr5.nall (fun y => z (pr.hist.marks.symm.trans y)) n (pr.nall z n q)⟩
      (.inr ⟨o', rfl, f5, ed ▸ lo'.sub fun z hz => (List.mem_append.mp hz).elim (fun hz => List.mem_append_left _ (List.mem_append_right _ (.tail _ hz))) fun hz => List.mem_append_right _ hz, fx5, fun z => nz5 (pr.hist.marks.trans z)⟩)
end
theorem nS (dom dom' : List (List Int)) (t es : List Ent) (k : Nat) (hk : k ≤ t.length) (u : iI dom' es.reverse = dom) : cP dom' (t ++ es) k = cP dom t k := by
  unfold cP
  rw [List.drop_append_of_le_length hk, List.reverse_append, fW, u]
theorem qN (dom : List (List Int)) (t : List Ent) (k z : Nat) (hk : k ≤ z) (hz : z ≤ t.length) : cP (cP dom t z) (t.take z) k = cP dom t k :=
  (nS (cP dom t z) dom (t.take z) (t.drop z) k (by rw [List.length_take]; lia) rfl).symm.trans (by rw [List.take_append_drop])
theorem s9 (dom : List (List Int)) (t : List Ent) : cP dom t t.length = dom := by unfold cP; rw [List.drop_length]; rfl
noncomputable def yQ (D : List (List Int)) : Prop := D.length = 4 ∧ ∀ l ∈ D, Dom l ∧ l ≠ []
theorem Bnd.good {s : StS} (b : Bnd s) : yQ s.dom := ⟨b.dl, b.d⟩
structure Lv (rules : List Rule) (n : List Int) (dom : List (List Int)) (trail : List Ent) (p : List (List Int) × Nat) : Prop where
  g : yQ p.1
  f : Few p.1
  k : p.2 ≤ trail.length
  u : cP dom trail p.2 = p.1
  z : p.2 + sz p.1 ≤ 100
  fx : ∀ (j : Nat) (r : Rule), rules[j]? = some r → (j : Int) ∈ n ∨ Fix r (bG p.1)
structure Lvs (rules : List Rule) (n : List Int) (dom : List (List Int)) (trail : List Ent) (lv : List (List (List Int) × Nat)) : Prop where
  at_ : ∀ p ∈ lv, Lv rules n dom trail p
  mono : lv.Pairwise fun p p' => p.2 ≤ p'.2
theorem Lvs.nil {rules : List Rule} {n : List Int} {dom : List (List Int)} {trail : List Ent} : Lvs rules n dom trail [] := ⟨(fun _ h => nomatch h), .nil⟩
theorem Lvs.grow {rules : List Rule} {n n' : List Int} {dom dom' : List (List Int)} {t es : List Ent} {lv : List (List (List Int) × Nat)} (h : Lvs rules n dom t lv) (u : iI dom' es.reverse = dom) (hn : lv ≠ [] → ∀ k ∈ n, k ∈ n') : Lvs rules n' dom' (t ++ es) lv :=
  ⟨fun p hp => let q := h.at_ p hp; ⟨q.g, q.f, by rw [List.length_append]; exact Nat.le_add_right_of_le q.k, by rw [nS dom dom' t es _ q.k u]; exact q.u, q.z, fun j r hr => (q.fx j r hr).imp (hn (List.ne_nil_of_mem hp) _) id⟩, h.mono⟩
theorem Lvs.push {rules : List Rule} {n : List Int} {dom : List (List Int)} {t : List Ent} {lv : List (List (List Int) × Nat)} (h : Lvs rules n dom t lv) (g : yQ dom) (f : Few dom) (b : t.length + sz dom ≤ 100) (fx : ∀ (j : Nat) (r : Rule), rules[j]? = some r → (j : Int) ∈ n ∨ Fix r (bG dom)) : Lvs rules n dom t (lv ++ [(dom, t.length)]) :=
  ⟨fun p hp => (List.mem_append.mp hp).elim (h.at_ p) fun hp => List.mem_singleton.mp hp ▸ ⟨g, f, Nat.le_refl _, s9 dom t, b, fx⟩, List.pairwise_append.mpr ⟨h.mono, List.pairwise_singleton _ _, fun p hp p' hp' => List.mem_singleton.mp hp' ▸ (h.at_ p hp).k⟩⟩
theorem Lvs.pop {rules : List Rule} {n : List Int} {dom : List (List Int)} {t : List Ent} {lv : List (List (List Int) × Nat)} (h : Lvs rules n dom t lv) {i : Nat} {p : List (List Int) × Nat} (e : lv[i]? = some p) : Lvs rules n p.1 (t.take p.2) (lv.take i) := by
  have q := h.at_ p (List.mem_of_getElem? e)
  have ei : lv = lv.take i ++ p :: lv.drop (i + 1) := by
    obtain ⟨hi, e⟩ := List.getElem?_eq_some_iff.mp e
    rw [← e, List.getElem_cons_drop, List.take_append_drop]
  have pw := h.mono
  rw [ei] at pw
  refine ⟨fun p' hp' => ?_, (List.pairwise_append.mp pw).1⟩
  have k := h.at_ p' (List.mem_of_mem_take hp')
  have le := (List.pairwise_append.mp pw).2.2 p' hp' p (.head _)
  exact ⟨k.g, k.f, by rw [List.length_take]; exact Nat.le_min.mpr ⟨le, k.k⟩, by rw [← q.u, qN dom t _ _ le q.k]; exact k.u, k.z, k.fx⟩
section
variable {σ : AH} {K : KP} {G R : List (Nat × AObj)} {A : SA} {s : StS} {rules : List Rule} {nn : List Int} {lv : List (List (List Int) × Nat)} {S : Nat}
structure Popped (s s' : StS) (p : List (List Int) × Nat) (lv : List (List (List Int) × Nat)) : Prop where
  dom : s'.dom = p.1
  tr : s'.trail = s.trail.take p.2
  mr : s'.marks = lv.map fun p => (p.2 : Int)
  nw : s'.news = []
  fl : s'.fl = false
  b : Bnd s'
  tx : ∀ en ∈ s'.trail, en.x < 4
theorem ow (hS : A.S = S) (h : At σ (G ++ bm A s R)) (b : Bnd s) (tx : ∀ en ∈ s.trail, en.x < 4) (L : Lvs rules nn s.dom s.trail lv) (hm : s.marks = lv.map fun p => (p.2 : Int)) {n : Nat} {p : List (List Int) × Nat} (n1 : 1 ≤ n) (n2 : n ≤ lv.length) (hp : lv[lv.length - n]? = some p)
    (k : ∀ τ A' s', A'.S = S → At τ (G ++ bm A' s' R) → Popped s s' p (lv.take (lv.length - n)) → K .none τ) : Ok (bQ [.obj S, .int n] σ) K := by
  subst hS
  have q := L.at_ p (List.mem_of_getElem? hp)
  have ml : s.marks.length = lv.length := by rw [hm, List.length_map]
  refine A4 h.toS b tx n1 (ml ▸ n2) (mk := p.2) (by rw [ml, hm, List.getElem?_map, hp]; rfl) q.k fun τ A' hA h => k τ A' _ hA h.ofS ⟨q.u, rfl, ?_, rfl, rfl, ⟨?_, ?_, b.fl, b.f, ?_, ?_, List.nodup_nil, fun _ h => nomatch h⟩, fun en hen => tx en (List.mem_of_mem_take hen)⟩
  · show s.marks.take (s.marks.length - n) = _
    rw [ml, hm, List.map_take]
  · show (cP s.dom s.trail p.2).length = 4
    rw [q.u]; exact q.g.1
  · show ∀ l ∈ cP s.dom s.trail p.2, _
    rw [q.u]; exact q.g.2
  · show (s.trail.take p.2).length + sz (cP s.dom s.trail p.2) ≤ 100
    rw [q.u, List.length_take]
    have := q.z
    lia
  · exact Nat.le_trans (List.length_take_le _ _) (Nat.le_trans (Nat.sub_le _ _) b.m)
end
structure WC where
  S : Nat
  EE : Nat
  u : Nat
  c : Nat
  q : Nat
  o0 : Nat
  cells : List Int
  rules : List Rule
  D0 : List (List Int)
structure WD where
  A : SA
  s : StS
  E : EA
  e : EnS
  Y : List (Nat × AObj)
  k : Nat
  stk : Nat
  obs : List Nat
  lv : List (List (List Int) × Nat)
noncomputable def lS (d : List (List Int)) (lv : List (List (List Int) × Nat)) : List (List Int) := match lv with | [] => d | p :: _ => p.1
noncomputable abbrev eR (i : Nat) (l : List Nat) : Nat × AObj := (i, .list (l.map .obj))
structure WY (C : WC) (W : WD) (σ : AH) : Prop where
  aS : W.A.S = C.S
  eE : W.E.E = C.EE
  h : At σ ((C.u, d9 C.c W.k) :: eR W.stk W.obs :: b8 C.q C.rules :: bm W.A W.s (dh W.E W.e C.S W.Y))
  b : Bnd W.s
  tx : ∀ en ∈ W.s.trail, en.x < 4
  p : EP W.e C.rules W.Y
  cc : bH C.c C.cells ∈ W.Y
  sk : All2 (fun o p => Lot W.Y o p.1) W.obs W.lv
  lvs : Lvs C.rules W.e.n W.s.dom W.s.trail W.lv
  mks : W.s.marks = W.lv.map fun p => (p.2 : Int)
  base : lS W.s.dom W.lv = C.D0
  lz : Lot W.Y C.o0 C.D0
structure WS' (C : WC) (s : StS) (e : EnS) (Y : List (Nat × AObj)) (on : Nat) : Prop where
  fl : s.fl = false
  few : Few s.dom
  now : Lot Y on s.dom
  fx : ∀ (j : Nat) (r : Rule), C.rules[j]? = some r → (j : Int) ∈ e.n ∨ Fix r (bG s.dom)
section
variable {C : WC} {W : WD} {σ : AH} {K : KP} {Ks : KZ} {m : Loc} {on : Nat}
theorem WY.sto (w : WY C W σ) : σ.get C.S = some (.inst 393 (jU W.A W.s)) := w.aS ▸ At.stoI (G := [_, _, _]) w.h
theorem WY.eng (w : WY C W σ) : σ.get C.EE = some (.inst 80 (qt C.S W.E W.e)) := w.eE ▸ w.h.mem (.tail _ (.tail _ (.tail _ (List.mem_append_right (bm W.A W.s []) (.head _)))))
theorem WY.ml (w : WY C W σ) : W.s.marks.length = W.lv.length := by rw [w.mks, List.length_map]
theorem WY.l100 (w : WY C W σ) : W.lv.length ≤ 100 := w.ml ▸ w.b.m
theorem WY.ol (w : WY C W σ) : W.obs.length = W.lv.length := w.sk.length
theorem j8 (w : WY C W σ) (cl : C.cells.length ≤ 100) (hk : W.k ≤ 900) {many : Int} (hm : 0 < many) (q : ∀ n τ, 0 ≤ n → n < many → WY C { W with k := W.k + 1 } τ → K (.int n) τ) : Ok (a8 [.obj C.u, .int many] σ) K :=
  fz w.h (.tail _ (.tail _ (dW w.cc))) cl hk hm fun n τ a1 a2 h => q n τ a1 a2 ⟨w.aS, w.eE, h, w.b, w.tx, w.p, w.cc, w.sk, w.lvs, w.mks, w.base, w.lz⟩
theorem pz {d d' : List (List Int)} {lv : List (List (List Int) × Nat)} {i : Nat} {p : List (List Int) × Nat} (e : lv[i]? = some p) (hd : d' = p.1) : lS d' (lv.take i) = lS d lv := by
  cases lv with
  | nil => cases e
  | cons p0 r => cases i with
    | zero => cases e; exact hd
    | succ i => rfl
noncomputable abbrev xL : SF := (am (a6 (e2 bM (an (.int 1)) (aD a8 (aj (af "urn") (aj (e2 (c7 (· - ·)) (aD cO (aj (af "stack") ao)) (an (.int 1))) ao)))) (aF "deep")) (am (bO (a9 "pop" [(393, bQ)] (af "desk") (aj (af "deep") ao))) (am (gw (eL aX (aj (e2 aK (af "stack") (e2 (c7 (· - ·)) (aD cO (aj (af "stack") ao)) (af "deep"))) (aj (e2 fJ (af "stack") (e2 (c7 (· - ·)) (aD cO (aj (af "stack") ao)) (af "deep"))) ao))) (dF ["now", "stack"])) aB)))
theorem vz (w : WY C W σ) (cl : C.cells.length ≤ 100) (hk : W.k ≤ 900) (h2 : 2 ≤ W.lv.length) (mu : m "urn" = some (.obj C.u)) (md : m "desk" = some (.obj C.S)) (ms : m "stack" = some (.obj W.stk))
    (next : ∀ W' on z τ, WY C W' τ → WS' C W'.s W'.e W'.Y on → W'.lv ≠ [] → W'.lv.length ≤ W.lv.length → W'.k = W.k + 1 → W'.e = W.e → Ks (.next, ((m.put "deep" z).put "stack" (.obj W'.stk)).put "now" (.obj on)) τ) : Ok (xL m σ) Ks := by
  have l100 := w.l100
  have ol := w.ol
  and_intros
  exists fN (w.h.get 1 rfl) (by rw [List.length_map]; lia)
  rw [List.length_map]
  refine j8 w cl hk (by lia) fun n τ a1 a2 w => ?_
  obtain ⟨dp, hdp⟩ : ∃ dp : Nat, 1 + n = dp := ⟨(1 + n).toNat, by lia⟩
  obtain ⟨p, hp⟩ : ∃ p, W.lv[W.lv.length - dp]? = some p := ⟨_, List.getElem?_eq_getElem (by lia)⟩
  obtain ⟨o, ho, lo⟩ := w.sk.get' hp
  have q := w.lvs.at_ p (List.mem_of_getElem? hp)
  and_intros
  rw [hdp]
  exists b9 w.sto rfl rfl
  refine ow (G := [_, _, _]) w.aS w.h w.b w.tx w.lvs w.mks (by lia) (show dp ≤ W.lv.length by lia) hp fun τ A' s' hA h z => ?_
  have sub : ((W.obs.map PV.obj).length : Int) - (dp : Int) = ((W.lv.length - dp : Nat) : Int) := by rw [List.length_map]; lia
  have lz : (W.obs.map PV.obj).length ≤ 100000 := by rw [List.length_map]; lia
  and_intros
  exists fN (h.get 1 rfl) lz, uv (h.get 1 rfl) (gI ho) (Nat.le_trans (Nat.sub_le _ _) (Nat.le_trans l100 (by decide))) sub, fN (h.get 1 rfl) lz
  refine xP h 1 rfl sub lz List.map_take.symm fun stk' τ h => ?_
  and_intros
  exact next { W with A := A', s := s', k := W.k + 1, stk := stk', obs := W.obs.take (W.lv.length - dp), lv := W.lv.take (W.lv.length - dp) } o _ τ
    ⟨hA, w.eE, (h.sub (.cons_cons _ (.cons_cons _ (.cons _ (List.Sublist.refl _))))).perm (.swap _ _ _), z.b, z.tx, w.p, w.cc, w.sk.take _, by rw [z.dom, z.tr]; exact w.lvs.pop hp, z.mr, (pz (d := W.s.dom) hp z.dom).trans w.base, w.lz⟩
    ⟨z.fl, by rw [z.dom]; exact q.f, by rw [z.dom]; exact lo, by rw [z.dom]; exact q.fx⟩ (fun e => by have := congrArg List.length e; rw [List.length_take, List.length_nil] at this; lia) (List.length_take_le' _ _) rfl rfl
end
section
variable {σ : AH} {K : KP} {Ks : KZ} {m : Loc} {L : List (Nat × AObj)} {i j : Nat}
theorem Al {l l' : List PV} {b : Int} {x : Nat} (h : At σ L) (gi : σ.get i = some (.list l)) (hb : b = (x : Int)) (hc : l.length ≤ 100000) (he : l.take x = l') (k : ∀ j τ, At τ ((j, .list l') :: L) → K (.obj j) τ) : K2b fJ (.obj i) K (.int b) σ :=
  go (by subst hb he; unfold fJ; rw [ew gi]; exact if_pos ⟨Int.natCast_nonneg x, hc⟩) (k _ _ (h.new _))
theorem zu {l r l' : List PV} (h : At σ L) (gi : σ.get i = some (.list l)) (gj : σ.get j = some (.list r)) (hl : l.length + r.length ≤ 100000) (he : l ++ r = l') (k : ∀ j τ, At τ ((j, .list l') :: L) → K (.obj j) τ) : K2b bM (.obj i) K (.obj j) σ :=
  go (by
    subst he
    show gm (σ.get i) _ = _
    rw [gi]
    show hZ (.obj j) σ _ = _
    rw [ew gj]
    exact if_pos hl) (k _ _ (h.new _))
theorem y1 {on x : Nat} {ids : List Nat} {sg : String} {z : Int} (h : At σ L) (go : eR on ids ∈ L) (hx : x < ids.length) (il : ids.length ≤ 100) (mn : m "now" = some (.obj on)) (ml : m "literal" = some (i8 x sg z)) (mk : m "kept" = some (.obj j))
    (q : ∀ P o τ, At τ (P ++ L) → eR o (ids.set x j) ∈ P → K (.obj o) τ) : Ok (e2 bM (e2 bM (e2 fJ (af "now") (e2 aK (af "literal") (an (.int 0)))) (eL bK (aj (af "kept") ao))) (e2 iN (af "now") (e2 bM (e2 aK (af "literal") (an (.int 0))) (an (.int 1)))) m σ) K := by
  have lz : (ids.map PV.obj).length ≤ 100000 := by rw [List.length_map]; omega
  and_intros
  refine Al h (h.mem go) rfl lz rfl fun i1 τ h => ?_
  and_intros
  refine dL h (Nat.le_of_ble_eq_true rfl) fun i2 τ h => ?_
  refine zu h (h.get 1 rfl) (h.get 0 rfl) (by rw [List.length_take, List.length_singleton]; omega) rfl fun i3 τ h => ?_
  and_intros
  refine xB (x := x + 1) h (h.mem (.tail _ (.tail _ (.tail _ go)))) (by rw [List.length_map]; exact hx) lz rfl fun i4 τ h => ?_
  have e : ((ids.map PV.obj).take x ++ [PV.obj j]) ++ (ids.map PV.obj).drop (x + 1) = (ids.set x j).map PV.obj := by
    rw [List.map_set, List.set_eq_take_append_cons_drop, if_pos (by rw [List.length_map]; exact hx), List.append_assoc]; rfl
  refine zu h (h.get 1 rfl) (h.get 0 rfl) (by rw [List.length_append, List.length_take, List.length_singleton, List.length_drop]; omega) e fun i5 τ h => ?_
  exact q [_, _, _, _, _] i5 τ h (.head _)
noncomputable abbrev zw : EF := dR ["literal"] (gU (e2 aK (af "now") (e2 aK (af "literal") (an (.int 0))))) (aF "v") (bL (aD fO (aj (af "literal") (aj (af "v") ao)))) (dH (af "v"))
theorem yG {on x : Nat} {ids : List Nat} {sg : String} {z : Int} {l : List Int} (h : At σ L) (go : eR on ids ∈ L) (gi : bH i l ∈ L) (hi : ids[x]? = some i) (x4 : x < 4) (l6 : l.length ≤ 6) (hs : sg = "<=" ∨ sg = ">=" ∨ sg = "=" ∨ sg = "!=") (mn : m "now" = some (.obj on)) (ml : m "literal" = some (i8 x sg z))
    (q : ∀ j τ, At τ (bH j (l.filter (ob sg z)) :: L) → K (.obj j) τ) : Ok (zw m σ) K := by
  have lf := List.length_filter_le (ob sg z) l
  have el : (l.flatMap fun v => if ob sg z v = true then [PV.int v] else []) = (l.filter (ob sg z)).map .int := mM _ _ l
  and_intros
  exists uv (h.mem go) (gI hi) (by omega) rfl
  refine wq (h.mem gi) (qp (L := l) (G := PV.int) (fun v => if ob sg z v = true then [.int v] else []) (fun m τ => τ = σ ∧ m "literal" = some (i8 x sg z)) (fun _ _ p => mq (p.1 ▸ h.mem gi)) ⟨rfl, ml⟩ (by rw [el, List.length_map]; omega) (fun v _ ys m τ p hz => ?_) fun m τ p => ?_)
  · obtain ⟨et, m1⟩ := p
    subst et
    and_intros
    refine .eq (wQ hs _) ?_
    cases hb : ob sg z v with
    | true =>
      refine zY (yP hz) ?_
      and_intros
      exact ⟨⟨rfl, m1⟩, rfl⟩
    | false =>
      rw [if_neg Bool.false_ne_true, List.append_nil]
      exact ⟨⟨rfl, m1⟩, rfl⟩
  · rw [el, p.1]
    exact q _ _ (h.new _)
end
section
variable {C : WC} {W : WD} {σ : AH} {K : KP} {Ks : KZ} {m : Loc} {on : Nat}
theorem yp {G R : List (Nat × AObj)} {A : SA} {s : StS} {S : Nat} (hS : A.S = S) (h : At σ (G ++ bm A s R)) (b : SB s) (k : ∀ τ, At τ (G ++ bm A { s with marks := s.marks ++ [(s.trail.length : Int)] } R) → K .none τ) : Ok (dX [.obj S] σ) K := by
  subst hS; exact zl h.toS b fun τ h => k τ h.ofS
theorem tN (w : WY C W σ) (ws : WS' C W.s W.e W.Y on) (l50 : W.lv.length ≤ 50) (md : m "desk" = some (.obj C.S)) (mn : m "now" = some (.obj on)) (ms : m "stack" = some (.obj W.stk)) {rest : SF}
    (next : ∀ W' τ, WY C W' τ → WS' C W'.s W'.e W'.Y on → W'.lv.length = W.lv.length + 1 → W'.k = W.k → W'.e = W.e → W'.stk = W.stk → Ok (rest m τ) Ks) :
    Ok (am (bO (a9 "push" [(393, dX)] (af "desk") ao)) (am (bO (jA (af "stack") (aj (af "now") ao) bP)) rest) m σ) Ks := by
  have ol := w.ol
  have sto := w.sto
  refine kB (kx (kme (kn md (b9 sto rfl rfl (kl0 (yp (G := [_, _, _]) w.aS w.h w.b.sb fun τ h => ?_))))))
  refine kB (kx (klm (kn ms (jf (h.get 1 rfl) (klc (kn mn (kl0 (gR h 1 rfl (by rw [List.length_map]; lia) (eh PV.obj _ _) fun τ h => ?_))))))))
  exact next { W with s := { W.s with marks := W.s.marks ++ [(W.s.trail.length : Int)] }, obs := W.obs ++ [on], lv := W.lv ++ [(W.s.dom, W.s.trail.length)] } τ
    ⟨w.aS, w.eE, h, ⟨w.b.dl, w.b.d, w.b.fl, w.b.f, w.b.t, by show (W.s.marks ++ [_]).length ≤ 100; rw [List.length_append, w.ml, List.length_singleton]; lia, w.b.n, w.b.nr⟩, w.tx, w.p, w.cc, w.sk.snoc ws.now, w.lvs.push w.b.good ws.few w.b.t ws.fx, by show W.s.marks ++ [_] = _; rw [List.map_append, w.mks]; rfl, (by
      have hb := w.base
      show lS W.s.dom (W.lv ++ _) = _
      rw [← hb]
      cases W.lv <;> rfl), w.lz⟩
    ⟨ws.fl, ws.few, ws.now, ws.fx⟩ (by show (W.lv ++ [_]).length = _; rw [List.length_append]; rfl) rfl rfl rfl
structure WX (C : WC) (s : StS) (e : EnS) (Y : List (Nat × AObj)) (on : Nat) (bad : Bool) : Prop where
  fl : s.fl = bad
  few : Few s.dom
  now : ∃ L, Lot Y on L ∧ decide ([] ∈ L) = bad ∧ (bad = false → L = s.dom)
  hf : ∀ (i : Nat) (r : Rule), C.rules[i]? = some r → (i : Int) ∈ e.n ∨ Fix r (bG s.dom) ∨ (r.x : Int) ∈ s.news ∨ (r.y : Int) ∈ s.news
theorem WS'.wx {s : StS} {e : EnS} {Y : List (Nat × AObj)} (w : WS' C s e Y on) (b : Bnd s) : WX C s e Y on false :=
  ⟨w.fl, w.few, ⟨_, w.now, decide_eq_false fun h => (b.d _ h).2 rfl, fun _ => rfl⟩, fun i r h => (w.fx i r h).imp id .inl⟩
theorem Gr.tx {sc : Nat → Prop} {sp : Int} {a c : StS} (g : Gr sc sp a c) (hl : a.dom.length = 4) (tx : ∀ en ∈ a.trail, en.x < 4) : c.dom.length = 4 ∧ ∀ en ∈ c.trail, en.x < 4 := by
  induction g with
  | refl => exact ⟨hl, tx⟩
  | @step s1 x l l' q r _ h1 h2 h3 h4 h5 ih =>
    refine ⟨(List.length_set ..).trans ih.1, fun en hen => ?_⟩
    rcases List.mem_append.mp hen with z | z
    · exact ih.2 en z
    · rw [List.mem_singleton.mp z]; exact ih.1 ▸ (List.getElem?_eq_some_iff.mp h2).1
theorem wk {G R : List (Nat × AObj)} {A : SA} {s : StS} {S x : Nat} {l : List Int} {sg : String} {c : Int} (hS : A.S = S) (h : At σ (G ++ bm A s R)) (b : Bnd s) (hx : s.dom[x]? = some l) (sk : SK sg c)
    (no : l.filter (ob sg c) = [] → ∀ τ cl, At τ (G ++ bm A { s with fl := true, cl := cl } R) → K (.bool false) τ)
    (yes : l.filter (ob sg c) ≠ [] → ∀ τ s', At τ (G ++ bm A s' R) → Gr (fun _ => True) (-1) s s' → s'.dom = s.dom.set x (l.filter (ob sg c)) → K (.bool true) τ) : Ok (dN [.obj S, i8 x sg c] σ) K := by
  subst hS; exact vJ h.toS b hx sk (fun e τ cl h => no e τ cl h.ofS) fun e τ s' h g d => yes e τ s' h.ofS g d
end
section
variable {C : WC} {W : WD} {σ : AH} {K : KP} {Ks : KZ} {m : Loc} {on : Nat}
noncomputable abbrev Bv : EF := eL aX (aj (aD a8 (aj (af "urn") (aj (an (.int 4)) ao))) (aj (e2 aK (eL aX (aj (an (.str "<=")) (aj (an (.str ">=")) (aj (an (.str "=")) (aj (an (.str "!=")) ao))))) (aD a8 (aj (af "urn") (aj (an (.int 4)) ao)))) (aj (e2 (c7 (· - ·)) (aD a8 (aj (af "urn") (aj (an (.int 6)) ao))) (an (.int 2))) ao)))
noncomputable def Sg (sg : String) : Prop := sg = "<=" ∨ sg = ">=" ∨ sg = "=" ∨ sg = "!="
theorem Bc {n : Int} (h0 : 0 ≤ n) (h4 : n < 4) (σ : AH) : ∃ sg, Sg sg ∧ aK (.tup [.str "<=", .str ">=", .str "=", .str "!="]) (.int n) σ = some (.str sg, σ) := by
  have : n = 0 ∨ n = 1 ∨ n = 2 ∨ n = 3 := by lia
  rcases this with rfl | rfl | rfl | rfl
  · exact ⟨"<=", .inl rfl, rfl⟩
  · exact ⟨">=", .inr (.inl rfl), rfl⟩
  · exact ⟨"=", .inr (.inr (.inl rfl)), rfl⟩
  · exact ⟨"!=", .inr (.inr (.inr rfl)), rfl⟩
theorem Bm {sg : String} {n : Int} (hs : Sg sg) (h0 : 0 ≤ n) (h6 : n < 6) : SK sg (n - 2) := by
  obtain ⟨k, rfl⟩ : ∃ k : Nat, n = k := ⟨n.toNat, by lia⟩
  have hk : k < 6 := by lia
  have b : ((k : Int) - 2) ∈ base6 := (by decide : ∀ k : Fin 6, ((k.val : Int) - 2) ∈ base6) ⟨k, hk⟩
  have a : ((k : Int) - 2) ∈ ks := List.mem_map.mpr ⟨k + 7, List.mem_range.mpr (by lia), by lia⟩
  exact hs.imp (fun e => ⟨e, a⟩) (Or.imp (fun e => ⟨e, a⟩) (Or.imp (fun e => ⟨e, b⟩) fun e => ⟨e, a⟩))
theorem Aw (w : WY C W σ) (cl : C.cells.length ≤ 100) (hk : W.k ≤ 890) (mu : m "urn" = some (.obj C.u)) (q : ∀ (x : Nat) sg z τ, x < 4 → Sg sg → SK sg z → WY C { W with k := W.k + 3 } τ → K (i8 x sg z) τ) : Ok (Bv m σ) K := by
  and_intros
  refine j8 w cl (by lia) (by decide) fun x τ a1 a2 w => ?_
  obtain ⟨x, rfl⟩ : ∃ y : Nat, x = y := ⟨x.toNat, by lia⟩
  and_intros
  refine j8 w cl (show W.k + 1 ≤ 900 by lia) (by decide) fun n τ b1 b2 w => ?_
  obtain ⟨sg, hs, es⟩ := Bc b1 b2 τ
  refine .eq es ?_
  and_intros
  refine j8 w cl (show W.k + 2 ≤ 900 by lia) (by decide) fun n τ c1 c2 w => ?_
  and_intros
  exact q x sg (n - 2) τ (by lia) hs (Bm hs c1 c2) w
structure Dec (C : WC) (W : WD) (x : Nat) (l' : List Int) (s' : StS) (bb : Bool) : Prop where
  hb : bb = !decide (l' = [])
  b : Bnd s'
  tx : ∀ en ∈ s'.trail, en.x < 4
  lvs : Lvs C.rules W.e.n s'.dom s'.trail W.lv
  mk' : s'.marks = W.s.marks
  fl : s'.fl = !bb
  few : Few s'.dom
  nl : decide ([] ∈ W.s.dom.set x l') = !bb
  eq : (!bb) = false → W.s.dom.set x l' = s'.dom
  hf : ∀ (i : Nat) (r : Rule), C.rules[i]? = some r → (i : Int) ∈ W.e.n ∨ Fix r (bG s'.dom) ∨ (r.x : Int) ∈ s'.news ∨ (r.y : Int) ∈ s'.news
theorem Dec.no (w : WY C W σ) (ws : WS' C W.s W.e W.Y on) {x : Nat} (hx : x < 4) {l' : List Int} (e : l' = []) (cl : PV) : Dec C W x l' { W.s with fl := true, cl := cl } false :=
  ⟨by rw [e]; rfl, w.b.fail true cl, w.tx, w.lvs, rfl, rfl, ws.few, decide_eq_true (e ▸ List.mem_set (w.b.dl ▸ hx) _), (fun h => nomatch h), fun i r h => (ws.fx i r h).imp id .inl⟩
theorem Dec.yes (w : WY C W σ) (ws : WS' C W.s W.e W.Y on) {x : Nat} {l' : List Int} (n : l' ≠ []) (l3 : l'.length ≤ 3) {s' : StS} (g : Gr (fun _ => True) (-1) W.s s') (d : s'.dom = W.s.dom.set x l') : Dec C W x l' s' true := by
  have b := g.bnd w.b
  obtain ⟨es, t1, _, t3, _, _⟩ := g.tr
  refine ⟨by rw [decide_eq_false n]; rfl, b, (g.tx w.b.dl w.tx).2, by rw [t1]; exact w.lvs.grow t3 fun _ _ h => h, g.same.2.1, g.same.2.2.2.trans ws.fl, fun a ha => ?_, decide_eq_false fun h => (b.d _ (d ▸ h)).2 rfl, fun _ => d.symm, fun i r h => (ws.fx i r h).imp id fun f => ?_⟩
  · rw [d] at ha
    exact (List.mem_or_eq_of_mem_set ha).elim (ws.few a) fun e => e ▸ l3
  · rcases g.news.1 r.x with q | q
    · rcases g.news.1 r.y with q2 | q2
      · exact .inl (f.same q q2)
      · exact .inr (.inr q2)
    · exact .inr (.inl q)
noncomputable abbrev xG : SF := (am (a6 Bv (aF "literal")) (am (a6 zw (aF "kept")) (am (df (bL (e2 dE (a9 "decide" [(393, dN)] (af "desk") (aj (af "literal") ao)) (e2 dE (af "kept") (eL bK ao)))) (am (bk (an (.bool false))) aB) aB) (am (a6 (e2 bM (e2 bM (e2 fJ (af "now") (e2 aK (af "literal") (an (.int 0)))) (eL bK (aj (af "kept") ao))) (e2 iN (af "now") (e2 bM (e2 aK (af "literal") (an (.int 0))) (an (.int 1))))) (aF "now")) aB))))
theorem vV (w0 : WY C W σ) (ws : WS' C W.s W.e W.Y on) (ne : W.lv ≠ []) (cl : C.cells.length ≤ 100) (hk : W.k ≤ 890) (mu : m "urn" = some (.obj C.u)) (md : m "desk" = some (.obj C.S)) (mn : m "now" = some (.obj on))
    (next : ∀ W' on' bad a b τ, WY C W' τ → WX C W'.s W'.e W'.Y on' bad → W'.lv = W.lv → W'.k = W.k + 3 → W'.e = W.e → W'.stk = W.stk → Ks (.next, ((m.put "literal" a).put "kept" b).put "now" (.obj on')) τ) : Ok (xG m σ) Ks := by
  refine kB (kas (Aw w0 cl hk mu fun x sg z τ hx hs sk w => ?_))
  obtain ⟨ids, go, rr⟩ := ws.now
  obtain ⟨l, hl, dl, _⟩ := w.b.at hx
  obtain ⟨i, hi, gi⟩ := rr.get' hl
  have il : ids.length = 4 := rr.length.trans w.b.dl
  have inL : ∀ p ∈ W.Y, p ∈ (C.u, d9 C.c (W.k + 3)) :: eR W.stk W.obs :: b8 C.q C.rules :: bm W.A W.s (dh W.E W.e C.S W.Y) := fun p hp => .tail _ (.tail _ (.tail _ (dW hp)))
  refine kan (kB (kas (yG (m := m.put "literal" (i8 x sg z)) w.h (inL _ go) (inL _ gi) hi hx dl.len hs mn rfl fun j τ h => ?_)))
  have h : At τ ([bH j (l.filter (ob sg z)), (C.u, d9 C.c (W.k + 3)), eR W.stk W.obs, b8 C.q C.rules] ++ bm W.A W.s (dh W.E W.e C.S W.Y)) := h
  have lf := Nat.le_trans (List.length_filter_le (ob sg z) l) (ws.few l (List.mem_of_getElem? hl))
  refine kan (kB (kif (kof (k2 (kme (kn md (b9 (w.aS ▸ h.stoI) rfl rfl (klc (kn rfl (kl0 ?_))))))))))
  refine Ok.mono (wk (K := fun v τ => ∃ bb s', v = .bool bb ∧ At τ ([bH j (l.filter (ob sg z)), (C.u, d9 C.c (W.k + 3)), eR W.stk W.obs, b8 C.q C.rules] ++ bm W.A s' (dh W.E W.e C.S W.Y)) ∧ Dec C W x (l.filter (ob sg z)) s' bb) w.aS h w.b hl sk
    (fun e τ cl h => ⟨_, _, rfl, h, Dec.no w0 ws hx e cl⟩) fun n τ s' h g d => ⟨_, _, rfl, h, Dec.yes w0 ws n lf g d⟩) fun v τ ⟨bb, s', ev, h, d⟩ => ?_
  subst ev
  and_intros
  refine dL h (Nat.zero_le _) fun il τ h => ?_
  refine rk (iW 6 (l := l.filter (ob sg z)) (h.get 1 rfl)) (iW 6 (l := []) (h.get 0 rfl)) (mX _ _) (z7 ?_)
  rw [← d.hb, bne_self_eq_false]
  have inY : ∀ p ∈ W.Y, p ∈ (il, AObj.list []) :: ([bH j (l.filter (ob sg z)), (C.u, d9 C.c (W.k + 3)), eR W.stk W.obs, b8 C.q C.rules] ++ bm W.A s' (dh W.E W.e C.S W.Y)) := fun p hp => .tail _ (List.mem_append_right _ (dW hp))
  refine k0 (kB (kas (y1 (m := (m.put "literal" (i8 x sg z)).put "kept" (.obj j)) (j := j) (x := x) (sg := sg) (z := z) h (inY _ go) (by lia) (by lia) mn rfl rfl fun P o τ h hP => ?_)))
  and_intros
  have h : At τ ((P ++ [(il, AObj.list []), bH j (l.filter (ob sg z))]) ++ [(C.u, d9 C.c (W.k + 3)), eR W.stk W.obs, b8 C.q C.rules] ++ bm W.A s' (dh W.E W.e W.A.S W.Y)) := by
    rw [w.aS, List.append_assoc, List.append_assoc]; exact h
  have up : ∀ p ∈ W.Y, p ∈ (P ++ [(il, AObj.list []), bH j (l.filter (ob sg z))]) ++ W.Y := fun p hp => List.mem_append_right _ hp
  have h := h.park
  rw [w.aS] at h
  exact next { W with s := s', k := W.k + 3, Y := (P ++ [(il, AObj.list []), bH j (l.filter (ob sg z))]) ++ W.Y } o (!bb) _ _ τ
    ⟨w.aS, w.eE, h, d.b, d.tx, w.p.mono up, up _ w.cc, w.sk.mono fun _ _ q => q.sub up, d.lvs, d.mk'.trans w.mks, (by
      have hb := w.base
      show lS s'.dom W.lv = _
      rw [← hb]
      cases e : W.lv with
      | nil => exact absurd e ne
      | cons => rfl), w.lz.sub up⟩
    ⟨d.fl, d.few, ⟨W.s.dom.set x (l.filter (ob sg z)), ⟨ids.set x j, List.mem_append_left _ (List.mem_append_left _ hP), (rr.mono (R' := fun i l => bH i l ∈ _) fun _ _ q => up _ q).set (List.mem_append_left _ (List.mem_append_right _ (.tail _ (.head _)))) x⟩, d.nl, d.eq⟩, d.hf⟩ rfl rfl rfl rfl
end
theorem uO : ∀ L : List (List Int), (L.map fun l => PyData.list (l.map .int)).any (fun y => PyData.eqv y (.list [])) = decide ([] ∈ L)
  | [] => rfl
  | a :: L => by
    rw [List.map_cons, List.any_cons, uO L, show PyData.eqv (.list (a.map .int)) (.list []) = decide (a = []) from mX a []]
    exact Bool.eq_iff_iff.mpr ⟨fun h => decide_eq_true ((Bool.or_eq_true_iff.mp h).elim (fun h => of_decide_eq_true h ▸ .head _) fun h => List.mem_cons_of_mem _ (of_decide_eq_true h)), fun h => Bool.or_eq_true_iff.mpr ((List.mem_cons.mp (of_decide_eq_true h)).imp (fun e => decide_eq_true e.symm) fun h => decide_eq_true h)⟩
structure WN (C : WC) (m : Loc) (stk on : Nat) (st : Bool) : Prop where
  me : m "engine" = some (.obj C.EE)
  mu : m "urn" = some (.obj C.u)
  md : m "desk" = some (.obj C.S)
  ms : m "stack" = some (.obj stk)
  mn : m "now" = some (.obj on)
  mr : m "rules" = some (.obj C.q)
  mt : m "is_strict" = some (.bool st)
  ml : m "lots" = some (.obj C.o0)
section
variable {C : WC} {W : WD} {σ : AH} {K : KP} {Ks : KZ} {m : Loc} {on : Nat} {bad : Bool}
theorem Ck {L : List (Nat × AObj)} {M : List (List Int)} {i : Nat} (h : At σ L) (lo : Lot L on M) (gi : σ.get i = some (.list [])) (k : K (.bool (decide ([] ∈ M))) σ) : K2b ng (.obj i) K (.obj on) σ := by
  obtain ⟨ids, go, rr⟩ := lo
  refine Mine.go ?_ k
  unfold ng
  rw [qF (h.mem go) (iW 6 (l := []) gi) (nW h rr), show (([] : List Int).map PyData.int) = [] from rfl, uO]
  rfl
theorem WY.asked {τ : AH} {A' : SA} {s' : StS} {E' : EA} {e' : EnS} {Y' : List (Nat × AObj)} {k : Nat} (w : WY C W σ) (ne : W.lv ≠ []) (aS : A'.S = C.S) (eE : E'.E = C.EE) (h : At τ ((C.u, d9 C.c k) :: eR W.stk W.obs :: b8 C.q C.rules :: bm A' s' (dh E' e' C.S Y'))) (p : EP e' C.rules Y') (up : ∀ z ∈ W.Y, z ∈ Y')
    (a : Asked C.rules W.s s' W.e e') : WY C { W with A := A', s := s', E := E', e := e', Y := Y', k := k } τ := by
  obtain ⟨es, t1, t2, t3, _, _⟩ := a.hist.tr
  have mne : W.s.marks ≠ [] := fun z => ne (List.length_eq_zero_iff.mp (w.ml ▸ congrArg List.length z))
  refine ⟨aS, eE, h, a.bnd, fun en hen => ?_, p, up _ w.cc, w.sk.mono fun _ _ q => q.sub up, ?_, a.hist.marks.trans w.mks, ?_, w.lz.sub up⟩
  · have hen : en ∈ W.s.trail ++ es := t1 ▸ hen
    rcases List.mem_append.mp hen with z | z
    · exact w.tx en z
    · obtain ⟨i, r, _, hr, hx⟩ := t2 en z
      have ok := p.ok r (List.mem_of_getElem? hr)
      exact hx.elim (fun e => e ▸ ok.x) fun e => e ▸ ok.y
  · show Lvs C.rules e'.n s'.dom s'.trail W.lv
    rw [t1]; exact w.lvs.grow t3 fun _ => a.nall mne
  · have hb := w.base
    show lS s'.dom W.lv = _
    rw [← hb]
    cases e : W.lv with
    | nil => exact absurd e ne
    | cons => rfl
theorem uQ (w : WY C W σ) (ne : W.lv ≠ []) (k : ∀ τ A' s' o obs', W.obs = obs' ++ [o] → A'.S = C.S → At τ ((C.u, d9 C.c W.k) :: eR W.stk W.obs :: b8 C.q C.rules :: bm A' s' (dh W.E W.e C.S W.Y)) →
      (∀ τ', At τ' ((C.u, d9 C.c W.k) :: eR W.stk obs' :: b8 C.q C.rules :: bm A' s' (dh W.E W.e C.S W.Y)) → WY C { W with A := A', s := s', obs := obs', lv := W.lv.take (W.lv.length - 1) } τ' ∧ WS' C s' W.e W.Y o) → K .none τ) : Ok (bQ [.obj C.S, .int 1] σ) K := by
  have l1 : 1 ≤ W.lv.length := List.length_pos_iff.mpr ne
  obtain ⟨p, hp⟩ : ∃ p, W.lv[W.lv.length - 1]? = some p := ⟨_, List.getElem?_eq_getElem (by lia)⟩
  obtain ⟨o, ho, lo⟩ := w.sk.get' hp
  have q := w.lvs.at_ p (List.mem_of_getElem? hp)
  have eo : W.obs = W.obs.take (W.lv.length - 1) ++ [o] := by
    have t := List.take_succ (i := W.lv.length - 1) (l := W.obs)
    rw [ho, show W.lv.length - 1 + 1 = W.obs.length by rw [w.ol]; lia, List.take_length] at t
    exact t
  exact ow (n := 1) (G := [_, _, _]) w.aS w.h w.b w.tx w.lvs w.mks (Nat.le_refl _) l1 hp fun τ A' s' hA h z => k τ A' s' o _ eo hA h fun τ' h' =>
    ⟨⟨hA, w.eE, h', z.b, z.tx, w.p, w.cc, w.sk.take _, by rw [z.dom, z.tr]; exact w.lvs.pop hp, z.mr, (pz (d := W.s.dom) hp z.dom).trans w.base, w.lz⟩, ⟨z.fl, by rw [z.dom]; exact q.f, by rw [z.dom]; exact lo, by rw [z.dom]; exact q.fx⟩⟩
theorem asked_at {Y G : List (Nat × AObj)} {A : SA} {s : StS} {E : EA} {e : EnS} {rules : List Rule} {q o EE S : Nat} (hA : A.S = S) (hE : E.E = EE) (h : At σ (b8 q rules :: (G ++ bm A s (dh E e S Y)))) (b : Bnd s) (p : EP e rules Y) (fl : s.fl = false) (few : Few s.dom) (lo : Lot Y o s.dom)
    (hf : ∀ (i : Nat) (r : Rule), rules[i]? = some r → (i : Int) ∈ e.n ∨ Fix r (bG s.dom) ∨ (r.x : Int) ∈ s.news ∨ (r.y : Int) ∈ s.news)
    (k : ∀ v τ A' s' E' e' P, A'.S = S → E'.E = EE → At τ (b8 q rules :: (G ++ bm A' s' (dh E' e' S (P ++ Y)))) → EP e' rules (P ++ Y) → Asked rules s s' e e' →
      (v = .none ∧ s'.fl = true ∨ ∃ o', v = .obj o' ∧ s'.fl = false ∧ Lot (P ++ Y) o' s'.dom ∧ (∀ r ∈ rules, Fix r (bG s'.dom)) ∧ (s.marks = [] → e'.n = [])) → K v τ) : Ok (ci [.obj EE, .obj o, .obj q] σ) K := by
  subst hA; subst hE
  exact wt h b p fl few lo hf fun v τ A' s' E' e' P h1 h2 h => k v τ A' s' E' e' P h1 h2 (h1 ▸ h)
end
section
variable {C : WC} {W : WD} {σ : AH} {K : KP} {Ks : KZ} {m : Loc} {on : Nat} {bad st : Bool}
noncomputable abbrev vg (C : WC) (W : WD) (st : Bool) (Ks : KZ) : Prop := ∀ W' on' m' τ, WN C m' W'.stk on' st → WY C W' τ → WS' C W'.s W'.e W'.Y on' → W'.lv.length ≤ W.lv.length → W'.k ≤ W.k → (∀ n ∈ W.e.n, n ∈ W'.e.n) → Ks (.next, m') τ
theorem WY.mne (w : WY C W σ) (ne : W.lv ≠ []) : W.s.marks ≠ [] := fun z => ne (List.length_eq_zero_iff.mp (w.ml ▸ congrArg List.length z))
theorem Few.sub {ds es : List (List Int)} (f : Few ds) (hd : ds.length = 4) (g : yQ es) (h : ∀ x v, bG es x v → bG ds x v) : Few es := fun l hl => by
  obtain ⟨x, hx⟩ := List.getElem?_of_mem hl
  have x4 : x < ds.length := hd ▸ g.1 ▸ (List.getElem?_eq_some_iff.mp hx).1
  have hy := List.getElem?_eq_getElem x4
  exact Nat.le_trans ((g.2 l hl).1.nd.length_le_of_subset fun v hv => (dc hy v).mp (h x v ((dc hx v).mpr hv))) (f _ (List.mem_of_getElem? hy))
theorem vn {obs obs' : List Nat} {o : Nat} (e : obs = obs' ++ [o]) : obs.map PV.obj = obs'.map PV.obj ++ [PV.obj o] := by rw [e, List.map_append]; rfl
noncomputable abbrev xD : SF := (am (a6 (aD ci (aj (af "engine") (aj (af "now") (aj (af "rules") ao)))) (aF "due")) (am (df (bL (e2 cz (af "due") (an (.str "wrong")))) (am (bk (an (.bool false))) aB) aB) (am (df (bL (e2 jX (af "due") (an .none))) (am (bO (a9 "pop" [(393, bQ)] (af "desk") (aj (an (.int 1)) ao))) aB) aB) (am (a6 (sS (bL (e2 jX (af "due") (an .none))) (jA (af "stack") ao rS) (af "due")) (aF "now")) aB))))
theorem pT (w0 : WY C W σ) (wx : WX C W.s W.e W.Y on false) (ne : W.lv ≠ []) (nm : WN C m W.stk on st) (next : vg C W st Ks) : Ok (xD m σ) Ks := by
  obtain ⟨L, lo, _, eL⟩ := wx.now
  have eL := eL rfl
  subst eL
  obtain ⟨me, mu, md, ms, mn, mr, mt, ml⟩ := id nm
  have mne := w0.mne ne
  and_intros
  refine asked_at (G := [_, _]) w0.aS w0.eE (w0.h.perm (List.perm_middle (l₁ := [_, _]))) w0.b w0.p wx.fl wx.few lo wx.hf fun v τ A' s' E' e' P hA hE h p a hv => ?_
  have h := h.perm (List.perm_middle (l₁ := [_, _])).symm
  have w := w0.asked (k := W.k) ne hA hE h p (fun z hz => List.mem_append_right _ hz) a
  have ol := w.ol
  have l100 := w.l100
  rcases hv with ⟨rfl, _⟩ | ⟨o', rfl, fl, lo', fx, _⟩
  · and_intros
    refine vZ (c := false) rfl rfl rfl ?_
    and_intros
    exists b9 w.sto rfl rfl
    refine uQ w ne fun τ A2 s2 o obs' eo hA2 h fin => ?_
    and_intros
    refine jf (h.get 1 rfl) (kl0 (wX h 1 rfl (vn eo) (by rw [List.length_map]; lia) fun τ h => ?_))
    and_intros
    obtain ⟨w2, ws2⟩ := fin τ h
    exact next { W with A := A2, s := s2, E := E', e := e', Y := P ++ W.Y, obs := obs', lv := W.lv.take (W.lv.length - 1) } o _ τ ⟨me, mu, md, ms, rfl, mr, mt, ml⟩ w2 ws2 (List.length_take_le' _ _) (Nat.le_refl _) (a.nall mne)
  · have dl := dj w.h (lo'.sub fun z hz => .tail _ (.tail _ (.tail _ (dW hz))))
    and_intros
    refine vZ (c := false) dl rfl rfl ?_
    and_intros
    refine wL ?_
    show Kb _ (.bool false) τ
    and_intros
    refine wL ?_
    show Kb _ (.bool false) τ
    and_intros
    exact next { W with A := A', s := s', E := E', e := e', Y := P ++ W.Y } o' _ τ ⟨me, mu, md, ms, rfl, mr, mt, ml⟩ w ⟨fl, wx.few.sub w0.b.dl a.bnd.good a.sub, lo', fun j r hr => .inr (fx r (List.mem_of_getElem? hr))⟩ (Nat.le_refl _) (Nat.le_refl _) (a.nall mne)
noncomputable abbrev tL : SF := df (bL (e2 ng (eL bK ao) (af "now"))) (am (df (bL (a9 "propagate" [(80, bY)] (af "engine") ao)) (am (bk (an (.bool false))) aB) aB) (am (bO (a9 "pop" [(393, bQ)] (af "desk") (aj (an (.int 1)) ao))) (am (a6 (jA (af "stack") ao rS) (aF "now")) aB))) (am (df (o9 (bL (af "is_strict")) (bL (e2 cz (aD a8 (aj (af "urn") (aj (an (.int 2)) ao))) (an (.int 0))))) xD aB) aB)
theorem v4 (w : WY C W σ) (wx : WX C W.s W.e W.Y on bad) (ne : W.lv ≠ []) (cl : C.cells.length ≤ 100) (all : st = false → ∀ j : Nat, j < C.rules.length → (j : Int) ∈ W.e.n) (hk : W.k ≤ 900) (nm : WN C m W.stk on st) (next : vg C { W with k := W.k + 1 } st Ks) : Ok (tL m σ) Ks := by
  obtain ⟨L, lo, nl, eL⟩ := wx.now
  obtain ⟨me, mu, md, ms, mn, mr, mt, ml⟩ := id nm
  and_intros
  refine dL w.h (Nat.zero_le _) fun il τ h => ?_
  have inY : ∀ p ∈ W.Y, p ∈ (il, AObj.list []) :: (C.u, d9 C.c W.k) :: eR W.stk W.obs :: b8 C.q C.rules :: bm W.A W.s (dh W.E W.e C.S W.Y) := fun p hp => .tail _ (.tail _ (.tail _ (.tail _ (dW hp))))
  and_intros
  refine Ck h (lo.sub inY) (h.get 0 rfl) ?_
  rw [nl]
  have w : WY C W τ := ⟨w.aS, w.eE, h.tl, w.b, w.tx, w.p, w.cc, w.sk, w.lvs, w.mks, w.base, w.lz⟩
  have ol := w.ol
  have l100 := w.l100
  cases bad with
  | true =>
    and_intros
    exists b9 w.eng rfl rfl
    have h : At τ ([(C.u, d9 C.c W.k), eR W.stk W.obs, b8 C.q C.rules] ++ bm W.A W.s (dh W.E W.e W.A.S W.Y)) := by rw [w.aS]; exact w.h
    refine kK w.eE h.toE w.b (w.p.mono fun z hz => List.mem_append_right _ hz) wx.hf fun bb τ A2 s2 E2 e2 hA hE h p2 pr => ?_
    have h := h.ofE
    rw [hA, w.aS] at h
    obtain rfl : bb = false := by
      cases z : bb with
      | false => rfl
      | true => exact nomatch (pr.yes z).1.symm.trans wx.fl
    have w2 := w.asked (k := W.k) ne (hA.trans w.aS) (hE.trans w.eE) h (pr.ep w.p p2) (fun _ hz => hz) ⟨pr.bnd, pr.hist, pr.sub, pr.news, pr.nsub, pr.nall⟩
    and_intros
    exists b9 w2.sto rfl rfl
    refine uQ w2 ne fun τ A3 s3 o obs' eo hA3 h fin => ?_
    and_intros
    refine jf (h.get 1 rfl) (kl0 (wX h 1 rfl (vn eo) (by rw [List.length_map]; show W.obs.length ≤ _; lia) fun τ h => ?_))
    and_intros
    obtain ⟨w3, ws3⟩ := fin τ h
    exact next { W with A := A3, s := s3, E := E2, e := e2, obs := obs', lv := W.lv.take (W.lv.length - 1) } o _ τ ⟨me, mu, md, ms, rfl, mr, mt, ml⟩ w3 ws3 (List.length_take_le' _ _) (Nat.le_succ _) (pr.nall (w.mne ne))
  | false =>
    have eL := eL rfl
    subst eL
    refine kB (kif (kor (kof (kn mt ?_))))
    cases st with
    | true => exact pT w wx ne nm fun W' on' m' τ a b c d f g => k0 (next W' on' m' τ a b c d (Nat.le_succ_of_le f) g)
    | false =>
      refine kof (k2 (kcall (klc (kn mu (klc (kp (kl0 (j8 w cl hk (by decide) fun n τ a1 a2 w => ?_))))))))
      and_intros
      refine iZ (fun _ => ?_) fun _ => ?_
      · exact pT w wx ne nm fun W' on' m' τ a b c d f g => k0 (next W' on' m' τ a b c d f g)
      · and_intros
        exact next { W with k := W.k + 1 } on m τ nm w ⟨wx.fl, wx.few, lo, fun j r h => .inl (all rfl j (List.getElem?_eq_some_iff.mp h).1)⟩ (Nat.le_refl _) (Nat.le_refl _) fun _ h => h
end
section
variable {C : WC} {W : WD} {σ : AH} {K : KP} {Ks : KZ} {m : Loc} {on : Nat} {st : Bool}
noncomputable abbrev tB : SF := df (o9 (bL (e2 dE (aD cU (aj (af "desk") ao)) (af "now"))) (o9 (bL (e1 (aU [393] "is_failed") (af "desk"))) (bL (e2 dE (a9 "depth" [(393, cH)] (af "desk") ao) (aD cO (aj (af "stack") ao)))))) (am (bk (an (.bool false))) aB) aB
theorem sJ {G R : List (Nat × AObj)} {A : SA} {s : StS} {S : Nat} (hS : A.S = S) (h : At σ (G ++ bm A s R)) (b : SB s) (k : K (.int s.marks.length) σ) : Ok (cH [.obj S] σ) K := by
  subst hS; exact sn h.toS b k
theorem WY.lots (w : WY C W σ) (k : ∀ P o τ, Lot P o W.s.dom → At τ (P ++ ([(C.u, d9 C.c W.k), eR W.stk W.obs, b8 C.q C.rules] ++ bm W.A W.s (dh W.E W.e C.S W.Y))) → WY C W τ → K (.obj o) τ) : Ok (cU [.obj C.S] σ) K :=
  p8 w.aS (At.toS (G := [_, _, _]) w.h) w.b.sb fun P o τ h l => by
    have h := h.qS
    rw [List.append_assoc] at h
    exact k P o τ l h ⟨w.aS, w.eE, h.sub (List.sublist_append_right _ _), w.b, w.tx, w.p, w.cc, w.sk, w.lvs, w.mks, w.base, w.lz⟩
theorem vO (w : WY C W σ) (ws : WS' C W.s W.e W.Y on) (nm : WN C m W.stk on st) (next : ∀ τ, WY C W τ → Ks (.next, m) τ) : Ok (tB m σ) Ks := by
  obtain ⟨me, mu, md, ms, mn, mr, mt, ml⟩ := id nm
  and_intros
  refine w.lots fun P o τ l h w => ?_
  have ol := w.ol
  have l100 := w.l100
  and_intros
  refine rk (dj h (l.sub fun z hz => List.mem_append_left _ hz)) (dj h (ws.now.sub fun z hz => List.mem_append_right _ (List.mem_append_right _ (dW hz)))) (kI _ _) (Cd rfl ?_)
  and_intros
  refine gp w.sto rfl rfl ?_
  rw [ws.fl]
  and_intros
  exists b9 w.sto rfl rfl
  refine sJ (G := [_, _, _]) w.aS w.h w.b.sb ?_
  and_intros
  refine fN (w.h.get 1 rfl) (by rw [List.length_map]; lia) ?_
  refine kne (Cd (by rw [List.length_map, w.ml, ol]) ?_)
  and_intros
  exact next τ w
noncomputable abbrev yL : SF := (am (a6 (aD a8 (aj (af "urn") (aj (an (.int 4)) ao))) (aF "way")) (am (df (hU (bL (e2 cz (af "way") (an (.int 0)))) (bL (e2 (bU fun a b => decide (b < a)) (aD cO (aj (af "stack") ao)) (an (.int 1))))) xL (am (bO (a9 "push" [(393, dX)] (af "desk") ao)) (am (bO (jA (af "stack") (aj (af "now") ao) bP)) (am (df (bL (e2 (bU fun a b => decide (b < a)) (af "way") (an (.int 1)))) xG aB) aB)))) (am tL (am tB aB))))
theorem tV (w : WY C W σ) (ws : WS' C W.s W.e W.Y on) (cl : C.cells.length ≤ 100) (all : st = false → ∀ j : Nat, j < C.rules.length → (j : Int) ∈ W.e.n) (hk : W.k ≤ 800) (l50 : W.lv.length ≤ 50) (nm : WN C m W.stk on st)
    (next : ∀ W' on' m' τ, WN C m' W'.stk on' st → WY C W' τ → WS' C W'.s W'.e W'.Y on' → W'.lv.length ≤ W.lv.length + 1 → W'.k ≤ W.k + 5 → (∀ n ∈ W.e.n, n ∈ W'.e.n) → Ks (.next, m') τ) : Ok (yL m σ) Ks := by
  obtain ⟨me, mu, md, ms, mn, mr, mt, ml⟩ := id nm
  have rest : ∀ (W1 : WD) (on bad) (m : Loc) τ, WY C W1 τ → WX C W1.s W1.e W1.Y on bad → W1.lv ≠ [] → W1.lv.length ≤ W.lv.length + 1 → W1.k ≤ W.k + 4 → W1.e = W.e → WN C m W1.stk on st → Ok ((am tL (am tB aB)) m τ) Ks := fun W1 on bad m τ w wx ne h1 h2 h3 nm =>
    kB (v4 w wx ne cl (h3 ▸ all) (by lia) nm fun W' on' m' τ nm w ws a b c => kB (vO w ws nm fun τ w => k0 (next W' on' m' τ nm w ws (Nat.le_trans a h1) (Nat.le_trans b (by show W1.k + 1 ≤ _; lia)) (h3 ▸ c))))
  refine kB (kas (kcall (klc (kn mu (klc (kp (kl0 (j8 w cl (by lia) (by decide) fun way τ a1 a2 w => ?_))))))))
  have ol := w.ol
  refine kan (kB (nN (fun τ' => τ' = τ) ?_ ?_))
  · rintro τ' rfl
    refine tN (m := m.put "way" (.int way)) w ⟨ws.fl, ws.few, ws.now, ws.fx⟩ l50 md mn ms fun W1 τ w1 ws1 h1 h2 h3 h4 => ?_
    have ne : W1.lv ≠ [] := fun e => by rw [e] at h1; exact nomatch h1
    have h2 : W1.k = W.k + 1 := h2
    refine kB (kif (kof (k2 (kn rfl (kp (kcmp (iZ (fun _ => ?_) fun _ => ?_)))))))
    · exact vV (m := m.put "way" (.int way)) w1 ws1 ne cl (by lia) mu md mn fun W' on' bad a b τ w wx e1 e2 e3 e4 => k0 (rest W' on' bad _ τ w wx (e1 ▸ ne) (by rw [e1, h1]; exact Nat.le_refl _) (by lia) (e3.trans h3) ⟨me, mu, md, by rw [e4, h4]; exact ms, rfl, mr, mt, ml⟩)
    · exact k0 (k0 (rest W1 on false _ τ w1 (ws1.wx w1.b) ne (Nat.le_of_eq h1) (by lia) h3 ⟨me, mu, md, by rw [h4]; exact ms, mn, mr, mt, ml⟩))
  · and_intros
    refine iZ (fun c0 => ?_) fun c0 => rfl
    and_intros
    refine fN (w.h.get 1 rfl) (by rw [List.length_map]; show W.obs.length ≤ _; have : W.obs.length = W.lv.length := ol; lia) ?_
    and_intros
    refine iZ (fun c1 => ?_) fun c1 => rfl
    rw [List.length_map] at c1
    have l2 : 2 ≤ W.lv.length := by have : W.obs.length = W.lv.length := ol; have c1 : (1 : Int) < W.obs.length := c1; lia
    exact vz (m := m.put "way" (.int way)) w cl (by show W.k + 1 ≤ 900; lia) l2 mu md ms fun W' on z τ w ws ne h1 h2 h3 => rest W' on false _ τ w (ws.wx w.b) ne (Nat.le_succ_of_le h1) (by have h2 : W'.k = W.k + 1 + 1 := h2; lia) h3 ⟨me, mu, md, rfl, rfl, mr, mt, ml⟩
end
structure BS (C : WC) (A : SA) (s : StS) (E : EA) (e : EnS) (Y : List (Nat × AObj)) (k : Nat) (σ : AH) : Prop where
  aS : A.S = C.S
  eE : E.E = C.EE
  h : At σ ((C.u, d9 C.c k) :: b8 C.q C.rules :: bm A s (dh E e C.S Y))
  b : Bnd s
  tx : ∀ en ∈ s.trail, en.x < 4
  p : EP e C.rules Y
  cc : bH C.c C.cells ∈ Y
  ws : WS' C s e Y C.o0
  mz : s.marks = []
  d0 : s.dom = C.D0
section
variable {C : WC} {W : WD} {σ : AH} {K : KP} {Ks : KZ} {m : Loc} {on : Nat} {st : Bool}
theorem BS.wy {A : SA} {s : StS} {E : EA} {e : EnS} {Y : List (Nat × AObj)} {k stk : Nat} {τ : AH} (b : BS C A s E e Y k σ) (h : At τ ((C.u, d9 C.c k) :: eR stk [] :: b8 C.q C.rules :: bm A s (dh E e C.S Y))) : WY C ⟨A, s, E, e, Y, k, stk, [], []⟩ τ :=
  ⟨b.aS, b.eE, h, b.b, b.tx, b.p, b.cc, .nil, .nil, b.mz, b.d0, b.d0 ▸ b.ws.now⟩
theorem yd {S : Nat} (k : K .none σ) : Ok (bQ [.obj S, .int 0] σ) K := by
  refine kf rfl (kB ?_)
  and_intros
  refine Cf (by decide) ?_
  and_intros
  exact k
noncomputable abbrev zj : SF := (am (bO (a9 "pop" [(393, bQ)] (af "desk") (aj (aD cO (aj (af "stack") ao)) ao))) (am (bk (tG (e2 cz (aD cU (aj (af "desk") ao)) (af "lots")) (e2 cz (a9 "depth" [(393, cH)] (af "desk") ao) (an (.int 0))))) aB))
theorem wF (w : WY C W σ) (ws : WS' C W.s W.e W.Y on) (k : ∀ τ A' s', BS C A' s' W.E W.e W.Y W.k τ → At τ ((C.u, d9 C.c W.k) :: eR W.stk W.obs :: b8 C.q C.rules :: bm A' s' (dh W.E W.e C.S W.Y)) → K .none τ) : Ok (bQ [.obj C.S, .int W.lv.length] σ) K := by
  cases e : W.lv with
  | nil =>
    have d0 : W.s.dom = C.D0 := by have := w.base; rw [e] at this; exact this
    exact yd (k σ W.A W.s ⟨w.aS, w.eE, w.h.sub (.cons_cons _ (List.sublist_cons_self _ _)), w.b, w.tx, w.p, w.cc, ⟨ws.fl, ws.few, d0 ▸ w.lz, ws.fx⟩, by rw [w.mks, e]; rfl, d0⟩ w.h)
  | cons p r =>
    have hp : W.lv[W.lv.length - W.lv.length]? = some p := by rw [Nat.sub_self, e]; rfl
    have q := w.lvs.at_ p (List.mem_of_getElem? hp)
    have d0 : p.1 = C.D0 := by have := w.base; rw [e] at this; exact this
    rw [← e]
    refine ow (G := [_, _, _]) w.aS w.h w.b w.tx w.lvs w.mks (by rw [e]; exact Nat.succ_le_succ (Nat.zero_le _)) (Nat.le_refl _) hp fun τ A' s' hA h z => k τ A' s' ⟨hA, w.eE, h.sub (.cons_cons _ (List.sublist_cons_self _ _)), z.b, z.tx, w.p, w.cc, ⟨z.fl, by rw [z.dom]; exact q.f, by rw [z.dom, d0]; exact w.lz, by rw [z.dom]; exact q.fx⟩, by rw [z.mr, Nat.sub_self]; rfl, z.dom.trans d0⟩ h
theorem sY (w : WY C W σ) (ws : WS' C W.s W.e W.Y on) (nm : WN C m W.stk on st) (next : ∀ τ A' s', BS C A' s' W.E W.e W.Y W.k τ → Ks (.ret (.bool true), m) τ) : Ok (zj m σ) Ks := by
  obtain ⟨me, mu, md, ms, mn, mr, mt, ml⟩ := id nm
  have ol := w.ol
  have l100 := w.l100
  and_intros
  exists b9 w.sto rfl rfl, fN (w.h.get 1 rfl) (by rw [List.length_map]; lia)
  rw [List.length_map, ol]
  refine wF w ws fun τ A' s' b h => ?_
  and_intros
  refine p8 b.aS (At.toS (G := [_, _]) b.h) b.b.sb fun P o τ h l => ?_
  have h := h.qS
  rw [List.append_assoc] at h
  have b : BS C A' s' W.E W.e W.Y W.k τ := ⟨b.aS, b.eE, h.sub (List.sublist_append_right _ _), b.b, b.tx, b.p, b.cc, b.ws, b.mz, b.d0⟩
  have sto : τ.get C.S = some (.inst 393 (jU A' s')) := b.aS ▸ At.stoI (G := [_, _]) b.h
  and_intros
  refine vZ (dj h (l.sub fun z hz => List.mem_append_left _ hz)) (dj h (b.ws.now.sub fun z hz => List.mem_append_right _ (List.mem_append_right _ (dW hz)))) (kI _ _) (Cf rfl ?_)
  and_intros
  exists b9 sto rfl rfl
  refine sJ (G := [_, _]) b.aS b.h b.b.sb ?_
  rw [b.mz]
  and_intros
  exact next τ A' s' b
end
section
variable {C : WC} {σ : AH} {K : KP} {st : Bool} {A : SA} {s : StS} {E : EA} {e : EnS} {Y : List (Nat × AObj)} {k : Nat}
theorem mI (n : Int) : (gJ 0 n).length = n.toNat := by unfold gJ; rw [List.length_map, List.length_range, Int.sub_zero]
theorem vf (b : BS C A s E e Y k σ) (cl : C.cells.length ≤ 100) (all : st = false → ∀ j : Nat, j < C.rules.length → (j : Int) ∈ e.n) (hk : k ≤ 700)
    (next : ∀ τ A' s' E' e' Y' k', BS C A' s' E' e' Y' k' τ → k' ≤ k + 30 → (∀ n ∈ e.n, n ∈ e'.n) → K (.bool true) τ) : Ok (bq [.obj C.u, .obj C.EE, .obj C.o0, .obj C.q, .bool st] σ) K := by
  have eng : σ.get C.EE = some (.inst 80 (qt C.S E e)) := b.eE ▸ b.h.mem (.tail _ (.tail _ (List.mem_append_right (bm A s []) (.head _))))
  refine kf rfl (kB ?_)
  and_intros
  exists gp eng rfl rfl
  refine dL b.h (Nat.zero_le _) fun stk τ h => ?_
  have w := b.wy (stk := stk) (h.perm (.swap _ _ _))
  and_intros
  have mm : ∀ {K : KP}, (∀ many, 0 < many → many ≤ 3 → K (.int many) τ) → Kb (Kif (an (.int 2)) (an (.int 3)) (yX (yT AG ["urn", "engine", "lots", "rules", "is_strict"] [.obj C.u, .obj C.EE, .obj C.o0, .obj C.q, .bool st]) ["desk", "now", "stack"] [.obj C.S, .obj C.o0, .obj stk]) K) (.bool st) τ := fun q => by
    cases st with
    | true => exact kp (q 2 (by decide) (by decide))
    | false => exact kp (q 3 (by decide) (by decide))
  refine mm fun many h0 h3 => ?_
  and_intros
  refine j8 w cl (by show k ≤ 900; lia) h0 fun n τ a1 a2 w => ?_
  and_intros
  have l5 : (2 + n).toNat ≤ 4 := by lia
  refine pI (A9 ⟨rfl, decide_eq_true (by lia)⟩ (gD (fun j m τ => ∃ W on, WN C m W.stk on st ∧ WY C W τ ∧ WS' C W.s W.e W.Y on ∧ W.lv.length ≤ j ∧ W.k ≤ k + 1 + 5 * j ∧ ∀ n ∈ e.n, n ∈ W.e.n) (fun _ _ _ _ => qr _ _) ⟨_, C.o0, ⟨rfl, rfl, rfl, rfl, rfl, rfl, rfl, rfl⟩, w, b.ws, Nat.le_refl _, Nat.le_refl _, fun _ h => h⟩ (fun j v ej m τ zz => ?_) fun m τ zz => ?_))
  · obtain ⟨W, on, nm, w, ws, hl, hk', sub⟩ := zz
    have j4 : j < 4 := Nat.lt_of_lt_of_le (mI (2 + n) ▸ (List.getElem?_eq_some_iff.mp ej).1) l5
    exact kan (tV (m := m.put "lap" v) w ws cl (fun z i hi => sub _ (all z i hi)) (by lia) (by lia) ⟨nm.me, nm.mu, nm.md, nm.ms, nm.mn, nm.mr, nm.mt, nm.ml⟩ fun W' on' m' τ nm' w' ws' a b c => ⟨W', on', nm', w', ws', by lia, by lia, fun n q => c n (sub n q)⟩)
  · obtain ⟨W, on, nm, w, ws, hl, hk', sub⟩ := zz
    rw [mI] at hk'
    exact k0 (sY w ws nm fun τ A' s' b' => next τ A' s' W.E W.e W.Y W.k b' (by lia) sub)
end
section
variable {C : WC} {σ : AH} {K : KP} {A : SA} {s : StS} {E : EA} {e : EnS} {Y : List (Nat × AObj)} {k : Nat} {m : Loc}
theorem BS.rule (b : BS C A s E e Y k σ) (cl : C.cells.length ≤ 100) (hk : k ≤ 800) (q : ∀ r k' τ, r.Ok → k' ≤ k + 6 → BS C A s E e Y k' τ → K (dC r) τ) : Ok (dn [.obj C.u] σ) K :=
  yR b.h (.tail _ (dW b.cc)) cl hk fun r k' τ ok hk h => q r k' τ ok hk ⟨b.aS, b.eE, h, b.b, b.tx, b.p, b.cc, b.ws, b.mz, b.d0⟩
theorem BS.added {r : Rule} (b : BS C A s E e Y k σ) (rl : C.rules.length ≤ 9) (ok : r.Ok) (q : ∀ τ e' Y', BS { C with rules := C.rules ++ [r] } A s E e' Y' k τ → (∀ n, n ∈ e'.n ↔ n ∈ e.n ∨ n = C.rules.length) → K (.bool true) τ) : Ok (c6 [.obj C.EE, .obj C.q, dC r] σ) K := by
  have h := b.h.perm (.swap _ _ _)
  obtain ⟨aS, eE, _, bb, tx, p, cc, ws, mz, d0⟩ := b
  rw [← aS] at h
  rw [← eE]
  refine xh (G := [_]) h p rl ok fun τ e' P h p hn => q τ e' (P ++ Y) ⟨aS, eE, ?_, bb, tx, p, List.mem_append_right _ cc, ⟨ws.fl, ws.few, ws.now.sub fun _ hz => List.mem_append_right _ hz, fun j r' hr => ?_⟩, mz, d0⟩ hn
  · rw [aS] at h
    exact h.perm (.swap _ _ _)
  · rcases Nat.lt_or_ge j C.rules.length with y | y
    · exact (ws.fx j r' (by rw [List.getElem?_append_left y] at hr; exact hr)).imp (fun z => (hn _).mpr (.inl z)) id
    · have : j < (C.rules ++ [r]).length := (List.getElem?_eq_some_iff.mp hr).1
      rw [List.length_append, List.length_singleton] at this
      exact .inl ((hn _).mpr (.inr (by lia)))
theorem BS.asked (b : BS C A s E e Y k σ) (q : ∀ v τ, (v = .none ∨ ∃ o' A' s' E' e' Y', v = .obj o' ∧ BS { C with o0 := o', D0 := s'.dom } A' s' E' e' Y' k τ) → K v τ) : Ok (ci [.obj C.EE, .obj C.o0, .obj C.q] σ) K :=
  asked_at (G := [_]) b.aS b.eE (b.h.perm (.swap _ _ _)) b.b b.p b.ws.fl b.ws.few b.ws.now (fun i r h => (b.ws.fx i r h).imp id .inl) fun v τ A' s' E' e' P hA hE h p a hv => q v τ (hv.imp And.left fun ⟨o', ev, fl, lo, fx, _⟩ => ⟨o', A', s', E', e', P ++ Y, ev, hA, hE, h.perm (.swap _ _ _), a.bnd, fun en hen => by
    obtain ⟨es, t1, t2, _⟩ := a.hist.tr
    rw [t1] at hen
    rcases List.mem_append.mp hen with z | z
    · exact b.tx en z
    · obtain ⟨i, r, _, hr, hx⟩ := t2 en z
      have ok := p.ok r (List.mem_of_getElem? hr)
      exact hx.elim (fun e => e ▸ ok.x) fun e => e ▸ ok.y, p, List.mem_append_right _ b.cc, ⟨fl, b.ws.few.sub b.b.dl a.bnd.good a.sub, lo, fun j r hr => .inr (fx r (List.mem_of_getElem? hr))⟩, a.hist.marks.trans b.mz, rfl⟩)
theorem BS.due (b : BS C A s E e Y k σ) : deep σ 8 (.obj C.o0) = some (.list (s.dom.map fun l => .list (l.map .int))) := dj b.h (b.ws.now.sub fun z hz => .tail _ (.tail _ (dW hz)))
theorem ut {u EE o0 q : Nat} {st : Bool} (b : BS C A s E e Y k σ) (hu : C.u = u) (hE : C.EE = EE) (ho : C.o0 = o0) (hq : C.q = q) (cl : C.cells.length ≤ 100) (all : st = false → ∀ j : Nat, j < C.rules.length → (j : Int) ∈ e.n) (hk : k ≤ 700)
    (next : ∀ τ A' s' E' e' Y' k', BS C A' s' E' e' Y' k' τ → k' ≤ k + 30 → (∀ n ∈ e.n, n ∈ e'.n) → K (.bool true) τ) : Ok (bq [.obj u, .obj EE, .obj o0, .obj q, .bool st] σ) K := by
  subst hu; subst hE; subst ho; subst hq; exact vf b cl all hk next
theorem BS.rule_at {u : Nat} (b : BS C A s E e Y k σ) (hu : C.u = u) (cl : C.cells.length ≤ 100) (hk : k ≤ 800) (q : ∀ r k' τ, r.Ok → k' ≤ k + 6 → BS C A s E e Y k' τ → K (dC r) τ) : Ok (dn [.obj u] σ) K := by subst hu; exact b.rule cl hk q
theorem BS.added_at {EE q0 : Nat} {r : Rule} (b : BS C A s E e Y k σ) (hE : C.EE = EE) (hq : C.q = q0) (rl : C.rules.length ≤ 9) (ok : r.Ok) (q : ∀ τ e' Y', BS { C with rules := C.rules ++ [r] } A s E e' Y' k τ → (∀ n, n ∈ e'.n ↔ n ∈ e.n ∨ n = C.rules.length) → K (.bool true) τ) : Ok (c6 [.obj EE, .obj q0, dC r] σ) K := by
  subst hE; subst hq; exact b.added rl ok q
theorem BS.asked_at {EE o0 q0 : Nat} (b : BS C A s E e Y k σ) (hE : C.EE = EE) (ho : C.o0 = o0) (hq : C.q = q0) (q : ∀ v τ, (v = .none ∨ ∃ o' A' s' E' e' Y', v = .obj o' ∧ BS { C with o0 := o', D0 := s'.dom } A' s' E' e' Y' k τ) → K v τ) : Ok (ci [.obj EE, .obj o0, .obj q0] σ) K := by
  subst hE; subst ho; subst hq; exact b.asked q
noncomputable abbrev uH : SF := (am (df (fU (bL (aD bq (aj (af "urn") (aj (af "engine") (aj (af "lots") (aj (af "rules") (aj (an (.bool false)) ao)))))))) (am (bk (an (.bool false))) aB) aB) (am (a6 (aD ci (aj (af "engine") (aj (af "lots") (aj (af "rules") ao)))) (aF "due")) (am (df (o9 (bL (e2 jX (af "due") (an .none))) (bL (e2 cz (af "due") (an (.str "wrong"))))) (am (bk (e2 jX (af "due") (an .none))) aB) aB) (am (df (fU (bL (aD bq (aj (af "urn") (aj (af "engine") (aj (af "due") (aj (af "rules") (aj (an (.bool true)) ao)))))))) (am (bk (an (.bool false))) aB) aB) (am (df (o9 (fU (bL (aD c6 (aj (af "engine") (aj (af "rules") (aj (aD dn (aj (af "urn") ao)) ao)))))) (fU (bL (aD bq (aj (af "urn") (aj (af "engine") (aj (af "due") (aj (af "rules") (aj (an (.bool true)) ao))))))))) (am (bk (an (.bool false))) aB) aB) (am (bk (e2 dE (aD ci (aj (af "engine") (aj (af "due") (aj (af "rules") ao)))) (an (.str "wrong")))) aB))))))
theorem sT (b : BS C A s E e Y k σ) (cl : C.cells.length ≤ 100) (all : ∀ j : Nat, j < C.rules.length → (j : Int) ∈ e.n) (hk : k ≤ 300) (rl : C.rules.length ≤ 5) (mu : m "urn" = some (.obj C.u)) (me : m "engine" = some (.obj C.EE)) (ml : m "lots" = some (.obj C.o0)) (mr : m "rules" = some (.obj C.q)) :
    Ok (uH m σ) (Kf fun v _ => v = .bool true) := by
  and_intros
  refine vf b cl (fun _ => all) (by lia) fun τ A s E e Y k1 b hk1 _ => ?_
  and_intros
  refine b.asked fun v τ hv => ?_
  rcases hv with rfl | ⟨o, A, s, E, e, Y, rfl, b⟩
  · and_intros
    rfl
  · and_intros
    refine wL ?_
    show Kb _ (.bool false) τ
    and_intros
    refine vZ (c := false) b.due rfl rfl ?_
    and_intros
    refine ut b rfl rfl rfl rfl cl (fun z => nomatch z) (by lia) fun τ A s E e Y k2 b hk2 _ => ?_
    and_intros
    refine b.rule_at rfl cl (by lia) fun r k3 τ ok hk3 b => ?_
    and_intros
    refine b.added_at rfl rfl (show C.rules.length ≤ 9 by lia) ok fun τ e Y b _ => ?_
    and_intros
    refine ut b rfl rfl rfl rfl cl (fun z => nomatch z) (by lia) fun τ A s E e Y k4 b hk4 _ => ?_
    and_intros
    refine b.asked_at rfl rfl rfl fun v τ hv => ?_
    rcases hv with rfl | ⟨o, A, s, E, e, Y, rfl, b⟩
    · and_intros
      refine rk (c := false) rfl rfl rfl ?_
      and_intros
      rfl
    · and_intros
      refine rk (c := false) b.due rfl rfl ?_
      and_intros
      rfl
end
section
variable {σ : AH} {K : KP} {Ks : KZ} {m : Loc} {L : List (Nat × AObj)} {A : SA} {u c o k : Nat} {cells : List Int} {ids : List Nat} {ds : List (List Int)}
noncomputable def lP (ns : List Int) : List Int := base6.filter fun v => ns.contains v
theorem xy {ns : List Int} (h : ∀ v ∈ ns, -2 ≤ v ∧ v ≤ 3) (v : Int) : v ∈ ns ↔ v ∈ lP ns := by
  unfold lP
  rw [List.mem_filter, List.contains_iff_mem]
  refine ⟨fun q => ⟨?_, q⟩, And.right⟩
  have := h v q
  have : v = -2 ∨ v = -1 ∨ v = 0 ∨ v = 1 ∨ v = 2 ∨ v = 3 := by lia
  rcases this with e | e | e | e | e | e <;> rw [e] <;> decide
noncomputable abbrev wB : EF := dR ["urn"] (gU (aD ee (aj (e2 bM (an (.int 2)) (aD a8 (aj (af "urn") (aj (an (.int 2)) ao)))) ao))) (aF "lap") eN (dH (e2 (c7 (· - ·)) (aD a8 (aj (af "urn") (aj (an (.int 6)) ao))) (an (.int 2))))
theorem xX (h : At σ ((u, d9 c k) :: L)) (hc : bH c cells ∈ L) (cl : cells.length ≤ 100) (hk : k ≤ 800) (mu : m "urn" = some (.obj u)) (q : ∀ i ns k' τ, At τ (bH i ns :: (u, d9 c k') :: L) → k' ≤ k + 4 → ns ≠ [] → ns.length ≤ 3 → (∀ v ∈ ns, -2 ≤ v ∧ v ≤ 3) → K (.obj i) τ) : Ok (wB m σ) K := by
  and_intros
  refine fz h hc cl (by omega) (by decide) fun n τ a1 a2 h => ?_
  and_intros
  have rl := mI (2 + n)
  refine pI (A9 ⟨rfl, decide_eq_true (by omega)⟩ (B8 (l := gJ 0 (2 + n)) (fun j ys m τ => m "urn" = some (.obj u) ∧ ∃ ns : List Int, At τ ((u, d9 c (k + 1 + j)) :: L) ∧ ys = ns.map PV.int ∧ ns.length = j ∧ ∀ v ∈ ns, -2 ≤ v ∧ v ≤ 3) (fun _ _ _ _ _ => qr _ _) ⟨mu, [], h, rfl, rfl, fun _ h => nomatch h⟩ (fun j v ej ys m τ zz => ?_) fun ys m τ zz => ?_))
  · obtain ⟨m1, ns, h, e1, e2, e3⟩ := zz
    have j3 := (List.getElem?_eq_some_iff.mp ej).1
    and_intros
    refine zY (by rw [e1, List.length_map]; omega) ?_
    and_intros
    refine fz h hc cl (by omega) (by decide) fun z τ b1 b2 h => ?_
    and_intros
    exact ⟨m1, ns ++ [z - 2], h, by rw [e1, List.map_append]; rfl, by rw [List.length_append, List.length_singleton, e2], fun v hv => (List.mem_append.mp hv).elim (e3 v) fun hv => by rw [List.mem_singleton.mp hv]; omega⟩
  · obtain ⟨_, ns, h, e1, e2, e3⟩ := zz
    refine go (if_pos (by rw [e1, List.length_map]; omega)) ?_
    rw [e1]
    exact q _ ns _ _ (h.new _) (by omega) (fun e => by have := congrArg List.length e; rw [List.length_nil, e2, rl] at this; omega) (by omega) e3
noncomputable abbrev lB (ds : List (List Int)) : StS := { Cb with dom := ds, fst := ds }
noncomputable abbrev yI : SF := (am (bO (jA (af "lots") (aj (e1 cX wB) ao) bP)) (am (bO (a9 "new_var" [(393, eA)] (af "desk") (aj (aD fw (aj (e2 aK (af "lots") (af "x")) ao)) ao))) aB))
theorem uo (h : At σ ((u, d9 c k) :: eR o ids :: bm A (lB ds) L)) (hc : bH c cells ∈ L) (cl : cells.length ≤ 100) (hk : k ≤ 800) (il : ids.length = ds.length) (d4 : ds.length ≤ 4) (mu : m "urn" = some (.obj u)) (md : m "desk" = some (.obj A.S)) (ml : m "lots" = some (.obj o)) (mx : m "x" = some (.int ds.length))
    (next : ∀ P i l k' τ, At τ ((u, d9 c k') :: eR o (ids ++ [i]) :: bm A (lB (ds ++ [l])) (P ++ L)) → bH i l ∈ P → k' ≤ k + 4 → Dom l → l ≠ [] → l.length ≤ 3 → Ks (.next, m) τ) : Ok (yI m σ) Ks := by
  refine kB (kx (klm (kn ml (jf (h.get 1 rfl) (klc (k1 (xX h (.tail _ (List.mem_append_right (bm A (lB ds) []) hc)) cl hk mu fun i1 ns k' τ h hk' n0 n3 hb => ?_)))))))
  have dl : Dom (lP ns) := List.filter_sublist
  have hm := xy hb
  have l3 : (lP ns).length ≤ 3 := Nat.le_trans (dl.nd.length_le_of_subset fun v hv => (hm v).mpr hv) n3
  have ne : lP ns ≠ [] := fun e => by
    cases ns with
    | nil => exact n0 rfl
    | cons v r => have := (hm v).mp (.head _); rw [e] at this; cases this
  refine wA h (.head _) (by omega) dl l3 hm fun i2 τ h => ?_
  refine kl0 (gR h 3 rfl (by rw [List.length_map]; omega) (eh PV.obj _ _) fun τ h => ?_)
  have h : At τ ([bH i2 (lP ns), bH i1 ns, (u, d9 c k'), eR o (ids ++ [i2])] ++ bm A (lB ds) L) := h
  refine kB (kx (kme (kn md (b9 h.stoI rfl rfl (klc (kcall (klc (k2 (kn ml (kn mx (uv (h.get 3 rfl) (x := ds.length) (v := .obj i2) (by rw [List.getElem?_map, List.getElem?_append_right (Nat.le_of_eq il), il, Nat.sub_self]; rfl) (by omega) rfl (kl0 ?_))))))))))))
  refine .eq (zb dl (h.get 0 rfl)) (kl0 ?_)
  have h := h.set 0 rfl (.list ((lP ns).map .int))
  have h : At _ ([bH i2 (lP ns), bH i1 ns, (u, d9 c k'), eR o (ids ++ [i2])] ++ bm A (lB ds) L) := h
  refine th h.toS dl ne (Nat.le_trans d4 (by decide)) (Nat.le_trans d4 (by decide)) fun v τ h => ?_
  refine k0 (next [bH i2 (lP ns), bH i1 ns] i2 (lP ns) k' τ ?_ (.head _) hk' dl ne l3)
  have p : (([bH i2 (lP ns), bH i1 ns] ++ [(u, d9 c k'), eR o (ids ++ [i2])]) ++ L).Perm ([(u, d9 c k'), eR o (ids ++ [i2])] ++ ([bH i2 (lP ns), bH i1 ns] ++ L)) := by
    rw [← List.append_assoc]; exact List.perm_append_comm.append_right _
  exact At.ofS (G := [_, _]) (h.perm (p.append_left (bm A (lB (ds ++ [lP ns])) [])))
end
section
variable {σ : AH} {K : KP} {Ks : KZ} {m : Loc} {L : List (Nat × AObj)} {A : SA} {u c o k : Nat} {cells : List Int} {ids : List Nat} {ds : List (List Int)} {a0 : Addr} {ns : List Int}
theorem wW : ∀ {ds : List (List Int)}, Few ds → sz ds ≤ 3 * ds.length
  | [], _ => Nat.le_refl _
  | d :: ds, h => by
    have h1 := h d (.head _)
    have h2 := wW (ds := ds) fun e he => h e (.tail _ he)
    show d.length + sz ds ≤ 3 * (ds.length + 1)
    lia
noncomputable abbrev yg : SF := (am (df (fU (bL (aD c6 (aj (af "engine") (aj (af "rules") (aj (aD dn (aj (af "urn") ao)) ao)))))) (am (bk (an (.bool false))) aB) aB) aB)
noncomputable abbrev Ax : SF := (am (gw (eL aX (aj (aD (eC 80 dJ) (aj (af "desk") ao)) (aj (eL bK ao) ao))) (dF ["engine", "rules"])) (am (gt (gU (aD ee (aj (e2 bM (an (.int 2)) (aD a8 (aj (af "urn") (aj (an (.int 2)) ao)))) ao))) (aF "lap") yg aB) uH))
theorem vL (h : At σ ((u, d9 c k) :: eR o ids :: bm A (lB ds) L)) (hc : bH c cells ∈ L) (cl : cells.length ≤ 100) (rr : All2 (fun i l => bH i l ∈ L) ids ds) (d4 : ds.length = 4) (gd : ∀ l ∈ ds, Dom l ∧ l ≠ [] ∧ l.length ≤ 3) (hk : k ≤ 100) (mu : m "urn" = some (.obj u)) (md : m "desk" = some (.obj A.S)) (ml : m "lots" = some (.obj o)) :
    Ok (Ax m σ) (Kf fun v _ => v = .bool true) := by
  have few : Few ds := fun l hl => (gd l hl).2.2
  have sl := wW few
  and_intros
  refine tm (At.toS (G := [_, _]) h) fun E τ h => ?_
  and_intros
  refine dL (At.ofE (G := [_]) (Y := eR o ids :: L) h) (Nat.zero_le _) fun q τ h => ?_
  have h : At τ ((u, d9 c k) :: b8 q [] :: bm A (lB ds) (dh E AN A.S (eR o ids :: L))) := h.perm (.swap _ _ _)
  let C : WC := ⟨A.S, E.E, u, c, q, o, cells, [], ds⟩
  have b : BS C A (lB ds) E AN (eR o ids :: L) k τ := ⟨rfl, rfl, h, ⟨d4, fun l hl => ⟨(gd l hl).1, (gd l hl).2.1⟩, d4, fun l hl => ⟨(gd l hl).1, (gd l hl).2.1⟩, by show 0 + sz ds ≤ 100; lia, Nat.zero_le _, List.nodup_nil, fun _ h => nomatch h⟩, (fun _ h => nomatch h),
    ⟨rfl, (fun i r h => nomatch h), (fun r h => nomatch h), (fun x n => ⟨(fun h => nomatch h), fun ⟨_, _, _, h, _⟩ => nomatch h⟩), ⟨Nat.zero_le _, fun _ => Nat.zero_le _⟩, Nat.zero_le _, .nil _, .nil _, .nil _⟩, .tail _ hc, ⟨rfl, few, ⟨ids, .head _, rr.mono fun _ _ q => .tail _ q⟩, fun j r h => nomatch h⟩, rfl, rfl⟩
  have cC : C.cells = cells := rfl
  and_intros
  refine fz b.h (.tail _ (dW b.cc)) cl (by lia) (by decide) fun n τ a1 a2 h => ?_
  have b : BS C A (lB ds) E AN (eR o ids :: L) (k + 1) τ := ⟨rfl, rfl, h, b.b, b.tx, b.p, b.cc, b.ws, b.mz, b.d0⟩
  and_intros
  have rl := mI (2 + n)
  refine pI (A9 ⟨rfl, decide_eq_true (by lia)⟩ (gD (fun j m τ => m "urn" = some (.obj u) ∧ m "engine" = some (.obj E.E) ∧ m "lots" = some (.obj o) ∧ m "rules" = some (.obj q) ∧ ∃ rules e Y k', BS { C with rules := rules } A (lB ds) E e Y k' τ ∧ rules.length = j ∧ k' ≤ k + 1 + 6 * j ∧ ∀ i : Nat, i < rules.length → (i : Int) ∈ e.n) (fun _ _ _ _ => qr _ _) ⟨mu, rfl, ml, rfl, [], AN, _, _, b, rfl, Nat.le_refl _, fun i hi => absurd hi (Nat.not_lt_zero _)⟩ (fun j v ej m τ zz => ?_) fun m τ zz => ?_))
  · obtain ⟨m1, m2, m3, m4, rules, e, Y, k', b, hr, hk', all⟩ := zz
    have j4 := (List.getElem?_eq_some_iff.mp ej).1
    and_intros
    refine b.rule_at rfl cl (by lia) fun r k2 τ ok hk2 b => ?_
    and_intros
    refine b.added_at rfl rfl (show rules.length ≤ 9 by lia) ok fun τ e' Y' b hn => ?_
    and_intros
    refine ⟨m1, m2, m3, m4, rules ++ [r], e', Y', k2, b, by rw [List.length_append, List.length_singleton, hr], by lia, fun i hi => (hn _).mpr ?_⟩
    rw [List.length_append, List.length_singleton] at hi
    rcases Nat.lt_succ_iff_lt_or_eq.mp hi with z | z
    · exact .inl (all i z)
    · exact .inr (congrArg _ z)
  · obtain ⟨m1, m2, m3, m4, rules, e, Y, k', b, hr, hk', all⟩ := zz
    exact k0 (sT b cl all (by lia) (show rules.length ≤ 5 by lia) m1 m2 m3 m4)
end
section
variable {σ : AH} {K : KP} {Ks : KZ} {m : Loc} {L : List (Nat × AObj)} {a0 : Addr} {ns : List Int}
theorem Df {is : List Int} {Kl : List PV → AH → Prop} (k : Kl (is.map .int) σ) : Ok (sE is m σ) Kl := go rfl k
theorem BQ (k : K (.int ns.length) σ) : K1 (uu a0 ns) K [.raw a0] σ := go (if_pos rfl) k
theorem CQ (h : At σ L) (k : ∀ i τ, At τ (bH i (ns.take 60) :: L) → K (.obj i) τ) : K2b (kX a0 ns) (.raw a0) K (.int 60) σ := go (if_pos ⟨rfl, by decide⟩) (k _ _ (h.new _))
noncomputable abbrev AC (a0 : Addr) (ns : List Int) : EF := (sS (bL (e2 (bU fun a b => decide (b < a)) (aD (uu a0 ns) (aj (af "script") ao)) (an (.int 0)))) (aD lY (aj (e2 (kX a0 ns) (af "script") (an (.int 60))) ao)) (af "built"))
theorem xz {j : Nat} {built : List Int} (h : At σ [bH j built]) (hb : built.length ≤ 100) (ms : m "script" = some (.raw a0)) (mb : m "built" = some (.obj j)) (q : ∀ c cells L τ, At τ L → bH c cells ∈ L → cells.length ≤ 100 → K (.obj c) τ) : Ok (AC a0 ns m σ) K := by
  and_intros
  refine BQ ?_
  and_intros
  refine iZ (fun _ => ?_) fun _ => ?_
  · have tl : ((ns.take 60).map PV.int).length ≤ 100 := by rw [List.length_map, List.length_take]; lia
    and_intros
    refine CQ h fun i τ h => ?_
    refine kl0 (tM h (.head _) (Nat.le_trans tl (by decide)) fun j τ h => ?_)
    exact q j (ns.take 60) _ τ h (.head _) (by rw [List.length_map] at tl; exact tl)
  · and_intros
    exact q j built _ σ h (.head _) hb
theorem zT : Ok (uY a0 ns [.raw a0] σ) fun v _ => v = .bool true := by
  have h : At σ [] := ⟨List.nodup_nil, fun _ h => nomatch h⟩
  refine kf rfl (kB (kas (kL (Df ?_))))
  refine dL h (Nat.le_of_ble_eq_true rfl) fun ib τ h => ?_
  refine kan (kB (kas (kL (klc (CR (klc (xz h (Nat.le_of_ble_eq_true rfl) rfl rfl fun c cells L τ h hc cl => ?_)))))))
  have h := h.new (.sdict [("cells", .obj c), ("at", .int 0)])
  refine klc (kp (kl0 (klc (kcall (kl0 (vS h fun A τ h => ?_))))))
  and_intros
  refine dL h (Nat.zero_le _) fun o τ h => ?_
  have h := h.perm (((List.perm_middle (l₁ := bm A Cb [])).cons _).trans (.swap _ _ _))
  generalize Ehu : AH.next _ = u at h
  have h : At τ ((u, d9 c 0) :: eR o [] :: bm A (lB []) L) := h
  and_intros
  refine pI (A9 ⟨rfl, rfl⟩ (gD (fun j m τ => m "urn" = some (.obj u) ∧ m "desk" = some (.obj A.S) ∧ m "lots" = some (.obj o) ∧ ∃ ids ds L k, At τ ((u, d9 c k) :: eR o ids :: bm A (lB ds) L) ∧ bH c cells ∈ L ∧ All2 (fun i l => bH i l ∈ L) ids ds ∧ ds.length = j ∧ (∀ l ∈ ds, Dom l ∧ l ≠ [] ∧ l.length ≤ 3) ∧ k ≤ 4 * j) (fun _ _ _ _ => qr _ _) ⟨rfl, rfl, rfl, [], [], L, 0, h, hc, .nil, rfl, (fun _ h => nomatch h), Nat.le_refl _⟩ (fun j v ej m τ zz => ?_) fun m τ zz => ?_))
  · obtain ⟨m1, m2, m3, ids, ds, L, k, h, hc, rr, hd, gd, hk⟩ := zz
    have j4 : j < 4 := (List.getElem?_eq_some_iff.mp ej).1
    rw [kU, if_pos (show j < ((4 : Int) - 0).toNat from j4)] at ej
    have ej : v = .int j := by rw [← Option.some.inj ej, Int.zero_add]
    subst ej
    refine kan (uo (m := m.put "x" (.int j)) h hc cl (by lia) rr.length (by lia) m1 m2 m3 (congrArg (fun n : Nat => some (PV.int n)) hd.symm) fun P i l k' τ h hp hk' dl ne l3 => ?_)
    refine ⟨m1, m2, m3, ids ++ [i], ds ++ [l], P ++ L, k', h, List.mem_append_right _ hc, (rr.mono fun _ _ q => List.mem_append_right _ q).snoc (List.mem_append_left _ hp), by rw [List.length_append, List.length_singleton, hd], fun z hz => ?_, by lia⟩
    rcases List.mem_append.mp hz with hz | hz
    · exact gd z hz
    · rw [List.mem_singleton.mp hz]; exact ⟨dl, ne, l3⟩
  · obtain ⟨m1, m2, m3, ids, ds, L, k, h, hc, rr, hd, gd, hk⟩ := zz
    refine k0 (vL h hc cl rr hd gd ?_ m1 m2 m3)
    have : (gJ 0 4).length = 4 := rfl
    lia
end
theorem xH (w : World) : nsIn (KK w) mainGlobals (nm "law") = some (some (.ref 651)) := by rfl
theorem zZ : ProgOk PySem.Challenge.rw_pq0376_01.row.prog := ⟨rfl, by decide +kernel⟩
theorem xA {prog : Program} (PO : ProgOk prog) {w : World} {s : Shared} {p : Program} {loose : List Str} {mg mb : Str → Option Value} {a0 : Addr} {vs : List Value} {ns : List Int} (k : (KK w).In s.heap) (T : TopRead p loose mg mb s.heap) (ha : s.heap.get? a0 = some (ef vs 0)) (hz : s.heap.objs.size = a0 + 1) (hi : IntsAre vs ns) (h63 : ns.length ≤ 63) (hb : 3 ≤ a0) :
    wpAny (model prog w) callerA (call (.ref 651) [.ref a0]) (fun v s' => v = .bool true ∧ (∀ b o, s.heap.get? b = some o → s'.heap.get? b = some o) ∧ s'.gens = s.gens ∧ s'.os = s.os) (fun _ _ => False) s := by
  let X : Cxt := ⟨prog, w, s.heap, s.heap, s.heap.objs.size, k, fun _ _ e => e, ⟨_, _, _, _, T⟩, PO, Nat.le_refl _, Nat.le_refl _, by rw [hz]; exact Nat.lt_succ_of_le hb⟩
  let P : Pt := ⟨fun _ => 0, ⟨0, fun _ => none⟩, s⟩
  have H : ScrAt X a0 ns := ⟨⟨vs, 0, ha, hi⟩, h63⟩
  have hA : Ar 12 callerA := ⟨rfl, by decide +kernel, by decide +kernel⟩
  have R : HRel X P := ⟨fun _ _ e => e, by show (s.heap.get? (s.heap.objs.size - 1)).isSome; rw [hz, Nat.add_sub_cancel, ha]; rfl, fun i h => absurd h (Nat.not_lt_zero _), fun i j h => absurd h (Nat.not_lt_zero _), fun i h => absurd h (Nat.not_lt_zero _), (fun i o e => nomatch e), (fun i C fs e => nomatch e)⟩
  have q : On (uY a0 ns [.raw a0] P.σ) fun v _ => v = .bool true := by
    obtain ⟨v, σ', e, hv⟩ := zT (σ := ⟨0, fun _ => none⟩) (a0 := a0) (ns := ns)
    show On (uY a0 ns [.raw a0] ⟨0, fun _ => none⟩) _
    rw [e]; exact hv
  exact W.go (to (Bh H callerA P [.raw a0] [.ref a0] _ hA R (.cons (.raw a0) .nil) q)) fun P' v x S r e => by
    subst e
    exact r.boolK ⟨rfl, fun b o e => S.keep b o e (fun i h => absurd h (Nat.not_lt_zero _)) id, S.gens, S.os⟩
set_option maxHeartbeats 4000000 in
theorem Bx : PySem.Challenge.rw_pq0376_01.wellSaid = true := by
  unfold OpenLaw.wellSaid
  repeat' with_reducible refine look_both ?_ ?_
  · unfold OpenRow.wellSaid OpenRow.partSaid looksOpen
    repeat' with_reducible refine look_both ?_ ?_
    all_goals decide +kernel
  all_goals decide +kernel
set_option maxHeartbeats 4000000 in
theorem final0 : PySem.Challenge.rw_pq0376_01.Holds := by
  refine holds_law Bx fun said => ?_
  refine holds_openX (r := PySem.Challenge.rw_pq0376_01.row) (q := H.view) (loose := H.lo) (Xt := H.Xt) (XP := XL H.view []) (Yf := fun s => H.asK.map s.heap.get?) (Ya := fun w => (H.K0 w.params).map fun p => some p.2) (N := 8636) BP (fun s e => xl_of s (Bool.and_eq_true_iff.mp e).1) XL.keeps (by rfl) (by rfl) (by rfl) (fun s e => recFacts_of (Bool.and_eq_true_iff.mp e).2) rfl (by assumption) (by decide +kernel) ⟨rfl, rfl, rfl, rfl, rfl, by decide +kernel⟩ ?hw ?hc
  case hw => exact ⟨[WData.list []], by decide +kernel, by decide +kernel⟩
  case hc =>
    intro w s₀ s₁ mg mb G y fa o pm cd doc dV kV ho hd hcd hD hmg hg args vals as L hpre hlay hrd hwl hlo
    clear hd hD hcd
    refine Ground.open G ?_
    intro T B D TE TW
    clear B D TE TW
    wrow_args hpre hlay hrd hwl hlo
    rename_i ns _ _ _ _ _ as1 as2 a0 vs as3 hL _ _ _ hI _ h63 _
    have X0 : (KK w).In s₀.heap := InK.of AB w s₀ y
    have XX : (KK w).In s₁.heap := X0.keeps L.keeps
    have TR := topRead_of T
    have h651 : fa = 651 := by
      have e := mg_of XX TR.g (xH w)
      have e2 : mg (nm "law") = some (.ref fa) := hmg
      rw [e2] at e
      cases e
      rfl
    subst h651
    obtain ⟨e0, e1⟩ := PySem.W.X.script_at L
    have hs := PySem.W.X.script_obj L hL
    have h3 : 3 ≤ a0 := by
      have := Heap.lt_size ho
      rw [e1] at this
      rw [e0]
      exact Nat.le_trans (by decide) (Nat.le_of_lt_succ this)
    refine wpAny_mono (xA zZ XX TR hs (by rw [e1, e0]) hI (by omega) h3) ?_ fun _ _ z => z.elim
    rintro v s' ⟨rfl, hk, hgens, hos⟩
    refine ⟨.inl ⟨.bool true, ofPy (.bool true), [], rfl, fun cls => ?_, ?_, ?_, fun _ => ⟨List.nodup_nil, fun a ha => by cases ha⟩⟩, OldK.of_keep hk, hos, .of_eq (hgens.trans hg)⟩
    · rfl
    · exact .bool _
    · first | wrow_post | (with_unfolding_all rfl)
end Mine
set_option maxHeartbeats 4000000 in
theorem PySem.Challenge.cw_pq0376_01_holds : PySem.Challenge.rw_pq0376_01.Holds :=
  Mine.final0
