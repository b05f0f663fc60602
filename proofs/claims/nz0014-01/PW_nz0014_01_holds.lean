import PyProof.Rows.All
import Wide.All
import OpenK.AllK
import Wide.FinOn
import PySem.Challenge.RW_nz0014_01
open PySem PySem.W PyProof.Rows PySem.Calls
set_option Elab.async false
set_option maxRecDepth 100000
set_option maxHeartbeats 8000000
namespace Mine
noncomputable abbrev prog : Program := PySem.Challenge.pw_nz0014_01
noncomputable def fnObj (qual m : Str) (t : Nat) (c : Addr) : List Stmt → Obj
  | .FunctionDef name args body _ _ _ scope _ _ _ :: _ => { cls := .type "function", data := .func { name := name, qualname := qual, params := args, body := .stmts body, scope := scope, globals := 3, closure := [], defaults := .none, kwdefaults := .none, pyModule := .str m t, code := .ref c } }
  | _ => { cls := .none }
noncomputable def codeObj (name qual : Str) (t : Nat) (line argc : Int) (deep : Bool) (u : Int) (c : Nat) : Obj := { cls := .type "code", data := .fields #[.str name t, .str qual (t + 1), .str "/claim/cut.py" (t + 2), .int line 0, .int argc 0, .int 0 0, .int 0 0, .int 3 0, .ref (c - if deep then 5 else 3), .bool true, .int 181 0, .ref (c - if deep then 4 else 2), .none, (if deep then .ref (c - 3) else .none), (if deep then .ref (c - 2) else .none), .ref (c - 1), .int u 0, .int line 0, .str "/claim/cut.py" (u.toNat + 1)] }
noncomputable def topDef (i : Nat) : List Stmt := prog.main.body.drop i
noncomputable def clsBody : List Stmt → List Stmt
  | .ClassDef _ _ _ body _ _ _ _ _ _ _ :: _ => body
  | _ => []
noncomputable def methDef (i : Nat) : List Stmt := (clsBody (topDef 19)).drop i
noncomputable def ent (P : Params) (x : Str) (t : Nat) (v : Value) : DictEntry := { hash := PyData.keyHash P x, key := .str x t, val := v }
noncomputable def topDict (P : Params) : Obj := { cls := .type "dict", data := .dict #[ent P "__name__" 165 (.str "law_nz0014_01" 513), ent P "__doc__" 166 (.none), ent P "__package__" 167 (.none), ent P "__loader__" 168 (.builtin "__main__.__loader__#opaque"), ent P "__spec__" 169 (.none), ent P "__annotations__" 170 (.ref 6), ent P "__builtins__" 171 (.ref 4), ent P "__file__" 173 (.str "/claim/cut.py" 172), ent P "__cached__" 174 (.none), ent P "_wall" 193 (.ref 21), ent P "rows_of" 201 (.ref 26), ent P "sum_at" 207 (.ref 31), ent P "least_reasons" 220 (.ref 38), ent P "least" 229 (.ref 45), ent P "greatest" 236 (.ref 52), ent P "next_from" 246 (.ref 59), ent P "has" 254 (.ref 66), ent P "has_domains" 255 (.ref 66), ent P "up_to" 261 (.ref 71), ent P "from_on" 267 (.ref 76), ent P "without" 275 (.ref 83), ent P "meet" 288 (.ref 90), ent P "negation" 298 (.ref 97), ent P "struck" 308 (.ref 104), ent P "said_of" 317 (.ref 111), ent P "Store" 512 (.ref 261), ent P "_law_draw" 525 (.ref 272), ent P "_law_rows" 531 (.ref 277), ent P "_law_domain" 540 (.ref 284), ent P "_law_now" 546 (.ref 289), ent P "_law_points" 552 (.ref 294), ent P "_law_says" 563 (.ref 301), ent P "_law_often" 571 (.ref 308), ent P "_law_lowest" 577 (.ref 313), ent P "_law_is_told_right" 583 (.ref 318), ent P "_law_literal" 589 (.ref 323), ent P "law" 595 (.ref 328)] 37 }
noncomputable def clsDict (P : Params) : Obj := { cls := .type "dict", data := .dict #[ent P "__module__" 327 (.str "fdsolve.store" 318), ent P "__firstlineno__" 331 (.int 72 330), ent P "__init__" 338 (.ref 125), ent P "new_var" 346 (.ref 132), ent P "size" 353 (.ref 139), ent P "dom" 361 (.ref 146), ent P "initial" 369 (.ref 153), ent P "low" 377 (.ref 160), ent P "high" 385 (.ref 167), ent P "has" 394 (.ref 174), ent P "is_fixed" 403 (.ref 181), ent P "value" 411 (.ref 188), ent P "width" 419 (.ref 195), ent P "holds" 427 (.ref 202), ent P "enter" 440 (.ref 209), ent P "strike" 449 (.ref 216), ent P "decide" 457 (.ref 223), ent P "fail" 465 (.ref 230), ent P "push" 472 (.ref 237), ent P "pop" 482 (.ref 244), ent P "depth" 489 (.ref 251), ent P "changed" 496 (.ref 258), ent P "__static_attributes__" 505 (.ref 259), ent P "__dict__" 507 (.ref 262), ent P "__weakref__" 509 (.ref 263), ent P "__doc__" 510 (.none)] 4 }
noncomputable def clsObj : Obj := { cls := .type "type", data := .cls { name := "Store", bases := [.type "object"], mro := [.ref 261, .type "object"], ns := 260, qualname := "Store" }, slots := #[none, none, some (.str "Store" 320), some (.str "Store" 328), some (.builtin "object.__new__"), some (.bool true)] }
noncomputable def frag (P : Params) : Frag := [(3, topDict P), (25, codeObj "rows_of" "rows_of" 196 5 2 false 199 25), (26, fnObj "rows_of" "fdsolve.linear" 194 25 (topDef 2)), (30, codeObj "sum_at" "sum_at" 202 10 2 false 205 30), (31, fnObj "sum_at" "fdsolve.linear" 194 30 (topDef 3)), (37, codeObj "least_reasons" "least_reasons" 208 12 3 true 218 37), (38, fnObj "least_reasons" "fdsolve.linear" 194 37 (topDef 4)), (44, codeObj "least" "least" 223 23 1 true 227 44), (45, fnObj "least" "fdsolve.domains" 221 44 (topDef 6)), (51, codeObj "greatest" "greatest" 230 25 1 true 234 51), (52, fnObj "greatest" "fdsolve.domains" 221 51 (topDef 7)), (70, codeObj "up_to" "up_to" 256 35 2 false 259 70), (71, fnObj "up_to" "fdsolve.domains" 221 70 (topDef 11)), (75, codeObj "from_on" "from_on" 262 37 2 false 265 75), (76, fnObj "from_on" "fdsolve.domains" 221 75 (topDef 12)), (82, codeObj "without" "without" 268 39 2 true 273 82), (83, fnObj "without" "fdsolve.domains" 221 82 (topDef 13)), (89, codeObj "meet" "meet" 276 41 2 true 286 89), (90, fnObj "meet" "fdsolve.domains" 221 89 (topDef 14)), (103, codeObj "struck" "struck" 299 59 2 true 306 103), (104, fnObj "struck" "fdsolve.domains" 221 103 (topDef 16)), (124, codeObj "__init__" "Store.__init__" 332 74 1 true 336 124), (125, fnObj "Store.__init__" "fdsolve.store" 318 124 (methDef 0)), (131, codeObj "new_var" "Store.new_var" 339 84 2 true 344 131), (132, fnObj "Store.new_var" "fdsolve.store" 318 131 (methDef 1)), (138, codeObj "size" "Store.size" 347 91 1 true 351 138), (139, fnObj "Store.size" "fdsolve.store" 318 138 (methDef 2)), (145, codeObj "dom" "Store.dom" 354 94 2 true 359 145), (146, fnObj "Store.dom" "fdsolve.store" 318 145 (methDef 3)), (152, codeObj "initial" "Store.initial" 362 97 2 true 367 152), (153, fnObj "Store.initial" "fdsolve.store" 318 152 (methDef 4)), (159, codeObj "low" "Store.low" 370 100 2 true 375 159), (160, fnObj "Store.low" "fdsolve.store" 318 159 (methDef 5)), (166, codeObj "high" "Store.high" 378 103 2 true 383 166), (167, fnObj "Store.high" "fdsolve.store" 318 166 (methDef 6)), (173, codeObj "has" "Store.has" 386 106 3 true 392 173), (174, fnObj "Store.has" "fdsolve.store" 318 173 (methDef 7)), (180, codeObj "is_fixed" "Store.is_fixed" 395 109 2 true 401 180), (181, fnObj "Store.is_fixed" "fdsolve.store" 318 180 (methDef 8)), (187, codeObj "value" "Store.value" 404 113 2 true 409 187), (188, fnObj "Store.value" "fdsolve.store" 318 187 (methDef 9)), (194, codeObj "width" "Store.width" 412 116 2 true 417 194), (195, fnObj "Store.width" "fdsolve.store" 318 194 (methDef 10)), (201, codeObj "holds" "Store.holds" 420 119 2 true 425 201), (202, fnObj "Store.holds" "fdsolve.store" 318 201 (methDef 11)), (208, codeObj "enter" "Store.enter" 428 122 4 true 438 208), (209, fnObj "Store.enter" "fdsolve.store" 318 208 (methDef 12)), (215, codeObj "strike" "Store.strike" 441 135 3 true 447 215), (216, fnObj "Store.strike" "fdsolve.store" 318 215 (methDef 13)), (222, codeObj "decide" "Store.decide" 450 138 2 true 455 222), (223, fnObj "Store.decide" "fdsolve.store" 318 222 (methDef 14)), (229, codeObj "fail" "Store.fail" 458 141 2 true 463 229), (230, fnObj "Store.fail" "fdsolve.store" 318 229 (methDef 15)), (236, codeObj "push" "Store.push" 466 146 1 true 470 236), (237, fnObj "Store.push" "fdsolve.store" 318 236 (methDef 16)), (243, codeObj "pop" "Store.pop" 473 149 2 true 480 243), (244, fnObj "Store.pop" "fdsolve.store" 318 243 (methDef 17)), (250, codeObj "depth" "Store.depth" 483 161 1 true 487 250), (251, fnObj "Store.depth" "fdsolve.store" 318 250 (methDef 18)), (257, codeObj "changed" "Store.changed" 490 164 1 true 494 257), (258, fnObj "Store.changed" "fdsolve.store" 318 257 (methDef 19)), (260, clsDict P), (261, clsObj), (271, codeObj "_law_draw" "_law_draw" 515 167 2 true 523 271), (272, fnObj "_law_draw" "law_nz0014_01" 513 271 (topDef 21)), (276, codeObj "_law_rows" "_law_rows" 526 172 1 false 529 276), (277, fnObj "_law_rows" "law_nz0014_01" 513 276 (topDef 22)), (283, codeObj "_law_domain" "_law_domain" 532 178 1 true 538 283), (284, fnObj "_law_domain" "law_nz0014_01" 513 283 (topDef 23)), (288, codeObj "_law_now" "_law_now" 541 186 1 false 544 288), (289, fnObj "_law_now" "law_nz0014_01" 513 288 (topDef 24)), (293, codeObj "_law_points" "_law_points" 547 188 1 false 550 293), (294, fnObj "_law_points" "law_nz0014_01" 513 293 (topDef 25)), (300, codeObj "_law_says" "_law_says" 553 190 2 true 561 300), (301, fnObj "_law_says" "law_nz0014_01" 513 300 (topDef 26)), (307, codeObj "_law_often" "_law_often" 564 195 2 true 569 307), (308, fnObj "_law_often" "law_nz0014_01" 513 307 (topDef 27)), (312, codeObj "_law_lowest" "_law_lowest" 572 197 3 false 575 312), (313, fnObj "_law_lowest" "law_nz0014_01" 513 312 (topDef 28)), (317, codeObj "_law_is_told_right" "_law_is_told_right" 578 200 5 false 581 317), (318, fnObj "_law_is_told_right" "law_nz0014_01" 513 317 (topDef 29)), (322, codeObj "_law_literal" "_law_literal" 584 218 2 false 587 322), (323, fnObj "_law_literal" "law_nz0014_01" 513 322 (topDef 30)), (327, codeObj "law" "law" 590 227 1 false 593 327), (328, fnObj "law" "law_nz0014_01" 513 327 (topDef 31))]
noncomputable def fragAt : List Addr := [3, 25, 26, 30, 31, 37, 38, 44, 45, 51, 52, 70, 71, 75, 76, 82, 83, 89, 90, 103, 104, 124, 125, 131, 132, 138, 139, 145, 146, 152, 153, 159, 160, 166, 167, 173, 174, 180, 181, 187, 188, 194, 195, 201, 202, 208, 209, 215, 216, 222, 223, 229, 230, 236, 237, 243, 244, 250, 251, 257, 258, 260, 261, 271, 272, 276, 277, 283, 284, 288, 289, 293, 294, 300, 301, 307, 308, 312, 313, 317, 318, 322, 323, 327, 328]
noncomputable def loose : List Str := ["_wall", "rows_of", "sum_at", "least_reasons", "least", "greatest", "next_from", "has", "has_domains", "up_to", "from_on", "without", "meet", "negation", "struck", "said_of", "Store", "_law_draw", "_law_rows", "_law_domain", "_law_now", "_law_points", "_law_says", "_law_often", "_law_lowest", "_law_is_told_right", "_law_literal"]
noncomputable def vw : Program := view prog [31]
theorem frag_at : ∀ P, fragAt = (frag P).map (·.1) := fun _ => rfl
noncomputable def hook : Hook := kHook frag fragAt frag_at
noncomputable def xt (s : Shared) : Bool := xlAt vw [] s && recOk (RowW.records PySem.Challenge.rw_nz0014_01.row.toRowW) s
noncomputable def topRunT (tb : String → Option Builtin) (p : Program) (w : World) (n₀ : Nat) (ann : Option Value) : Nat → SharedT → Thread → Option SharedT
  | 0, _, _ => none
  | n + 1, s, t => match through t with
    | true => some s
    | false => match stepOk n₀ ann t with
      | false => none
      | true => match stepT (denote tb) p w s t with
        | some (s', t') => topRunT tb p w n₀ ann n s' t'
        | none => none
theorem topRun_of {tb : String → Option Builtin} {p : Program} {w : World} {n₀ : Nat} {ann : Option Value} : ∀ {n : Nat} {s s' : SharedT} {t : Thread}, topRunT tb p w n₀ ann n s t = some s' → topRun tb p w n₀ ann n s.abs t = some s'.abs
  | 0, _, _, _, h => by cases h
  | n + 1, s, s', t, h => by
    unfold topRunT at h
    unfold topRun
    cases he : through t with
    | true => rw [he] at h; cases h; rfl
    | false =>
      rw [he] at h
      cases hk : stepOk n₀ ann t with
      | false => rw [hk] at h; cases h
      | true =>
        rw [hk] at h
        cases hs : stepT (denote tb) p w s t with
        | none => rw [hs] at h; cases h
        | some r => obtain ⟨s₂, t₂⟩ := r; rw [hs] at h; rw [stepT_spec hs]; exact topRun_of h
noncomputable def growT : BT → Nat → List Obj → BT
  | T, _, [] => T
  | T, i, o :: r => growT (T.ins i o) (i + 1) r
noncomputable def bootT (P : Params) : BT := growT .nil 0 (boot_heap P).objs.toList
noncomputable def bootN : Nat := 11
noncomputable def bootS (P : Params) (os : OsState) : SharedT := ⟨bootT P, bootN, (boot_heap P).life, Array.mk [], boot_drawn, boot_toks, os⟩
theorem boot_n : ∀ P, (boot_heap P).objs.size = bootN := fun _ => by kernel_rfl
theorem boot_abs : ∀ P os, (bootS P os).abs = ⟨boot_heap P, Array.mk [], boot_drawn, boot_toks, os⟩ := fun _ _ => by kernel_rfl
theorem left_of {p q : Program} {lo : List Str} {Xt : Shared → Bool} {α : Type} {Yf : Shared → α} {Ya : World → α} {N : Nat} (e : opening p = plainProg p.main.scope.names) (hN : Nat.ble 600 N = true) (f : ∀ s, fenceModules? p s = some s)
    (g : ∀ P, ((boot_heap P).isNs mainGlobals && (0 : Nat) == 0, (boot_heap P).objs.size, (boot_heap P).nsMap mainGlobals "__annotations__") = (true, bootN, some (.ref 6)))
    (h : ∀ (w : World) (os : OsState), (topRunT treeTable p w bootN (some (.ref 6)) N (bootS w.params os) (topStub p)).map (fun s => (staticsOk (importedModules p.main.body) (boot_heap w.params) s.abs.heap && namesBound p s.abs.heap && gensDone s.abs && laidKept (boot_heap w.params) s.abs.heap, openSeen q lo (importedModules p.main.body) Xt true s.abs, Yf s.abs)) = some (true, openGood q lo, Ya w)) : LeftO p q lo Xt Yf Ya N := fun w => by
  obtain ⟨⟨h0, gs, d, k, os⟩, e1, e2⟩ := Option.map_eq_some_iff.mp (boot_open e hN f w)
  obtain ⟨rfl, rfl, rfl, rfl⟩ : h0 = boot_heap w.params ∧ gs = Array.mk [] ∧ d = boot_drawn ∧ k = boot_toks := by simpa using e2
  obtain ⟨s, hs, e3⟩ := Option.map_eq_some_iff.mp (h w os)
  obtain ⟨e3, e4⟩ := Prod.mk.inj e3
  obtain ⟨g1, g2⟩ := Prod.mk.inj (g w.params)
  obtain ⟨g2, g3⟩ := Prod.mk.inj g2
  have r := topRun_of hs
  rw [boot_abs] at r
  unfold openEnds
  rw [e1]
  show (topFrom treeTable p w N ⟨boot_heap w.params, Array.mk [], boot_drawn, boot_toks, os⟩).map _ = _
  have : topFrom treeTable p w N ⟨boot_heap w.params, Array.mk [], boot_drawn, boot_toks, os⟩ = some s.abs := by
    unfold topFrom
    show (match (boot_heap w.params).isNs mainGlobals && (0 : Nat) == 0 with | true => _ | false => _) = _
    rw [g1, g2, g3, r]
    show (match staticsOk (importedModules p.main.body) (boot_heap w.params) s.abs.heap && namesBound p s.abs.heap && gensDone s.abs && laidKept (boot_heap w.params) s.abs.heap with | true => _ | false => _) = _
    rw [e3]
  rw [this]
  exact congrArg some e4
theorem left : LeftO prog vw loose xt hook.obs hook.val 3416 := by
  refine left_of (by kernel_rfl) (by kernel_rfl) (fun _ => by kernel_rfl) (fun _ => by kernel_rfl) fun w os => ?_
  kernel_rfl
noncomputable def lawOf : Option (DefRec × List (Str × Expr)) → DefRec × List (Str × Expr)
  | some x => x
  | none => (⟨"", ⟨[], [], none, [], [], none, []⟩, [], ⟨.function, [], false, false, []⟩, ⟨0, 0, 0, 0⟩⟩, [])
noncomputable def lawDef : DefRec × List (Str × Expr) := lawOf (defOf vw "law")
structure Yes (c : Bool) : Type where
  h : c = true
noncomputable def Yes.and {a b : Bool} (x : Yes a) (y : Yes b) : Yes (a && b) := ⟨by rw [x.h, y.h]; rfl⟩
noncomputable def saidR : Yes PySem.Challenge.rw_nz0014_01.row.wellSaid := by
  unfold OpenRow.wellSaid OpenRow.partSaid looksOpen
  repeat' with_reducible refine Yes.and ?_ ?_
  all_goals exact ⟨by kernel_rfl⟩
noncomputable def saidT : Yes PySem.Challenge.rw_nz0014_01.wellSaid := by
  unfold OpenLaw.wellSaid
  repeat' with_reducible refine Yes.and ?_ ?_
  · exact saidR
  all_goals exact ⟨by kernel_rfl⟩
theorem head (walk : WalkO vw loose (XL vw []) hook.says PySem.Challenge.rw_nz0014_01.row.toRowW lawDef.1 lawDef.2 fun f vs => PySem.call f vs) : PySem.Challenge.rw_nz0014_01.Holds := by
  w_on
  refine holds_law saidT.h fun said => ?_
  refine holds_open (r := PySem.Challenge.rw_nz0014_01.row) left (Hook.of hook) (Hook.keeps hook) (fun s e => xl_of s (Bool.and_eq_true_iff.mp e).1) XL.keeps (by kernel_rfl!) (by kernel_rfl!) (by kernel_rfl!) (fun s e => recFacts_of (Bool.and_eq_true_iff.mp e).2) (by kernel_rfl!) said (by decide +kernel) ⟨rfl, rfl, rfl, rfl, rfl, by decide +kernel⟩ ?hw walk
  case hw => w_witness2
/-- plain data -/
inductive D where
  | none
  | bool (b : Bool)
  | int (i : Int)
  | str (x : Str)
  | tup (ds : List D)
  | lst (ds : List D)
  | dct (es : List (Int × D))
  | scr (ds : List D)
  deriving Inhabited
/-- a value: data, or the n-th owned thing -/
inductive V where
  | d (x : D)
  | own (i : Nat)
inductive Cell where
  | lst (xs : List D)
  | dct (es : List (Int × D))
  | sd (es : List (Str × D))
  | ns (fs : List (Str × V))
  | inst (j : Nat)
  | dead
noncomputable abbrev Rho := List (Str × V)
noncomputable abbrev Mem := List Cell
noncomputable abbrev Fz := Addr → Obj → Prop
noncomputable abbrev Own := Addr → Option Obj
noncomputable def Own.put (O : Own) (a : Addr) (o : Obj) : Own := fun b => if b = a then some o else O b
noncomputable def Own.del (O : Own) (a : Addr) : Own := fun b => if b = a then none else O b
noncomputable def Own.join (A B : Own) : Own := fun a => match A a with
  | some o => some o
  | none => B a
noncomputable def Own.no : Own := fun _ => none
theorem Own.put_self {O : Own} {a : Addr} {o : Obj} : O.put a o a = some o := if_pos rfl
theorem Own.put_ne {O : Own} {a b : Addr} {o : Obj} (h : b ≠ a) : O.put a o b = O b := if_neg h
theorem Own.del_self {O : Own} {a : Addr} : O.del a a = none := if_pos rfl
theorem Own.del_ne {O : Own} {a b : Addr} (h : b ≠ a) : O.del a b = O b := if_neg h
theorem Own.join_some {A B : Own} {a : Addr} {o : Obj} (h : A.join B a = some o) : A a = some o ∨ (A a = none ∧ B a = some o) := by
  unfold Own.join at h
  split at h
  · rename_i e; cases h; exact .inl e
  · rename_i e; exact .inr ⟨e, h⟩
theorem Own.join_none {A B : Own} {a : Addr} : A.join B a = none ↔ A a = none ∧ B a = none := by
  unfold Own.join
  split
  · rename_i e; simp [e]
  · rename_i e; simp [e]
theorem Own.join_left {A B : Own} {a : Addr} {o : Obj} (h : A a = some o) : A.join B a = some o := by
  unfold Own.join; rw [h]
theorem Own.join_right {A B : Own} {a : Addr} {o : Obj} (h0 : A a = none) (h : B a = some o) : A.join B a = some o := by
  unfold Own.join; rw [h0]; exact h
theorem Own.join_right_none {A B : Own} {a : Addr} (h0 : A a = none) : A.join B a = B a := by
  unfold Own.join; rw [h0]
noncomputable abbrev lstObj (vs : List Value) (n : Nat := 0) : Obj := { cls := .type "list", data := .seq vs.toArray n }
noncomputable abbrev tupObj (vs : List Value) (n : Nat := 0) : Obj := { cls := .type "tuple", data := .seq vs.toArray n }
structure Cx where
  prog : Program
  w : World
  h₀ : Heap
  K : Frag
  C : Addr
  N : Addr
  mb : Str → Option Value
noncomputable abbrev Cx.M (X : Cx) : Model := model X.prog X.w
structure Cx.Ok (X : Cx) : Prop where
  kin : X.K.In X.h₀
  lim : X.h₀.NoLimit
  b : X.h₀.Ns builtinsNs X.mb
  bb : ∀ x : Str, x ≠ "__name__" → X.mb x = bootBuiltins x
  g : ∃ mg, X.h₀.Ns mainGlobals mg
  cls : ∃ nm q bs sn sub ab col dd k0 k1 k2 k3 k5, X.K.lookup X.C = some (excClassObj nm q X.C X.N bs [.type "object"] true sn sub ab col dd k0 k1 k2 k3 k5 "object.__new__")
  mN : ∀ name : Str, nsIn X.K X.N name = some none → ∃ mN, X.h₀.Ns X.N mN ∧ mN name = none ∧ mN "__setattr__" = none
  hga : findIn X.K (.ref X.C) "__getattribute__" = some (some (.builtin "object.__getattribute__"))
  hgk : findIn X.K (.ref X.C) "__getattr__" = some none
  mkc : makesIn X.K X.C = true
section
variable (X : Cx)
mutual
inductive RepD (Z : Fz) : Value → D → Prop where
  | none : RepD Z Value.none D.none
  | bool (b : Bool) : RepD Z (Value.bool b) (D.bool b)
  | int (i : Int) (t : Tok) : RepD Z (Value.int i t) (D.int i)
  | str (x : Str) (t : Tok) : RepD Z (Value.str x t) (D.str x)
  | tup {a : Addr} {vs : List Value} {n : Nat} {ds : List D} : Z a (tupObj vs n) → RepAll Z vs ds → RepD Z (Value.ref a) (D.tup ds)
  | lst {a : Addr} {vs : List Value} {n : Nat} {ds : List D} : Z a (lstObj vs n) → RepAll Z vs ds → RepD Z (Value.ref a) (D.lst ds)
  | dct {a : Addr} {o : Obj} {kvs : List (Int × Value)} {ds : List (Int × D)} : Z a o → (a == sysModules) = false → o.IsDictOf (intKind X.prog X.w) kvs → kvs.map (·.1) = ds.map (·.1) → RepAll Z (kvs.map (·.2)) (ds.map (·.2)) → RepD Z (Value.ref a) (D.dct ds)
  | scr {a : Addr} {o : Obj} {vs : List Value} {n : Nat} {ds : List D} : Z a o → o.cls = .type "list" → o.data = .seq vs.toArray n → RepAll Z vs ds → RepD Z (Value.ref a) (D.scr ds)
inductive RepAll (Z : Fz) : List Value → List D → Prop where
  | nil : RepAll Z [] []
  | cons {v : Value} {vs : List Value} {d : D} {ds : List D} : RepD Z v d → RepAll Z vs ds → RepAll Z (v :: vs) (d :: ds)
end
end
noncomputable def Le (Z Z' : Fz) : Prop := ∀ a o, Z a o → Z' a o
theorem kindOf_def (env : Env) (x : Str) : env.kindOf x = env.scope.names.lookup x := rfl
theorem Le.refl {Z : Fz} : Le Z Z := fun _ _ h => h
theorem Le.trans {Z Z' Z'' : Fz} (h : Le Z Z') (k : Le Z' Z'') : Le Z Z'' := fun a o x => k a o (h a o x)
section
variable {X : Cx}
mutual
theorem RepD.mono {Z Z' : Fz} (h : Le Z Z') : ∀ {v : Value} {d : D}, RepD X Z v d → RepD X Z' v d
  | _, _, .none => .none
  | _, _, .bool b => .bool b
  | _, _, .int i t => .int i t
  | _, _, .str x t => .str x t
  | _, _, .tup a r => .tup (h _ _ a) (RepAll.mono h r)
  | _, _, .lst a r => .lst (h _ _ a) (RepAll.mono h r)
  | _, _, .dct a m i k r => .dct (h _ _ a) m i k (RepAll.mono h r)
  | _, _, .scr a c d r => .scr (h _ _ a) c d (RepAll.mono h r)
theorem RepAll.mono {Z Z' : Fz} (h : Le Z Z') : ∀ {vs : List Value} {ds : List D}, RepAll X Z vs ds → RepAll X Z' vs ds
  | _, _, .nil => .nil
  | _, _, .cons a r => .cons (RepD.mono h a) (RepAll.mono h r)
end
variable {Z : Fz} {v : Value} {d : D} {vs ws : List Value} {ds es : List D}
theorem RepAll.length (h : RepAll X Z vs ds) : vs.length = ds.length := by
  induction vs generalizing ds with
  | nil => cases h; rfl
  | cons v vs ih =>
    cases h with
    | cons _ r => rw [List.length_cons, List.length_cons, ih r]
theorem RepAll.append (h : RepAll X Z vs ds) (k : RepAll X Z ws es) : RepAll X Z (vs ++ ws) (ds ++ es) := by
  induction vs generalizing ds with
  | nil => cases h; exact k
  | cons v vs ih =>
    cases h with
    | cons h r => exact .cons h (ih r)
theorem RepAll.one (h : RepD X Z v d) : RepAll X Z [v] [d] := .cons h .nil
theorem RepAll.get (h : RepAll X Z vs ds) {k : Nat} (hk : ds[k]? = some d) : ∃ v, vs[k]? = some v ∧ RepD X Z v d := by
  induction vs generalizing ds k with
  | nil => cases h; cases hk
  | cons v vs ih =>
    cases h with
    | cons h r =>
      cases k with
      | zero => cases hk; exact ⟨v, rfl, h⟩
      | succ k => exact ih r hk
theorem RepAll.get' (h : RepAll X Z vs ds) {k : Nat} (hk : vs[k]? = some v) : ∃ d, ds[k]? = some d ∧ RepD X Z v d := by
  induction vs generalizing ds k with
  | nil => cases hk
  | cons v vs ih =>
    cases h with
    | cons h r =>
      cases k with
      | zero => cases hk; exact ⟨_, rfl, h⟩
      | succ k => exact ih r hk
theorem RepAll.take (h : RepAll X Z vs ds) : ∀ n, RepAll X Z (vs.take n) (ds.take n) := by
  induction vs generalizing ds with
  | nil => cases h; intro n; simp only [List.take_nil]; exact .nil
  | cons v vs ih =>
    cases h with
    | cons h r =>
      intro n
      cases n with
      | zero => exact .nil
      | succ n => exact .cons h (ih r n)
theorem RepAll.set (h : RepAll X Z vs ds) (k : RepD X Z v d) : ∀ n, RepAll X Z (vs.set n v) (ds.set n d) := by
  induction vs generalizing ds with
  | nil => cases h; intro n; exact .nil
  | cons v' vs ih =>
    cases h with
    | cons h r =>
      intro n
      cases n with
      | zero => exact .cons k r
      | succ n => exact .cons h (ih r n)
theorem RepAll.dropLast (h : RepAll X Z vs ds) : RepAll X Z vs.dropLast ds.dropLast := by
  have := h.take (vs.length - 1)
  rw [List.dropLast_eq_take, List.dropLast_eq_take, ← h.length]; exact this
end
noncomputable def RepV (X : Cx) (Z : Fz) (ra : List Addr) (val : Value) : V → Prop
  | .d x => RepD X Z val x
  | .own i => ∃ a, val = .ref a ∧ ra[i]? = some a
theorem RepV.mono {X : Cx} {Z Z' : Fz} {ra ra' : List Addr} {val : Value} {v : V} (h : Le Z Z') (k : ra <+: ra') (x : RepV X Z ra val v) : RepV X Z' ra' val v := by
  cases v with
  | d y => exact RepD.mono h x
  | own i =>
    obtain ⟨a, e, q⟩ := x
    obtain ⟨t, rfl⟩ := k
    exact ⟨a, e, by rw [List.getElem?_append_left (List.getElem?_eq_some_iff.mp q).1]; exact q⟩
inductive RepVs (X : Cx) (Z : Fz) (ra : List Addr) : List Value → List V → Prop where
  | nil : RepVs X Z ra [] []
  | cons {v : Value} {vs : List Value} {x : V} {xs : List V} : RepV X Z ra v x → RepVs X Z ra vs xs → RepVs X Z ra (v :: vs) (x :: xs)
theorem RepVs.mono {X : Cx} {Z Z' : Fz} {ra ra' : List Addr} (h : Le Z Z') (k : ra <+: ra') {vs : List Value} {xs : List V} (x : RepVs X Z ra vs xs) : RepVs X Z' ra' vs xs := by
  induction x with
  | nil => exact .nil
  | cons a _ ih => exact .cons (a.mono h k) ih
theorem RepD.int_inv {X : Cx} {Z : Fz} {v : Value} {i : Int} (r : RepD X Z v (.int i)) : ∃ t, v = .int i t := by cases r; exact ⟨_, rfl⟩
theorem RepD.str_inv {X : Cx} {Z : Fz} {v : Value} {x : Str} (r : RepD X Z v (.str x)) : ∃ t, v = .str x t := by cases r; exact ⟨_, rfl⟩
theorem RepD.bool_inv {X : Cx} {Z : Fz} {v : Value} {b : Bool} (r : RepD X Z v (.bool b)) : v = .bool b := by cases r; rfl
theorem RepD.none_inv {X : Cx} {Z : Fz} {v : Value} (r : RepD X Z v .none) : v = .none := by cases r; rfl
theorem RepD.lst_inv {X : Cx} {Z : Fz} {v : Value} {ds : List D} (r : RepD X Z v (.lst ds)) : ∃ a vs n, v = .ref a ∧ Z a (lstObj vs n) ∧ RepAll X Z vs ds := by cases r with | lst z q => exact ⟨_, _, _, rfl, z, q⟩
theorem RepD.tup_inv {X : Cx} {Z : Fz} {v : Value} {ds : List D} (r : RepD X Z v (.tup ds)) : ∃ a vs n, v = .ref a ∧ Z a (tupObj vs n) ∧ RepAll X Z vs ds := by cases r with | tup z q => exact ⟨_, _, _, rfl, z, q⟩
theorem RepVs.one_inv {X : Cx} {Z : Fz} {ra : List Addr} {vs : List Value} {a : V} (r : RepVs X Z ra vs [a]) : ∃ u, vs = [u] ∧ RepV X Z ra u a := by cases r with | cons r1 r => cases r; exact ⟨_, rfl, r1⟩
theorem RepVs.two_inv {X : Cx} {Z : Fz} {ra : List Addr} {vs : List Value} {a b : V} (r : RepVs X Z ra vs [a, b]) : ∃ u v, vs = [u, v] ∧ RepV X Z ra u a ∧ RepV X Z ra v b := by
  cases r with
  | cons r1 r => obtain ⟨v, rfl, r2⟩ := r.one_inv; exact ⟨_, _, rfl, r1, r2⟩
theorem RepVs.length {X : Cx} {Z : Fz} {ra : List Addr} {vs : List Value} {xs : List V} (x : RepVs X Z ra vs xs) : vs.length = xs.length := by
  induction x with
  | nil => rfl
  | cons _ _ ih => rw [List.length_cons, List.length_cons, ih]
theorem RepVs.all {X : Cx} {Z : Fz} {ra : List Addr} : ∀ {vs : List Value} {ds : List D}, RepVs X Z ra vs (ds.map V.d) → RepAll X Z vs ds
  | _, [], .nil => .nil
  | _, _ :: _, .cons a r => .cons a (RepVs.all r)
/-- the object of a namespace -/
noncomputable def ObjNs (o : Obj) (m : Str → Option Value) : Prop := ∃ es ep, o.data = .dict es ep ∧ StrKeys es ∧ ∀ name, nsFind es name = m name
theorem ObjNs.at {h : Heap} {a : Addr} {o : Obj} {m : Str → Option Value} (x : ObjNs o m) (e : h.get? a = some o) : h.Ns a m :=
  let ⟨es, ep, r⟩ := x; ⟨o, es, ep, e, r⟩
theorem ObjNs.of {h : Heap} {a : Addr} {m : Str → Option Value} (x : h.Ns a m) : ∃ o, h.get? a = some o ∧ ObjNs o m :=
  let ⟨o, es, ep, e, r⟩ := x; ⟨o, e, es, ep, r⟩
/-- .. of one whose keys stand once -/
noncomputable def ObjNs1 (o : Obj) (m : Str → Option Value) : Prop := ∃ es ep, o.data = .dict es ep ∧ StrKeys es ∧ UniqKeys es ∧ ∀ name, nsFind es name = m name
theorem ObjNs1.at {h : Heap} {a : Addr} {o : Obj} {m : Str → Option Value} (x : ObjNs1 o m) (e : h.get? a = some o) : h.Ns1 a m :=
  let ⟨es, ep, r⟩ := x; ⟨o, es, ep, e, r⟩
theorem ObjNs1.of {h : Heap} {a : Addr} {m : Str → Option Value} (x : h.Ns1 a m) : ∃ o, h.get? a = some o ∧ ObjNs1 o m :=
  let ⟨o, es, ep, e, r⟩ := x; ⟨o, e, es, ep, r⟩
noncomputable def FieldsAt (X : Cx) (Z : Fz) (ra : List Addr) (m : Str → Option Value) (fs : List (Str × V)) : Prop :=
  ∀ x, (∀ v, fs.lookup x = some v → ∃ val, m x = some val ∧ RepV X Z ra val v) ∧ (fs.lookup x = none → m x = none)
noncomputable def CellRel (X : Cx) (Or : Own) (Z : Fz) (ra : List Addr) (a : Addr) : Cell → Prop
  | .lst xs => ∃ vs n, Or a = some (lstObj vs n) ∧ RepAll X Z vs xs
  | .dct es => ∃ o kvs, Or a = some o ∧ o.IsDictOf (intKind X.prog X.w) kvs ∧ kvs.map (·.1) = es.map (·.1) ∧ RepAll X Z (kvs.map (·.2)) (es.map (·.2))
  | .sd es => ∃ o kvs, Or a = some o ∧ o.IsDictOf (strKind X.prog X.w) kvs ∧ kvs.map (·.1) = es.map (·.1) ∧ RepAll X Z (kvs.map (·.2)) (es.map (·.2))
  | .ns fs => ∃ o m, Or a = some o ∧ ObjNs1 o m ∧ FieldsAt X Z ra m fs
  | .inst j => ∃ d, ra[j]? = some d ∧ Or a = some (instObj X.C d)
  | .dead => True
/-- what holds of the heap beside the frame -/
structure Bs (X : Cx) (Z : Fz) (Or K : Own) (ra : List Addr) (μ : Mem) (h : Heap) : Prop where
  ok : X.Ok
  base : ∀ a o, X.h₀.get? a = some o → Z a o
  z : ∀ a o, Z a o → h.get? a = some o
  r : ∀ a o, Or a = some o → h.get? a = some o
  k : ∀ a o, K a = some o → h.get? a = some o
  zo : ∀ a o, Z a o → Or a = none ∧ K a = none
  ro : ∀ a o, Or a = some o → K a = none
  len : ra.length = μ.length
  nd : ra.Nodup
  nz : ∀ a ∈ ra, ∃ o, Or a = some o ∨ Z a o
  cell : ∀ (i : Nat) (c : Cell), μ[i]? = some c → ∃ a, ra[i]? = some a ∧ CellRel X Or Z ra a c
  oz : ∀ a o, Or a = some o → a ∈ ra
  lo : ∀ a ∈ ra, a ≠ sysModules
/-- what holds of the variable's place -/
noncomputable def VarAt (X : Cx) (env : Env) (Of K : Own) (Z : Fz) (ra : List Addr) (m : Str → Option Value) (x : Str) (v : V) : Prop :=
  (env.kindOf x = some .local ∧ ∃ val, m x = some val ∧ RepV X Z ra val v) ∨
  ((env.kindOf x = some .cell ∨ env.kindOf x = some .free) ∧ ∃ c oc val, env.cells.lookup x = some c ∧ (Of c = some oc ∨ K c = some oc) ∧ oc.data = .cell (some val) ∧ RepV X Z ra val v)
structure FrameRel (X : Cx) (env : Env) (oc : List Str) (Of K : Own) (Z : Fz) (ra : List Addr) (ρ : Rho) : Prop where
  kind : env.scope.kind = .function
  glob : env.globals = mainGlobals
  bs : env.builtins = builtinsNs
  loc : ∃ oL m, Of env.locals = some oL ∧ ObjNs oL m ∧ ∀ x v, ρ.lookup x = some v → VarAt X env Of K Z ra m x v
  own : ∀ x ∈ oc, env.kindOf x = some .cell ∧ ∃ c o v₀, env.cells.lookup x = some c ∧ Of c = some o ∧ o.data = .cell v₀
  inj : ∀ x y c, env.cells.lookup x = some c → env.cells.lookup y = some c → x = y
  cl : ∀ x c, env.cells.lookup x = some c → ∃ o, Of c = some o ∨ K c = some o
structure St (X : Cx) (env : Env) (oc : List Str) (Z : Fz) (Of Or K : Own) (ra : List Addr) (ρ : Rho) (μ : Mem) (h : Heap) : Prop where
  bs : Bs X Z Or (Of.join K) ra μ h
  fk : ∀ a o, Of a = some o → K a = none
  fr : FrameRel X env oc Of K Z ra ρ
section mono
variable {X : Cx} {env : Env} {oc : List Str} {Of Or K : Own} {Z Z' : Fz} {ra ra' : List Addr} {ρ : Rho} {μ : Mem} {m : Str → Option Value} {x : Str} {v : V} {h h' : Heap}
theorem VarAt.mono (hz : Le Z Z') (k : ra <+: ra') (q : VarAt X env Of K Z ra m x v) : VarAt X env Of K Z' ra' m x v := by
  rcases q with ⟨a, val, b, c⟩ | ⟨a, c, oc, val, e1, e2, e3, e4⟩
  · exact .inl ⟨a, val, b, c.mono hz k⟩
  · exact .inr ⟨a, c, oc, val, e1, e2, e3, e4.mono hz k⟩
theorem FrameRel.mono (hz : Le Z Z') (k : ra <+: ra') (F : FrameRel X env oc Of K Z ra ρ) : FrameRel X env oc Of K Z' ra' ρ :=
  ⟨F.kind, F.glob, F.bs, let ⟨oL, m, a, b, c⟩ := F.loc; ⟨oL, m, a, b, fun x v e => (c x v e).mono hz k⟩, F.own, F.inj, F.cl⟩
theorem FieldsAt.mono {fs : List (Str × V)} (hz : Le Z Z') (k : ra <+: ra') (q : FieldsAt X Z ra m fs) : FieldsAt X Z' ra' m fs :=
  fun y => ⟨fun v e => let ⟨val, a, b⟩ := (q y).1 v e; ⟨val, a, b.mono hz k⟩, (q y).2⟩
theorem pre_get {i : Nat} {a : Addr} (k : ra <+: ra') (e : ra[i]? = some a) : ra'[i]? = some a := by
  obtain ⟨t, rfl⟩ := k
  rw [List.getElem?_append_left (List.getElem?_eq_some_iff.mp e).1]; exact e
theorem CellRel.mono {a : Addr} {c : Cell} (hz : Le Z Z') (k : ra <+: ra') (q : CellRel X Or Z ra a c) : CellRel X Or Z' ra' a c := by
  cases c with
  | lst xs => obtain ⟨vs, n, e, r⟩ := q; exact ⟨vs, n, e, r.mono hz⟩
  | dct es => obtain ⟨o, kvs, e, i, p, r⟩ := q; exact ⟨o, kvs, e, i, p, r.mono hz⟩
  | sd es => obtain ⟨o, kvs, e, i, p, r⟩ := q; exact ⟨o, kvs, e, i, p, r.mono hz⟩
  | ns fs => obtain ⟨o, m, e, r, q⟩ := q; exact ⟨o, m, e, r, q.mono hz k⟩
  | inst j => obtain ⟨d, e, q⟩ := q; exact ⟨d, pre_get k e, q⟩
  | dead => trivial
theorem CellRel.own {Or' : Own} {a : Addr} {c : Cell} (e : Or' a = Or a) (q : CellRel X Or Z ra a c) : CellRel X Or' Z ra a c := by
  cases c with
  | lst xs => obtain ⟨vs, n, h, r⟩ := q; exact ⟨vs, n, e ▸ h, r⟩
  | dct es => obtain ⟨o, kvs, h, r⟩ := q; exact ⟨o, kvs, e ▸ h, r⟩
  | sd es => obtain ⟨o, kvs, h, r⟩ := q; exact ⟨o, kvs, e ▸ h, r⟩
  | ns fs => obtain ⟨o, m, h, r⟩ := q; exact ⟨o, m, e ▸ h, r⟩
  | inst j => obtain ⟨d, h, q⟩ := q; exact ⟨d, h, e ▸ q⟩
  | dead => trivial
theorem size_none (h : Heap) : h.get? h.objs.size = none := by
  cases q : h.get? h.objs.size with
  | none => rfl
  | some o => exact absurd (Heap.lt_size q) (Nat.lt_irrefl _)
theorem none_ge {h : Heap} {a : Addr} (q : h.objs.size ≤ a) : h.get? a = none := by
  cases e : h.get? a with
  | none => rfl
  | some o => exact absurd (Heap.lt_size e) (Nat.not_lt.mpr q)
namespace Bs
theorem grow (T : Bs X Z Or K ra μ h) (hk : ∀ b o, h.get? b = some o → h'.get? b = some o) : Bs X Z Or K ra μ h' :=
  ⟨T.ok, T.base, fun a o x => hk a o (T.z a o x), fun a o x => hk a o (T.r a o x), fun a o x => hk a o (T.k a o x), T.zo, T.ro, T.len, T.nd, T.nz, T.cell, T.oz, T.lo⟩
theorem raGet (T : Bs X Z Or K ra μ h) {a : Addr} (q : a ∈ ra) : ∃ o, h.get? a = some o :=
  let ⟨o, p⟩ := T.nz a q; ⟨o, p.elim (T.r a o) (T.z a o)⟩
theorem raK (T : Bs X Z Or K ra μ h) {a : Addr} (q : a ∈ ra) : K a = none :=
  let ⟨o, p⟩ := T.nz a q; p.elim (T.ro a o) fun z => (T.zo a o z).2
theorem fresh (T : Bs X Z Or K ra μ h) {a : Addr} (ha : h.get? a = none) : Or a = none ∧ K a = none ∧ ∀ o, ¬ Z a o := by
  have key : ∀ {P : Option Obj}, (∀ o, P = some o → h.get? a = some o) → P = none := fun {P} hp => by
    cases q : P with
    | none => rfl
    | some o => have := hp o q; rw [ha] at this; cases this
  exact ⟨key fun o => T.r a o, key fun o => T.k a o, fun o z => by have := T.z a o z; rw [ha] at this; cases this⟩
end Bs
/-- one new frozen thing -/
noncomputable def addZ (Z : Fz) (a : Addr) (o : Obj) : Fz := fun b p => Z b p ∨ (b = a ∧ p = o)
theorem addZ_le {a : Addr} {o : Obj} : Le Z (addZ Z a o) := fun _ _ h => .inl h
theorem addZ_new {a : Addr} {o : Obj} : addZ Z a o a o := .inr ⟨rfl, rfl⟩
namespace Bs
theorem freeze (T : Bs X Z Or K ra μ h) {a : Addr} {o : Obj} (ha : h.get? a = none) (hn : h'.get? a = some o) (hk : ∀ b o, h.get? b = some o → h'.get? b = some o) :
    Bs X (addZ Z a o) Or K ra μ h' := by
  obtain ⟨f2, f3, _⟩ := T.fresh ha
  have G := T.grow hk
  refine ⟨T.ok, fun a o e => .inl (T.base a o e), ?_, G.r, G.k, ?_, T.ro, T.len, T.nd, fun a q => let ⟨o, p⟩ := T.nz a q; ⟨o, p.imp id .inl⟩, fun i c e => let ⟨a, p, q⟩ := T.cell i c e; ⟨a, p, q.mono addZ_le (List.prefix_refl _)⟩, T.oz, T.lo⟩
  · rintro b p (x | ⟨rfl, rfl⟩)
    · exact G.z b p x
    · exact hn
  · rintro b p (x | ⟨rfl, rfl⟩)
    · exact T.zo b p x
    · exact ⟨f2, f3⟩
theorem push (T : Bs X Z Or K ra μ h) (o : Obj) (hf : o.isFreed = false := by rfl) : Bs X (addZ Z h.objs.size o) Or K ra μ (h.push o) :=
  T.freeze (size_none h) (Heap.get?_push_size _ hf) (fun _ _ e => Heap.get?_push_of_some _ e)
/-- a new record -/
theorem lowSize (T : Bs X Z Or K ra μ h) : sysModules < h.objs.size := by
  obtain ⟨mg, o, es, ep, e, _⟩ := T.ok.g
  have := Heap.lt_size (T.z _ _ (T.base _ _ e))
  exact Nat.lt_trans (by decide : (1 : Nat) < 3) this
theorem newRec (T : Bs X Z Or K ra μ h) {a : Addr} {o : Obj} {c : Cell} (hlo : a ≠ sysModules) (ha : h.get? a = none) (hn : h'.get? a = some o) (hk : ∀ b o, h.get? b = some o → h'.get? b = some o)
    (hc : CellRel X (Or.put a o) Z (ra ++ [a]) a c) : Bs X Z (Or.put a o) K (ra ++ [a]) (μ ++ [c]) h' := by
  obtain ⟨f2, f3, f4⟩ := T.fresh ha
  have G := T.grow hk
  have hra : a ∉ ra := fun q => by obtain ⟨o, e⟩ := T.raGet q; rw [ha] at e; cases e
  refine ⟨T.ok, T.base, G.z, ?_, G.k, ?_, ?_, ?_, ?_, ?_, ?_, ?_, ?_⟩
  · intro b p x
    by_cases q : b = a
    · subst q; rw [Own.put_self] at x; cases x; exact hn
    · rw [Own.put_ne q] at x; exact G.r b p x
  · intro b p z
    have q : b ≠ a := fun q => f4 p (q ▸ z)
    rw [Own.put_ne q]; exact T.zo b p z
  · intro b p x
    by_cases q : b = a
    · subst q; exact f3
    · rw [Own.put_ne q] at x; exact T.ro b p x
  · rw [List.length_append, List.length_append, T.len]; rfl
  · rw [List.nodup_append]
    exact ⟨T.nd, List.nodup_cons.mpr ⟨List.not_mem_nil, List.nodup_nil⟩, fun x hx y hy e => by rw [List.mem_singleton.mp hy] at e; exact hra (e ▸ hx)⟩
  · intro b q
    rcases List.mem_append.mp q with q | q
    · have hb : b ≠ a := fun w => hra (w ▸ q)
      obtain ⟨p, e⟩ := T.nz b q
      exact ⟨p, by rw [Own.put_ne hb]; exact e⟩
    · rw [List.mem_singleton.mp q]; exact ⟨o, .inl Own.put_self⟩
  · intro i d e
    by_cases q : i < μ.length
    · rw [List.getElem?_append_left q] at e
      obtain ⟨b, e1, e2⟩ := T.cell i d e
      have hb : b ≠ a := fun q => hra (q ▸ List.mem_of_getElem? e1)
      exact ⟨b, pre_get ⟨_, rfl⟩ e1, (e2.mono Le.refl ⟨_, rfl⟩).own (Own.put_ne hb)⟩
    · rw [List.getElem?_append_right (Nat.not_lt.mp q)] at e
      have hi : i - μ.length = 0 := by
        cases hj : i - μ.length with
        | zero => rfl
        | succ n => rw [hj] at e; simp at e
      rw [hi] at e; cases e
      have : i = ra.length := by rw [T.len]; omega
      exact ⟨a, by rw [this]; simp, hc⟩
  · intro b p x
    by_cases q : b = a
    · subst q; simp
    · rw [Own.put_ne q] at x; exact List.mem_append_left _ (T.oz b p x)
  · intro b q
    rcases List.mem_append.mp q with q | q
    · exact T.lo b q
    · rw [List.mem_singleton.mp q]; exact hlo
/-- a record changed -/
theorem upd (T : Bs X Z Or K ra μ h) {i : Nat} {a : Addr} {o o' : Obj} {c : Cell} (hi : ra[i]? = some a) (ho : Or a = some o) (hn : h'.get? a = some o') (hk : ∀ b o, b ≠ a → h.get? b = some o → h'.get? b = some o)
    (hc : CellRel X (Or.put a o') Z ra a c) : Bs X Z (Or.put a o') K ra (μ.set i c) h' := by
  have hz : ∀ b p, Z b p → b ≠ a := fun b p z q => by
    have := (T.zo b p z).1
    rw [q, ho] at this; cases this
  have hK : K a = none := T.ro a o ho
  have hkk : ∀ b p, K b = some p → b ≠ a := fun b p z q => by rw [q, hK] at z; cases z
  refine ⟨T.ok, T.base, fun b p z => hk b p (hz b p z) (T.z b p z), ?_, fun b p z => hk b p (hkk b p z) (T.k b p z), ?_, ?_, ?_, T.nd, fun b q => ?_, ?_, ?_, T.lo⟩
  · intro b p x
    by_cases q : b = a
    · subst q; rw [Own.put_self] at x; cases x; exact hn
    · rw [Own.put_ne q] at x; exact hk b p q (T.r b p x)
  · intro b p z
    rw [Own.put_ne (hz b p z)]; exact T.zo b p z
  · intro b p x
    by_cases q : b = a
    · subst q; exact hK
    · rw [Own.put_ne q] at x; exact T.ro b p x
  · rw [List.length_set]; exact T.len
  · by_cases w : b = a
    · subst w; exact ⟨o', .inl Own.put_self⟩
    · rw [Own.put_ne w]; exact T.nz b q
  · intro j d e
    rw [List.getElem?_set] at e
    by_cases q : i = j
    · subst q
      rw [if_pos rfl] at e
      split at e
      · cases e; exact ⟨a, hi, hc⟩
      · cases e
    · rw [if_neg q] at e
      obtain ⟨b, e1, e2⟩ := T.cell j d e
      have hb : b ≠ a := fun w => by
        subst w
        exact q ((List.getElem?_inj (List.getElem?_eq_some_iff.mp hi).1 T.nd).mp (hi.trans e1.symm))
      exact ⟨b, e1, e2.own (Own.put_ne hb)⟩
  · intro b p x
    by_cases q : b = a
    · subst q; exact List.mem_of_getElem? hi
    · rw [Own.put_ne q] at x; exact T.oz b p x
/-- an own thing becomes data -/
theorem still (T : Bs X Z Or K ra μ h) {i : Nat} {a : Addr} {o : Obj} (hi : ra[i]? = some a) (ho : Or a = some o) : Bs X (addZ Z a o) (Or.del a) K ra (μ.set i .dead) h := by
  have hz : ∀ b p, Z b p → b ≠ a := fun b p z q => by
    have := (T.zo b p z).1
    rw [q, ho] at this; cases this
  have hK : K a = none := T.ro a o ho
  refine ⟨T.ok, fun a o e => .inl (T.base a o e), ?_, ?_, T.k, ?_, ?_, ?_, T.nd, fun b q => ?_, ?_, ?_, T.lo⟩
  · rintro b p (x | ⟨rfl, rfl⟩)
    · exact T.z b p x
    · exact T.r _ _ ho
  · intro b p x
    by_cases q : b = a
    · subst q; rw [Own.del_self] at x; cases x
    · rw [Own.del_ne q] at x; exact T.r b p x
  · rintro b p (x | ⟨rfl, rfl⟩)
    · rw [Own.del_ne (hz b p x)]; exact T.zo b p x
    · exact ⟨Own.del_self, hK⟩
  · intro b p x
    by_cases q : b = a
    · subst q; exact hK
    · rw [Own.del_ne q] at x; exact T.ro b p x
  · rw [List.length_set]; exact T.len
  · by_cases w : b = a
    · subst w; exact ⟨o, .inr addZ_new⟩
    · obtain ⟨p, e⟩ := T.nz b q
      exact ⟨p, by rw [Own.del_ne w]; exact e.imp id .inl⟩
  · intro j d e
    rw [List.getElem?_set] at e
    by_cases q : i = j
    · subst q
      rw [if_pos rfl] at e
      split at e
      · cases e; exact ⟨a, hi, trivial⟩
      · cases e
    · rw [if_neg q] at e
      obtain ⟨b, e1, e2⟩ := T.cell j d e
      have hb : b ≠ a := fun w => by
        subst w
        exact q ((List.getElem?_inj (List.getElem?_eq_some_iff.mp hi).1 T.nd).mp (hi.trans e1.symm))
      exact ⟨b, e1, (e2.mono addZ_le (List.prefix_refl _)).own (Own.del_ne hb)⟩
  · intro b p x
    by_cases q : b = a
    · subst q; rw [Own.del_self] at x; cases x
    · rw [Own.del_ne q] at x; exact T.oz b p x
/-- the kept part changed: what is kept stands, and is apart -/
theorem keep {K' : Own} (T : Bs X Z Or K ra μ h) (hk : ∀ a o, Z a o ∨ Or a = some o → h'.get? a = some o) (h1 : ∀ a o, K' a = some o → h'.get? a = some o ∧ (∀ p, ¬ Z a p) ∧ Or a = none) : Bs X Z Or K' ra μ h' := by
  have key : ∀ {a : Addr}, (∀ o, K' a = some o → False) → K' a = none := fun {a} hp => by
    cases q : K' a with
    | none => rfl
    | some o => exact (hp o q).elim
  refine ⟨T.ok, T.base, fun a o x => hk a o (.inl x), fun a o x => hk a o (.inr x), fun a o e => (h1 a o e).1, ?_, ?_, T.len, T.nd, T.nz, T.cell, T.oz, T.lo⟩
  · intro a p z
    exact ⟨(T.zo a p z).1, key fun o e => (h1 a o e).2.1 p z⟩
  · intro a p x
    exact key fun o e => by have := (h1 a o e).2.2; rw [x] at this; cases this
theorem notK (T : Bs X Z Or K ra μ h) {a : Addr} {o : Obj} (e : K a = some o) : (∀ p, ¬ Z a p) ∧ Or a = none := by
  refine ⟨fun p z => ?_, ?_⟩
  · have := (T.zo a p z).2; rw [e] at this; cases this
  · cases q : Or a with
    | none => rfl
    | some p => have := T.ro a p q; rw [e] at this; cases this
theorem notNew (T : Bs X Z Or K ra μ h) {a : Addr} (e : h.get? a = none) : (∀ p, ¬ Z a p) ∧ Or a = none :=
  let ⟨f2, _, f4⟩ := T.fresh e
  ⟨f4, f2⟩
/-- a kept thing becomes data -/
theorem calm (T : Bs X Z Or K ra μ h) {a : Addr} {o : Obj} (e : K a = some o) : Bs X (addZ Z a o) Or (K.del a) ra μ h := by
  obtain ⟨f1, f2⟩ := T.notK e
  refine ⟨T.ok, fun a o e => .inl (T.base a o e), ?_, T.r, ?_, ?_, ?_, T.len, T.nd, fun a q => let ⟨o, p⟩ := T.nz a q; ⟨o, p.imp id .inl⟩, fun i c e => let ⟨a, p, q⟩ := T.cell i c e; ⟨a, p, q.mono addZ_le (List.prefix_refl _)⟩, T.oz, T.lo⟩
  · rintro b p (x | ⟨rfl, rfl⟩)
    · exact T.z b p x
    · exact T.k _ _ e
  · intro b p x
    by_cases q : b = a
    · subst q; rw [Own.del_self] at x; cases x
    · rw [Own.del_ne q] at x; exact T.k b p x
  · rintro b p (x | ⟨rfl, rfl⟩)
    · have q : b ≠ a := fun q => f1 p (q ▸ x)
      rw [Own.del_ne q]; exact T.zo b p x
    · exact ⟨f2, Own.del_self⟩
  · intro b p x
    by_cases q : b = a
    · subst q; exact Own.del_self
    · rw [Own.del_ne q]; exact T.ro b p x
end Bs
end mono
structure Sc where
  sc : Scope
  oc : List Str
structure AOK (A : Around) (n : Nat) : Prop where
  hd : A.handled = none
  dep : A.depth + 4 * n ≤ 900
  uni : A.units + 60 * n ≤ 9500
theorem AOK.mono {A : Around} {n m : Nat} (h : AOK A n) (k : m ≤ n) : AOK A m := ⟨h.hd, by have := h.dep; omega, by have := h.uni; omega⟩
inductive Fl where
  | nxt | cnt
  | ret (v : V)
/-- what is handed on from a state of the frame -/
noncomputable def Go {α β : Type} (X : Cx) (env : Env) (oc : List Str) (Z : Fz) (Of K : Own) (ra : List Addr) (ρ : Rho) (R : Fz → List Addr → α → β → Prop) (P : β → Mem → Prop) (s : Shared) (Q : α → Shared → Prop) : Prop :=
  ∀ h' tk Z' Or' ra' val v μ', P v μ' → Le Z Z' → ra <+: ra' → St X env oc Z' Of Or' K ra' ρ μ' h' → R Z' ra' val v → Q val { s with heap := h', toks := tk }
noncomputable def Gb {α β : Type} (X : Cx) (Z : Fz) (K : Own) (ra : List Addr) (R : Fz → List Addr → α → β → Prop) (P : β → Mem → Prop) (s : Shared) (Q : α → Shared → Prop) : Prop :=
  ∀ h' tk Z' Or' ra' val v μ', P v μ' → Le Z Z' → ra <+: ra' → Bs X Z' Or' K ra' μ' h' → R Z' ra' val v → Q val { s with heap := h', toks := tk }
noncomputable def RV (X : Cx) : Fz → List Addr → Value → V → Prop := fun Z ra val v => RepV X Z ra val v
noncomputable def RVs (X : Cx) : Fz → List Addr → List Value → List V → Prop := fun Z ra val v => RepVs X Z ra val v
noncomputable def RB : Fz → List Addr → Bool → Bool → Prop := fun _ _ a b => a = b
noncomputable def Ev (X : Cx) (n : Nat) (S : Sc) (e : Expr) (ρ : Rho) (μ : Mem) (P : V → Mem → Prop) : Prop :=
  ∀ (A : Around) (env : Env) (s : Shared) (Z : Fz) (Of Or K : Own) (ra : List Addr) (Q : Value → Shared → Prop) (E : Value → Shared → Prop),
    AOK A n → env.scope = S.sc → St X env S.oc Z Of Or K ra ρ μ s.heap → Go X env S.oc Z Of K ra ρ (RV X) P s Q → wpAny X.M A (eval e env) Q E s
noncomputable def Tst (X : Cx) (n : Nat) (S : Sc) (e : Expr) (ρ : Rho) (μ : Mem) (P : Bool → Mem → Prop) : Prop :=
  ∀ (A : Around) (env : Env) (s : Shared) (Z : Fz) (Of Or K : Own) (ra : List Addr) (Q : Bool → Shared → Prop) (E : Value → Shared → Prop),
    AOK A n → env.scope = S.sc → St X env S.oc Z Of Or K ra ρ μ s.heap → Go X env S.oc Z Of K ra ρ RB P s Q → wpAny X.M A (isTrue e env (eval e env)) Q E s
noncomputable def EvL (X : Cx) (n : Nat) (S : Sc) (es : List Expr) (ρ : Rho) (μ : Mem) (P : List V → Mem → Prop) : Prop :=
  ∀ (A : Around) (env : Env) (s : Shared) (pos : Pos) (Z : Fz) (Of Or K : Own) (ra : List Addr) (Q : List Value → Shared → Prop) (E : Value → Shared → Prop),
    AOK A n → env.scope = S.sc → St X env S.oc Z Of Or K ra ρ μ s.heap → Go X env S.oc Z Of K ra ρ (RVs X) P s Q → wpAny X.M A (spliced (backTo pos (starEach es env))) Q E s
/-- an operation on values -/
noncomputable def Op (X : Cx) (n : Nat) (t : List Value → Sem Value) (xs : List V) (μ : Mem) (P : V → Mem → Prop) : Prop :=
  ∀ (A : Around) (s : Shared) (Z : Fz) (Or K : Own) (ra : List Addr) (vals : List Value) (Q : Value → Shared → Prop) (E : Value → Shared → Prop),
    AOK A n → Bs X Z Or K ra μ s.heap → RepVs X Z ra vals xs → Gb X Z K ra (RV X) P s Q → wpAny X.M A (t vals) Q E s
section
variable {X : Cx} {n : Nat} {S : Sc} {env : Env} {oc : List Str} {Z : Fz} {Of Or K : Own} {ra : List Addr} {ρ : Rho} {μ : Mem} {h h' : Heap} {P : V → Mem → Prop}
theorem St.grow (T : St X env oc Z Of Or K ra ρ μ h) (hk : ∀ b o, h.get? b = some o → h'.get? b = some o) : St X env oc Z Of Or K ra ρ μ h' :=
  ⟨T.bs.grow hk, T.fk, T.fr⟩
theorem St.push (T : St X env oc Z Of Or K ra ρ μ h) (o : Obj) (hf : o.isFreed = false := by rfl) : St X env oc (addZ Z h.objs.size o) Of Or K ra ρ μ (h.push o) :=
  ⟨T.bs.push o hf, T.fk, T.fr.mono addZ_le (List.prefix_refl _)⟩
/-- back from a part that knows nothing of the frame -/
theorem St.back {Z' : Fz} {Or' : Own} {ra' : List Addr} {μ' : Mem} (T : St X env oc Z Of Or K ra ρ μ h) (hz : Le Z Z') (hp : ra <+: ra') (B : Bs X Z' Or' (Of.join K) ra' μ' h') : St X env oc Z' Of Or' K ra' ρ μ' h' :=
  ⟨B, T.fk, T.fr.mono hz hp⟩
theorem Go.of {α β : Type} {R : Fz → List Addr → α → β → Prop} {P : β → Mem → Prop} {s : Shared} {Q : α → Shared → Prop} (T : St X env oc Z Of Or K ra ρ μ h) (g : Go X env oc Z Of K ra ρ R P s Q) : Gb X Z (Of.join K) ra R P s Q :=
  fun h' tk Z' Or' ra' val v μ' p hz hp B r => g h' tk Z' Or' ra' val v μ' p hz hp (T.back hz hp B) r
/-- the same state -/
theorem Go.here {α β : Type} {R : Fz → List Addr → α → β → Prop} {P : β → Mem → Prop} {s : Shared} {Q : α → Shared → Prop} (g : Go X env oc Z Of K ra ρ R P s Q) {tk : Nat} {val : α} {v : β} (T : St X env oc Z Of Or K ra ρ μ s.heap) (p : P v μ) (r : R Z ra val v) :
    Q val { s with toks := tk } := g s.heap tk Z Or ra val v μ p Le.refl (List.prefix_refl _) T r
theorem Gb.here {α β : Type} {R : Fz → List Addr → α → β → Prop} {P : β → Mem → Prop} {s : Shared} {Q : α → Shared → Prop} (g : Gb X Z K ra R P s Q) {tk : Nat} {val : α} {v : β} (T : Bs X Z Or K ra μ s.heap) (p : P v μ) (r : R Z ra val v) :
    Q val { s with toks := tk } := g s.heap tk Z Or ra val v μ p Le.refl (List.prefix_refl _) T r
/-- from a later state -/
theorem Go.later {α β : Type} {R : Fz → List Addr → α → β → Prop} {P : β → Mem → Prop} {s : Shared} {Q : α → Shared → Prop} (g : Go X env oc Z Of K ra ρ R P s Q) {Z₁ : Fz} {ra₁ : List Addr} (hz : Le Z Z₁) (hp : ra <+: ra₁) {h₁ : Heap} {tk₁ : Nat} :
    Go X env oc Z₁ Of K ra₁ ρ R P { s with heap := h₁, toks := tk₁ } Q :=
  fun h' tk Z' Or' ra' val v μ' p z r T q => g h' tk Z' Or' ra' val v μ' p (hz.trans z) (hp.trans r) T q
theorem Gb.later {α β : Type} {R : Fz → List Addr → α → β → Prop} {P : β → Mem → Prop} {s : Shared} {Q : α → Shared → Prop} (g : Gb X Z K ra R P s Q) {Z₁ : Fz} {ra₁ : List Addr} (hz : Le Z Z₁) (hp : ra <+: ra₁) {h₁ : Heap} {tk₁ : Nat} :
    Gb X Z₁ K ra₁ R P { s with heap := h₁, toks := tk₁ } Q :=
  fun h' tk Z' Or' ra' val v μ' p z r T q => g h' tk Z' Or' ra' val v μ' p (hz.trans z) (hp.trans r) T q
theorem Ev.mono {e : Expr} {P P' : V → Mem → Prop} (h : Ev X n S e ρ μ P) (k : ∀ v μ', P v μ' → P' v μ') : Ev X n S e ρ μ P' :=
  fun A env s Z Of Or K ra Q E hA hs T g => h A env s Z Of Or K ra Q E hA hs T fun h' tk Z' Or' ra' val v μ' p => g h' tk Z' Or' ra' val v μ' (k v μ' p)
theorem Ev.lift {e : Expr} {m : Nat} (h : Ev X m S e ρ μ P) (k : m ≤ n) : Ev X n S e ρ μ P :=
  fun A env s Z Of Or K ra Q E hA hs T g => h A env s Z Of Or K ra Q E (hA.mono k) hs T g
theorem Tst.mono {e : Expr} {P P' : Bool → Mem → Prop} (h : Tst X n S e ρ μ P) (k : ∀ v μ', P v μ' → P' v μ') : Tst X n S e ρ μ P' :=
  fun A env s Z Of Or K ra Q E hA hs T g => h A env s Z Of Or K ra Q E hA hs T fun h' tk Z' Or' ra' val v μ' p => g h' tk Z' Or' ra' val v μ' (k v μ' p)
theorem Op.mono {t : List Value → Sem Value} {xs : List V} {P P' : V → Mem → Prop} (h : Op X n t xs μ P) (k : ∀ v μ', P v μ' → P' v μ') : Op X n t xs μ P' :=
  fun A s Z Or K ra vals Q E hA T r g => h A s Z Or K ra vals Q E hA T r fun h' tk Z' Or' ra' val v μ' p => g h' tk Z' Or' ra' val v μ' (k v μ' p)
-- constants
theorem ev_int {i : Int} {k : Nat} {pos : Pos} (hp : P (.d (.int i)) μ) : Ev X n S (.Constant (.int i) k pos) ρ μ P := by
  intro A env s Z Of Or K ra Q E hA hs T g
  exact wpAny_Constant_int (g.here T hp (.int i _))
theorem ev_str {x : Str} {k : Nat} {pos : Pos} (hp : P (.d (.str x)) μ) : Ev X n S (.Constant (.str x) k pos) ρ μ P := by
  intro A env s Z Of Or K ra Q E hA hs T g
  exact wpAny_Constant_str (g.here T hp (.str x _))
theorem ev_bool {b : Bool} {k : Nat} {pos : Pos} (hp : P (.d (.bool b)) μ) : Ev X n S (.Constant (.bool b) k pos) ρ μ P := by
  intro A env s Z Of Or K ra Q E hA hs T g
  exact wpAny_Constant_bool (g.here (tk := s.toks) T hp (.bool b))
theorem ev_none {k : Nat} {pos : Pos} (hp : P (.d .none) μ) : Ev X n S (.Constant .none k pos) ρ μ P := by
  intro A env s Z Of Or K ra Q E hA hs T g
  exact wpAny_Constant_none (g.here (tk := s.toks) T hp .none)
-- a variable
theorem ev_var {x : Str} {pos : Pos} {v : V} (hv : ρ.lookup x = some v) (hp : P v μ) (hd : (x == ("__debug__" : Str)) = false := by rfl) (hc : (x == ("__classdict__" : Str)) = false := by rfl) : Ev X n S (.Name x pos) ρ μ P := by
  intro A env s Z Of Or K ra Q E hA hs T g
  obtain ⟨oL, m, hL, hm, hvv⟩ := T.fr.loc
  refine wpAny_Name ?_ hd
  rcases hvv x _ hv with ⟨a, val, b, c⟩ | ⟨a, c, oc, val, e1, e2, e3, e4⟩
  · exact wpAny_loadName_local T.fr.kind a (hm.at (T.bs.k _ _ (Own.join_left hL))) b (g.here (tk := s.toks) T hp c)
  · have ho : s.heap.get? c = some oc := e2.elim (fun e => T.bs.k _ _ (Own.join_left e)) fun e => by
      cases q : Of c with
      | none => exact T.bs.k _ _ (Own.join_right q e)
      | some o => have := T.fk c o q; rw [e] at this; cases this
    have q : Q val s := g.here (tk := s.toks) T hp e4
    rcases a with a | a
    · exact wpAny_loadName_cell T.fr.kind a e1 ⟨oc, ho, e3⟩ q
    · exact wpAny_loadName_free T.fr.kind a e1 ⟨oc, ho, e3⟩ q hc
-- two values, then an operation
theorem ev_two {l r : Expr} {t : Value → Value → Sem Value} {e : Expr}
    (hl : Ev X n S l ρ μ fun a μ₁ => Ev X n S r ρ μ₁ fun b μ₂ => Op X n (fun vs => match vs with | [u, v] => t u v | _ => .unsupported "") [a, b] μ₂ P)
    (he : ∀ {A : Around} {env : Env} {s : Shared} {Q : Value → Shared → Prop} {E : Value → Shared → Prop}, wpAny X.M A (eval l env) (fun a s₁ => wpAny X.M A (eval r env) (fun b s₂ => wpAny X.M A (t a b) Q E s₂) E s₁) E s → wpAny X.M A (eval e env) Q E s) :
    Ev X n S e ρ μ P := by
  intro A env s Z Of Or K ra Q E hA hs T g
  refine he (hl A env s Z Of Or K ra _ E hA hs T fun h₁ tk₁ Z₁ Or₁ ra₁ va a μ₁ p₁ z₁ pr₁ T₁ r₁ => ?_)
  refine p₁ A env _ Z₁ Of Or₁ K ra₁ _ E hA hs T₁ fun h₂ tk₂ Z₂ Or₂ ra₂ vb b μ₂ p₂ z₂ pr₂ T₂ r₂ => ?_
  exact p₂ A _ Z₂ Or₂ _ ra₂ [va, vb] Q E hA T₂.bs (.cons (r₁.mono z₂ pr₂) (.cons r₂ .nil)) (Go.of T₂ (((g.later z₁ pr₁).later z₂ pr₂)))
noncomputable def Bop (X : Cx) (n : Nat) (op : Operator) (a b : V) (μ : Mem) (P : V → Mem → Prop) : Prop := Op X n (fun vs => match vs with | [u, v] => binaryOp op u v | _ => .unsupported "") [a, b] μ P
noncomputable def Cop (X : Cx) (n : Nat) (op : CmpOp) (a b : V) (μ : Mem) (P : V → Mem → Prop) : Prop := Op X n (fun vs => match vs with | [u, v] => compareOp op u v | _ => .unsupported "") [a, b] μ P
theorem ev_bin {l r : Expr} {op : Operator} {pos : Pos} (hl : Ev X n S l ρ μ fun a μ₁ => Ev X n S r ρ μ₁ fun b μ₂ => Bop X n op a b μ₂ P) : Ev X n S (.BinOp l op r pos) ρ μ P :=
  ev_two (t := fun u v => binaryOp op u v) hl fun q => wpAny_BinOp q
theorem ev_cmp {l r : Expr} {op : CmpOp} {pos : Pos} (hl : Ev X n S l ρ μ fun a μ₁ => Ev X n S r ρ μ₁ fun b μ₂ => Cop X n op a b μ₂ P) (hm : behindInMarks op r = false := by with_unfolding_all rfl) : Ev X n S (.Compare l [op] [r] pos) ρ μ P :=
  ev_two (t := fun u v => compareOp op u v) hl fun q => wpAny_Compare1 q hm
theorem op_two {t : Value → Value → Sem Value} {a b : V}
    (k : ∀ (A : Around) (s : Shared) (Z : Fz) (Or K : Own) (ra : List Addr) (u v : Value) (Q : Value → Shared → Prop) (E : Value → Shared → Prop), AOK A n → Bs X Z Or K ra μ s.heap → RepV X Z ra u a → RepV X Z ra v b → Gb X Z K ra (RV X) P s Q → wpAny X.M A (t u v) Q E s) :
    Op X n (fun vs => match vs with | [u, v] => t u v | _ => .unsupported "") [a, b] μ P := by
  intro A s Z Or K ra vals Q E hA T r g
  obtain ⟨_, _, rfl, r1, r2⟩ := r.two_inv
  exact k A s Z Or K ra _ _ Q E hA T r1 r2 g
theorem op_one {t : Value → Sem Value} {a : V}
    (k : ∀ (A : Around) (s : Shared) (Z : Fz) (Or K : Own) (ra : List Addr) (u : Value) (Q : Value → Shared → Prop) (E : Value → Shared → Prop), AOK A n → Bs X Z Or K ra μ s.heap → RepV X Z ra u a → Gb X Z K ra (RV X) P s Q → wpAny X.M A (t u) Q E s) :
    Op X n (fun vs => match vs with | [u] => t u | _ => .unsupported "") [a] μ P := by
  intro A s Z Or K ra vals Q E hA T r g
  obtain ⟨_, rfl, r1⟩ := r.one_inv
  exact k A s Z Or K ra _ Q E hA T r1 g
-- ints
theorem bop_add {x y : Int} (hp : P (.d (.int (x + y))) μ) : Bop X n .Add (.d (.int x)) (.d (.int y)) μ P := by
  refine op_two fun A s Z Or K ra u v Q E hA T r1 r2 g => ?_
  obtain ⟨_, rfl⟩ := RepD.int_inv r1; obtain ⟨_, rfl⟩ := RepD.int_inv r2
  exact PySem.P.add_int (g.here T hp (.int _ _))
theorem bop_sub {x y : Int} (hp : P (.d (.int (x - y))) μ) : Bop X n .Sub (.d (.int x)) (.d (.int y)) μ P := by
  refine op_two fun A s Z Or K ra u v Q E hA T r1 r2 g => ?_
  obtain ⟨_, rfl⟩ := RepD.int_inv r1; obtain ⟨_, rfl⟩ := RepD.int_inv r2
  exact PySem.P.sub_int (g.here T hp (.int _ _))
end
/-- a value that is read as data -/
inductive Sees (μ : Mem) : V → D → Prop where
  | d (x : D) : Sees μ (.d x) x
  | lst {i : Nat} {xs : List D} : μ[i]? = some (.lst xs) → Sees μ (.own i) (.lst xs)
  | dct {i : Nat} {es : List (Int × D)} : μ[i]? = some (.dct es) → Sees μ (.own i) (.dct es)
mutual
noncomputable def D.py : D → PyData
  | .none => .none
  | .bool b => .bool b
  | .int i => .int i
  | .str x => .str x
  | .tup ds => .tuple (D.pys ds)
  | .lst ds => .list (D.pys ds)
  | .dct _ => .dict []
  | .scr _ => .dict []
noncomputable def D.pys : List D → List PyData
  | [] => []
  | d :: ds => d.py :: D.pys ds
end
theorem D.pys_eq : ∀ ds : List D, D.pys ds = ds.map D.py
  | [] => rfl
  | d :: ds => by rw [D.pys, D.pys_eq ds, List.map_cons]
noncomputable def eqD (x y : D) : Bool := PyData.eqv x.py y.py
noncomputable abbrev D.ok (x : D) : Prop := SeqAt.shaped x.py = true
section
variable {X : Cx} {n : Nat} {S : Sc} {env : Env} {oc : List Str} {Z : Fz} {Of Or K : Own} {ra : List Addr} {ρ : Rho} {μ : Mem} {h h' : Heap} {P : V → Mem → Prop}
mutual
theorem RepD.reads (hz : ∀ a o, Z a o → h.get? a = some o) : ∀ {v : Value} {d : D}, RepD X Z v d → d.py.canLay0 = true → ∃ as, Reads h v d.py as
  | _, _, .none, _ => ⟨_, .none⟩
  | _, _, .bool b, _ => ⟨_, .bool b⟩
  | _, _, .int i t, _ => ⟨_, .int i t⟩
  | _, _, .str x t, _ => ⟨_, .str x t⟩
  | _, _, .tup z r, c => by
    obtain ⟨as, q⟩ := RepAll.reads hz r (by simpa only [D.py, PyData.canLay0] using c)
    exact ⟨_, Reads.tuple (hz _ _ z) rfl rfl q⟩
  | _, _, .lst z r, c => by
    obtain ⟨as, q⟩ := RepAll.reads hz r (by simpa only [D.py, PyData.canLay0] using c)
    exact ⟨_, Reads.list (hz _ _ z) rfl rfl q⟩
  | _, _, .dct _ _ _ _ _, c => by simp [D.py, PyData.canLay0] at c
  | _, _, .scr _ _ _ _, c => by simp [D.py, PyData.canLay0] at c
theorem RepAll.reads (hz : ∀ a o, Z a o → h.get? a = some o) : ∀ {vs : List Value} {ds : List D}, RepAll X Z vs ds → PyData.canLayAll0 (D.pys ds) = true → ∃ as, ReadsAll h vs (D.pys ds) as
  | _, _, .nil, _ => ⟨_, .nil⟩
  | _, _, .cons a r, c => by
    simp only [D.pys, PyData.canLayAll0, Bool.and_eq_true] at c
    obtain ⟨as, q⟩ := RepD.reads hz a c.1
    obtain ⟨bs, p⟩ := RepAll.reads hz r c.2
    exact ⟨_, .cons q p⟩
end
theorem Bs.at_ {i : Nat} {c : Cell} (T : Bs X Z Or K ra μ h) (e : μ[i]? = some c) {a : Addr} (ha : ra[i]? = some a) : CellRel X Or Z ra a c := by
  obtain ⟨b, e1, e2⟩ := T.cell i c e
  rw [ha] at e1; cases e1; exact e2
/-- a list seen -/
theorem Sees.lstAt {v : V} {ds : List D} {val : Value} (s : Sees μ v (.lst ds)) (T : Bs X Z Or K ra μ h) (r : RepV X Z ra val v) : ∃ a vs n, val = .ref a ∧ h.get? a = some (lstObj vs n) ∧ RepAll X Z vs ds := by
  cases s with
  | d => obtain ⟨_, _, _, rfl, z, q⟩ := RepD.lst_inv r; exact ⟨_, _, _, rfl, T.z _ _ z, q⟩
  | lst e =>
    obtain ⟨a, rfl, ha⟩ := r
    obtain ⟨vs, n, o, q⟩ := T.at_ e ha
    exact ⟨a, vs, n, rfl, T.r _ _ o, q⟩
theorem Sees.tupAt {v : V} {ds : List D} {val : Value} (s : Sees μ v (.tup ds)) (T : Bs X Z Or K ra μ h) (r : RepV X Z ra val v) : ∃ a vs n, val = .ref a ∧ h.get? a = some (tupObj vs n) ∧ RepAll X Z vs ds := by
  cases s with
  | d => obtain ⟨_, _, _, rfl, z, q⟩ := RepD.tup_inv r; exact ⟨_, _, _, rfl, T.z _ _ z, q⟩
theorem Sees.dctAt {v : V} {es : List (Int × D)} {val : Value} (s : Sees μ v (.dct es)) (T : Bs X Z Or K ra μ h) (r : RepV X Z ra val v) :
    ∃ a o kvs, val = .ref a ∧ h.get? a = some o ∧ o.IsDictOf (intKind X.prog X.w) kvs ∧ kvs.map (·.1) = es.map (·.1) ∧ RepAll X Z (kvs.map (·.2)) (es.map (·.2)) := by
  cases s with
  | d => cases r with | dct z _ i k q => exact ⟨_, _, _, rfl, T.z _ _ z, i, k, q⟩
  | dct e =>
    obtain ⟨a, rfl, ha⟩ := r
    obtain ⟨o, kvs, e, i, k, q⟩ := T.at_ e ha
    exact ⟨a, o, kvs, rfl, T.r _ _ e, i, k, q⟩
theorem Sees.intAt {v : V} {i : Int} {val : Value} (s : Sees μ v (.int i)) (r : RepV X Z ra val v) : ∃ t, val = .int i t := by
  cases s with | d => exact RepD.int_inv r
theorem Sees.strAt {v : V} {x : Str} {val : Value} (s : Sees μ v (.str x)) (r : RepV X Z ra val v) : ∃ t, val = .str x t := by
  cases s with | d => exact RepD.str_inv r
theorem Sees.reads {v : V} {d : D} {val : Value} (s : Sees μ v d) (c : d.ok) (T : Bs X Z Or K ra μ h) (r : RepV X Z ra val v) : ∃ as, Reads h val d.py as := by
  cases s with
  | d => exact RepD.reads T.z r (SeqAt.canLay_of_shaped c)
  | lst e =>
    obtain ⟨a, rfl, ha⟩ := r
    obtain ⟨vs, n, o, q⟩ := T.at_ e ha
    have c := SeqAt.canLay_of_shaped c
    obtain ⟨as, p⟩ := RepAll.reads T.z q (by simpa only [D.py, PyData.canLay0] using c)
    exact ⟨_, Reads.list (T.r _ _ o) rfl rfl p⟩
  | dct e => exact absurd c (by simp [D.ok, D.py, SeqAt.shaped, PyData.canLay0])
theorem AOK.u (hA : AOK A n) : A.units + 66 < cLine := by have := hA.uni; rw [show cLine = 9900 from rfl]; omega
-- ints
theorem bop_mul {x y : Int} (hx : -(2 ^ 64) < x ∧ x < 2 ^ 64) (hp : P (.d (.int (x * y))) μ) : Bop X n .Mult (.d (.int x)) (.d (.int y)) μ P := by
  refine op_two fun A s Z Or K ra u v Q E hA T r1 r2 g => ?_
  obtain ⟨_, rfl⟩ := RepD.int_inv r1; obtain ⟨_, rfl⟩ := RepD.int_inv r2
  exact PySem.P.mul_int (g.here T hp (.int _ _)) (.of_left (intBits_le_64 hx.1 hx.2))
theorem bop_fdiv {x y : Int} (hy : y ≠ 0) (hy' : y.natAbs < 1073741824) (hp : P (.d (.int (x.fdiv y))) μ) : Bop X n .FloorDiv (.d (.int x)) (.d (.int y)) μ P := by
  refine op_two fun A s Z Or K ra u v Q E hA T r1 r2 g => ?_
  obtain ⟨_, rfl⟩ := RepD.int_inv r1; obtain ⟨_, rfl⟩ := RepD.int_inv r2
  exact floordiv_int hy (g.here T hp (.int _ _)) (.inl (PyProof.noPylong_small hy'))
theorem bop_mod {x y : Int} (hy : y ≠ 0) (hp : P (.d (.int (x.fmod y))) μ) : Bop X n .Mod (.d (.int x)) (.d (.int y)) μ P := by
  refine op_two fun A s Z Or K ra u v Q E hA T r1 r2 g => ?_
  obtain ⟨_, rfl⟩ := RepD.int_inv r1; obtain ⟨_, rfl⟩ := RepD.int_inv r2
  exact mod_int' hy (g.here T hp (.int _ _))
-- lists, tuples
theorem bop_addl {xs ys : List D} (hn : xs.length + ys.length ≤ 100000) (hp : P (.d (.lst (xs ++ ys))) μ) : Bop X n .Add (.d (.lst xs)) (.d (.lst ys)) μ P := by
  refine op_two fun A s Z Or K ra u v Q E hA T r1 r2 g => ?_
  obtain ⟨_, _, _, rfl, z1, q1⟩ := RepD.lst_inv r1
  obtain ⟨_, _, _, rfl, z2, q2⟩ := RepD.lst_inv r2
  refine PySem.P.add_list (T.z _ _ z1) (T.z _ _ z2) ?_ ?_
  · refine g _ s.toks _ Or ra _ _ μ hp addZ_le (List.prefix_refl _) (T.push _) ?_
    rw [List.append_toArray]
    exact .lst addZ_new ((q1.append q2).mono addZ_le)
  · have := q1.length; have := q2.length; simp only [List.size_toArray, sizeLine_eq]; omega
theorem trivF (T : Bs X Z Or K ra μ h) : ∃ mg, Fr ({} : Heap) mainGlobals h mg ∧ News ({} : Heap) mainGlobals h [] := by
  obtain ⟨mg, o, es, ep, e, r⟩ := T.ok.g
  exact ⟨mg, ⟨⟨o, es, ep, T.z _ _ (T.base _ _ e), r⟩, fun b o e => by simp [Heap.get?] at e, by simp⟩, fun _ h => nomatch h⟩
theorem bop_addt {xs ys : List D} (hn : xs.length + ys.length ≤ 10000) (hp : P (.d (.tup (xs ++ ys))) μ) : Bop X n .Add (.d (.tup xs)) (.d (.tup ys)) μ P := by
  refine op_two fun A s Z Or K ra u v Q E hA T r1 r2 g => ?_
  obtain ⟨a, vs, m, rfl, z1, q1⟩ := RepD.tup_inv r1
  obtain ⟨b, ws, k, rfl, z2, q2⟩ := RepD.tup_inv r2
  obtain ⟨mg, F, N⟩ := trivF T
  have t1 : IsTup s.heap a vs.toArray := ⟨_, T.z _ _ z1, rfl, _, rfl⟩
  have t2 : IsTup s.heap b ws.toArray := ⟨_, T.z _ _ z2, rfl, _, rfl⟩
  have l1 := q1.length
  have l2 := q2.length
  cases vs with
  | nil =>
    cases q1
    exact kde_addT0 F N t1 t2 rfl (by simp; omega) (g.here (tk := s.toks) T hp (.tup z2 q2))
  | cons v vs =>
    cases ws with
    | nil =>
      cases q2
      rw [List.append_nil] at hp
      exact kde_addT1 F N t1 t2 (by simp) rfl (by simp at l1 ⊢; omega) (g.here (tk := s.toks) T hp (.tup z1 q1))
    | cons w ws =>
      refine PySem.P.add_tuple (T.z _ _ z1) (T.z _ _ z2) (by simp) (by simp) ?_ ?_
      · refine g _ s.toks _ Or ra _ _ μ hp addZ_le (List.prefix_refl _) (T.push _) ?_
        rw [List.append_toArray]
        exact .tup addZ_new ((q1.append q2).mono addZ_le)
      · simp only [List.size_toArray, sizeLine_eq]; omega
theorem RepAll.rep {vs : List Value} {ds : List D} (r : RepAll X Z vs ds) : ∀ k : Nat, RepAll X Z (List.replicate k vs).flatten (List.replicate k ds).flatten
  | 0 => .nil
  | k + 1 => by
    rw [List.replicate_succ, List.flatten_cons, List.replicate_succ, List.flatten_cons]
    exact r.append (r.rep k)
theorem bop_mull {xs : List D} {y : Int} (hy : -1000 ≤ y ∧ y ≤ 1000) (hn : xs.length ≤ 100) (hp : P (.d (.lst (List.replicate y.toNat xs).flatten)) μ) : Bop X n .Mult (.d (.lst xs)) (.d (.int y)) μ P := by
  refine op_two fun A s Z Or K ra u v Q E hA T r1 r2 g => ?_
  obtain ⟨a, vs, m, rfl, z1, q1⟩ := RepD.lst_inv r1
  obtain ⟨tk, rfl⟩ := RepD.int_inv r2
  have hl : s.heap.get? a = some { cls := .type "list", dict := none, data := .seq vs.toArray m, slots := #[] } := T.z _ _ z1
  have l1 := q1.length
  have hsz : vs.toArray.size * y.toNat ≤ 100 * 1000 := by
    rw [List.size_toArray]
    exact Nat.mul_le_mul (by omega) (by omega)
  refine wpAny_binaryOp_repeat_ref (T := "list") (U := "int") (by decide) ⟨_, hl, rfl⟩ (fun s' => typeIs_int s' y tk) noFill_list_mul F.fills_int_mul F.slot_int_rmul repeat_list F.slot_int_index.lookup
    (call_meets F.slot_int_rmul (typeIs_int s y tk) F.entry_int_rmul (F.args_int_rmul_2 _ _) (int___rmul___int_list y tk a vs.toArray m)
      ⟨hl, rfl, ⟨_, hl, rfl⟩, call_meets F.slot_list_mul ⟨_, hl, rfl⟩ F.entry_list_mul (F.args_list_mul_2 _ _)
        (AutoListH.list___mul___list_int_3 a vs.toArray m y tk (by simp [Builtin.List.listFitsIndex]; omega) (by omega) (by simp [Builtin.List.listTooLong, sizeLine] at *; omega))
        ⟨hl, ?_⟩⟩)
  rw [listMul_foldl_if]
  exact g _ s.toks _ Or ra _ _ μ hp addZ_le (List.prefix_refl _) (T.push _) (.lst addZ_new ((q1.rep _).mono addZ_le))
-- comparisons
theorem cop_eq {a b : V} {x y : D} (sa : Sees μ a x) (sb : Sees μ b y) (hx : x.ok) (hy : y.ok) (hp : P (.d (.bool (eqD x y))) μ) : Cop X n .Eq a b μ P := by
  refine op_two fun A s Z Or K ra u v Q E hA T r1 r2 g => ?_
  obtain ⟨as, p1⟩ := sa.reads hx T r1
  obtain ⟨bs, p2⟩ := sb.reads hy T r2
  exact SeqAt.compareEq_shaped p1 p2 hx hy (by have := hA.u; omega) (g.here (tk := s.toks) T hp (.bool _))
theorem cop_ne {a b : V} {x y : D} (sa : Sees μ a x) (sb : Sees μ b y) (hx : x.ok) (hy : y.ok) (hp : P (.d (.bool (!eqD x y))) μ) : Cop X n .NotEq a b μ P := by
  refine op_two fun A s Z Or K ra u v Q E hA T r1 r2 g => ?_
  obtain ⟨as, p1⟩ := sa.reads hx T r1
  obtain ⟨bs, p2⟩ := sb.reads hy T r2
  exact SeqAt.compareNe_shaped p1 p2 hx hy (by have := hA.u; omega) (g.here (tk := s.toks) T hp (.bool _))
theorem cop_lt {x y : Int} (hp : P (.d (.bool (decide (x < y)))) μ) : Cop X n .Lt (.d (.int x)) (.d (.int y)) μ P := by
  refine op_two fun A s Z Or K ra u v Q E hA T r1 r2 g => ?_
  obtain ⟨_, rfl⟩ := RepD.int_inv r1; obtain ⟨_, rfl⟩ := RepD.int_inv r2
  exact PySem.P.lt_int (g.here (tk := s.toks) T hp (.bool _))
theorem cop_le {x y : Int} (hp : P (.d (.bool (decide (x ≤ y)))) μ) : Cop X n .LtE (.d (.int x)) (.d (.int y)) μ P := by
  refine op_two fun A s Z Or K ra u v Q E hA T r1 r2 g => ?_
  obtain ⟨_, rfl⟩ := RepD.int_inv r1; obtain ⟨_, rfl⟩ := RepD.int_inv r2
  exact PySem.P.le_int (g.here (tk := s.toks) T hp (.bool _))
theorem cop_gt {x y : Int} (hp : P (.d (.bool (decide (y < x)))) μ) : Cop X n .Gt (.d (.int x)) (.d (.int y)) μ P := by
  refine op_two fun A s Z Or K ra u v Q E hA T r1 r2 g => ?_
  obtain ⟨_, rfl⟩ := RepD.int_inv r1; obtain ⟨_, rfl⟩ := RepD.int_inv r2
  exact PySem.P.gt_int (g.here (tk := s.toks) T hp (.bool _))
theorem cop_ge {x y : Int} (hp : P (.d (.bool (decide (y ≤ x)))) μ) : Cop X n .GtE (.d (.int x)) (.d (.int y)) μ P := by
  refine op_two fun A s Z Or K ra u v Q E hA T r1 r2 g => ?_
  obtain ⟨_, rfl⟩ := RepD.int_inv r1; obtain ⟨_, rfl⟩ := RepD.int_inv r2
  exact PySem.P.ge_int (g.here (tk := s.toks) T hp (.bool _))
noncomputable def isNone : V → Bool
  | .d .none => true
  | _ => false
theorem cop_isnone {a : V} (hp : P (.d (.bool (isNone a))) μ) : Cop X n .Is a (.d .none) μ P := by
  refine op_two fun A s Z Or K ra u v Q E hA T r1 r2 g => ?_
  obtain rfl := RepD.none_inv r2
  refine is_none_gen ?_
  have : (u == Value.none) = isNone a := by
    cases a with
    | own i => obtain ⟨a, rfl, _⟩ := r1; rfl
    | d x => cases r1 <;> rfl
  rw [this]
  exact g.here (tk := s.toks) T hp (.bool _)
theorem any_pys (x : D) (xs : List D) : (D.pys xs).any (fun y => PyData.eqv y x.py) = xs.any (fun y => eqD y x) := by
  rw [D.pys_eq, List.any_map]; rfl
theorem D.depth_le {x : D} (h : x.ok) : x.py.depth ≤ 64 := SeqAt.depth_of_shaped h
theorem cop_in {a b : V} {x : D} {xs : List D} (sa : Sees μ a x) (sb : Sees μ b (.lst xs)) (hx : x.ok) (hy : (D.lst xs).ok) (hp : P (.d (.bool (xs.any fun y => eqD y x))) μ) : Cop X n .In a b μ P := by
  refine op_two fun A s Z Or K ra u v Q E hA T r1 r2 g => ?_
  obtain ⟨as, p1⟩ := sa.reads hx T r1
  obtain ⟨bs, p2⟩ := sb.reads hy T r2
  have c := SeqAt.canLay_of_shaped hy
  have d := D.depth_le hx
  have q := hA.u
  refine SeqAt.in_list_reads p2 p1 (by simpa only [D.py, PyData.canLay0] using c) (SeqAt.canLay_of_shaped hx) (by omega) ?_
  rw [any_pys]
  exact g.here (tk := s.toks) T hp (.bool _)
theorem cop_nin {a b : V} {x : D} {xs : List D} (sa : Sees μ a x) (sb : Sees μ b (.lst xs)) (hx : x.ok) (hy : (D.lst xs).ok) (hp : P (.d (.bool (!xs.any fun y => eqD y x))) μ) : Cop X n .NotIn a b μ P := by
  refine op_two fun A s Z Or K ra u v Q E hA T r1 r2 g => ?_
  obtain ⟨as, p1⟩ := sa.reads hx T r1
  obtain ⟨bs, p2⟩ := sb.reads hy T r2
  have c := SeqAt.canLay_of_shaped hy
  have d := D.depth_le hx
  have q := hA.u
  refine SeqAt.notIn_list_reads p2 p1 (by simpa only [D.py, PyData.canLay0] using c) (SeqAt.canLay_of_shaped hx) (by omega) ?_
  rw [any_pys]
  exact g.here (tk := s.toks) T hp (.bool _)
theorem cop_int {a b : V} {x : D} {xs : List D} (sa : Sees μ a x) (sb : Sees μ b (.tup xs)) (hx : x.ok) (hy : (D.tup xs).ok) (hp : P (.d (.bool (xs.any fun y => eqD y x))) μ) : Cop X n .In a b μ P := by
  refine op_two fun A s Z Or K ra u v Q E hA T r1 r2 g => ?_
  obtain ⟨as, p1⟩ := sa.reads hx T r1
  obtain ⟨bs, p2⟩ := sb.reads hy T r2
  have c := SeqAt.canLay_of_shaped hy
  have d := D.depth_le hx
  have q := hA.u
  refine SeqAt.in_tuple_reads p2 p1 (by simpa only [D.py, PyData.canLay0] using c) (SeqAt.canLay_of_shaped hx) (by omega) ?_
  rw [any_pys]
  exact g.here (tk := s.toks) T hp (.bool _)
-- tests
theorem tst_of_ev {e : Expr} {P : Bool → Mem → Prop} (hv : Ev X n S e ρ μ fun v μ' => ∃ b, v = .d (.bool b) ∧ P b μ')
    (he : ∀ env whole, isTrue e env whole = (do let v ← whole; standAt e.pos; holding [v] (truthy v)) := by intros; rfl) : Tst X n S e ρ μ P := by
  intro A env s Z Of Or K ra Q E hA hs T g
  refine isTrue_plain (hv A env s Z Of Or K ra _ E hA hs T fun h₁ tk₁ Z₁ Or₁ ra₁ va a μ₁ p₁ z₁ pr₁ T₁ r₁ => ?_) (he _ _)
  obtain ⟨b, rfl, p⟩ := p₁
  cases r₁
  exact wpAny_truthy_bool (g h₁ tk₁ Z₁ Or₁ ra₁ _ _ μ₁ p z₁ pr₁ T₁ rfl)
theorem tst_cmp {l r : Expr} {op : CmpOp} {pos : Pos} {P : Bool → Mem → Prop}
    (hl : Ev X n S l ρ μ fun a μ₁ => Ev X n S r ρ μ₁ fun b μ₂ => Cop X n op a b μ₂ fun v μ' => ∃ b, v = .d (.bool b) ∧ P b μ') (hm : behindInMarks op r = false := by with_unfolding_all rfl) : Tst X n S (.Compare l [op] [r] pos) ρ μ P := by
  intro A env s Z Of Or K ra Q E hA hs T g
  refine wpAny_isTrue_Compare1 (hl A env s Z Of Or K ra _ E hA hs T fun h₁ tk₁ Z₁ Or₁ ra₁ va a μ₁ p₁ z₁ pr₁ T₁ r₁ => ?_) hm
  refine p₁ A env _ Z₁ Of Or₁ K ra₁ _ E hA hs T₁ fun h₂ tk₂ Z₂ Or₂ ra₂ vb b μ₂ p₂ z₂ pr₂ T₂ r₂ => ?_
  refine p₂ A _ Z₂ Or₂ _ ra₂ [va, vb] _ E hA T₂.bs (.cons (r₁.mono z₂ pr₂) (.cons r₂ .nil)) fun h₃ tk₃ Z₃ Or₃ ra₃ vc c μ₃ p₃ z₃ pr₃ B₃ r₃ => ?_
  obtain ⟨b, rfl, p⟩ := p₃
  obtain rfl := RepD.bool_inv r₃
  exact wpAny_truthy_bool (g h₃ tk₃ Z₃ Or₃ ra₃ _ _ μ₃ p ((z₁.trans z₂).trans z₃) ((pr₁.trans pr₂).trans pr₃) (T₂.back z₃ pr₃ B₃) rfl)
theorem tst_not {e : Expr} {pos : Pos} {P : Bool → Mem → Prop} (hv : Tst X n S e ρ μ fun b μ' => P (!b) μ') : Tst X n S (.UnaryOp .Not e pos) ρ μ P := by
  intro A env s Z Of Or K ra Q E hA hs T g
  exact isTrue_not (hv A env s Z Of Or K ra _ E hA hs T fun h₁ tk₁ Z₁ Or₁ ra₁ va a μ₁ p₁ z₁ pr₁ T₁ r₁ => g h₁ tk₁ Z₁ Or₁ ra₁ _ _ μ₁ p₁ z₁ pr₁ T₁ (by rw [r₁]; rfl))
theorem tst_and {e f : Expr} {pos : Pos} {P : Bool → Mem → Prop} (hv : Tst X n S e ρ μ fun b μ₁ => (b = true → Tst X n S f ρ μ₁ P) ∧ (b = false → P false μ₁)) : Tst X n S (.BoolOp .And [e, f] pos) ρ μ P := by
  intro A env s Z Of Or K ra Q E hA hs T g
  refine isTrue_and (hv A env s Z Of Or K ra _ E hA hs T fun h₁ tk₁ Z₁ Or₁ ra₁ va a μ₁ p₁ z₁ pr₁ T₁ r₁ => ?_)
  cases r₁
  cases va with
  | false => exact g h₁ tk₁ Z₁ Or₁ ra₁ _ _ μ₁ (p₁.2 rfl) z₁ pr₁ T₁ rfl
  | true =>
    rw [if_pos rfl]
    refine isTrue_and (p₁.1 rfl A env _ Z₁ Of Or₁ K ra₁ _ E hA hs T₁ fun h₂ tk₂ Z₂ Or₂ ra₂ vb b μ₂ p₂ z₂ pr₂ T₂ r₂ => ?_)
    cases r₂
    cases vb with
    | false => exact g h₂ tk₂ Z₂ Or₂ ra₂ _ _ μ₂ p₂ (z₁.trans z₂) (pr₁.trans pr₂) T₂ rfl
    | true => exact isTrue_and_nil (g h₂ tk₂ Z₂ Or₂ ra₂ _ _ μ₂ p₂ (z₁.trans z₂) (pr₁.trans pr₂) T₂ rfl)
theorem tst_or {e f : Expr} {pos : Pos} {P : Bool → Mem → Prop} (hv : Tst X n S e ρ μ fun b μ₁ => (b = false → Tst X n S f ρ μ₁ P) ∧ (b = true → P true μ₁)) : Tst X n S (.BoolOp .Or [e, f] pos) ρ μ P := by
  intro A env s Z Of Or K ra Q E hA hs T g
  refine isTrue_or (hv A env s Z Of Or K ra _ E hA hs T fun h₁ tk₁ Z₁ Or₁ ra₁ va a μ₁ p₁ z₁ pr₁ T₁ r₁ => ?_)
  cases r₁
  cases va with
  | true => exact g h₁ tk₁ Z₁ Or₁ ra₁ _ _ μ₁ (p₁.2 rfl) z₁ pr₁ T₁ rfl
  | false =>
    rw [if_neg Bool.false_ne_true]
    refine isTrue_or (p₁.1 rfl A env _ Z₁ Of Or₁ K ra₁ _ E hA hs T₁ fun h₂ tk₂ Z₂ Or₂ ra₂ vb b μ₂ p₂ z₂ pr₂ T₂ r₂ => ?_)
    cases r₂
    cases vb with
    | true => exact g h₂ tk₂ Z₂ Or₂ ra₂ _ _ μ₂ p₂ (z₁.trans z₂) (pr₁.trans pr₂) T₂ rfl
    | false => exact isTrue_or_nil (g h₂ tk₂ Z₂ Or₂ ra₂ _ _ μ₂ p₂ (z₁.trans z₂) (pr₁.trans pr₂) T₂ rfl)
-- a test's value
theorem ev_and {e f : Expr} {pos : Pos} (hv : Ev X n S e ρ μ fun v μ₁ => ∃ b, v = .d (.bool b) ∧ (b = true → Ev X n S f ρ μ₁ P) ∧ (b = false → P (.d (.bool false)) μ₁)) : Ev X n S (.BoolOp .And [e, f] pos) ρ μ P := by
  intro A env s Z Of Or K ra Q E hA hs T g
  refine BoolOp_and (hv A env s Z Of Or K ra _ E hA hs T fun h₁ tk₁ Z₁ Or₁ ra₁ va a μ₁ p₁ z₁ pr₁ T₁ r₁ => ?_)
  obtain ⟨b, rfl, p, q⟩ := p₁
  obtain rfl := RepD.bool_inv r₁
  refine wpAny_truthy_bool ?_
  cases b with
  | false => exact g h₁ tk₁ Z₁ Or₁ ra₁ _ _ μ₁ (q rfl) z₁ pr₁ T₁ (.bool _)
  | true =>
    rw [if_pos rfl]
    exact BoolOp_one (p rfl A env _ Z₁ Of Or₁ K ra₁ _ E hA hs T₁ (g.later z₁ pr₁))
theorem ev_if {t e f : Expr} {pos : Pos} (ht : Tst X n S t ρ μ fun b μ₁ => (b = true → Ev X n S e ρ μ₁ P) ∧ (b = false → Ev X n S f ρ μ₁ P)) : Ev X n S (.IfExp t e f pos) ρ μ P := by
  intro A env s Z Of Or K ra Q E hA hs T g
  refine IfExp_ (ht A env s Z Of Or K ra _ E hA hs T fun h₁ tk₁ Z₁ Or₁ ra₁ va a μ₁ p₁ z₁ pr₁ T₁ r₁ => ?_)
  cases r₁
  cases va with
  | true => exact p₁.1 rfl A env _ Z₁ Of Or₁ K ra₁ _ E hA hs T₁ (g.later z₁ pr₁)
  | false => exact p₁.2 rfl A env _ Z₁ Of Or₁ K ra₁ _ E hA hs T₁ (g.later z₁ pr₁)
theorem ev_neg {e : Expr} {pos : Pos} (hv : Ev X n S e ρ μ fun v μ₁ => ∃ i, v = .d (.int i) ∧ P (.d (.int (-i))) μ₁) : Ev X n S (.UnaryOp .USub e pos) ρ μ P := by
  intro A env s Z Of Or K ra Q E hA hs T g
  rw [show ∀ env, eval (.UnaryOp .USub e pos) env = (do let v ← eval e env; standAt pos; holding [v] (unaryOp .USub v)) from fun _ => rfl]
  refine wpAny_bind (hv A env s Z Of Or K ra _ E hA hs T fun h₁ tk₁ Z₁ Or₁ ra₁ va a μ₁ p₁ z₁ pr₁ T₁ r₁ => ?_)
  obtain ⟨i, rfl, p⟩ := p₁
  obtain ⟨_, rfl⟩ := RepD.int_inv r₁
  exact wpAny_bind (wpAny_standAt (wpAny_holding (PySem.P.neg_int (g h₁ _ Z₁ Or₁ ra₁ _ _ μ₁ p z₁ pr₁ T₁ (.int _ _)))))
-- several expressions
theorem evl_nil {P : List V → Mem → Prop} (hp : P [] μ) : EvL X n S [] ρ μ P := by
  intro A env s pos Z Of Or K ra Q E hA hs T g
  exact wpAny_pure (g.here (tk := s.toks) T hp .nil)
theorem evl_cons {e : Expr} {es : List Expr} {P : List V → Mem → Prop} (hv : Ev X n S e ρ μ fun v μ₁ => EvL X n S es ρ μ₁ fun vs μ₂ => P (v :: vs) μ₂)
    (he : ∀ env, starEach (e :: es) env = (false, eval e env) :: starEach es env := by intro _; rfl) : EvL X n S (e :: es) ρ μ P := by
  intro A env s pos Z Of Or K ra Q E hA hs T g
  rw [he]
  show wpAny X.M A (eval e env >>= fun v => (pure [v]) >>= fun here => (holding here (spliced (backTo pos (starEach es env)))) >>= fun r => pure (here ++ r)) Q E s
  refine wpAny_bind (hv A env s Z Of Or K ra _ E hA hs T fun h₁ tk₁ Z₁ Or₁ ra₁ va a μ₁ p₁ z₁ pr₁ T₁ r₁ => ?_)
  refine wpAny_bind (wpAny_pure (wpAny_bind (wpAny_holding ?_)))
  refine p₁ A env _ pos Z₁ Of Or₁ K ra₁ _ E hA hs T₁ fun h₂ tk₂ Z₂ Or₂ ra₂ vb b μ₂ p₂ z₂ pr₂ T₂ r₂ => ?_
  exact wpAny_pure (g h₂ tk₂ Z₂ Or₂ ra₂ _ _ μ₂ p₂ (z₁.trans z₂) (pr₁.trans pr₂) T₂ (.cons (r₁.mono z₂ pr₂) r₂))
noncomputable def vals : List V → Option (List D)
  | [] => some []
  | .d x :: r => (vals r).map (x :: ·)
  | .own _ :: _ => none
theorem vals_rep : ∀ {vs : List V} {ds : List D} {us : List Value}, vals vs = some ds → RepVs X Z ra us vs → RepAll X Z us ds
  | [], _, _, e, r => by cases e; cases r; exact .nil
  | .d x :: vs, ds, _, e, r => by
    cases r with
    | cons a r =>
      rw [vals] at e
      cases q : vals vs with
      | none => rw [q] at e; cases e
      | some es => rw [q] at e; cases e; exact .cons a (vals_rep q r)
  | .own _ :: _, _, _, e, _ => by cases e
theorem ev_tup {es : List Expr} {k : Nat} {pos : Pos} (hv : EvL X n S es ρ μ fun vs μ₁ => ∃ ds, vals vs = some ds ∧ ds.length ≤ 100000 ∧ P (.d (.tup ds)) μ₁) : Ev X n S (.Tuple es k pos) ρ μ P := by
  intro A env s Z Of Or K ra Q E hA hs T g
  rw [show eval (.Tuple es k pos) env = (do standAt pos; newTuple (← spliced (backTo pos (starEach es env)))) from rfl]
  refine wpAny_bind (wpAny_standAt (wpAny_bind (hv A env s pos Z Of Or K ra _ E hA hs T fun h₁ tk₁ Z₁ Or₁ ra₁ va a μ₁ p₁ z₁ pr₁ T₁ r₁ => ?_)))
  obtain ⟨ds, e, l, p⟩ := p₁
  have q := vals_rep e r₁
  refine wpAny_newTuple ?_ (by have := q.length; rw [sizeLine_eq]; omega)
  exact g _ tk₁ _ Or₁ ra₁ _ _ μ₁ p (z₁.trans addZ_le) pr₁ (T₁.push _) (.tup addZ_new (q.mono addZ_le))
theorem ev_lst {es : List Expr} {pos : Pos} (hv : EvL X n S es ρ μ fun vs μ₁ => ∃ ds, vals vs = some ds ∧ ds.length ≤ 100000 ∧ P (.d (.lst ds)) μ₁) : Ev X n S (.List es pos) ρ μ P := by
  intro A env s Z Of Or K ra Q E hA hs T g
  rw [show eval (.List es pos) env = (do standAt pos; newList (← spliced (backTo pos (starEach es env)))) from rfl]
  refine wpAny_bind (wpAny_standAt (wpAny_bind (hv A env s pos Z Of Or K ra _ E hA hs T fun h₁ tk₁ Z₁ Or₁ ra₁ va a μ₁ p₁ z₁ pr₁ T₁ r₁ => ?_)))
  obtain ⟨ds, e, l, p⟩ := p₁
  have q := vals_rep e r₁
  refine wpAny_newList ?_ (by have := q.length; rw [sizeLine_eq]; omega)
  exact g _ tk₁ _ Or₁ ra₁ _ _ μ₁ p (z₁.trans addZ_le) pr₁ (T₁.push _) (.lst addZ_new (q.mono addZ_le))
/-- a new record in a frame -/
theorem St.newRec (T : St X env oc Z Of Or K ra ρ μ h) {a : Addr} {o : Obj} {c : Cell} (hlo : a ≠ sysModules) (ha : h.get? a = none) (hn : h'.get? a = some o) (hk : ∀ b o, h.get? b = some o → h'.get? b = some o)
    (hc : CellRel X (Or.put a o) Z (ra ++ [a]) a c) : St X env oc Z Of (Or.put a o) K (ra ++ [a]) ρ (μ ++ [c]) h' :=
  ⟨T.bs.newRec hlo ha hn hk hc, T.fk, T.fr.mono Le.refl ⟨_, rfl⟩⟩
/-- an empty list that will grow -/
theorem ev_nil_own {pos : Pos} (hp : P (.own μ.length) (μ ++ [.lst []])) : Ev X n S (.List [] pos) ρ μ P := by
  intro A env s Z Of Or K ra Q E hA hs T g
  rw [show eval (.List [] pos) env = (do standAt pos; newList (← spliced (backTo pos (starEach [] env)))) from rfl]
  refine wpAny_bind (wpAny_standAt (wpAny_bind (wpAny_pure ?_)))
  refine wpAny_newList ?_
  have T' := T.newRec (c := .lst []) (Nat.ne_of_gt T.bs.lowSize) (size_none s.heap) (Heap.get?_push_size _ rfl : (s.heap.push (lstObj [])).get? s.heap.objs.size = some (lstObj [])) (fun _ _ e => Heap.get?_push_of_some _ e) ⟨[], 0, Own.put_self, .nil⟩
  exact g _ s.toks Z _ _ _ _ _ hp Le.refl ⟨_, rfl⟩ T' ⟨_, rfl, by rw [← T.bs.len]; simp⟩
theorem isDict_nil {K : Type} [DecidableEq K] (knd : KeyKind X.prog X.w K) : ({ cls := .type "dict", data := .dict #[] } : Obj).IsDictOf knd [] := by
  obtain ⟨o, e, r⟩ := Heap.dictOf_iff.mp (Heap.DictOf.new (knd := knd) (h := ({} : Heap)))
  have : (({} : Heap).push { cls := .type "dict", data := .dict #[] }).get? ({} : Heap).objs.size = some { cls := .type "dict", data := .dict #[] } := Heap.get?_push_size _ rfl
  rw [this] at e; cases e; exact r
/-- an empty dict of ints -/
theorem ev_dct_own {pos : Pos} (hp : P (.own μ.length) (μ ++ [.dct []])) : Ev X n S (.Dict [] [] pos) ρ μ P := by
  intro A env s Z Of Or K ra Q E hA hs T g
  refine wpAny_Dict_empty ?_
  have T' := T.newRec (c := .dct []) (Nat.ne_of_gt T.bs.lowSize) (size_none s.heap) (Heap.get?_push_size _ rfl : (s.heap.push { cls := .type "dict", data := .dict #[] }).get? s.heap.objs.size = some { cls := .type "dict", data := .dict #[] }) (fun _ _ e => Heap.get?_push_of_some _ e)
    ⟨_, [], Own.put_self, isDict_nil _, rfl, .nil⟩
  exact g _ s.toks Z _ _ _ _ _ hp Le.refl ⟨_, rfl⟩ T' ⟨_, rfl, by rw [← T.bs.len]; simp⟩
end
noncomputable def Fn (X : Cx) (n : Nat) (f : Addr) (args : List V) (μ : Mem) (P : V → Mem → Prop) : Prop := Op X n (fun vals => call (.ref f) vals) args μ P
noncomputable def getK {κ : Type} [DecidableEq κ] (es : List (κ × D)) (k : κ) : Option D := (es.find? fun kv => kv.1 = k).map (·.2)
noncomputable def putK {κ : Type} [DecidableEq κ] (es : List (κ × D)) (k : κ) (v : D) : List (κ × D) :=
  if es.any (fun kv => kv.1 = k) then es.map (fun kv => if kv.1 = k then (kv.1, v) else kv) else es ++ [(k, v)]
section
variable {X : Cx} {n : Nat} {S : Sc} {env : Env} {oc : List Str} {Z : Fz} {Of Or K : Own} {ra : List Addr} {ρ : Rho} {μ : Mem} {h h' : Heap} {P : V → Mem → Prop}
theorem Bs.kin (T : Bs X Z Or K ra μ h) : X.K.In h := fun a o e => T.z a o (T.base a o (T.ok.kin a o e))
theorem Bs.lim (T : Bs X Z Or K ra μ h) : h.NoLimit := T.ok.lim.keeps fun a o e => T.z a o (T.base a o e)
theorem Bs.bst (T : Bs X Z Or K ra μ h) : ∀ b o, X.h₀.get? b = some o → h.get? b = some o := fun a o e => T.z a o (T.base a o e)
-- names of the top
theorem glob_def {g : Str} {p : Pos} {v : Value} {A : Around} {s : Shared} {Q : Value → Shared → Prop} {E : Value → Shared → Prop} (T : St X env oc Z Of Or K ra ρ μ s.heap) (hx : env.kindOf g = some .globalImplicit) (hd : (g == ("__debug__" : Str)) = false)
    (hK : nsIn X.K mainGlobals g = some (some v)) (q : Q v s) : wpAny X.M A (eval (.Name g p) env) Q E s := by
  obtain ⟨mg, hg⟩ := T.bs.ok.g
  refine Name_function_global T.fr.kind hx ?_ hd
  exact loadGlobal_global (mg := mg) (by rw [T.fr.glob]; exact hg.keeps T.bs.bst) (mg_of T.bs.ok.kin hg hK) q
theorem glob_bi {g : Str} {p : Pos} {v : Value} {A : Around} {s : Shared} {Q : Value → Shared → Prop} {E : Value → Shared → Prop} (T : St X env oc Z Of Or K ra ρ μ s.heap) (hx : env.kindOf g = some .globalImplicit) (hd : (g == ("__debug__" : Str)) = false)
    (hK : nsIn X.K mainGlobals g = some none) (hn : g ≠ "__name__") (hv : bootBuiltins g = some v) (q : Q v s) : wpAny X.M A (eval (.Name g p) env) Q E s := by
  obtain ⟨mg, hg⟩ := T.bs.ok.g
  refine Name_function_global T.fr.kind hx ?_ hd
  exact loadGlobal_builtin (mg := mg) (mb := X.mb) (by rw [T.fr.glob]; exact hg.keeps T.bs.bst) (mg_none_of T.bs.ok.kin hg hK) (by rw [T.fr.bs]; exact T.bs.ok.b.keeps T.bs.bst) ((T.bs.ok.bb g hn).trans hv) q
theorem ev_call {g : Str} {p pos : Pos} {e : Expr} {es : List Expr} {f : Addr} (hx : S.sc.names.lookup g = some .globalImplicit) (hK : nsIn X.K mainGlobals g = some (some (.ref f))) (hk : keepIn X.K (.ref f) = true)
    (ha : EvL X n S (e :: es) ρ μ fun vs μ₁ => Fn X n f vs μ₁ P) (hd : (g == ("__debug__" : Str)) = false := by rfl)
    (he : ∀ env, starEach (e :: es) env = (false, eval e env) :: starEach es env := by intro _; rfl) (hpl : ∀ env, (backTo pos (starEach es env)).any (·.1) = false := by intro _; rfl) : Ev X n S (.Call (.Name g p) (e :: es) [] pos) ρ μ P := by
  intro A env s Z Of Or K ra Q E hA hs T q
  refine wpAny_Call_NameR (glob_def T (by rw [kindOf_def, hs]; exact hx) hd hK ?_)
  refine callWith_K (K := X.K) T.bs.kin hk (ha A env s pos Z Of Or K ra _ E hA hs T fun h₁ tk₁ Z₁ Or₁ ra₁ va a μ₁ p₁ z₁ pr₁ T₁ r₁ => ⟨T₁.bs.kin, ?_⟩) (he env) (hpl env)
  exact p₁ A _ Z₁ Or₁ _ ra₁ va Q E hA T₁.bs r₁ (Go.of T₁ (q.later z₁ pr₁))
theorem ev_bi {g : Str} {p pos : Pos} {e : Expr} {es : List Expr} {id : String} (hx : S.sc.names.lookup g = some .globalImplicit) (hK : nsIn X.K mainGlobals g = some none) (hn : g ≠ "__name__") (hv : bootBuiltins g = some (.builtin id))
    (ha : EvL X n S (e :: es) ρ μ fun vs μ₁ => Op X n (fun vals => call (.builtin id) vals) vs μ₁ P) (hd : (g == ("__debug__" : Str)) = false := by rfl)
    (he : ∀ env, starEach (e :: es) env = (false, eval e env) :: starEach es env := by intro _; rfl) (hpl : ∀ env, (backTo pos (starEach es env)).any (·.1) = false := by intro _; rfl) : Ev X n S (.Call (.Name g p) (e :: es) [] pos) ρ μ P := by
  intro A env s Z Of Or K ra Q E hA hs T q
  refine wpAny_Call_NameR (glob_bi T (by rw [kindOf_def, hs]; exact hx) hd hK hn hv ?_)
  refine PyProof.Rows.callWith_builtin1 (ha A env s pos Z Of Or K ra _ E hA hs T fun h₁ tk₁ Z₁ Or₁ ra₁ va a μ₁ p₁ z₁ pr₁ T₁ r₁ => ?_) (he env) (hpl env)
  exact p₁ A _ Z₁ Or₁ _ ra₁ va Q E hA T₁.bs r₁ (Go.of T₁ (q.later z₁ pr₁))
theorem ev_ty {g : Str} {p pos : Pos} {e : Expr} {es : List Expr} {ty : String} (hx : S.sc.names.lookup g = some .globalImplicit) (hK : nsIn X.K mainGlobals g = some none) (hn : g ≠ "__name__") (hv : bootBuiltins g = some (.type ty))
    (ha : EvL X n S (e :: es) ρ μ fun vs μ₁ => Op X n (fun vals => call (.type ty) vals) vs μ₁ P) (hd : (g == ("__debug__" : Str)) = false := by rfl)
    (he : ∀ env, starEach (e :: es) env = (false, eval e env) :: starEach es env := by intro _; rfl) (hpl : ∀ env, (backTo pos (starEach es env)).any (·.1) = false := by intro _; rfl) : Ev X n S (.Call (.Name g p) (e :: es) [] pos) ρ μ P := by
  intro A env s Z Of Or K ra Q E hA hs T q
  refine wpAny_Call_NameR (glob_bi T (by rw [kindOf_def, hs]; exact hx) hd hK hn hv ?_)
  refine PyProof.Rows.callWith_type1 (ha A env s pos Z Of Or K ra _ E hA hs T fun h₁ tk₁ Z₁ Or₁ ra₁ va a μ₁ p₁ z₁ pr₁ T₁ r₁ => ?_) (he env) (hpl env)
  exact p₁ A _ Z₁ Or₁ _ ra₁ va Q E hA T₁.bs r₁ (Go.of T₁ (q.later z₁ pr₁))
-- subscripts
noncomputable def Sub (X : Cx) (n : Nat) (value slice : Expr) (o i : V) (μ : Mem) (P : V → Mem → Prop) : Prop := Op X n (fun vs => match vs with | [u, v] => subscriptTail value slice u v | _ => .unsupported "") [o, i] μ P
theorem ev_sub {value slice : Expr} {pos : Pos} (hv : Ev X n S value ρ μ fun o μ₁ => Ev X n S slice ρ μ₁ fun i μ₂ => Sub X n value slice o i μ₂ P) : Ev X n S (.Subscript value slice pos) ρ μ P :=
  ev_two (t := fun u v => subscriptTail value slice u v) hv fun q => Subscript_ q
noncomputable abbrev PlainSlice (slice : Expr) : Prop := ∀ o i, subscripted slice false o i = operate [o, i] (getItem o i)
theorem isList_of {a : Addr} {vs : List Value} {m : Nat} (e : h.get? a = some (lstObj vs m)) : h.IsList a vs.toArray := ⟨_, e, rfl, m, rfl⟩
theorem isTup_of {a : Addr} {vs : List Value} {m : Nat} (e : h.get? a = some (tupObj vs m)) : IsTup h a vs.toArray := ⟨_, e, rfl, m, rfl⟩
theorem sub_lst {value slice : Expr} {o i : V} {ds : List D} {k : Int} {x : D} (so : Sees μ o (.lst ds)) (si : Sees μ i (.int k)) (h0 : 0 ≤ k) (hk : k < 100000) (hx : ds[k.toNat]? = some x) (hp : P (.d x) μ) (hs : PlainSlice slice := by intro _ _; with_unfolding_all rfl) :
    Sub X n value slice o i μ P := by
  refine op_two fun A s Z Or K ra u v Q E hA T r1 r2 g => ?_
  obtain ⟨a, vs, m, rfl, e, q⟩ := so.lstAt T r1
  obtain ⟨t, rfl⟩ := si.intAt r2
  obtain ⟨v, e', r⟩ := q.get hx
  exact tail_any (isList_of e).typeIs slot_list_getitem.lookup (wpAny_getItem_list (isList_of e) h0 (by omega) (by simpa using e') (g.here (tk := s.toks) T hp r)) (hs _ _)
theorem sub_lst_last {value slice : Expr} {o i : V} {ds : List D} {x : D} (so : Sees μ o (.lst ds)) (si : Sees μ i (.int (-1))) (hx : ds.getLast? = some x) (hp : P (.d x) μ) (hs : PlainSlice slice := by intro _ _; with_unfolding_all rfl) :
    Sub X n value slice o i μ P := by
  refine op_two fun A s Z Or K ra u v Q E hA T r1 r2 g => ?_
  obtain ⟨a, vs, m, rfl, e, q⟩ := so.lstAt T r1
  obtain ⟨t, rfl⟩ := si.intAt r2
  rw [List.getLast?_eq_getElem?] at hx
  obtain ⟨v, e', r⟩ := q.get hx
  have l := q.length
  have hne : 0 < ds.length := by
    have := (List.getElem?_eq_some_iff.mp hx).1; omega
  refine tail_any (isList_of e).typeIs slot_list_getitem.lookup (wpAny_getItem_list_neg (isList_of e) (by decide) ?_ (by decide) (x := v) ?_ (g.here (tk := s.toks) T hp r)) (hs _ _)
  · rw [List.size_toArray]; omega
  · rw [List.size_toArray, List.getElem?_toArray, ← e']; congr 1; omega
theorem sub_tup {value slice : Expr} {o i : V} {ds : List D} {k : Int} {x : D} (so : Sees μ o (.tup ds)) (si : Sees μ i (.int k)) (h0 : 0 ≤ k) (hk : k < 100000) (hx : ds[k.toNat]? = some x) (hp : P (.d x) μ) (hs : PlainSlice slice := by intro _ _; with_unfolding_all rfl) :
    Sub X n value slice o i μ P := by
  refine op_two fun A s Z Or K ra u v Q E hA T r1 r2 g => ?_
  obtain ⟨a, vs, m, rfl, e, q⟩ := so.tupAt T r1
  obtain ⟨t, rfl⟩ := si.intAt r2
  obtain ⟨v, e', r⟩ := q.get hx
  have l := q.length
  have lt := (List.getElem?_eq_some_iff.mp e').1
  refine item_tupleT (j := k.toNat) (isTup_of e) (by omega) (by omega) ?_ e' (g.here (tk := s.toks) T hp r) (hs _ _)
  unfold seqIndex?
  have : ¬ k < 0 := by omega
  simp only [this, if_false]
  rw [if_pos]
  simp only [Bool.and_eq_true, decide_eq_true_eq]; omega
theorem sub_tup_last {value slice : Expr} {o i : V} {ds : List D} {x : D} (so : Sees μ o (.tup ds)) (si : Sees μ i (.int (-1))) (hx : ds.getLast? = some x) (hp : P (.d x) μ) (hs : PlainSlice slice := by intro _ _; with_unfolding_all rfl) :
    Sub X n value slice o i μ P := by
  refine op_two fun A s Z Or K ra u v Q E hA T r1 r2 g => ?_
  obtain ⟨a, vs, m, rfl, e, q⟩ := so.tupAt T r1
  obtain ⟨t, rfl⟩ := si.intAt r2
  rw [List.getLast?_eq_getElem?] at hx
  obtain ⟨v, e', r⟩ := q.get hx
  have l := q.length
  have lt := (List.getElem?_eq_some_iff.mp e').1
  refine item_tupleT (j := ds.length - 1) (isTup_of e) (by decide) (by decide) ?_ e' (g.here (tk := s.toks) T hp r) (hs _ _)
  unfold seqIndex?
  simp only [show (-1 : Int) < 0 from by decide, if_true]
  rw [if_pos]
  · congr 1; omega
  · simp only [Bool.and_eq_true, decide_eq_true_eq]; omega
-- dicts
theorem ne_sm (T : Bs X Z Or K ra μ h) {a : Addr} {o : Obj} (ho : Or a = some o) : (a == sysModules) = false := by
  rw [beq_eq_false_iff_ne]
  exact T.lo a (T.oz a o ho)
theorem find_keys {κ : Type} [DecidableEq κ] : ∀ {kvs : List (κ × Value)} {es : List (κ × D)} {k : κ} {x : D}, kvs.map (·.1) = es.map (·.1) → RepAll X Z (kvs.map (·.2)) (es.map (·.2)) → getK es k = some x → ∃ v, valueAt kvs k = some v ∧ RepD X Z v x
  | _, [], _, _, _, _, e => by cases e
  | [], _ :: _, _, _, hk, _, _ => by cases hk
  | (a, v) :: kvs, (b, d) :: es, k, x, hk, r, e => by
    simp only [List.map_cons, List.cons.injEq] at hk
    obtain ⟨rfl, hk⟩ := hk
    cases r with
    | cons r0 r =>
      unfold getK at e
      rw [List.find?_cons] at e
      unfold valueAt
      rw [List.find?_cons]
      cases q : decide (a = k) with
      | true => simp only [q] at e; cases e; exact ⟨v, rfl, r0⟩
      | false => simp only [q] at e; exact find_keys hk r e
theorem any_keys {κ : Type} [DecidableEq κ] (k : κ) : ∀ {kvs : List (κ × Value)} {es : List (κ × D)}, kvs.map (·.1) = es.map (·.1) → (kvs.any fun kv => kv.1 = k) = es.any fun kv => kv.1 = k
  | [], [], _ => rfl
  | (a, v) :: kvs, (b, d) :: es, hk => by
    simp only [List.map_cons, List.cons.injEq] at hk
    obtain ⟨rfl, hk⟩ := hk
    rw [List.any_cons, List.any_cons, any_keys k hk]
theorem map_keys {κ : Type} [DecidableEq κ] (k : κ) {v : Value} {x : D} (rx : RepD X Z v x) : ∀ {kvs : List (κ × Value)} {es : List (κ × D)}, kvs.map (·.1) = es.map (·.1) → RepAll X Z (kvs.map (·.2)) (es.map (·.2)) →
    (kvs.map (fun kv => if kv.1 = k then (kv.1, v) else kv)).map (·.1) = (es.map (fun kv => if kv.1 = k then (kv.1, x) else kv)).map (·.1) ∧
    RepAll X Z ((kvs.map (fun kv => if kv.1 = k then (kv.1, v) else kv)).map (·.2)) ((es.map (fun kv => if kv.1 = k then (kv.1, x) else kv)).map (·.2))
  | [], [], _, r => ⟨rfl, r⟩
  | (a, v') :: kvs, (b, d) :: es, hk, r => by
    simp only [List.map_cons, List.cons.injEq] at hk
    obtain ⟨rfl, hk⟩ := hk
    cases r with
    | cons r0 r =>
      obtain ⟨i1, i2⟩ := map_keys k rx hk r
      simp only [List.map_cons]
      by_cases q : a = k
      · simp only [q, if_true]; exact ⟨by rw [i1], .cons rx i2⟩
      · simp only [q, if_false]; exact ⟨by rw [i1], .cons r0 i2⟩
theorem stored_keys {κ : Type} [DecidableEq κ] (k : κ) {v : Value} {x : D} (rx : RepD X Z v x) {kvs : List (κ × Value)} {es : List (κ × D)} (hk : kvs.map (·.1) = es.map (·.1)) (r : RepAll X Z (kvs.map (·.2)) (es.map (·.2))) :
    (stored kvs k v).map (·.1) = (putK es k x).map (·.1) ∧ RepAll X Z ((stored kvs k v).map (·.2)) ((putK es k x).map (·.2)) := by
  unfold stored putK
  rw [any_keys k hk]
  split
  · exact map_keys k rx hk r
  · rw [List.map_append, List.map_append, List.map_append, List.map_append, hk]
    exact ⟨rfl, r.append (.one rx)⟩
theorem sub_dct {value slice : Expr} {o i : V} {es : List (Int × D)} {k : Int} {x : D} (so : Sees μ o (.dct es)) (si : Sees μ i (.int k)) (hx : getK es k = some x) (hp : P (.d x) μ) (hs : PlainSlice slice := by intro _ _; with_unfolding_all rfl) :
    Sub X n value slice o i μ P := by
  refine op_two fun A s Z Or K ra u v Q E hA T r1 r2 g => ?_
  obtain ⟨a, o, kvs, rfl, e, hi, hk, q⟩ := so.dctAt T r1
  obtain ⟨t, rfl⟩ := si.intAt r2
  obtain ⟨v, e', r⟩ := find_keys hk q hx
  have hm : s.heap.DictOf (intKind X.prog X.w) a kvs := Heap.dictOf_iff.mpr ⟨o, e, hi⟩
  exact tail_any hm.mapOf.typeIs slot_dict_getitem.lookup (wpAny_getItem_of (intKind_is _ _ k t) hm.mapOf e' (g.here T hp r)) (hs _ _)
theorem sub_sd {value slice : Expr} {j : Nat} {i : V} {es : List (Str × D)} {k : Str} {x : D} (so : μ[j]? = some (.sd es)) (si : Sees μ i (.str k)) (hx : getK es k = some x) (hp : P (.d x) μ) (hs : PlainSlice slice := by intro _ _; with_unfolding_all rfl) :
    Sub X n value slice (.own j) i μ P := by
  refine op_two fun A s Z Or K ra u v Q E hA T r1 r2 g => ?_
  obtain ⟨a, rfl, ha⟩ := r1
  obtain ⟨o, kvs, e, hi, hk, q⟩ := T.at_ so ha
  obtain ⟨t, rfl⟩ := si.strAt r2
  obtain ⟨v, e', r⟩ := find_keys hk q hx
  have hm : s.heap.DictOf (strKind X.prog X.w) a kvs := Heap.dictOf_iff.mpr ⟨o, T.r _ _ e, hi⟩
  exact tail_any hm.mapOf.typeIs slot_dict_getitem.lookup (wpAny_getItem_of (strKind_is _ _ k t) hm.mapOf e' (g.here T hp r)) (hs _ _)
-- built-in functions
theorem op_len_lst {o : V} {ds : List D} (so : Sees μ o (.lst ds)) (hn : ds.length < 2 ^ 40) (hp : P (.d (.int ds.length)) μ) : Op X n (fun vals => call (.builtin "len") vals) [o] μ P := by
  intro A s Z Or K ra vals Q E hA T r g
  cases r with
  | cons r1 r =>
    cases r
    obtain ⟨a, vs, m, rfl, e, q⟩ := so.lstAt T r1
    have l := q.length
    refine call_len_list (isList_of e) (by rw [List.size_toArray]; omega) ?_
    rw [List.size_toArray, l]
    exact g.here T hp (.int _ _)
theorem op_len_tup {o : V} {ds : List D} (so : Sees μ o (.tup ds)) (hn : ds.length < 2 ^ 40) (hp : P (.d (.int ds.length)) μ) : Op X n (fun vals => call (.builtin "len") vals) [o] μ P := by
  intro A s Z Or K ra vals Q E hA T r g
  obtain ⟨_, rfl, r1⟩ := r.one_inv
  obtain ⟨a, vs, m, rfl, e, q⟩ := so.tupAt T r1
  have l := q.length
  refine PySem.P.len_tuple (t := a) (items := vs.toArray) (n := m) e (by rw [List.size_toArray]; omega) ?_
  rw [List.size_toArray, l]
  exact g.here T hp (.int _ _)
theorem op_tuple {o : V} {ds : List D} (so : Sees μ o (.lst ds)) (hn : ds.length ≤ 100000) (hp : P (.d (.tup ds)) μ) : Op X n (fun vals => call (.type "tuple") vals) [o] μ P := by
  intro A s Z Or K ra vals Q E hA T r g
  obtain ⟨_, rfl, r1⟩ := r.one_inv
  obtain ⟨a, vs, m, rfl, e, q⟩ := so.lstAt T r1
  have l := q.length
  refine call_tuple_list (isList_of e) (fun h' hk => ?_) (by rw [List.size_toArray, sizeLine_eq]; omega)
  exact g _ s.toks _ Or ra _ _ μ hp addZ_le (List.prefix_refl _) ((T.grow hk).push _) (.tup addZ_new (q.mono addZ_le))
theorem op_list_tup {o : V} {ds : List D} (so : Sees μ o (.tup ds)) (hn : ds.length ≤ 100000) (hp : P (.d (.lst ds)) μ) : Op X n (fun vals => call (.type "list") vals) [o] μ P := by
  intro A s Z Or K ra vals Q E hA T r g
  obtain ⟨_, rfl, r1⟩ := r.one_inv
  obtain ⟨a, vs, m, rfl, e, q⟩ := so.tupAt T r1
  have l := q.length
  refine call_list_seq (hsz := by rw [List.size_toArray, sizeLine_eq]; omega) a (.inr rfl) e rfl rfl fun h' c' hk hD => ?_
  exact g _ s.toks _ Or ra _ _ μ hp addZ_le (List.prefix_refl _) (T.freeze (size_none s.heap) hD hk) (.lst addZ_new (q.mono addZ_le))
theorem op_int_bool {b : Bool} (hp : P (.d (.int (if b then 1 else 0))) μ) : Op X n (fun vals => call (.type "int") vals) [.d (.bool b)] μ P := by
  intro A s Z Or K ra vals Q E hA T r g
  obtain ⟨_, rfl, r1⟩ := r.one_inv
  obtain rfl := RepD.bool_inv r1
  exact call_int_bool (g.here T hp (.int _ _))
theorem op_abs {i : Int} (hp : P (.d (.int (if i < 0 then -i else i))) μ) : Op X n (fun vals => call (.builtin "abs") vals) [.d (.int i)] μ P := by
  intro A s Z Or K ra vals Q E hA T r g
  obtain ⟨_, rfl, r1⟩ := r.one_inv
  obtain ⟨_, rfl⟩ := RepD.int_inv r1
  exact call_abs_int fun u tk => g.here T hp (.int _ _)
theorem kept_push {o : Obj} {h₁ : Heap} (hk : ∀ b x, b ∉ [h.objs.size] → (h.push o).get? b = some x → h₁.get? b = some x) : ∀ b x, h.get? b = some x → h₁.get? b = some x :=
  fun b x e => hk b x (by simpa using fun q => by rw [q, size_none] at e; cases e) (Heap.get?_push_of_some _ e)
noncomputable def sumL (is : List Int) : Int := is.foldl (· + ·) 0
theorem RepAll.ints {is : List Int} : ∀ {vs : List Value}, RepAll X Z vs (is.map D.int) → ∀ (i : Nat) (v : Value), vs[i]? = some v → ∃ t, v = Value.int (is.getD i 0) t := by
  intro vs r i v e
  obtain ⟨d, e1, e2⟩ := r.get' e
  rw [List.getElem?_map] at e1
  cases q : is[i]? with
  | none => rw [q] at e1; cases e1
  | some k =>
    rw [q] at e1; cases e1
    obtain ⟨_, rfl⟩ := RepD.int_inv e2
    exact ⟨_, by rw [List.getD_eq_getElem?_getD, q]; rfl⟩
theorem op_sum {o : V} {is : List Int} (so : Sees μ o (.lst (is.map D.int))) (hp : P (.d (.int is.sum)) μ) : Op X n (fun vals => call (.builtin "sum") vals) [o] μ P := by
  intro A s Z Or K ra vals Q E hA T r g
  obtain ⟨_, rfl, r1⟩ := r.one_inv
  obtain ⟨a, vs, m, rfl, e, q⟩ := so.lstAt T r1
  have l := q.length
  refine call_sum_walkG ?_
  refine wpAny_pyIter_list (isList_of e) ?_
  have ha : a ≠ s.heap.objs.size := Nat.ne_of_lt (Heap.lt_size e)
  refine ⟨s.heap.objs.size, [s.heap.objs.size, a], [s.heap.objs.size], _, _, _, fun i => is.getD i 0, rfl, Walks.list (A := A.in1) hA.hd s.heap.objs.size a ha vs.toArray, ?_, ?_, ?_, ?_⟩
  · exact ⟨⟨_, Heap.get?_push_size _ rfl, rfl, rfl⟩, (isList_of e).push _⟩
  · intro b hb
    rw [show ({ s with heap := s.heap.push { cls := .type "list_iterator", data := .fields #[.ref a, .int 0 0] } } : Shared).heap.objs.size = s.heap.objs.size + 1 from Heap.size_push ..]
    have lt : a < s.heap.objs.size := Heap.lt_size e
    rcases List.mem_cons.mp hb with rfl | hb
    · exact Nat.lt_succ_self _
    · rw [List.mem_singleton.mp hb]; exact Nat.lt_succ_of_lt lt
  · intro i v hv
    exact q.ints i v (by simpa using hv)
  · intro h' tk t' hk
    rw [preSum_getD, List.size_toArray, l, List.length_map, List.take_length]
    exact g _ tk Z Or ra _ _ μ hp Le.refl (List.prefix_refl _) (T.grow (kept_push hk)) (.int _ _)
noncomputable def minL : List Int → Int
  | [] => 0
  | i :: is => is.foldl (fun a b => if b < a then b else a) i
theorem argBest_minL (is : List Int) : ∀ k, k < is.length → is.getD (argBest (fun i j => decide (is.getD i 0 < is.getD j 0)) k) 0 = minL (is.take (k + 1)) ∧ argBest (fun i j => decide (is.getD i 0 < is.getD j 0)) k ≤ k
  | 0, hk => by
    cases is with
    | nil => cases hk
    | cons i is => exact ⟨rfl, Nat.le_refl _⟩
  | k + 1, hk => by
    obtain ⟨ih, le⟩ := argBest_minL is k (by omega)
    have e : minL (is.take (k + 1 + 1)) = if is.getD (k + 1) 0 < minL (is.take (k + 1)) then is.getD (k + 1) 0 else minL (is.take (k + 1)) := by
      cases is with
      | nil => cases hk
      | cons i is =>
        have hk' : k < is.length := by simpa using hk
        rw [List.take_succ_cons, List.take_succ_cons]
        simp only [minL]
        rw [List.take_succ_eq_append_getElem hk', List.foldl_append]
        simp [List.getD_eq_getElem?_getD, hk']
    unfold argBest
    rw [e, ← ih]
    by_cases q : is.getD (k + 1) 0 < is.getD (argBest (fun i j => decide (is.getD i 0 < is.getD j 0)) k) 0
    · rw [if_pos (by simpa using q), if_pos q]; exact ⟨rfl, Nat.le_refl _⟩
    · rw [if_neg (by simpa using q), if_neg q]; exact ⟨rfl, by omega⟩
theorem rich_lt {prog : Program} {w : World} {A : Around} {E : Value → Shared → Prop} {s : Shared} {x y : Int} {t u : Tok} {Q : Value → Shared → Prop} (q : Q (.bool (decide (x < y))) s) : wpAny (model prog w) A (richCompare .Lt (.int x t) (.int y u)) Q E s :=
  PySem.P.lt_int q
theorem op_min {o : V} {is : List Int} (so : Sees μ o (.lst (is.map D.int))) (hne : 0 < is.length) (hp : P (.d (.int (minL is))) μ) : Op X n (fun vals => call (.builtin "min") vals) [o] μ P := by
  intro A s Z Or K ra vals Q E hA T r g
  obtain ⟨_, rfl, r1⟩ := r.one_inv
  obtain ⟨a, vs, m, rfl, e, q⟩ := so.lstAt T r1
  have l := q.length
  rw [List.length_map] at l
  refine call_min_walk ?_
  refine wpAny_pyIter_list (isList_of e) ?_
  have ha : a ≠ s.heap.objs.size := Nat.ne_of_lt (Heap.lt_size e)
  refine ⟨s.heap.objs.size, [s.heap.objs.size, a], [s.heap.objs.size], _, _, _, fun i j => decide (is.getD i 0 < is.getD j 0), rfl, Walks.list (A := A.in1) hA.hd s.heap.objs.size a ha vs.toArray, ?_, ?_, ?_, ?_, ?_⟩
  · exact ⟨⟨_, Heap.get?_push_size _ rfl, rfl, rfl⟩, (isList_of e).push _⟩
  · intro b hb
    rw [show ({ s with heap := s.heap.push { cls := .type "list_iterator", data := .fields #[.ref a, .int 0 0] } } : Shared).heap.objs.size = s.heap.objs.size + 1 from Heap.size_push ..]
    have lt : a < s.heap.objs.size := Heap.lt_size e
    rcases List.mem_cons.mp hb with rfl | hb
    · exact Nat.lt_succ_self _
    · rw [List.mem_singleton.mp hb]; exact Nat.lt_succ_of_lt lt
  · rw [List.size_toArray]; omega
  · intro i j vi vj s' Q' E' hi hj hQ
    obtain ⟨t, rfl⟩ := q.ints i vi (by simpa using hi)
    obtain ⟨u, rfl⟩ := q.ints j vj (by simpa using hj)
    exact rich_lt hQ
  · intro v h' tk hv hk
    obtain ⟨t, rfl⟩ := q.ints _ v ((List.getElem?_toArray ..).symm.trans hv)
    have := (argBest_minL is (vs.toArray.size - 1) (by rw [List.size_toArray]; omega)).1
    rw [this]
    have e2 : is.take (vs.toArray.size - 1 + 1) = is := by rw [List.size_toArray]; exact List.take_of_length_le (by omega)
    rw [e2]
    exact g _ tk Z Or ra _ _ μ hp Le.refl (List.prefix_refl _) (T.grow (kept_push hk)) (.int _ _)
theorem op_all {o : V} {bs : List Bool} (so : Sees μ o (.lst (bs.map D.bool))) (hp : P (.d (.bool (bs.all id))) μ) : Op X n (fun vals => call (.builtin "all") vals) [o] μ P := by
  intro A s Z Or K ra vals Q E hA T r g
  obtain ⟨_, rfl, r1⟩ := r.one_inv
  obtain ⟨a, vs, m, rfl, e, q⟩ := so.lstAt T r1
  have l := q.length
  rw [List.length_map] at l
  refine call_all_walk ?_
  refine wpAny_pyIter_list (isList_of e) ?_
  have ha : a ≠ s.heap.objs.size := Nat.ne_of_lt (Heap.lt_size e)
  refine ⟨s.heap.objs.size, [s.heap.objs.size, a], [s.heap.objs.size], _, _, _, fun i => bs.getD i true, rfl, Walks.list (A := A.in1) hA.hd s.heap.objs.size a ha vs.toArray, ?_, ?_, ?_⟩
  · exact ⟨⟨_, Heap.get?_push_size _ rfl, rfl, rfl⟩, (isList_of e).push _⟩
  · intro i v s' Q' E' hi hQ
    obtain ⟨d, e1, e2⟩ := q.get' (k := i) (v := v) (by simpa using hi)
    rw [List.getElem?_map] at e1
    cases w : bs[i]? with
    | none => rw [w] at e1; cases e1
    | some b =>
      rw [w] at e1; cases e1
      obtain rfl := RepD.bool_inv e2
      have hQ : Q' (bs.getD i true) s' := hQ
      rw [List.getD_eq_getElem?_getD, w] at hQ
      exact wpAny_truthy_bool hQ
  · intro h' tk hk
    have e3 : ((List.range vs.toArray.size).all fun i => bs.getD i true) = bs.all id := by
      rw [List.size_toArray, l, Bool.eq_iff_iff, List.all_eq_true, List.all_eq_true]
      constructor
      · intro f b hb
        obtain ⟨i, hi, rfl⟩ := List.mem_iff_getElem.mp hb
        have := f i (List.mem_range.mpr hi)
        rw [List.getD_eq_getElem?_getD, List.getElem?_eq_getElem hi] at this
        exact this
      · intro f i hi
        have hi := List.mem_range.mp hi
        rw [List.getD_eq_getElem?_getD, List.getElem?_eq_getElem hi]
        exact f _ (List.getElem_mem hi)
    rw [e3]
    exact g _ tk Z Or ra _ _ μ hp Le.refl (List.prefix_refl _) (T.grow (kept_push hk)) (.bool _)
end
section
variable {X : Cx} {n : Nat} {S : Sc} {env : Env} {oc : List Str} {Z : Fz} {Of Or K : Own} {ra : List Addr} {ρ : Rho} {μ : Mem} {h h' : Heap} {P : V → Mem → Prop}
theorem op_max2 {x y : Int} (hp : P (.d (.int (if x < y then y else x))) μ) : Op X n (fun vals => call (.builtin "max") vals) [.d (.int x), .d (.int y)] μ P := by
  intro A s Z Or K ra vals Q E hA T r g
  obtain ⟨_, _, rfl, r1, r2⟩ := r.two_inv
  obtain ⟨t, rfl⟩ := RepD.int_inv r1; obtain ⟨u, rfl⟩ := RepD.int_inv r2
  refine call_max_two ?_
  have e : (s.heap.push { cls := .type "tuple", data := .seq #[.int x t, .int y u] }).get? s.heap.objs.size = some { cls := .type "tuple", data := .seq #[.int x t, .int y u] } := Heap.get?_push_size _ rfl
  have iT : (s.heap.push { cls := .type "tuple", data := .seq #[.int x t, .int y u] }).IsTuple s.heap.objs.size #[.int x t, .int y u] := ⟨_, e, rfl, 0, rfl⟩
  refine wpAny_pyIter_tuple iT ?_
  have sz : (s.heap.push { cls := .type "tuple", data := .seq #[.int x t, .int y u] }).objs.size = s.heap.objs.size + 1 := Heap.size_push ..
  refine ⟨(s.heap.push { cls := .type "tuple", data := .seq #[.int x t, .int y u] }).objs.size, _, _, 2, _, _, fun i j => decide ([x, y].getD i 0 > [x, y].getD j 0), rfl, Walks.tuple (A := A.in1) hA.hd (s.heap.push { cls := .type "tuple", data := .seq #[.int x t, .int y u] }).objs.size s.heap.objs.size (by rw [sz]; exact Nat.ne_of_lt (Nat.lt_succ_self _)) #[.int x t, .int y u], ⟨⟨_, Heap.get?_push_size _ rfl, rfl, rfl⟩, ⟨_, Heap.get?_push_of_some _ e, rfl, 0, rfl⟩⟩, ?_, by decide, ?_, ?_⟩
  · intro b hb
    have sz2 : ((s.heap.push { cls := .type "tuple", data := .seq #[.int x t, .int y u] }).push { cls := .type "tuple_iterator", data := .fields #[.ref s.heap.objs.size, .int 0 0] }).objs.size = s.heap.objs.size + 2 := by rw [Heap.size_push, sz]
    show b < ((s.heap.push { cls := .type "tuple", data := .seq #[.int x t, .int y u] }).push { cls := .type "tuple_iterator", data := .fields #[.ref s.heap.objs.size, .int 0 0] }).objs.size
    rw [sz2]
    rcases List.mem_cons.mp hb with rfl | hb
    · rw [sz]; exact Nat.lt_succ_self _
    · rw [List.mem_singleton.mp hb]; exact Nat.lt_succ_of_lt (Nat.lt_succ_self _)
  · intro i j vi vj s' Q' E' hi hj hQ
    have key : ∀ (i : Nat) (v : Value), (#[.int x t, .int y u] : Array Value)[i]? = some v → ∃ t, v = .int ([x, y].getD i 0) t := by
      intro i v e
      match i with
      | 0 => cases e; exact ⟨_, rfl⟩
      | 1 => cases e; exact ⟨_, rfl⟩
      | _ + 2 => cases e
    obtain ⟨t', rfl⟩ := key i vi hi
    obtain ⟨u', rfl⟩ := key j vj hj
    exact PySem.P.gt_int hQ
  · intro v h' tk hv hk
    have q := g h' tk Z Or ra v _ μ hp Le.refl (List.prefix_refl _) (T.grow fun b o e' => hk b o (by
      intro m
      have := Heap.lt_size e'
      rw [List.mem_singleton.mp m, sz] at this; exact absurd this (Nat.not_lt.mpr (Nat.le_succ _))) (Heap.get?_push_of_some _ (Heap.get?_push_of_some _ e')))
    refine q ?_
    have hv : (#[.int x t, .int y u] : Array Value)[argBest (fun i j => decide ([x, y].getD i 0 > [x, y].getD j 0)) 1]? = some v := hv
    simp only [argBest, List.getD_cons_zero, List.getD_cons_succ] at hv
    by_cases w : x < y
    · rw [if_pos (by simpa using w)] at hv
      cases hv
      rw [if_pos w]; exact .int _ _
    · rw [if_neg (by simpa using w)] at hv
      cases hv
      rw [if_neg w]; exact .int _ _
theorem op_min2 {x y : Int} (hp : P (.d (.int (if y < x then y else x))) μ) : Op X n (fun vals => call (.builtin "min") vals) [.d (.int x), .d (.int y)] μ P := by
  intro A s Z Or K ra vals Q E hA T r g
  obtain ⟨_, _, rfl, r1, r2⟩ := r.two_inv
  obtain ⟨t, rfl⟩ := RepD.int_inv r1; obtain ⟨u, rfl⟩ := RepD.int_inv r2
  refine call_min_two ?_
  have e : (s.heap.push { cls := .type "tuple", data := .seq #[.int x t, .int y u] }).get? s.heap.objs.size = some { cls := .type "tuple", data := .seq #[.int x t, .int y u] } := Heap.get?_push_size _ rfl
  have iT : (s.heap.push { cls := .type "tuple", data := .seq #[.int x t, .int y u] }).IsTuple s.heap.objs.size #[.int x t, .int y u] := ⟨_, e, rfl, 0, rfl⟩
  refine wpAny_pyIter_tuple iT ?_
  have sz : (s.heap.push { cls := .type "tuple", data := .seq #[.int x t, .int y u] }).objs.size = s.heap.objs.size + 1 := Heap.size_push ..
  refine ⟨(s.heap.push { cls := .type "tuple", data := .seq #[.int x t, .int y u] }).objs.size, _, _, 2, _, _, fun i j => decide ([x, y].getD i 0 < [x, y].getD j 0), rfl, Walks.tuple (A := A.in1) hA.hd (s.heap.push { cls := .type "tuple", data := .seq #[.int x t, .int y u] }).objs.size s.heap.objs.size (by rw [sz]; exact Nat.ne_of_lt (Nat.lt_succ_self _)) #[.int x t, .int y u], ⟨⟨_, Heap.get?_push_size _ rfl, rfl, rfl⟩, ⟨_, Heap.get?_push_of_some _ e, rfl, 0, rfl⟩⟩, ?_, by decide, ?_, ?_⟩
  · intro b hb
    have sz2 : ((s.heap.push { cls := .type "tuple", data := .seq #[.int x t, .int y u] }).push { cls := .type "tuple_iterator", data := .fields #[.ref s.heap.objs.size, .int 0 0] }).objs.size = s.heap.objs.size + 2 := by rw [Heap.size_push, sz]
    show b < ((s.heap.push { cls := .type "tuple", data := .seq #[.int x t, .int y u] }).push { cls := .type "tuple_iterator", data := .fields #[.ref s.heap.objs.size, .int 0 0] }).objs.size
    rw [sz2]
    rcases List.mem_cons.mp hb with rfl | hb
    · rw [sz]; exact Nat.lt_succ_self _
    · rw [List.mem_singleton.mp hb]; exact Nat.lt_succ_of_lt (Nat.lt_succ_self _)
  · intro i j vi vj s' Q' E' hi hj hQ
    have key : ∀ (i : Nat) (v : Value), (#[.int x t, .int y u] : Array Value)[i]? = some v → ∃ t, v = .int ([x, y].getD i 0) t := by
      intro i v e
      match i with
      | 0 => cases e; exact ⟨_, rfl⟩
      | 1 => cases e; exact ⟨_, rfl⟩
      | _ + 2 => cases e
    obtain ⟨t', rfl⟩ := key i vi hi
    obtain ⟨u', rfl⟩ := key j vj hj
    exact PySem.P.lt_int hQ
  · intro v h' tk hv hk
    have q := g h' tk Z Or ra v _ μ hp Le.refl (List.prefix_refl _) (T.grow fun b o e' => hk b o (by
      intro m
      have := Heap.lt_size e'
      rw [List.mem_singleton.mp m, sz] at this; exact absurd this (Nat.not_lt.mpr (Nat.le_succ _))) (Heap.get?_push_of_some _ (Heap.get?_push_of_some _ e')))
    refine q ?_
    have hv : (#[.int x t, .int y u] : Array Value)[argBest (fun i j => decide ([x, y].getD i 0 < [x, y].getD j 0)) 1]? = some v := hv
    simp only [argBest, List.getD_cons_zero, List.getD_cons_succ] at hv
    by_cases w : y < x
    · rw [if_pos (by simpa using w)] at hv
      cases hv
      rw [if_pos w]; exact .int _ _
    · rw [if_neg (by simpa using w)] at hv
      cases hv
      rw [if_neg w]; exact .int _ _
-- instances
theorem instAt {i j : Nat} {fs : List (Str × V)} {a : Addr} (T : Bs X Z Or K ra μ h) (hi : μ[i]? = some (.inst j)) (hj : μ[j]? = some (.ns fs)) (ha : ra[i]? = some a) :
    ∃ d o m, ra[j]? = some d ∧ Or a = some (instObj X.C d) ∧ Or d = some o ∧ ObjNs1 o m ∧ FieldsAt X Z ra m fs ∧ InstAt h a (instObj X.C d) X.C (some o) := by
  obtain ⟨d, e1, e2⟩ := T.at_ hi ha
  obtain ⟨o, m, e3, e4, e5⟩ := T.at_ hj e1
  exact ⟨d, o, m, e1, e2, e3, e4, e5, T.r _ _ e2, rfl, rfl, T.r _ _ e3⟩
theorem lookIn_ns {o : Obj} {m : Str → Option Value} (x : ObjNs1 o m) (name : Str) : lookIn name o = some (m name) := by
  obtain ⟨es, ep, hd, hk, _, hf⟩ := x
  unfold lookIn
  rw [hd]
  dsimp only
  have e := hf name
  unfold nsFind findBy at e
  rw [← Array.find?_toList] at e
  cases q : es.toList.find? (fun x => x.key.isStr name) with
  | some en => rw [q] at e; rw [← e]; rfl
  | none =>
    rw [q] at e
    rw [← e]
    dsimp only
    rw [if_neg]
    · rfl
    · intro w
      obtain ⟨en, hm, hr⟩ := List.any_eq_true.mp w
      obtain ⟨nm, t, hkey⟩ := hk en (Array.mem_toList_iff.mp hm)
      simp [DictEntry.refKey, hkey] at hr
theorem handed_rep {v : V} {val : Value} (r : RepV X Z ra val v) : handedIn val = true := by
  cases v with
  | own i => obtain ⟨a, rfl, _⟩ := r; rfl
  | d x => cases r <;> rfl
theorem hasDict_of (ok : X.Ok) : hasDictIn X.K X.C = true := by
  obtain ⟨nm, q, bs, sn, sub, ab, col, dd, k0, k1, k2, k3, k5, e⟩ := ok.cls
  unfold hasDictIn clsIn
  rw [e]; rfl
theorem ev_attr {value : Expr} {attr : Str} {pos : Pos}
    (hv : Ev X n S value ρ μ fun o μ₁ => ∃ i j fs v, o = .own i ∧ μ₁[i]? = some (.inst j) ∧ μ₁[j]? = some (.ns fs) ∧ fs.lookup attr = some v ∧ P v μ₁) (hf : findIn X.K (.ref X.C) attr = some none)
    (he : ∀ env, eval (.Attribute value attr pos) env = (do
      let o ← eval value env
      standAt pos.atName
      let r ← holding [o] (getAttr o attr true)
      letTemporaryGo value o r
      pure r) := by intro _; with_unfolding_all rfl) : Ev X n S (.Attribute value attr pos) ρ μ P := by
  intro A env s Z Of Or K ra Q E hA hs T g
  refine Attribute_any_ (hv A env s Z Of Or K ra _ E hA hs T fun h₁ tk₁ Z₁ Or₁ ra₁ va a μ₁ p₁ z₁ pr₁ T₁ r₁ => ?_) (he env)
  obtain ⟨i, j, fs, v, rfl, hi, hj, hl, p⟩ := p₁
  obtain ⟨a, rfl, ha⟩ := r₁
  obtain ⟨d, o, m, e1, e2, e3, e4, e5, I⟩ := instAt T₁.bs hi hj ha
  obtain ⟨val, e6, r⟩ := (e5 attr).1 v hl
  refine get_value T₁.bs.kin I T₁.bs.ok.hga (findObj_own (hasDict_of T₁.bs.ok) hf rfl (by rw [lookIn_ns e4, e6])) (handed_rep r) ?_
  exact g h₁ _ Z₁ Or₁ ra₁ _ _ μ₁ p z₁ pr₁ T₁ r
/-- a method of the text's class -/
noncomputable def MForm (o : Expr) (name : Str) (apos pos : Pos) (args : List Expr) (pl : Env → Sem Bool) : Prop := ∀ env, eval (.Call (.Attribute o name apos) args [] pos) env = (do
      let ov ← eval o env
      standAt apos.atName
      let (f, first) ← holding [ov] (getMethod ov name (pl env))
      callWith pos f first (backTo pos (starEach args env)) [])
theorem ev_meth {o e : Expr} {es : List Expr} {name : Str} {apos pos : Pos} {f : Addr} {pl : Env → Sem Bool} (hf : findIn X.K (.ref X.C) name = some (some (.ref f))) (ht : typeIn X.K (.ref f) = some (.type "function")) (hk : keepIn X.K (.ref f) = true)
    (hv : Ev X n S o ρ μ fun ov μ₁ => ∃ i j fs, ov = .own i ∧ μ₁[i]? = some (.inst j) ∧ μ₁[j]? = some (.ns fs) ∧ fs.lookup name = none ∧ EvL X n S (e :: es) ρ μ₁ fun vs μ₂ => Fn X n f (.own i :: vs) μ₂ P)
    (hm : MForm o name apos pos (e :: es) pl := by intro _; with_unfolding_all rfl)
    (he : ∀ env, starEach (e :: es) env = (false, eval e env) :: starEach es env := by intro _; rfl) (hpl : ∀ env, (backTo pos (starEach es env)).any (·.1) = false := by intro _; rfl) : Ev X n S (.Call (.Attribute o name apos) (e :: es) [] pos) ρ μ P := by
  intro A env s Z Of Or K ra Q E hA hs T g
  refine MethodCall_ (hv A env s Z Of Or K ra _ E hA hs T fun h₁ tk₁ Z₁ Or₁ ra₁ va a μ₁ p₁ z₁ pr₁ T₁ r₁ => ?_) (hm env)
  obtain ⟨i, j, fs, rfl, hi, hj, hl, p⟩ := p₁
  obtain ⟨a, rfl, ha⟩ := r₁
  obtain ⟨d, o, m, e1, e2, e3, e4, e5, I⟩ := instAt T₁.bs hi hj ha
  refine method_fn T₁.bs.kin I T₁.bs.ok.hga T₁.bs.ok.hgk hf ht ?_ ?_
  · show (lookIn name o).map (·.isSome) = some false
    rw [lookIn_ns e4, (e5 name).2 hl]; rfl
  · refine callWith_K (K := X.K) T₁.bs.kin hk (p A env _ pos Z₁ Of Or₁ K ra₁ _ E hA hs T₁ fun h₂ tk₂ Z₂ Or₂ ra₂ vb b μ₂ p₂ z₂ pr₂ T₂ r₂ => ⟨T₂.bs.kin, ?_⟩) (he env) (hpl env)
    exact p₂ A _ Z₂ Or₂ _ ra₂ (.ref a :: vb) Q E hA T₂.bs (.cons ⟨a, rfl, pre_get pr₂ ha⟩ r₂) (Go.of T₂ ((g.later z₁ pr₁).later z₂ pr₂))
theorem ev_meth0 {o : Expr} {name : Str} {apos pos : Pos} {f : Addr} {pl : Env → Sem Bool} (hf : findIn X.K (.ref X.C) name = some (some (.ref f))) (ht : typeIn X.K (.ref f) = some (.type "function")) (hk : keepIn X.K (.ref f) = true)
    (hv : Ev X n S o ρ μ fun ov μ₁ => ∃ i j fs, ov = .own i ∧ μ₁[i]? = some (.inst j) ∧ μ₁[j]? = some (.ns fs) ∧ fs.lookup name = none ∧ Fn X n f [.own i] μ₁ P)
    (hm : MForm o name apos pos [] pl := by intro _; with_unfolding_all rfl) : Ev X n S (.Call (.Attribute o name apos) [] [] pos) ρ μ P := by
  intro A env s Z Of Or K ra Q E hA hs T g
  refine MethodCall_ (hv A env s Z Of Or K ra _ E hA hs T fun h₁ tk₁ Z₁ Or₁ ra₁ va a μ₁ p₁ z₁ pr₁ T₁ r₁ => ?_) (hm env)
  obtain ⟨i, j, fs, rfl, hi, hj, hl, p⟩ := p₁
  obtain ⟨a, rfl, ha⟩ := r₁
  obtain ⟨d, o, m, e1, e2, e3, e4, e5, I⟩ := instAt T₁.bs hi hj ha
  refine method_fn T₁.bs.kin I T₁.bs.ok.hga T₁.bs.ok.hgk hf ht ?_ ?_
  · show (lookIn name o).map (·.isSome) = some false
    rw [lookIn_ns e4, (e5 name).2 hl]; rfl
  · refine callWith_K0 T₁.bs.kin hk ?_
    exact p A _ Z₁ Or₁ _ ra₁ [.ref a] Q E hA T₁.bs (.cons ⟨a, rfl, ha⟩ .nil) (Go.of T₁ (g.later z₁ pr₁))
end
/-- a name stored -/
inductive Put (x : Str) (v : V) : Rho → Rho → Prop where
  | new : Put x v [] [(x, v)]
  | here {u : V} {r : Rho} : Put x v ((x, u) :: r) ((x, v) :: r)
  | there {y : Str} {u : V} {r r' : Rho} : (x == y) = false → Put x v r r' → Put x v ((y, u) :: r) ((y, u) :: r')
theorem Put.look {x : Str} {v : V} {ρ ρ' : Rho} (p : Put x v ρ ρ') (y : Str) : ρ'.lookup y = if y = x then some v else ρ.lookup y := by
  induction p with
  | new =>
    rw [List.lookup_cons]
    by_cases q : y = x
    · rw [if_pos q, beq_iff_eq.mpr q]
    · rw [if_neg q, beq_eq_false_iff_ne.mpr q]
  | here =>
    rw [List.lookup_cons, List.lookup_cons]
    by_cases q : y = x
    · rw [if_pos q, beq_iff_eq.mpr q]
    · rw [if_neg q, beq_eq_false_iff_ne.mpr q]
  | there hn _ ih =>
    rename_i z u r r' _
    rw [List.lookup_cons, List.lookup_cons, ih]
    by_cases q : y = x
    · subst q; simp [hn]
    · simp only [if_neg q]
section
variable {X : Cx} {n : Nat} {S : Sc} {env : Env} {oc : List Str} {Z : Fz} {Of Or K : Own} {ra : List Addr} {ρ : Rho} {μ : Mem} {h h' : Heap} {P : V → Mem → Prop}
theorem getElem?_set_self' {μ : Mem} {i : Nat} {c d : Cell} (e : μ[i]? = some c) : (μ.set i d)[i]? = some d := by
  rw [List.getElem?_set, if_pos rfl, if_pos (List.getElem?_eq_some_iff.mp e).1]
theorem ev_append {o e : Expr} {apos pos : Pos} {pl : Env → Sem Bool}
    (hv : Ev X n S o ρ μ fun ov μ₁ => ∃ i xs, ov = .own i ∧ μ₁[i]? = some (.lst xs) ∧ Ev X n S e ρ μ₁ fun v μ₂ => ∃ ys x, v = .d x ∧ μ₂[i]? = some (.lst ys) ∧ ys.length ≤ 100000 ∧ P (.d .none) (μ₂.set i (.lst (ys ++ [x]))))
    (hm : MForm o "append" apos pos [e] pl := by intro _; with_unfolding_all rfl)
    (he : ∀ env, starEach [e] env = (false, eval e env) :: starEach [] env := by intro _; rfl) : Ev X n S (.Call (.Attribute o "append" apos) [e] [] pos) ρ μ P := by
  intro A env s Z Of Or K ra Q E hA hs T g
  refine MethodCall_ (hv A env s Z Of Or K ra _ E hA hs T fun h₁ tk₁ Z₁ Or₁ ra₁ va a μ₁ p₁ z₁ pr₁ T₁ r₁ => ?_) (hm env)
  obtain ⟨i, xs, rfl, hi, p⟩ := p₁
  obtain ⟨a, rfl, ha⟩ := r₁
  obtain ⟨vs, m, o1, q1⟩ := T₁.bs.at_ hi ha
  refine getMethod_list_append (T₁.bs.r _ _ o1) rfl rfl ?_
  have hev : EvL X n S [e] ρ μ₁ fun us μ₂ => ∃ v, us = [v] ∧ ∃ ys x, v = .d x ∧ μ₂[i]? = some (.lst ys) ∧ ys.length ≤ 100000 ∧ P (.d .none) (μ₂.set i (.lst (ys ++ [x]))) :=
    evl_cons (p.mono fun v μ₂ q => evl_nil ⟨v, rfl, q⟩) he
  refine callWith_method1 (hev A env _ pos Z₁ Of Or₁ K ra₁ _ E hA hs T₁ fun h₂ tk₂ Z₂ Or₂ ra₂ vb b μ₂ p₂ z₂ pr₂ T₂ r₂ => ?_) (he env) rfl
  obtain ⟨v, rfl, ys, x, rfl, hy, hn, p⟩ := p₂
  obtain ⟨_, rfl, r0⟩ := r₂.one_inv
  have ha₂ := pre_get pr₂ ha
  obtain ⟨ws, k, o2, q2⟩ := T₂.bs.at_ hy ha₂
  have l := q2.length
  refine wpAny_list_append_plain ⟨k, T₂.bs.r _ _ o2⟩ (fun h₃ hp hs₃ => ?_) (by rw [List.size_toArray, sizeLine_eq]; omega)
  obtain ⟨k', e'⟩ := hp
  refine g h₃ tk₂ Z₂ _ ra₂ _ _ _ p (z₁.trans z₂) (pr₁.trans pr₂) ⟨T₂.bs.upd (c := .lst (ys ++ [x])) ha₂ o2 e' (fun b o hb eb => (hs₃.2 b hb).trans eb) ⟨ws ++ [_], k', by rw [Own.put_self]; simp, q2.append (.one r0)⟩, T₂.fk, T₂.fr⟩ .none
theorem ev_pop {o : Expr} {apos pos : Pos} {pl : Env → Sem Bool}
    (hv : Ev X n S o ρ μ fun ov μ₁ => ∃ i xs x, ov = .own i ∧ μ₁[i]? = some (.lst (xs ++ [x])) ∧ xs.length ≤ 100000 ∧ P (.d x) (μ₁.set i (.lst xs)))
    (hm : MForm o "pop" apos pos [] pl := by intro _; with_unfolding_all rfl) : Ev X n S (.Call (.Attribute o "pop" apos) [] [] pos) ρ μ P := by
  intro A env s Z Of Or K ra Q E hA hs T g
  refine MethodCall_ (hv A env s Z Of Or K ra _ E hA hs T fun h₁ tk₁ Z₁ Or₁ ra₁ va a μ₁ p₁ z₁ pr₁ T₁ r₁ => ?_) (hm env)
  obtain ⟨i, xs, x, rfl, hi, hn, p⟩ := p₁
  obtain ⟨a, rfl, ha⟩ := r₁
  obtain ⟨vs, m, o1, q1⟩ := T₁.bs.at_ hi ha
  have l := q1.length
  rw [List.length_append, List.length_singleton] at l
  obtain ⟨y, e1, r1⟩ := q1.get (k := xs.length) (d := x) (by simp)
  refine Copied.getMethod_pop_at (T₁.bs.r _ _ o1) rfl rfl ?_
  refine callWith_method0 ?_
  refine Copied.pop_at (y := y) (T₁.bs.r _ _ o1) (by rw [List.size_toArray, l, List.getElem?_toArray]; exact e1) (fun h₂ hs₂ e₂ => ?_) (by rw [List.size_toArray, sizeLine_eq]; omega)
  refine g h₂ tk₁ Z₁ _ ra₁ _ _ _ p z₁ pr₁ ⟨T₁.bs.upd (c := .lst xs) ha o1 e₂ (fun b o hb eb => (hs₂.2 b hb).trans eb) ⟨vs.dropLast, m + 1, ?_, ?_⟩, T₁.fk, T₁.fr⟩ r1
  · rw [Own.put_self]
    simp
  · have := q1.dropLast
    rwa [List.dropLast_concat] at this
theorem ev_dget {o e f : Expr} {apos pos : Pos} {pl : Env → Sem Bool}
    (hv : Ev X n S o ρ μ fun ov μ₁ => ∃ i es, ov = .own i ∧ μ₁[i]? = some (.dct es) ∧ EvL X n S [e, f] ρ μ₁ fun us μ₂ => ∃ k d es, us = [.d (.int k), .d d] ∧ μ₂[i]? = some (.dct es) ∧ P (.d ((getK es k).getD d)) μ₂)
    (hm : MForm o "get" apos pos [e, f] pl := by intro _; with_unfolding_all rfl)
    (he : ∀ env, starEach [e, f] env = (false, eval e env) :: starEach [f] env := by intro _; rfl) (hpl : ∀ env, (backTo pos (starEach [f] env)).any (·.1) = false := by intro _; rfl) : Ev X n S (.Call (.Attribute o "get" apos) [e, f] [] pos) ρ μ P := by
  intro A env s Z Of Or K ra Q E hA hs T g
  refine MethodCall_ (hv A env s Z Of Or K ra _ E hA hs T fun h₁ tk₁ Z₁ Or₁ ra₁ va a μ₁ p₁ z₁ pr₁ T₁ r₁ => ?_) (hm env)
  obtain ⟨i, es, rfl, hi, p⟩ := p₁
  obtain ⟨a, rfl, ha⟩ := r₁
  obtain ⟨o, kvs, e1, hd, hk, q⟩ := T₁.bs.at_ hi ha
  refine kdg_method (h₀ := {}) (L := a + 1) (news := [(a, o)]) (fun p hp => ?_) (.head _) hd ?_
  · rw [List.mem_singleton.mp hp]; exact ⟨T₁.bs.r _ _ e1, Nat.ne_of_lt (Nat.lt_succ_self _), by simp [Heap.get?]⟩
  refine callWith_method1 (p A env _ pos Z₁ Of Or₁ K ra₁ _ E hA hs T₁ fun h₂ tk₂ Z₂ Or₂ ra₂ vb b μ₂ p₂ z₂ pr₂ T₂ r₂ => ?_) (he env) (hpl env)
  obtain ⟨k, d, es, rfl, hj, p⟩ := p₂
  obtain ⟨_, vd, rfl, r0, r1⟩ := r₂.two_inv
  obtain ⟨tk, rfl⟩ := RepD.int_inv r0
  have ha₂ := pre_get pr₂ ha
  obtain ⟨o, kvs, e1, hd, hk, q⟩ := T₂.bs.at_ hj ha₂
  refine kdg_get2 (h₀ := {}) (L := a + 1) (news := [(a, o)]) (fun p hp => ?_) (.head _) hd (ne_sm T₂.bs e1) (intKind_is _ _ k tk) _ rfl ?_
  · rw [List.mem_singleton.mp hp]; exact ⟨T₂.bs.r _ _ e1, Nat.ne_of_lt (Nat.lt_succ_self _), by simp [Heap.get?]⟩
  refine g h₂ _ Z₂ Or₂ ra₂ _ _ μ₂ p (z₁.trans z₂) (pr₁.trans pr₂) T₂ ?_
  cases w : getK es k with
  | some x =>
    obtain ⟨v, e3, r3⟩ := find_keys hk q w
    rw [e3]; exact r3
  | none =>
    have : valueAt kvs k = none := by
      unfold valueAt
      unfold getK at w
      rw [Option.map_eq_none_iff, List.find?_eq_none] at w ⊢
      intro kv hkv hkk
      have : kv.1 ∈ es.map (·.1) := hk ▸ List.mem_map_of_mem hkv
      obtain ⟨kx, hx, e⟩ := List.mem_map.mp this
      exact w kx hx (by simpa [e] using hkk)
    rw [this]; exact r1
-- storing a name
theorem cell_put {m : Str → Option Value} {y : Str} {v : V} {c : Addr} {oc' : Obj} (q : VarAt X env Of K Z ra m y v) (hne : ∀ c', env.cells.lookup y = some c' → c' ≠ c) : VarAt X env (Of.put c oc') K Z ra m y v := by
  rcases q with ⟨a, b⟩ | ⟨a, c', oc, val, e1, e2, e3, e4⟩
  · exact .inl ⟨a, b⟩
  · exact .inr ⟨a, c', oc, val, e1, by rw [Own.put_ne (hne c' e1)]; exact e2, e3, e4⟩
theorem St.frame {ρ' : Rho} {a : Addr} {o o' : Obj} (T : St X env oc Z Of Or K ra ρ μ h) (ho : Of a = some o) (hn : h'.get? a = some o') (hk : ∀ b o, b ≠ a → h.get? b = some o → h'.get? b = some o)
    (hF : FrameRel X env oc (Of.put a o') K Z ra ρ') : St X env oc Z (Of.put a o') Or K ra ρ' μ h' := by
  have hKa := T.fk a o ho
  have nz := T.bs.notK (Own.join_left (B := K) ho)
  refine ⟨T.bs.keep (fun b p e => hk b p (fun w => ?_) (e.elim (T.bs.z b p) (T.bs.r b p))) fun b p e => ?_, fun b p e => ?_, hF⟩
  · subst w
    rcases e with e | e
    · exact nz.1 p e
    · rw [nz.2] at e; cases e
  · by_cases w : b = a
    · subst w
      rw [Own.join_left Own.put_self] at e; cases e
      exact ⟨hn, nz⟩
    · have e' : Of.join K b = some p := by
        unfold Own.join at e ⊢
        rwa [Own.put_ne w] at e
      exact ⟨hk b p w (T.bs.k b p e'), T.bs.notK e'⟩
  · by_cases w : b = a
    · subst w; exact hKa
    · rw [Own.put_ne w] at e; exact T.fk b p e
theorem put_cl {a : Addr} {o' : Obj} (cl : ∀ x c, env.cells.lookup x = some c → ∃ o, Of c = some o ∨ K c = some o) : ∀ x c, env.cells.lookup x = some c → ∃ o, (Of.put a o') c = some o ∨ K c = some o := fun x c e => by
  obtain ⟨o, q⟩ := cl x c e
  by_cases w : c = a
  · subst w; exact ⟨o', .inl Own.put_self⟩
  · exact ⟨o, by rw [Own.put_ne w]; exact q⟩
theorem store_name {x : Str} {v : V} {val : Value} {ρ' : Rho} {A : Around} {s : Shared} {Q : Unit → Shared → Prop} {E : Value → Shared → Prop} (T : St X env S.oc Z Of Or K ra ρ μ s.heap) (hs : env.scope = S.sc)
    (hx : S.sc.names.lookup x = some .local ∨ x ∈ S.oc) (hp : Put x v ρ ρ') (r : RepV X Z ra val v)
    (g : ∀ h' tk Of', St X env S.oc Z Of' Or K ra ρ' μ h' → Q () { s with heap := h', toks := tk }) : wpAny X.M A (storeName env x val) Q E s := by
  obtain ⟨oL, m, hL, hm, hv⟩ := T.fr.loc
  have kd : ∀ y, env.kindOf y = S.sc.names.lookup y := fun y => by rw [kindOf_def, hs]
  have key : env.kindOf x = some .local ∨ (env.kindOf x = some .cell ∧ ∃ c o v₀, env.cells.lookup x = some c ∧ Of c = some o ∧ o.data = .cell v₀) := by
    rcases hx with hx | hx
    · exact .inl (by rw [kd]; exact hx)
    · exact .inr (T.fr.own x hx)
  rcases key with hx | ⟨hx, c, oc, v₀, e1, e2, e3⟩
  · refine wpAny_storeName_local hx (hm.at (T.bs.k _ _ (Own.join_left hL))) (fun h₁ hn₁ hs₁ => ?_) (by rw [T.fr.kind]; rfl)
    obtain ⟨oL', e1, hm'⟩ := ObjNs.of hn₁
    refine g h₁ _ (Of.put env.locals oL') (T.frame hL e1 (fun b o hb eb => (hs₁.2 b hb).trans eb) ⟨T.fr.kind, T.fr.glob, T.fr.bs, ⟨oL', _, Own.put_self, hm', ?_⟩, ?_, T.fr.inj, put_cl T.fr.cl⟩)
    · intro y u hy
      rw [hp.look] at hy
      by_cases w : y = x
      · subst w
        rw [if_pos rfl] at hy; cases hy
        exact .inl ⟨hx, val, if_pos rfl, r⟩
      · rw [if_neg w] at hy
        rcases hv y u hy with ⟨a, val', b, c⟩ | ⟨a, c', oc, val', f1, f2, f3, f4⟩
        · exact .inl ⟨a, val', (if_neg w).trans b, c⟩
        · refine .inr ⟨a, c', oc, val', f1, ?_, f3, f4⟩
          by_cases w2 : c' = env.locals
          · subst w2
            exfalso
            rcases f2 with f2 | f2
            · rw [hL] at f2; cases f2
              obtain ⟨es, ep, hd, _⟩ := hm
              rw [f3] at hd; cases hd
            · have := T.fk _ _ hL; rw [f2] at this; cases this
          · rw [Own.put_ne w2]; exact f2
    · intro y hy
      obtain ⟨k1, c, o, v₀, f1, f2, f3⟩ := T.fr.own y hy
      refine ⟨k1, c, o, v₀, f1, ?_, f3⟩
      rw [Own.put_ne]; exact f2
      intro w; subst w
      rw [hL] at f2; cases f2
      obtain ⟨es, ep, hd, _⟩ := hm
      rw [f3] at hd; cases hd
  · refine wpAny_storeName_cell T.fr.kind hx e1 ⟨oc, T.bs.k _ _ (Own.join_left e2), e3⟩ fun h₁ hc₁ hs₁ => ?_
    obtain ⟨oc', f1, f2⟩ := hc₁
    have hcl : c ≠ env.locals := by
      intro w; subst w
      rw [hL] at e2; cases e2
      obtain ⟨es, ep, hd, _⟩ := hm
      rw [e3] at hd; cases hd
    refine g h₁ s.toks (Of.put c oc') (T.frame e2 f1 (fun b o hb eb => (hs₁.2 b hb).trans eb) ⟨T.fr.kind, T.fr.glob, T.fr.bs, ⟨oL, m, by rw [Own.put_ne hcl.symm]; exact hL, hm, ?_⟩, ?_, T.fr.inj, put_cl T.fr.cl⟩)
    · intro y u hy
      rw [hp.look] at hy
      by_cases w : y = x
      · subst w
        rw [if_pos rfl] at hy; cases hy
        exact .inr ⟨.inl hx, c, oc', val, e1, .inl Own.put_self, f2, r⟩
      · rw [if_neg w] at hy
        exact cell_put (hv y u hy) fun c' q w2 => w (T.fr.inj y x c (w2 ▸ q) e1)
    · intro y hy
      obtain ⟨k1, c', o, v₀', g1, g2, g3⟩ := T.fr.own y hy
      by_cases w : c' = c
      · subst w
        exact ⟨k1, c', oc', _, g1, Own.put_self, f2⟩
      · exact ⟨k1, c', o, v₀', g1, by rw [Own.put_ne w]; exact g2, g3⟩
end
noncomputable def RF (X : Cx) : Fz → List Addr → Flow → Fl → Prop := fun Z ra fl f => match fl, f with
  | .next, .nxt => True
  | .cont, .cnt => True
  | .ret val, .ret v => RepV X Z ra val v
  | _, _ => False
noncomputable def Gs (X : Cx) (env : Env) (oc : List Str) (Z : Fz) (K : Own) (ra : List Addr) (P : Fl → Rho → Mem → Prop) (s : Shared) (Q : Flow → Shared → Prop) : Prop :=
  ∀ h' tk Z' Of' Or' ra' fl f ρ' μ', P f ρ' μ' → Le Z Z' → ra <+: ra' → St X env oc Z' Of' Or' K ra' ρ' μ' h' → RF X Z' ra' fl f → Q fl { s with heap := h', toks := tk }
noncomputable def Ga (X : Cx) (env : Env) (oc : List Str) (Z : Fz) (K : Own) (ra : List Addr) (P : Rho → Mem → Prop) (s : Shared) (Q : Unit → Shared → Prop) : Prop :=
  ∀ h' tk Z' Of' Or' ra' ρ' μ', P ρ' μ' → Le Z Z' → ra <+: ra' → St X env oc Z' Of' Or' K ra' ρ' μ' h' → Q () { s with heap := h', toks := tk }
noncomputable def Ex (X : Cx) (n : Nat) (S : Sc) (st : Stmt) (ρ : Rho) (μ : Mem) (P : Fl → Rho → Mem → Prop) : Prop :=
  ∀ (A : Around) (env : Env) (s : Shared) (Z : Fz) (Of Or K : Own) (ra : List Addr) (Q : Flow → Shared → Prop) (E : Value → Shared → Prop),
    AOK A n → env.scope = S.sc → St X env S.oc Z Of Or K ra ρ μ s.heap → Gs X env S.oc Z K ra P s Q → wpAny X.M A (exec st env) Q E s
noncomputable def Exs (X : Cx) (n : Nat) (S : Sc) (st : List Stmt) (ρ : Rho) (μ : Mem) (P : Fl → Rho → Mem → Prop) : Prop :=
  ∀ (A : Around) (env : Env) (s : Shared) (Z : Fz) (Of Or K : Own) (ra : List Addr) (Q : Flow → Shared → Prop) (E : Value → Shared → Prop),
    AOK A n → env.scope = S.sc → St X env S.oc Z Of Or K ra ρ μ s.heap → Gs X env S.oc Z K ra P s Q → wpAny X.M A (execs st env) Q E s
noncomputable def As (X : Cx) (n : Nat) (S : Sc) (t : Expr) (v : V) (ρ : Rho) (μ : Mem) (P : Rho → Mem → Prop) : Prop :=
  ∀ (A : Around) (env : Env) (s : Shared) (Z : Fz) (Of Or K : Own) (ra : List Addr) (val : Value) (Q : Unit → Shared → Prop) (E : Value → Shared → Prop),
    AOK A n → env.scope = S.sc → St X env S.oc Z Of Or K ra ρ μ s.heap → RepV X Z ra val v → Ga X env S.oc Z K ra P s Q → wpAny X.M A (assign t env val) Q E s
noncomputable def AsL (X : Cx) (n : Nat) (S : Sc) (ts : List Expr) (vs : List V) (ρ : Rho) (μ : Mem) (P : Rho → Mem → Prop) : Prop :=
  ∀ (A : Around) (env : Env) (s : Shared) (Z : Fz) (Of Or K : Own) (ra : List Addr) (vals : List Value) (Q : Unit → Shared → Prop) (E : Value → Shared → Prop),
    AOK A n → env.scope = S.sc → St X env S.oc Z Of Or K ra ρ μ s.heap → RepVs X Z ra vals vs → Ga X env S.oc Z K ra P s Q → wpAny X.M A (assignInOrder ((assignEach ts env).map (·.2)) vals) Q E s
section
variable {X : Cx} {n : Nat} {S : Sc} {env : Env} {oc : List Str} {Z : Fz} {Of Or K : Own} {ra : List Addr} {ρ : Rho} {μ : Mem} {h h' : Heap} {P : Fl → Rho → Mem → Prop} {PA : Rho → Mem → Prop}
theorem Gs.later {P : Fl → Rho → Mem → Prop} {s : Shared} {Q : Flow → Shared → Prop} (g : Gs X env oc Z K ra P s Q) {Z₁ : Fz} {ra₁ : List Addr} (hz : Le Z Z₁) (hp : ra <+: ra₁) {h₁ : Heap} {tk₁ : Nat} : Gs X env oc Z₁ K ra₁ P { s with heap := h₁, toks := tk₁ } Q :=
  fun h' tk Z' Of' Or' ra' fl f ρ' μ' p z r T q => g h' tk Z' Of' Or' ra' fl f ρ' μ' p (hz.trans z) (hp.trans r) T q
theorem Ga.later {P : Rho → Mem → Prop} {s : Shared} {Q : Unit → Shared → Prop} (g : Ga X env oc Z K ra P s Q) {Z₁ : Fz} {ra₁ : List Addr} (hz : Le Z Z₁) (hp : ra <+: ra₁) {h₁ : Heap} {tk₁ : Nat} : Ga X env oc Z₁ K ra₁ P { s with heap := h₁, toks := tk₁ } Q :=
  fun h' tk Z' Of' Or' ra' ρ' μ' p z r T => g h' tk Z' Of' Or' ra' ρ' μ' p (hz.trans z) (hp.trans r) T
theorem Exs.mono {st : List Stmt} {P P' : Fl → Rho → Mem → Prop} (h : Exs X n S st ρ μ P) (k : ∀ f ρ' μ', P f ρ' μ' → P' f ρ' μ') : Exs X n S st ρ μ P' :=
  fun A env s Z Of Or K ra Q E hA hs T g => h A env s Z Of Or K ra Q E hA hs T fun h' tk Z' Of' Or' ra' fl f ρ' μ' p => g h' tk Z' Of' Or' ra' fl f ρ' μ' (k f ρ' μ' p)
theorem Exs.lift {st : List Stmt} {m : Nat} (h : Exs X m S st ρ μ P) (k : m ≤ n) : Exs X n S st ρ μ P :=
  fun A env s Z Of Or K ra Q E hA hs T g => h A env s Z Of Or K ra Q E (hA.mono k) hs T g
-- targets
theorem as_name {x : Str} {pos : Pos} {v : V} {ρ' : Rho} (hx : S.sc.names.lookup x = some .local ∨ x ∈ S.oc) (hp : Put x v ρ ρ') (p : PA ρ' μ) : As X n S (.Name x pos) v ρ μ PA := by
  intro A env s Z Of Or K ra val Q E hA hs T r g
  exact assign_Name (store_name T hs hx hp r fun h₁ tk Of' T' => g h₁ tk Z Of' Or ra ρ' μ p Le.refl (List.prefix_refl _) T')
theorem asl_nil (p : PA ρ μ) : AsL X n S [] [] ρ μ PA := by
  intro A env s Z Of Or K ra vals Q E hA hs T r g
  exact assignInOrder_nil (g s.heap s.toks Z Of Or ra ρ μ p Le.refl (List.prefix_refl _) T)
theorem asl_cons {t : Expr} {ts : List Expr} {v : V} {vs : List V} (ht : As X n S t v ρ μ fun ρ₁ μ₁ => AsL X n S ts vs ρ₁ μ₁ PA)
    (he : ∀ env, assignEach (t :: ts) env = (false, assign t env) :: assignEach ts env := by intro _; rfl) : AsL X n S (t :: ts) (v :: vs) ρ μ PA := by
  intro A env s Z Of Or K ra vals Q E hA hs T r g
  cases r with
  | cons r0 r =>
    rw [he, List.map_cons]
    refine assignInOrder_cons (ht A env s Z Of Or K ra _ _ E hA hs T r0 fun h₁ tk₁ Z₁ Of₁ Or₁ ra₁ ρ₁ μ₁ p z pr T₁ => ?_)
    exact p A env _ Z₁ Of₁ Or₁ K ra₁ _ Q E hA hs T₁ (r.mono z pr) (g.later z pr)
theorem RepAll.vs {vs : List Value} {ds : List D} (r : RepAll X Z vs ds) : RepVs X Z ra vs (ds.map V.d) := by
  induction vs generalizing ds with
  | nil => cases r; exact .nil
  | cons v vs ih => cases r with | cons a r => exact .cons a (ih r)
theorem as_tup {elts : List Expr} {k : Nat} {pos : Pos} {ds : List D} (hn : elts.length = ds.length) (hl : AsL X n S elts (ds.map V.d) ρ μ PA)
    (he : ∀ env, (assignEach elts env).length = elts.length ∧ (assignEach elts env).findIdx? (·.1) = none := by intro _; exact ⟨rfl, rfl⟩) : As X n S (.Tuple elts k pos) (.d (.tup ds)) ρ μ PA := by
  intro A env s Z Of Or K ra val Q E hA hs T r g
  obtain ⟨_, _, _, rfl, z, q⟩ := RepD.tup_inv r
  have l := q.length
  refine assign_Tuple_tuple hA.hd (isTup_of (T.bs.z _ _ z)) (by rw [(he env).1, hn, List.size_toArray, l]) (he env).2 fun h₁ hs₁ => ?_
  have T₁ : St X env S.oc Z Of Or K ra ρ μ h₁ := T.grow fun b o e => hs₁ b o (Nat.ne_of_lt (Heap.lt_size e)) e
  exact hl A env _ Z Of Or K ra _ Q E hA hs T₁ q.vs (g.later Le.refl (List.prefix_refl _))
theorem as_tup_lst {elts : List Expr} {k : Nat} {pos : Pos} {ds : List D} (hn : elts.length = ds.length) (hl : AsL X n S elts (ds.map V.d) ρ μ PA)
    (he : ∀ env, (assignEach elts env).length = elts.length ∧ (assignEach elts env).findIdx? (·.1) = none := by intro _; exact ⟨rfl, rfl⟩) : As X n S (.Tuple elts k pos) (.d (.lst ds)) ρ μ PA := by
  intro A env s Z Of Or K ra val Q E hA hs T r g
  obtain ⟨_, _, _, rfl, z, q⟩ := RepD.lst_inv r
  have l := q.length
  rw [show ∀ v, assign (.Tuple elts k pos) env v = (do standAt pos; unpack v (assignEach elts env)) from fun _ => rfl]
  refine wpAny_bind (wpAny_standAt ?_)
  unfold unpack
  refine wpAny_bind (wpAny_holding ?_)
  rw [(he env).2, show (assignEach elts env).length = (List.toArray _).size by rw [(he env).1, hn, List.size_toArray, l]]
  refine kun_itemsOf hA.hd (isList_of (T.bs.z _ _ z)) fun h₁ hs₁ => ?_
  have T₁ : St X env S.oc Z Of Or K ra ρ μ h₁ := T.grow fun b o e => hs₁ b o (Nat.ne_of_lt (Heap.lt_size e)) e
  exact hl A env _ Z Of Or K ra _ Q E hA hs T₁ q.vs (g.later Le.refl (List.prefix_refl _))
theorem RecRel_upd (T : St X env oc Z Of Or K ra ρ μ h) {i : Nat} {a : Addr} {o o' : Obj} {c : Cell} (hi : ra[i]? = some a) (ho : Or a = some o) (hn : h'.get? a = some o') (hk : ∀ b o, b ≠ a → h.get? b = some o → h'.get? b = some o)
    (hc : CellRel X (Or.put a o') Z ra a c) : St X env oc Z Of (Or.put a o') K ra ρ (μ.set i c) h' := ⟨T.bs.upd hi ho hn hk hc, T.fk, T.fr⟩
noncomputable def setF (fs : List (Str × V)) (x : Str) (v : V) : List (Str × V) := match fs with
  | [] => [(x, v)]
  | (y, u) :: r => if x == y then (y, v) :: r else (y, u) :: setF r x v
theorem setF_look (x : Str) (v : V) : ∀ (fs : List (Str × V)) (y : Str), (setF fs x v).lookup y = if y = x then some v else fs.lookup y
  | [], y => by
    unfold setF
    rw [List.lookup_cons]
    by_cases q : y = x
    · subst q; simp
    · simp [q, beq_eq_false_iff_ne.mpr q]
  | (z, u) :: r, y => by
    have ih := setF_look x v r y
    unfold setF
    by_cases w : x = z
    · subst w
      rw [if_pos (beq_self_eq_true x), List.lookup_cons, List.lookup_cons]
      by_cases q : y = x
      · subst q; simp
      · rw [beq_eq_false_iff_ne.mpr q, if_neg q]
    · rw [if_neg (by simpa using w), List.lookup_cons, List.lookup_cons, ih]
      by_cases q : y = x
      · subst q; simp [beq_eq_false_iff_ne.mpr w]
      · simp only [if_neg q]
theorem as_attr {o : Expr} {attr : Str} {pos : Pos} {v : V}
    (ho : Ev X n S o ρ μ fun ov μ₁ => ∃ i j fs, ov = .own i ∧ μ₁[i]? = some (.inst j) ∧ μ₁[j]? = some (.ns fs) ∧ fs.length ≤ 1000 ∧ PA ρ (μ₁.set j (.ns (setF fs attr v))))
    (hf : nsIn X.K X.N attr = some none) (hB : typeLookup (.type "object") attr = pure none) : As X n S (.Attribute o attr pos) v ρ μ PA := by
  intro A env s Z Of Or K ra val Q E hA hs T r g
  refine kas_attr (ho A env s Z Of Or K ra _ E hA hs T fun h₁ tk₁ Z₁ Or₁ ra₁ va a μ₁ p₁ z₁ pr₁ T₁ r₁ => ?_)
  obtain ⟨i, j, fs, rfl, hi, hj, hn, p⟩ := p₁
  obtain ⟨a, rfl, ha⟩ := r₁
  obtain ⟨d, o, m, e1, e2, e3, e4, e5, I⟩ := instAt T₁.bs hi hj ha
  obtain ⟨nm, q, bs, sn, sub, ab, col, dd, k0, k1, k2, k3, k5, hC⟩ := T₁.bs.ok.cls
  obtain ⟨mN, nN, n1, n2⟩ := T₁.bs.ok.mN attr hf
  have hCz : Z₁ X.C (excClassObj nm q X.C X.N bs [.type "object"] true sn sub ab col dd k0 k1 k2 k3 k5 "object.__new__") := T₁.bs.base _ _ (T₁.bs.ok.kin _ _ hC)
  have ha1 := T₁.bs.r _ _ e2
  have hd1 := T₁.bs.r _ _ e3
  have hda : d ≠ a := by
    intro w; subst w
    rw [e2] at e3; cases e3
    obtain ⟨es, ep, hd, _⟩ := e4
    cases hd
  have hsz : (Within m (fs.map (·.1))) := by
    intro y hy
    cases w : fs.lookup y with
    | none => exact absurd ((e5 y).2 w) hy
    | some u => exact List.mem_map.mpr ⟨(y, u), mem_of_lookup w, rfl⟩
  obtain ⟨hh, gg, dr, tk, os⟩ := s
  refine store_attr (B := "object") (sa := "object.__setattr__") (owner := "object") PySem.F.store_object (T₁.bs.z _ _ hCz) (nN.keeps T₁.bs.bst) n2 n1 hB ?_ ⟨_, ha1, rfl, (fun c => by nofun), .inr ⟨d, rfl, hda, e4.at hd1⟩⟩ (fun h₂ tk₂ I₂ hk₂ hx₂ => ?_) hsz (by rw [List.length_map, sizeLine_eq]; omega)
  · intro w; subst w
    have := (T₁.bs.zo _ _ hCz).1
    rw [e2] at this; cases this
  · obtain ⟨o₁, f1, f2, f3, f4, f5⟩ := hx₂ _ ha1
    obtain ⟨ca, da, dta, sla⟩ := o₁
    dsimp only at f2 f3 f4 f5
    have f5 := f5 d rfl
    subst f2 f3 f4 f5
    obtain ⟨o₂, g1, g2, g3, g4⟩ := I₂
    rw [f1] at g1; cases g1
    rcases g4 with ⟨g4, _⟩ | ⟨d', g4, g5, g6⟩
    · cases g4
    · cases g4
      obtain ⟨oD, i1, i2⟩ := ObjNs1.of g6
      have hk : ∀ b o, b ≠ d → h₁.get? b = some o → h₂.get? b = some o := by
        intro b o hb e
        by_cases w : b = a
        · subst w; rw [ha1] at e; cases e; exact f1
        · exact hk₂ b o w (fun o₀ dx h1 h2 => by rw [ha1] at h1; cases h1; cases h2; exact hb) e
      refine g h₂ tk₂ Z₁ Of _ ra₁ ρ _ p z₁ pr₁ (RecRel_upd T₁ (c := .ns (setF fs attr v)) e1 e3 i1 hk ?_)
      refine ⟨oD, _, Own.put_self, i2, fun y => ?_⟩
      rw [setF_look]
      by_cases w : y = attr
      · subst w
        simp only [if_true]
        exact ⟨fun u hu => by cases hu; exact ⟨val, rfl, r.mono z₁ pr₁⟩, fun hu => by cases hu⟩
      · simp only [if_neg w]
        exact e5 y
theorem lst_set {a : Addr} {vs : List Value} {m : Nat} {v : Value} {k : Nat} (e : h.get? a = some (lstObj vs m)) : (h.update a (Obj.mapSeq (·.setIfInBounds k v))).get? a = some (lstObj (vs.set k v) m) := by
  rw [Heap.get?_update_self _ e rfl]
  simp [Obj.mapSeq]
theorem RepVs.snoc {vs : List Value} {us : List V} {v : Value} {u : V} (r : RepVs X Z ra vs us) (q : RepV X Z ra v u) : RepVs X Z ra (vs ++ [v]) (us ++ [u]) := by
  induction r with
  | nil => exact .cons q .nil
  | cons a _ ih => exact .cons a ih
theorem RepVs.rev {vs : List Value} {us : List V} (r : RepVs X Z ra vs us) : RepVs X Z ra vs.reverse us.reverse := by
  induction r with
  | nil => exact .nil
  | cons a _ ih => rw [List.reverse_cons, List.reverse_cons]; exact ih.snoc a
theorem as_sub_lst {o i : Expr} {pos : Pos} {x : D}
    (ho : Ev X n S o ρ μ fun ov μ₁ => Ev X n S i ρ μ₁ fun iv μ₂ => ∃ j xs k, ov = .own j ∧ iv = .d (.int k) ∧ 0 ≤ k ∧ k < 100000 ∧ k < xs.length ∧ μ₂[j]? = some (.lst xs) ∧ PA ρ (μ₂.set j (.lst (xs.set k.toNat x)))) : As X n S (.Subscript o i pos) (.d x) ρ μ PA := by
  intro A env s Z Of Or K ra val Q E hA hs T r g
  refine kas_sub (ho A env s Z Of Or K ra _ E hA hs T fun h₁ tk₁ Z₁ Or₁ ra₁ va a μ₁ p₁ z₁ pr₁ T₁ r₁ => ?_)
  refine p₁ A env _ Z₁ Of Or₁ K ra₁ _ E hA hs T₁ fun h₂ tk₂ Z₂ Or₂ ra₂ vb b μ₂ p₂ z₂ pr₂ T₂ r₂ => ?_
  obtain ⟨j, xs, k, rfl, rfl, h0, hk, hl, hj, p⟩ := p₂
  obtain ⟨a, rfl, ha⟩ := r₁
  obtain ⟨_, rfl⟩ := RepD.int_inv r₂
  have ha₂ := pre_get pr₂ ha
  obtain ⟨vs, m, o1, q1⟩ := T₂.bs.at_ hj ha₂
  have l := q1.length
  have ho := T₂.bs.r _ _ o1
  refine ki_setAt (items := vs.toArray) ho h0 (by omega) (by rw [List.size_toArray]; omega) ?_
  exact g _ tk₂ Z₂ Of _ ra₂ ρ _ p (z₁.trans z₂) (pr₁.trans pr₂) (RecRel_upd T₂ (c := .lst (xs.set k.toNat x)) ha₂ o1 (lst_set ho) (fun b o hb e => (Heap.get?_update_ne _ _ _ _ hb).trans e)
    ⟨vs.set k.toNat val, m, Own.put_self, q1.set (RepD.mono (z₁.trans z₂) r) _⟩)
theorem as_sub_last {o i : Expr} {pos : Pos} {x : D}
    (ho : Ev X n S o ρ μ fun ov μ₁ => Ev X n S i ρ μ₁ fun iv μ₂ => ∃ j xs y, ov = .own j ∧ iv = .d (.int (-1)) ∧ xs.length < 100000 ∧ μ₂[j]? = some (.lst (xs ++ [y])) ∧ PA ρ (μ₂.set j (.lst (xs ++ [x])))) : As X n S (.Subscript o i pos) (.d x) ρ μ PA := by
  intro A env s Z Of Or K ra val Q E hA hs T r g
  refine kas_sub (ho A env s Z Of Or K ra _ E hA hs T fun h₁ tk₁ Z₁ Or₁ ra₁ va a μ₁ p₁ z₁ pr₁ T₁ r₁ => ?_)
  refine p₁ A env _ Z₁ Of Or₁ K ra₁ _ E hA hs T₁ fun h₂ tk₂ Z₂ Or₂ ra₂ vb b μ₂ p₂ z₂ pr₂ T₂ r₂ => ?_
  obtain ⟨j, xs, y, rfl, rfl, hn, hj, p⟩ := p₂
  obtain ⟨a, rfl, ha⟩ := r₁
  obtain ⟨_, rfl⟩ := RepD.int_inv r₂
  have ha₂ := pre_get pr₂ ha
  obtain ⟨vs, m, o1, q1⟩ := T₂.bs.at_ hj ha₂
  have l := q1.length
  rw [List.length_append, List.length_singleton] at l
  have ho := T₂.bs.r _ _ o1
  have e : ((-1 : Int) + (vs.toArray.size : Nat)).toNat = xs.length := by rw [List.size_toArray]; omega
  refine ki_setBack (items := vs.toArray) ho (by decide) (by rw [List.size_toArray]; omega) (by decide) ?_
  rw [e]
  refine g _ tk₂ Z₂ Of _ ra₂ ρ _ p (z₁.trans z₂) (pr₁.trans pr₂) (RecRel_upd T₂ (c := .lst (xs ++ [x])) ha₂ o1 (lst_set ho) (fun b o hb e => (Heap.get?_update_ne _ _ _ _ hb).trans e)
    ⟨vs.set xs.length val, m, Own.put_self, ?_⟩)
  have := q1.set (RepD.mono (z₁.trans z₂) r) xs.length
  rwa [List.set_append_right _ _ (Nat.le_refl _), Nat.sub_self, List.set_cons_zero] at this
theorem as_sub_dct {o i : Expr} {pos : Pos} {x : D}
    (ho : Ev X n S o ρ μ fun ov μ₁ => Ev X n S i ρ μ₁ fun iv μ₂ => ∃ j es k, ov = .own j ∧ iv = .d (.int k) ∧ es.length < 100000 ∧ μ₂[j]? = some (.dct es) ∧ PA ρ (μ₂.set j (.dct (putK es k x)))) : As X n S (.Subscript o i pos) (.d x) ρ μ PA := by
  intro A env s Z Of Or K ra val Q E hA hs T r g
  refine kas_sub (ho A env s Z Of Or K ra _ E hA hs T fun h₁ tk₁ Z₁ Or₁ ra₁ va a μ₁ p₁ z₁ pr₁ T₁ r₁ => ?_)
  refine p₁ A env _ Z₁ Of Or₁ K ra₁ _ E hA hs T₁ fun h₂ tk₂ Z₂ Or₂ ra₂ vb b μ₂ p₂ z₂ pr₂ T₂ r₂ => ?_
  obtain ⟨j, es, k, rfl, rfl, hn, hj, p⟩ := p₂
  obtain ⟨a, rfl, ha⟩ := r₁
  obtain ⟨tk, rfl⟩ := RepD.int_inv r₂
  have ha₂ := pre_get pr₂ ha
  obtain ⟨o, kvs, e1, hd, hk, q⟩ := T₂.bs.at_ hj ha₂
  have l : kvs.length = es.length := by rw [← List.length_map (f := (·.1)), hk, List.length_map]
  have hm : h₂.DictOf (intKind X.prog X.w) a kvs := Heap.dictOf_iff.mpr ⟨o, T₂.bs.r _ _ e1, hd⟩
  refine wpAny_setItem_pairs (intKind_is _ _ k tk) hm (fun h₃ hm₃ hs₃ => ?_) (by rw [sizeLine_eq]; omega)
  obtain ⟨o', f1, f2⟩ := Heap.dictOf_iff.mp hm₃
  obtain ⟨k1, k2⟩ := stored_keys k (RepD.mono (z₁.trans z₂) r) hk q
  exact g _ _ Z₂ Of _ ra₂ ρ _ p (z₁.trans z₂) (pr₁.trans pr₂) (RecRel_upd T₂ (c := .dct (putK es k x)) ha₂ e1 f1 (fun b o hb e => (hs₃.2 b hb).trans e) ⟨o', _, Own.put_self, f2, k1, k2⟩)
theorem as_sub_sd {o i : Expr} {pos : Pos} {x : D}
    (ho : Ev X n S o ρ μ fun ov μ₁ => Ev X n S i ρ μ₁ fun iv μ₂ => ∃ j es k, ov = .own j ∧ iv = .d (.str k) ∧ es.length < 100000 ∧ μ₂[j]? = some (.sd es) ∧ PA ρ (μ₂.set j (.sd (putK es k x)))) : As X n S (.Subscript o i pos) (.d x) ρ μ PA := by
  intro A env s Z Of Or K ra val Q E hA hs T r g
  refine kas_sub (ho A env s Z Of Or K ra _ E hA hs T fun h₁ tk₁ Z₁ Or₁ ra₁ va a μ₁ p₁ z₁ pr₁ T₁ r₁ => ?_)
  refine p₁ A env _ Z₁ Of Or₁ K ra₁ _ E hA hs T₁ fun h₂ tk₂ Z₂ Or₂ ra₂ vb b μ₂ p₂ z₂ pr₂ T₂ r₂ => ?_
  obtain ⟨j, es, k, rfl, rfl, hn, hj, p⟩ := p₂
  obtain ⟨a, rfl, ha⟩ := r₁
  obtain ⟨tk, rfl⟩ := RepD.str_inv r₂
  have ha₂ := pre_get pr₂ ha
  obtain ⟨o, kvs, e1, hd, hk, q⟩ := T₂.bs.at_ hj ha₂
  have l : kvs.length = es.length := by rw [← List.length_map (f := (·.1)), hk, List.length_map]
  have hm : h₂.DictOf (strKind X.prog X.w) a kvs := Heap.dictOf_iff.mpr ⟨o, T₂.bs.r _ _ e1, hd⟩
  refine wpAny_setItem_pairs (strKind_is _ _ k tk) hm (fun h₃ hm₃ hs₃ => ?_) (by rw [sizeLine_eq]; omega)
  obtain ⟨o', f1, f2⟩ := Heap.dictOf_iff.mp hm₃
  obtain ⟨k1, k2⟩ := stored_keys k (RepD.mono (z₁.trans z₂) r) hk q
  exact g _ _ Z₂ Of _ ra₂ ρ _ p (z₁.trans z₂) (pr₁.trans pr₂) (RecRel_upd T₂ (c := .sd (putK es k x)) ha₂ e1 f1 (fun b o hb e => (hs₃.2 b hb).trans e) ⟨o', _, Own.put_self, f2, k1, k2⟩)
-- statements
theorem exs_nil (p : P .nxt ρ μ) : Exs X n S [] ρ μ P := by
  intro A env s Z Of Or K ra Q E hA hs T g
  exact wpAny_execs_nil (g s.heap s.toks Z Of Or ra .next .nxt ρ μ p Le.refl (List.prefix_refl _) T trivial)
theorem exs_cons {st : Stmt} {rest : List Stmt} (h : Ex X n S st ρ μ fun f ρ₁ μ₁ => (f = .nxt → Exs X n S rest ρ₁ μ₁ P) ∧ (f ≠ .nxt → P f ρ₁ μ₁)) : Exs X n S (st :: rest) ρ μ P := by
  intro A env s Z Of Or K ra Q E hA hs T g
  refine wpAny_execs_cons (h A env s Z Of Or K ra _ E hA hs T fun h₁ tk₁ Z₁ Of₁ Or₁ ra₁ fl f ρ₁ μ₁ p z pr T₁ r => ?_)
  cases fl with
  | next =>
    cases f with
    | nxt => exact p.1 rfl A env _ Z₁ Of₁ Or₁ K ra₁ Q E hA hs T₁ (g.later z pr)
    | cnt => exact r.elim
    | ret v => exact r.elim
  | brk => cases f <;> exact r.elim
  | cont =>
    cases f with
    | cnt => exact g h₁ tk₁ Z₁ Of₁ Or₁ ra₁ .cont .cnt ρ₁ μ₁ (p.2 (by nofun)) z pr T₁ trivial
    | nxt => exact r.elim
    | ret v => exact r.elim
  | ret val =>
    cases f with
    | ret v => exact g h₁ tk₁ Z₁ Of₁ Or₁ ra₁ (.ret val) (.ret v) ρ₁ μ₁ (p.2 (by nofun)) z pr T₁ r
    | nxt => exact r.elim
    | cnt => exact r.elim
/-- a statement that goes on -/
theorem exs_next {st : Stmt} {rest : List Stmt} (h : Ex X n S st ρ μ fun f ρ₁ μ₁ => f = .nxt ∧ Exs X n S rest ρ₁ μ₁ P) : Exs X n S (st :: rest) ρ μ P :=
  exs_cons fun A env s Z Of Or K ra Q E hA hs T g => h A env s Z Of Or K ra Q E hA hs T fun h' tk Z' Of' Or' ra' fl f ρ' μ' p => g h' tk Z' Of' Or' ra' fl f ρ' μ' ⟨fun _ => p.2, fun q => absurd p.1 q⟩
theorem ex_ret {e : Expr} {pos : Pos} (h : Ev X n S e ρ μ fun v μ₁ => P (.ret v) ρ μ₁) : Ex X n S (.Return (some e) pos) ρ μ P := by
  intro A env s Z Of Or K ra Q E hA hs T g
  exact wpAny_Return_some (h A env s Z Of Or K ra _ E hA hs T fun h₁ tk₁ Z₁ Or₁ ra₁ va a μ₁ p₁ z₁ pr₁ T₁ r₁ => g h₁ tk₁ Z₁ Of Or₁ ra₁ (.ret va) (.ret a) ρ μ₁ p₁ z₁ pr₁ T₁ r₁)
theorem ex_ret0 {pos : Pos} (p : P (.ret (.d .none)) ρ μ) : Ex X n S (.Return none pos) ρ μ P := by
  intro A env s Z Of Or K ra Q E hA hs T g
  exact wpAny_Return_none (g s.heap s.toks Z Of Or ra (.ret .none) (.ret (.d .none)) ρ μ p Le.refl (List.prefix_refl _) T .none)
theorem ex_cont {pos : Pos} (p : P .cnt ρ μ) : Ex X n S (.Continue pos) ρ μ P := by
  intro A env s Z Of Or K ra Q E hA hs T g
  exact wpAny_Continue (g s.heap s.toks Z Of Or ra .cont .cnt ρ μ p Le.refl (List.prefix_refl _) T trivial)
theorem ex_if {t : Expr} {b c : List Stmt} {pos : Pos} (h : Tst X n S t ρ μ fun v μ₁ => (v = true → Exs X n S b ρ μ₁ P) ∧ (v = false → Exs X n S c ρ μ₁ P)) : Ex X n S (.If t b c pos) ρ μ P := by
  intro A env s Z Of Or K ra Q E hA hs T g
  refine wpAny_If (h A env s Z Of Or K ra _ E hA hs T fun h₁ tk₁ Z₁ Or₁ ra₁ va a μ₁ p₁ z₁ pr₁ T₁ r₁ => ?_)
  cases r₁
  cases va with
  | true => exact p₁.1 rfl A env _ Z₁ Of Or₁ K ra₁ Q E hA hs T₁ (g.later z₁ pr₁)
  | false => exact p₁.2 rfl A env _ Z₁ Of Or₁ K ra₁ Q E hA hs T₁ (g.later z₁ pr₁)
theorem ex_expr {e : Expr} {pos : Pos} (h : Ev X n S e ρ μ fun v μ₁ => (∃ x, v = .d x ∧ (x = .none ∨ (∃ i, x = .int i) ∨ ∃ b, x = .bool b)) ∧ P .nxt ρ μ₁) (hs : ∀ env, swapsWith e none pos.line env = pure false := by intro _; rfl) : Ex X n S (.Expr e pos) ρ μ P := by
  intro A env s Z Of Or K ra Q E hA hs' T g
  refine wpAny_Expr (h A env s Z Of Or K ra _ E hA hs' T fun h₁ tk₁ Z₁ Or₁ ra₁ va a μ₁ p₁ z₁ pr₁ T₁ r₁ => ?_) ?_ (hs env)
  · obtain ⟨⟨x, rfl, hx⟩, p⟩ := p₁
    have q := g h₁ tk₁ Z₁ Of Or₁ ra₁ .next .nxt ρ μ₁ p z₁ pr₁ T₁ trivial
    rcases hx with rfl | ⟨i, rfl⟩ | ⟨b, rfl⟩
    · obtain rfl := RepD.none_inv r₁; exact q
    · obtain ⟨_, rfl⟩ := RepD.int_inv r₁; exact q
    · obtain rfl := RepD.bool_inv r₁; exact q
  · unfold interactive; rw [T.fr.kind]; rfl
theorem ex_assign {t e : Expr} {pos : Pos} (h : Ev X n S e ρ μ fun v μ₁ => As X n S t v ρ μ₁ fun ρ₂ μ₂ => P .nxt ρ₂ μ₂)
    (hs : ∀ env, env.scope = S.sc → swapsWithSole [t] e pos.line env = pure false) (hw : ∀ env, env.scope = S.sc → swappedStores [t] e env = pure none)
    (he : ∀ env, (assignEach [t] env).map (·.2) = [assign t env] := by intro _; rfl) : Ex X n S (.Assign [t] e pos) ρ μ P := by
  intro A env s Z Of Or K ra Q E hA hs' T g
  refine wpAny_Assign_stores (h A env s Z Of Or K ra _ E hA hs' T fun h₁ tk₁ Z₁ Or₁ ra₁ va a μ₁ p₁ z₁ pr₁ T₁ r₁ => ?_) (hs env hs') (hw env hs')
  rw [he]
  exact p₁ A env _ Z₁ Of Or₁ K ra₁ va _ E hA hs' T₁ r₁ fun h₂ tk₂ Z₂ Of₂ Or₂ ra₂ ρ₂ μ₂ p₂ z₂ pr₂ T₂ => g h₂ tk₂ Z₂ Of₂ Or₂ ra₂ .next .nxt ρ₂ μ₂ p₂ (z₁.trans z₂) (pr₁.trans pr₂) T₂ trivial
/-- a, b = x, y and a, b, c = x, y, z -/
inductive PutL : List Str → List V → Rho → Rho → Prop where
  | nil {ρ : Rho} : PutL [] [] ρ ρ
  | cons {x : Str} {v : V} {xs : List Str} {vs : List V} {ρ ρ₁ ρ₂ : Rho} : Put x v ρ ρ₁ → PutL xs vs ρ₁ ρ₂ → PutL (x :: xs) (v :: vs) ρ ρ₂
theorem putL_run {A : Around} {E : Value → Shared → Prop} {PA : Rho → Mem → Prop} : ∀ {xs : List Str} {vs : List V} {ρ ρ' : Rho} {vals : List Value} {s : Shared} {Of : Own} {Q : Unit → Shared → Prop}, PutL xs vs ρ ρ' → (∀ x ∈ xs, S.sc.names.lookup x = some .local) → env.scope = S.sc →
    St X env S.oc Z Of Or K ra ρ μ s.heap → RepVs X Z ra vals vs → PA ρ' μ → Ga X env S.oc Z K ra PA s Q → wpAny X.M A (assignInOrder (xs.map fun n => bindName env n) vals) Q E s
  | _, _, _, _, _, s, Of, Q, .nil, _, _, T, _, p, g => assignInOrder_nil (g s.heap s.toks Z Of Or ra _ μ p Le.refl (List.prefix_refl _) T)
  | _, _, _, _, _, s, Of, Q, .cons p0 ps, hx, hs, T, .cons r0 r, p, g => by
    rw [List.map_cons]
    refine assignInOrder_cons (bindName_ (store_name T hs (.inl (hx _ (.head _))) p0 r0 fun h₁ tk Of' T' => ?_))
    exact putL_run ps (fun x hm => hx x (.tail _ hm)) hs T' r p (g.later Le.refl (List.prefix_refl _))
theorem ex_swap {elts vs : List Expr} {k k2 : Nat} {tpos p2 pos : Pos} {names : List Str} (hw : ∀ env, env.scope = S.sc → swappedStores [.Tuple elts k tpos] (.Tuple vs k2 p2) env = pure (some names)) (hx : ∀ x ∈ names, S.sc.names.lookup x = some .local)
    (h : EvL X n S vs ρ μ fun us μ₁ => ∃ ρ', us.length = names.length ∧ us.length ≤ 100 ∧ PutL names.reverse us.reverse ρ ρ' ∧ P .nxt ρ' μ₁) : Ex X n S (.Assign [.Tuple elts k tpos] (.Tuple vs k2 p2) pos) ρ μ P := by
  intro A env s Z Of Or K ra Q E hA hs' T g
  refine Assign_Tuple_swapped ?_ rfl (hw env hs')
  rw [show eval (.Tuple vs k2 p2) env = (do standAt p2; newTuple (← spliced (backTo p2 (starEach vs env)))) from rfl]
  refine wpAny_bind (wpAny_standAt (wpAny_bind (h A env s p2 Z Of Or K ra _ E hA hs' T fun h₁ tk₁ Z₁ Or₁ ra₁ va us μ₁ p₁ z₁ pr₁ T₁ r₁ => ?_)))
  obtain ⟨ρ', hn, hn2, hp, p⟩ := p₁
  have l := r₁.length
  refine wpAny_newTuple ?_ (by rw [sizeLine_eq]; omega)
  have T₂ := T₁.push (tupObj va)
  have it : IsTup (h₁.push (tupObj va)) h₁.objs.size va.toArray := ⟨_, Heap.get?_push_size _ rfl, rfl, 0, rfl⟩
  rw [show names.length = va.toArray.size by rw [List.size_toArray, l, hn]]
  refine unpackItems_tuple hA.hd it fun h₃ hs₃ => ?_
  have T₃ := T₂.grow fun b o e => hs₃ b o (Nat.ne_of_lt (Heap.lt_size e)) e
  have rr : ∀ {us : List V} {va : List Value}, RepVs X (addZ Z₁ h₁.objs.size (tupObj va)) ra₁ va us → True := fun _ => trivial
  have r₃ := r₁.mono (Z' := addZ Z₁ h₁.objs.size (tupObj va)) addZ_le (List.prefix_refl _)
  refine putL_run (PA := fun ρ₂ μ₂ => P .nxt ρ₂ μ₂) hp (fun x hm => hx x (List.mem_reverse.mp hm)) hs' T₃ (RepVs.rev r₃) p fun h₂ tk₂ Z₂ Of₂ Or₂ ra₂ ρ₂ μ₂ p₂ z₂ pr₂ T₂ => ?_
  exact g h₂ tk₂ Z₂ Of₂ Or₂ ra₂ .next .nxt ρ₂ μ₂ p₂ ((z₁.trans addZ_le).trans z₂) (pr₁.trans pr₂) T₂ trivial
/-- a name's own thing becomes data -/
theorem Put.same {x : Str} {v : V} : ∀ {ρ : Rho}, ρ.lookup x = some v → True := fun _ => trivial
theorem exs_still {st : List Stmt} {x : Str} {i : Nat} {c : Cell} {d : D} {ρ' : Rho} (hx : ρ.lookup x = some (.own i)) (hc : μ[i]? = some c) (hd : (∃ xs, c = .lst xs ∧ d = .lst xs) ∨ ∃ es, c = .dct es ∧ d = .dct es) (hp : Put x (.d d) ρ ρ')
    (h : Exs X n S st ρ' (μ.set i .dead) P) : Exs X n S st ρ μ P := by
  intro A env s Z Of Or K ra Q E hA hs T g
  obtain ⟨a, ha, cr⟩ := T.bs.cell i c hc
  obtain ⟨o, ho, hr⟩ : ∃ o, Or a = some o ∧ RepD X (addZ Z a o) (.ref a) d := by
    rcases hd with ⟨xs, rfl, rfl⟩ | ⟨es, rfl, rfl⟩
    · obtain ⟨vs, m, e, q⟩ := cr
      exact ⟨_, e, .lst addZ_new (q.mono addZ_le)⟩
    · obtain ⟨o, kvs, e, i, k, q⟩ := cr
      exact ⟨o, e, .dct addZ_new (ne_sm T.bs e) i k (q.mono addZ_le)⟩
  have B := T.bs.still ha ho
  refine h A env s (addZ Z a o) Of (Or.del a) K ra Q E hA hs ⟨B, T.fk, ?_⟩ (g.later (h₁ := s.heap) (tk₁ := s.toks) addZ_le (List.prefix_refl _))
  have F := T.fr.mono (addZ_le (a := a) (o := o)) (List.prefix_refl ra)
  obtain ⟨oL, m, f1, f2, f3⟩ := F.loc
  refine ⟨F.kind, F.glob, F.bs, ⟨oL, m, f1, f2, fun y v hy => ?_⟩, F.own, F.inj, F.cl⟩
  rw [hp.look] at hy
  by_cases w : y = x
  · subst w
    rw [if_pos rfl] at hy; cases hy
    rcases f3 y _ hx with ⟨k1, val, k2, b, k3, k4⟩ | ⟨k1, c', oc, val, k2, k3, k4, b, k5, k6⟩
    · rw [ha] at k4; cases k4; subst k3
      exact .inl ⟨k1, _, k2, hr⟩
    · rw [ha] at k6; cases k6; subst k5
      exact .inr ⟨k1, c', oc, _, k2, k3, k4, hr⟩
  · rw [if_neg w] at hy
    exact f3 y v hy
end
/-- what an iterator hands out, and that it disturbs its own objects alone -/
noncomputable def Iter (X : Cx) (A : Around) (tgt : Expr) (it : Value) (fr : List Addr) : List D → Fz → Heap → Prop
  | [], Z, h => ∀ (s : Shared) (Q : Option Value → Shared → Prop) (E : Value → Shared → Prop), (∀ b ∈ fr, ∀ o, h.get? b = some o → s.heap.get? b = some o) → (∀ a o, Z a o → s.heap.get? a = some o) →
      (∀ h' tk, (∀ b o, b ∉ fr → s.heap.get? b = some o → h'.get? b = some o) → Q none { s with heap := h', toks := tk }) → wpAny X.M A (pyNext it) Q E s
  | x :: xs, Z, h => ∀ (s : Shared) (Q : Option Value → Shared → Prop) (E : Value → Shared → Prop), (∀ b ∈ fr, ∀ o, h.get? b = some o → s.heap.get? b = some o) → (∀ a o, Z a o → s.heap.get? a = some o) →
      (∀ v h' tk, (∀ (s' : Shared) (Q' : Unit → Shared → Prop) (E' : Value → Shared → Prop), s'.heap = h' →
          (∀ h'' tk' Z', Le Z Z' → (∀ a o, Z' a o → Z a o ∨ s.heap.get? a = none) → (∀ a o, Z' a o → h''.get? a = some o) → (∀ b o, b ∉ fr → s.heap.get? b = some o → h''.get? b = some o) → (∀ b ∈ fr, ∃ o, h''.get? b = some o) →
            RepD X Z' v x → Iter X A tgt it fr xs Z' h'' → Q' () { s' with heap := h'', toks := tk' }) → wpAny X.M A (letOwnedTupleGo tgt it v) Q' E' s') → Q (some v) { s with heap := h', toks := tk }) → wpAny X.M A (pyNext it) Q E s
inductive Tgt : Expr → Prop where
  | name (x : Str) (p : Pos) : Tgt (.Name x p)
  | tup (es : List Expr) (k : Nat) (p : Pos) : Tgt (.Tuple es k p)
section
variable {X : Cx} {n : Nat} {S : Sc} {env : Env} {oc : List Str} {Z : Fz} {Of Or K : Own} {ra : List Addr} {ρ : Rho} {μ : Mem} {h h' : Heap} {P : Fl → Rho → Mem → Prop} {PA : Rho → Mem → Prop} {A : Around} {tgt : Expr}
theorem go_plain {E : Value → Shared → Prop} {s : Shared} {I : Addr} {o : Obj} {ty : String} {fs : Array Value} {v : Value} {Q : Unit → Shared → Prop} (ht : Tgt tgt) (ho : s.heap.get? I = some o) (hc : o.cls = .type ty) (hd : o.data = .fields fs)
    (hn : (["enumerate", "zip", "dict_itemiterator", "dict_reverseitemiterator", "odict_iterator", "itertools.zip_longest", "itertools.pairwise"].contains ty) = false) (hQ : Q () s) : wpAny X.M A (letOwnedTupleGo tgt (.ref I) v) Q E s := by
  cases ht with
  | name x p => exact wpAny_pure hQ
  | tup es k p =>
    unfold letOwnedTupleGo
    cases v with
    | ref T =>
      refine wpAny_bind (wpAny_load ho ?_)
      rw [hc, hd]
      show wpAny _ A (if (_ && _) = true then _ else _) Q E s
      rw [hn]
      rw [if_neg (by rw [Bool.false_and]; exact Bool.false_ne_true)]
      exact wpAny_pure hQ
    | _ => exact wpAny_pure hQ
theorem iter_list (hh : A.handled = none) (ht : Tgt tgt) {I a : Addr} {vs : List Value} {m : Nat} {ds : List D} (hz : Z a (lstObj vs m)) (r : RepAll X Z vs ds) (hI : ∀ p, ¬ Z I p) : ∀ (k i : Nat) (h : Heap), ds.length - i = k → i ≤ ds.length → h.IsListIter I a i →
    Iter X A tgt (.ref I) [I] (ds.drop i) Z h := by
  have hne : a ≠ I := fun e => hI _ (e ▸ hz)
  intro k
  induction k with
  | zero =>
    intro i h hk hi hit
    rw [List.drop_eq_nil_of_le (by omega)]
    intro s Q E hp hzs hQ
    have hit' : s.heap.IsListIter I a i := hit.at fun o e => hp I (.head _) o e
    refine wpAny_pyNext_list_end hh hit' (isList_of (hzs _ _ hz)) (by rw [List.getElem?_toArray, List.getElem?_eq_none_iff, r.length]; omega) fun h' he => ?_
    exact hQ h' s.toks fun b o hb e => he b o (fun w => hb (by simp [w])) e
  | succ k ih =>
    intro i h hk hi hit
    have hlt : i < ds.length := by omega
    rw [List.drop_eq_getElem_cons hlt]
    intro s Q E hp hzs hQ
    have hit' : s.heap.IsListIter I a i := hit.at fun o e => hp I (.head _) o e
    obtain ⟨v, e1, r1⟩ := r.get (List.getElem?_eq_getElem hlt)
    refine wpAny_pyNext_list_item hit' (isList_of (hzs _ _ hz)) (by rw [List.getElem?_toArray]; exact e1) fun h₁ hit₁ hs₁ => ?_
    refine hQ v h₁ s.toks fun s' Q' E' hs' hQ' => ?_
    subst hs'
    obtain ⟨o, ho, hc, hd⟩ := id hit₁
    refine go_plain ht ho hc hd (by decide) ?_
    refine hQ' s'.heap s'.toks Z Le.refl (fun a o z => .inl z) (fun b p z => (hs₁.2 b (fun w => hI p (w ▸ z))).trans (hzs _ _ z)) (fun b o hb e => (hs₁.2 b (by simpa using hb)).trans e) (fun b hb => by rw [List.mem_singleton.mp hb]; exact ⟨o, ho⟩) r1 ?_
    exact ih (i + 1) s'.heap (by omega) hlt hit₁
theorem iter_tuple (hh : A.handled = none) (ht : Tgt tgt) {I a : Addr} {vs : List Value} {m : Nat} {ds : List D} (hz : Z a (tupObj vs m)) (r : RepAll X Z vs ds) (hI : ∀ p, ¬ Z I p) : ∀ (k i : Nat) (h : Heap), ds.length - i = k → i ≤ ds.length → h.IsTupleIter I a i →
    Iter X A tgt (.ref I) [I] (ds.drop i) Z h := by
  have hne : a ≠ I := fun e => hI _ (e ▸ hz)
  have it : ∀ {h : Heap}, h.get? a = some (tupObj vs m) → h.IsTuple a vs.toArray := fun e => ⟨_, e, rfl, m, rfl⟩
  intro k
  induction k with
  | zero =>
    intro i h hk hi hit
    rw [List.drop_eq_nil_of_le (by omega)]
    intro s Q E hp hzs hQ
    have hit' : s.heap.IsTupleIter I a i := hit.at fun o e => hp I (.head _) o e
    refine (Walks.tuple (prog := X.prog) (w := X.w) hh I a hne vs.toArray).done s Q E ?_ fun h' tk hk => hQ h' tk hk
    have : i = vs.toArray.size := by rw [List.size_toArray, r.length]; omega
    exact ⟨this ▸ hit', it (hzs _ _ hz)⟩
  | succ k ih =>
    intro i h hk hi hit
    have hlt : i < ds.length := by omega
    rw [List.drop_eq_getElem_cons hlt]
    intro s Q E hp hzs hQ
    have hit' : s.heap.IsTupleIter I a i := hit.at fun o e => hp I (.head _) o e
    obtain ⟨v, e1, r1⟩ := r.get (List.getElem?_eq_getElem hlt)
    refine (Walks.tuple (prog := X.prog) (w := X.w) hh I a hne vs.toArray).item i s Q E (by rw [List.size_toArray, r.length]; exact hlt) ⟨hit', it (hzs _ _ hz)⟩ fun v' h₁ tk₁ hv hst₁ hs₁ => ?_
    have hv : vs.toArray[i]? = some v' := hv
    rw [List.getElem?_toArray, e1] at hv; cases hv
    refine hQ v h₁ tk₁ fun s' Q' E' hs' hQ' => ?_
    subst hs'
    obtain ⟨o, ho, hc, hd⟩ := id hst₁.1
    refine go_plain ht ho hc hd (by decide) ?_
    refine hQ' s'.heap s'.toks Z Le.refl (fun a o z => .inl z) (fun b p z => hs₁ b p (fun w => hI p ((List.mem_singleton.mp w) ▸ z)) (hzs _ _ z)) (fun b o hb e => hs₁ b o hb e) (fun b hb => by rw [List.mem_singleton.mp hb]; exact ⟨o, ho⟩) r1 ?_
    exact ih (i + 1) s'.heap (by omega) hlt hst₁.1
noncomputable def rangeD (a : Int) (n : Nat) : List D := (List.range n).map fun (i : Nat) => D.int (a + (i : Int))
theorem rangeD_succ (a : Int) (n : Nat) : rangeD a (n + 1) = D.int a :: rangeD (a + 1) n := by
  unfold rangeD
  rw [List.range_succ_eq_map, List.map_cons, List.map_map]
  refine congr (congrArg List.cons (by simp)) ?_
  apply List.map_congr_left
  intro i _
  show D.int (a + ((i + 1 : Nat) : Int)) = D.int (a + 1 + (i : Int))
  congr 1; omega
theorem iter_range (hh : A.handled = none) (ht : Tgt tgt) {I : Addr} (hI : ∀ p, ¬ Z I p) : ∀ (k : Nat) (a : Int) (h : Heap), IsRangeIter h I a (k : Int) 1 → Iter X A tgt (.ref I) [I] (rangeD a k) Z h := by
  intro k
  induction k with
  | zero =>
    intro a h hit
    show Iter X A tgt (.ref I) [I] [] Z h
    intro s Q E hp hzs hQ
    refine wpAny_pyNext_range_end hh (hp I (.head _) _ hit) (by decide) fun h' he => ?_
    exact hQ h' s.toks fun b o hb e => he b o (fun w => hb (by simp [w])) e
  | succ k ih =>
    intro a h hit
    rw [rangeD_succ]
    intro s Q E hp hzs hQ
    refine wpAny_pyNext_range_item (hp I (.head _) _ hit) (by omega) fun h₁ hit₁ hs₁ => ?_
    refine hQ (.int a s.toks) h₁ _ fun s' Q' E' hs' hQ' => ?_
    subst hs'
    refine go_plain ht hit₁ rfl rfl (by decide) ?_
    refine hQ' s'.heap s'.toks Z Le.refl (fun a o z => .inl z) (fun b p z => (hs₁.2 b (fun w => hI p (w ▸ z))).trans (hzs _ _ z)) (fun b o hb e => (hs₁.2 b (by simpa using hb)).trans e) (fun b hb => by rw [List.mem_singleton.mp hb]; exact ⟨_, hit₁⟩) (.int a _) ?_
    refine ih (a + 1) s'.heap ?_
    have : ((k + 1 : Nat) : Int) - 1 = (k : Int) := by omega
    rw [this] at hit₁; exact hit₁
theorem rangeSize_nat {a b : Int} (hab : a ≤ b) : Builtin.Range.rangeSize a b 1 = ((b - a).toNat : Int) := by
  rw [rangeSize_one]
  split <;> omega
theorem iter_zip (hh : A.handled = none) {es : List Expr} {ek : Nat} {ep : Pos} {z TI TO i1 i2 l1 l2 : Addr} {vs ws : List Value} {m1 m2 : Nat} {xs ys : List D} (D : ZipApart z TI TO i1 i2 l1 l2) (hz1 : Z l1 (lstObj vs m1)) (r1 : RepAll X Z vs xs) (hz2 : Z l2 (lstObj ws m2)) (r2 : RepAll X Z ws ys)
    (hfr : ∀ b ∈ [z, TI, TO, i1, i2], ∀ p, ¬ Z b p) : ∀ (k i : Nat) (Z' : Fz) (h : Heap), min xs.length ys.length - i = k → i ≤ min xs.length ys.length → Le Z Z' → (∀ b ∈ [z, TI, TO, i1, i2], ∀ p, ¬ Z' b p) →
      IsZip h z TI TO .none → IsPair h TI (.ref i1) (.ref i2) → (∃ a b, IsPair h TO a b) → h.IsListIter i1 l1 i → h.IsListIter i2 l2 i →
      Iter X A (.Tuple es ek ep) (.ref z) [z, TI, TO, i1, i2] (((xs.zip ys).map fun p => Mine.D.tup [p.1, p.2]).drop i) Z' h := by
  intro k
  induction k with
  | zero =>
    intro i Z' h hk hi hle hf hz hTI hTO h1 h2
    rw [List.drop_eq_nil_of_le (by rw [List.length_map, List.length_zip]; omega)]
    intro s Q E hp hzs hQ
    obtain ⟨a, b, hTO⟩ := hTO
    refine wpAny_pyNext_zip_end hh D (hp z (by simp) _ hz) (hp TI (by simp) _ hTI) (hp TO (by simp) _ hTO) (h1.at fun o e => hp i1 (by simp) o e) (h2.at fun o e => hp i2 (by simp) o e) (isList_of (hzs _ _ (hle _ _ hz1))) (isList_of (hzs _ _ (hle _ _ hz2))) ?_ fun h' hk' => hQ h' s.toks fun b o hb e => hk' b o ?_ ?_ ?_ ?_ e
    · have l1 := r1.length
      have l2 := r2.length
      by_cases q : xs.length ≤ ys.length
      · exact .inl (by rw [List.getElem?_toArray, List.getElem?_eq_none_iff]; omega)
      · exact .inr (by rw [List.getElem?_toArray, List.getElem?_eq_none_iff]; omega)
    all_goals (intro w; exact hb (by simp [w]))
  | succ k ih =>
    intro i Z' h hk hi hle hf hz hTI hTO h1 h2
    have hx : i < xs.length := by omega
    have hy : i < ys.length := by omega
    have hlt : i < ((xs.zip ys).map fun p => Mine.D.tup [p.1, p.2]).length := by rw [List.length_map, List.length_zip]; omega
    rw [List.drop_eq_getElem_cons hlt]
    intro s Q E hp hzs hQ
    obtain ⟨a, b, hTO⟩ := hTO
    obtain ⟨v, e1, q1⟩ := r1.get (List.getElem?_eq_getElem hx)
    obtain ⟨u, e2, q2⟩ := r2.get (List.getElem?_eq_getElem hy)
    refine wpAny_pyNext_zip_item D (hp z (by simp) _ hz) (hp TI (by simp) _ hTI) (hp TO (by simp) _ hTO) (h1.at fun o e => hp i1 (by simp) o e) (h2.at fun o e => hp i2 (by simp) o e) (isList_of (hzs _ _ (hle _ _ hz1))) (isList_of (hzs _ _ (hle _ _ hz2)))
      (x := v) (y := u) (by rw [List.getElem?_toArray]; exact e1) (by rw [List.getElem?_toArray]; exact e2) fun h₁ a1 a2 a3 a4 a5 a6 a7 => ?_
    refine hQ _ h₁ s.toks fun s' Q' E' hs' hQ' => ?_
    subst hs'
    refine wpAny_letOwnedTupleGo_zip a1 fun h₂ b1 hs₂ => ?_
    have lt : ∀ {c o}, s.heap.get? c = some o → s.heap.objs.size ≠ c := fun e => Nat.ne_of_gt (Heap.lt_size e)
    have gz := hp z (by simp) _ hz
    have gTI := hp TI (by simp) _ hTI
    have gTO := hp TO (by simp) _ hTO
    have c5 : h₂.get? s.heap.objs.size = some (tupObj [v, u]) := (hs₂.2 _ (lt gz)).trans a5
    have keep : ∀ b o, b ∉ [z, TI, TO, i1, i2] → s.heap.get? b = some o → h₂.get? b = some o := fun b o hb e =>
      (hs₂.2 b (fun w => hb (by simp [w]))).trans (a7 b o (fun w => hb (by simp [w])) (fun w => hb (by simp [w])) (fun w => hb (by simp [w])) (fun w => hb (by simp [w])) e)
    have new : ∀ b ∈ [z, TI, TO, i1, i2], b ≠ s.heap.objs.size := by
      intro b hb
      have : ∃ o, s.heap.get? b = some o := by
        simp only [List.mem_cons, List.not_mem_nil, or_false] at hb
        rcases hb with rfl | rfl | rfl | rfl | rfl
        · exact ⟨_, gz⟩
        · exact ⟨_, gTI⟩
        · exact ⟨_, gTO⟩
        · obtain ⟨o, e, _⟩ := h1; exact ⟨o, hp _ (by simp) o e⟩
        · obtain ⟨o, e, _⟩ := h2; exact ⟨o, hp _ (by simp) o e⟩
      obtain ⟨o, e⟩ := this
      exact (lt e).symm
    have hTI2 : IsPair h₂ TI (.ref i1) (.ref i2) := (hs₂.2 TI D.TIz).trans (a7 TI _ D.TIz D.TITO D.TIi1 D.TIi2 gTI)
    have hTO2 : IsPair h₂ TO v u := (hs₂.2 TO D.TOz).trans a2
    have h12 : h₂.IsListIter i1 l1 (i + 1) := a3.at fun o e => (hs₂.2 i1 D.i1z).trans e
    have h22 : h₂.IsListIter i2 l2 (i + 1) := a4.at fun o e => (hs₂.2 i2 D.i2z).trans e
    have nz : ∀ b ∈ [z, TI, TO, i1, i2], ∀ p, ¬ addZ Z' s.heap.objs.size (tupObj [v, u]) b p := by
      intro b hb p hz'
      rcases hz' with hz' | ⟨w, _⟩
      · exact hf b hb p hz'
      · exact new b hb w
    refine hQ' h₂ s'.toks (addZ Z' s.heap.objs.size (tupObj [v, u])) addZ_le ?_ ?_ keep ?_ ?_ ?_
    · rintro b p (q | ⟨rfl, rfl⟩)
      · exact .inl q
      · exact .inr (size_none _)
    · rintro b p (q | ⟨rfl, rfl⟩)
      · exact keep b p (fun hb => hf b hb p q) (hzs b p q)
      · exact c5
    · intro b hb
      simp only [List.mem_cons, List.not_mem_nil, or_false] at hb
      rcases hb with rfl | rfl | rfl | rfl | rfl
      · exact ⟨_, b1⟩
      · exact ⟨_, hTI2⟩
      · exact ⟨_, hTO2⟩
      · obtain ⟨o, e, _⟩ := h12; exact ⟨o, e⟩
      · obtain ⟨o, e, _⟩ := h22; exact ⟨o, e⟩
    · rw [List.getElem_map, List.getElem_zip]
      exact .tup addZ_new (.cons ((q1.mono hle).mono addZ_le) (.cons ((q2.mono hle).mono addZ_le) .nil))
    · exact ih (i + 1) _ h₂ (by omega) (by omega) (hle.trans addZ_le) nz b1 hTI2 ⟨_, _, hTO2⟩ h12 h22
noncomputable def enumD (i : Nat) : List D → List D
  | [] => []
  | x :: xs => .tup [.int i, x] :: enumD (i + 1) xs
theorem iter_enum (hh : A.handled = none) {es : List Expr} {ek : Nat} {ep : Pos} {e it l : Addr} {vs : List Value} {m : Nat} {xs : List D} (hei : e ≠ it) (hle' : l ≠ e) (hli : l ≠ it) (hz1 : Z l (lstObj vs m)) (r1 : RepAll X Z vs xs) : ∀ (k i : Nat) (Z' : Fz) (h : Heap), xs.length - i = k → i ≤ xs.length → Le Z Z' → (∀ b ∈ [e, it], ∀ p, ¬ Z' b p) →
      (∃ old, IsEnum h e it i old) → h.IsListIter it l i → Iter X A (.Tuple es ek ep) (.ref e) [e, it] (enumD i (xs.drop i)) Z' h := by
  intro k
  induction k with
  | zero =>
    intro i Z' h hk hi hle hf he hit
    rw [List.drop_eq_nil_of_le (by omega)]
    intro s Q E hp hzs hQ
    obtain ⟨old, he⟩ := he
    refine wpAny_pyNext_enum_end hh (hp e (by simp) _ he) (hit.at fun o e => hp it (by simp) o e) (isList_of (hzs _ _ (hle _ _ hz1))) (by rw [List.getElem?_toArray, List.getElem?_eq_none_iff, r1.length]; omega) fun h' hk' => hQ h' s.toks fun b o hb e' => hk' b o (fun w => hb (by simp [w])) e'
  | succ k ih =>
    intro i Z' h hk hi hle hf he hit
    have hx : i < xs.length := by omega
    rw [List.drop_eq_getElem_cons hx]
    intro s Q E hp hzs hQ
    obtain ⟨old, he⟩ := he
    obtain ⟨v, e1, q1⟩ := r1.get (List.getElem?_eq_getElem hx)
    have ge := hp e (by simp) _ he
    refine wpAny_pyNext_enum_item ge (hit.at fun o e => hp it (by simp) o e) (isList_of (hzs _ _ (hle _ _ hz1))) (x := v) (by rw [List.getElem?_toArray]; exact e1) hei fun h₁ a1 a2 a3 a4 a5 => ?_
    refine hQ _ h₁ _ fun s' Q' E' hs' hQ' => ?_
    subst hs'
    refine wpAny_letOwnedTupleGo_enum a1 fun h₂ b1 hs₂ => ?_
    have lt : ∀ {c o}, s.heap.get? c = some o → s.heap.objs.size ≠ c := fun e => Nat.ne_of_gt (Heap.lt_size e)
    have c5 : h₂.get? s.heap.objs.size = some (tupObj [.int i s.toks, v]) := (hs₂.2 _ (lt ge)).trans a3
    have keep : ∀ b o, b ∉ [e, it] → s.heap.get? b = some o → h₂.get? b = some o := fun b o hb e' =>
      (hs₂.2 b (fun w => hb (by simp [w]))).trans (a5 b o (fun w => hb (by simp [w])) (fun w => hb (by simp [w])) e')
    have new : ∀ b ∈ [e, it], b ≠ s.heap.objs.size := by
      intro b hb
      have : ∃ o, s.heap.get? b = some o := by
        simp only [List.mem_cons, List.not_mem_nil, or_false] at hb
        rcases hb with rfl | rfl
        · exact ⟨_, ge⟩
        · obtain ⟨o, e', _⟩ := hit; exact ⟨o, hp _ (by simp) o e'⟩
      obtain ⟨o, e⟩ := this
      exact (lt e).symm
    have h12 : h₂.IsListIter it l (i + 1) := a2.at fun o e' => (hs₂.2 it hei.symm).trans e'
    have nz : ∀ b ∈ [e, it], ∀ p, ¬ addZ Z' s.heap.objs.size (tupObj [.int i s.toks, v]) b p := by
      intro b hb p hz'
      rcases hz' with hz' | ⟨w, _⟩
      · exact hf b hb p hz'
      · exact new b hb w
    refine hQ' h₂ s'.toks (addZ Z' s.heap.objs.size (tupObj [.int i s.toks, v])) addZ_le ?_ ?_ keep ?_ ?_ ?_
    · rintro b p (q | ⟨rfl, rfl⟩)
      · exact .inl q
      · exact .inr (size_none _)
    · rintro b p (q | ⟨rfl, rfl⟩)
      · exact keep b p (fun hb => hf b hb p q) (hzs b p q)
      · exact c5
    · intro b hb
      simp only [List.mem_cons, List.not_mem_nil, or_false] at hb
      rcases hb with rfl | rfl
      · exact ⟨_, b1⟩
      · obtain ⟨o, e', _⟩ := h12; exact ⟨o, e'⟩
    · exact .tup addZ_new (.cons (.int i _) (.cons ((q1.mono hle).mono addZ_le) .nil))
    · exact ih (i + 1) _ h₂ (by omega) (by omega) (hle.trans addZ_le) nz ⟨v, b1⟩ h12
theorem iter_dict (hh : A.handled = none) (ht : Tgt tgt) {I a : Addr} {o : Obj} {kvs : List (Int × Value)} {es : List (Int × D)} {ep : Nat} (hz : Z a o) (hd : ∀ h : Heap, h.get? a = some o → h.DictAt (intKind X.prog X.w) a kvs ep) (hk : kvs.map (·.1) = es.map (·.1)) (hI : ∀ p, ¬ Z I p) :
    ∀ (k i : Nat) (h : Heap), es.length - i = k → i ≤ es.length → h.IsKeyIter I a i kvs.length ep → Iter X A tgt (.ref I) [I] ((es.map fun kv => D.int kv.1).drop i) Z h := by
  have hl : kvs.length = es.length := by rw [← List.length_map (f := (·.1)), hk, List.length_map]
  intro k
  induction k with
  | zero =>
    intro i h hk' hi hit
    rw [List.drop_eq_nil_of_le (by rw [List.length_map]; omega)]
    intro s Q E hp hzs hQ
    have hit' : s.heap.IsKeyIter I a i kvs.length ep := let ⟨o, e, r⟩ := hit; ⟨o, hp I (.head _) o e, r⟩
    refine wpAny_pyNext_dict_end hh hit' (hd _ (hzs _ _ hz)) (by rw [List.getElem?_eq_none_iff]; omega) fun h' he => ?_
    exact hQ h' s.toks fun b o hb e => he b o (fun w => hb (by simp [w])) e
  | succ k ih =>
    intro i h hk' hi hit
    have hlt : i < (es.map fun kv => D.int kv.1).length := by rw [List.length_map]; omega
    rw [List.drop_eq_getElem_cons hlt]
    intro s Q E hp hzs hQ
    have hit' : s.heap.IsKeyIter I a i kvs.length ep := let ⟨o, e, r⟩ := hit; ⟨o, hp I (.head _) o e, r⟩
    have hi2 : i < kvs.length := by omega
    have hi3 : i < es.length := by omega
    refine wpAny_pyNext_dict_item (k := kvs[i].1) (v := kvs[i].2) hit' (hd _ (hzs _ _ hz)) (List.getElem?_eq_getElem hi2) fun key h₁ hkey hit₁ hs₁ => ?_
    refine hQ key h₁ s.toks fun s' Q' E' hs' hQ' => ?_
    subst hs'
    obtain ⟨o₁, ho, hc, hd₁⟩ := id hit₁
    refine go_plain ht ho hc hd₁ (by decide) ?_
    refine hQ' s'.heap s'.toks Z Le.refl (fun a o z => .inl z) (fun b p z => (hs₁.2 b (fun w => hI p (w ▸ z))).trans (hzs _ _ z)) (fun b o hb e => (hs₁.2 b (by simpa using hb)).trans e) (fun b hb => by rw [List.mem_singleton.mp hb]; exact ⟨o₁, ho⟩) ?_ ?_
    · obtain ⟨t, rfl⟩ := Value.isInt_shape hkey
      rw [List.getElem_map]
      have : kvs[i].1 = es[i].1 := by
        have e := congrArg (·[i]?) hk
        simp only [List.getElem?_map, List.getElem?_eq_getElem hi2, List.getElem?_eq_getElem hi3, Option.map_some] at e
        exact Option.some.inj e
      rw [← this]
      exact .int _ _
    · exact ih (i + 1) s'.heap (by omega) (by omega) hit₁
end
noncomputable def snap (K : Own) (fr : List Addr) (h : Heap) : Own := fun a => if a ∈ fr then h.get? a else K a
/-- an iterator's iterator is itself -/
noncomputable def Slf (X : Cx) (A : Around) (it : Value) (fr : List Addr) (h : Heap) : Prop := ∀ (s : Shared) (Q : Value → Shared → Prop) (E : Value → Shared → Prop), (∀ b ∈ fr, ∀ o, h.get? b = some o → s.heap.get? b = some o) → Q it s → wpAny X.M A (pyIter it) Q E s
noncomputable def EvIt (X : Cx) (n : Nat) (S : Sc) (iter tgt : Expr) (ρ : Rho) (μ : Mem) (P : List D → Mem → Prop) : Prop :=
  ∀ (A : Around) (env : Env) (s : Shared) (Z : Fz) (Of Or K : Own) (ra : List Addr) (Q : Value → Shared → Prop) (E : Value → Shared → Prop),
    AOK A n → env.scope = S.sc → St X env S.oc Z Of Or K ra ρ μ s.heap →
    (∀ h' tk Z' Or' ra' it fr xs μ', P xs μ' → Le Z Z' → ra <+: ra' → St X env S.oc Z' Of Or' K ra' ρ μ' h' → (∀ b ∈ fr, (∃ o, h'.get? b = some o) ∧ (∀ p, ¬ Z' b p) ∧ Or' b = none ∧ Of b = none ∧ K b = none) →
      Iter X A tgt it fr xs Z' h' → Slf X A it fr h' → Q it { s with heap := h', toks := tk }) →
    wpAny X.M A (eval iter env) (fun x s₁ => wpAny X.M A (pyIter x) Q E s₁) E s
section
variable {X : Cx} {n : Nat} {S : Sc} {env : Env} {oc : List Str} {Z : Fz} {Of Or K : Own} {ra : List Addr} {ρ : Rho} {μ : Mem} {h h' : Heap} {P : Fl → Rho → Mem → Prop} {PA : Rho → Mem → Prop} {PI : List D → Mem → Prop} {A : Around} {tgt iter : Expr}
theorem St.freshF (T : St X env oc Z Of Or K ra ρ μ h) {b : Addr} (hb : h.get? b = none) : (∀ p, ¬ Z b p) ∧ Or b = none ∧ Of b = none ∧ K b = none := by
  obtain ⟨f1, f2, f3⟩ := T.bs.fresh hb
  obtain ⟨f4, f5⟩ := Own.join_none.mp f2
  exact ⟨f3, f1, f4, f5⟩
theorem evit_lst (ht : Tgt tgt) (hv : Ev X n S iter ρ μ fun v μ₁ => ∃ ds, v = .d (.lst ds) ∧ PI ds μ₁) : EvIt X n S iter tgt ρ μ PI := by
  intro A env s Z Of Or K ra Q E hA hs T g
  refine hv A env s Z Of Or K ra _ E hA hs T fun h₁ tk₁ Z₁ Or₁ ra₁ va a μ₁ p₁ z₁ pr₁ T₁ r₁ => ?_
  obtain ⟨ds, rfl, p⟩ := p₁
  obtain ⟨l, vs, m, rfl, z, q⟩ := RepD.lst_inv r₁
  refine wpAny_pyIter_list (isList_of (T₁.bs.z _ _ z)) ?_
  have F := T₁.freshF (size_none h₁)
  have T₂ := T₁.grow (h' := h₁.push { cls := .type "list_iterator", data := .fields #[.ref l, .int 0 0] }) fun _ _ e => Heap.get?_push_of_some _ e
  have e2 : (h₁.push { cls := .type "list_iterator", data := .fields #[.ref l, .int 0 0] }).get? h₁.objs.size = some { cls := .type "list_iterator", data := .fields #[.ref l, .int 0 0] } := Heap.get?_push_size _ rfl
  refine g _ tk₁ Z₁ Or₁ ra₁ _ [h₁.objs.size] ds μ₁ p z₁ pr₁ T₂ (fun b hb => ?_) ?_ (fun s' Q' E' hp q => wpAny_pyIter_listiter (i := 0) ⟨_, hp _ (.head _) _ e2, rfl, rfl⟩ q)
  · rw [List.mem_singleton.mp hb]; exact ⟨⟨_, e2⟩, F⟩
  · have := iter_list (X := X) (A := A) (tgt := tgt) hA.hd ht z q F.1 _ 0 _ rfl (Nat.zero_le _) ⟨_, e2, rfl, rfl⟩
    rwa [List.drop_zero] at this
theorem evit_tup (ht : Tgt tgt) (hv : Ev X n S iter ρ μ fun v μ₁ => ∃ ds, v = .d (.tup ds) ∧ PI ds μ₁) : EvIt X n S iter tgt ρ μ PI := by
  intro A env s Z Of Or K ra Q E hA hs T g
  refine hv A env s Z Of Or K ra _ E hA hs T fun h₁ tk₁ Z₁ Or₁ ra₁ va a μ₁ p₁ z₁ pr₁ T₁ r₁ => ?_
  obtain ⟨ds, rfl, p⟩ := p₁
  obtain ⟨l, vs, m, rfl, z, q⟩ := RepD.tup_inv r₁
  refine wpAny_pyIter_tuple (items := vs.toArray) ⟨_, T₁.bs.z _ _ z, rfl, m, rfl⟩ ?_
  have F := T₁.freshF (size_none h₁)
  have T₂ := T₁.grow (h' := h₁.push { cls := .type "tuple_iterator", data := .fields #[.ref l, .int 0 0] }) fun _ _ e => Heap.get?_push_of_some _ e
  have e2 : (h₁.push { cls := .type "tuple_iterator", data := .fields #[.ref l, .int 0 0] }).get? h₁.objs.size = some { cls := .type "tuple_iterator", data := .fields #[.ref l, .int 0 0] } := Heap.get?_push_size _ rfl
  refine g _ tk₁ Z₁ Or₁ ra₁ _ [h₁.objs.size] ds μ₁ p z₁ pr₁ T₂ (fun b hb => ?_) ?_ (fun s' Q' E' hp q => wpAny_pyIter_tupleiter (i := 0) ⟨_, hp _ (.head _) _ e2, rfl, rfl⟩ q)
  · rw [List.mem_singleton.mp hb]; exact ⟨⟨_, e2⟩, F⟩
  · have := iter_tuple (X := X) (A := A) (tgt := tgt) hA.hd ht z q F.1 _ 0 _ rfl (Nat.zero_le _) ⟨_, e2, rfl, rfl⟩
    rwa [List.drop_zero] at this
theorem evit_dct (ht : Tgt tgt) (hv : Ev X n S iter ρ μ fun v μ₁ => ∃ es, v = .d (.dct es) ∧ PI (es.map fun kv => D.int kv.1) μ₁) : EvIt X n S iter tgt ρ μ PI := by
  intro A env s Z Of Or K ra Q E hA hs T g
  refine hv A env s Z Of Or K ra _ E hA hs T fun h₁ tk₁ Z₁ Or₁ ra₁ va a μ₁ p₁ z₁ pr₁ T₁ r₁ => ?_
  obtain ⟨es, rfl, p⟩ := p₁
  cases r₁ with
  | dct z hsm hd hk q =>
    rename_i l o kvs
    obtain ⟨des, ep, d1, d2, d3, d4, d5⟩ := hd
    have hm : ∀ h : Heap, h.get? l = some o → h.DictAt (intKind X.prog X.w) l kvs ep := fun h e => ⟨o, des, e, d1, d2, d3, d4, d5⟩
    refine wpAny_pyIter_dict hsm (hm _ (T₁.bs.z _ _ z)) ?_
    have F := T₁.freshF (size_none h₁)
    have T₂ := T₁.grow (h' := h₁.push { cls := .type "dict_keyiterator", data := .fields #[.ref l, .int 0 0, .int kvs.length 0, .int ep 0] }) fun _ _ e => Heap.get?_push_of_some _ e
    have e2 : (h₁.push { cls := .type "dict_keyiterator", data := .fields #[.ref l, .int 0 0, .int kvs.length 0, .int ep 0] }).get? h₁.objs.size = some { cls := .type "dict_keyiterator", data := .fields #[.ref l, .int 0 0, .int kvs.length 0, .int ep 0] } := Heap.get?_push_size _ rfl
    refine g _ tk₁ Z₁ Or₁ ra₁ _ [h₁.objs.size] _ μ₁ p z₁ pr₁ T₂ (fun b hb => ?_) ?_ (fun s' Q' E' hp q => wpAny_pyIter_keyiter (i := 0) ⟨_, hp _ (.head _) _ e2, rfl, rfl⟩ q)
    · rw [List.mem_singleton.mp hb]; exact ⟨⟨_, e2⟩, F⟩
    · have := iter_dict (X := X) (A := A) (tgt := tgt) hA.hd ht z hm hk F.1 _ 0 _ rfl (Nat.zero_le _) ⟨_, e2, rfl, rfl⟩
      rwa [List.drop_zero] at this
theorem rangeSize_nat' (a b : Int) : Builtin.Range.rangeSize a b 1 = ((b - a).toNat : Int) := by
  rw [rangeSize_one]
  split <;> omega
theorem range_tail {A : Around} {E : Value → Shared → Prop} {s : Shared} {Q : Value → Shared → Prop} {a b : Int} {t u v : Tok} {r : Addr} (hA : A.handled = none) (ht : Tgt tgt) (T : St X env S.oc Z Of Or K ra ρ μ s.heap) (hr : IsRange s.heap r a b 1 t u v)
    (h1 : -(2 ^ 60) ≤ a ∧ a < 2 ^ 60) (h2 : -(2 ^ 60) ≤ b ∧ b < 2 ^ 60)
    (g : ∀ h' tk Z' Or' ra' it fr xs μ', xs = rangeD a (b - a).toNat → μ' = μ → Le Z Z' → ra <+: ra' → St X env S.oc Z' Of Or' K ra' ρ μ' h' → (∀ b ∈ fr, (∃ o, h'.get? b = some o) ∧ (∀ p, ¬ Z' b p) ∧ Or' b = none ∧ Of b = none ∧ K b = none) →
      Iter X A tgt it fr xs Z' h' → Slf X A it fr h' → Q it { s with heap := h', toks := tk }) : wpAny X.M A (pyIter (.ref r)) Q E s := by
  refine wpAny_pyIter_range hr (small_one (by omega) (by omega) (by omega) (by omega)) ?_
  rw [rangeSize_nat']
  have F := T.freshF (size_none s.heap)
  have T₂ := T.grow (h' := s.heap.push { cls := .type "range_iterator", data := .fields #[rawInt a, rawInt ((b - a).toNat : Int), rawInt 1] }) fun _ _ e => Heap.get?_push_of_some _ e
  have e2 : (s.heap.push { cls := .type "range_iterator", data := .fields #[rawInt a, rawInt ((b - a).toNat : Int), rawInt 1] }).get? s.heap.objs.size = some { cls := .type "range_iterator", data := .fields #[rawInt a, rawInt ((b - a).toNat : Int), rawInt 1] } := Heap.get?_push_size _ rfl
  refine g _ s.toks Z Or ra _ [s.heap.objs.size] _ μ rfl rfl Le.refl (List.prefix_refl _) T₂ (fun b hb => ?_) (iter_range hA ht F.1 _ _ _ e2) (fun s' Q' E' hp q => wpAny_pyIter_rangeiter (hp _ (.head _) _ e2) q)
  rw [List.mem_singleton.mp hb]; exact ⟨⟨_, e2⟩, F⟩
theorem it_ty {g : Str} {p pos : Pos} {e : Expr} {es : List Expr} {ty : String} (hx : S.sc.names.lookup g = some .globalImplicit) (hK : nsIn X.K mainGlobals g = some none) (hn : g ≠ "__name__") (hv : bootBuiltins g = some (.type ty))
    (ha : EvL X n S (e :: es) ρ μ fun vs μ₁ => ∀ (A : Around) (env : Env) (s : Shared) (Z : Fz) (Of Or K : Own) (ra : List Addr) (vals : List Value) (Q : Value → Shared → Prop) (E : Value → Shared → Prop),
      AOK A n → St X env S.oc Z Of Or K ra ρ μ₁ s.heap → RepVs X Z ra vals vs →
      (∀ h' tk Z' Or' ra' it fr xs μ', PI xs μ' → Le Z Z' → ra <+: ra' → St X env S.oc Z' Of Or' K ra' ρ μ' h' → (∀ b ∈ fr, (∃ o, h'.get? b = some o) ∧ (∀ p, ¬ Z' b p) ∧ Or' b = none ∧ Of b = none ∧ K b = none) → Iter X A tgt it fr xs Z' h' → Slf X A it fr h' → Q it { s with heap := h', toks := tk }) →
      wpAny X.M A (call (.type ty) vals) (fun x s₁ => wpAny X.M A (pyIter x) Q E s₁) E s) (hd : (g == ("__debug__" : Str)) = false)
    (he : ∀ env, starEach (e :: es) env = (false, eval e env) :: starEach es env) (hpl : ∀ env, (backTo pos (starEach es env)).any (·.1) = false) : EvIt X n S (.Call (.Name g p) (e :: es) [] pos) tgt ρ μ PI := by
  intro A env s Z Of Or K ra Q E hA hs T q
  refine wpAny_Call_NameR (glob_bi T (by rw [kindOf_def, hs]; exact hx) hd hK hn hv ?_)
  refine PyProof.Rows.callWith_type1 (ha A env s pos Z Of Or K ra _ E hA hs T fun h₁ tk₁ Z₁ Or₁ ra₁ va a μ₁ p₁ z₁ pr₁ T₁ r₁ => ?_) (he env) (hpl env)
  exact p₁ A env _ Z₁ Of Or₁ K ra₁ va Q E hA T₁ r₁ fun h' tk Z' Or' ra' it fr xs μ' p z pr => q h' tk Z' Or' ra' it fr xs μ' p (z₁.trans z) (pr₁.trans pr)
theorem evit_range1 {p pos : Pos} {e : Expr} (ht : Tgt tgt) (hx : S.sc.names.lookup ("range" : Str) = some .globalImplicit) (hK : nsIn X.K mainGlobals "range" = some none)
    (ha : Ev X n S e ρ μ fun v μ₁ => ∃ b, v = .d (.int b) ∧ (-(2 ^ 60) ≤ b ∧ b < 2 ^ 60) ∧ PI (rangeD 0 b.toNat) μ₁)
    (he : ∀ env, starEach [e] env = (false, eval e env) :: starEach [] env := by intro _; rfl) : EvIt X n S (.Call (.Name "range" p) [e] [] pos) tgt ρ μ PI := by
  refine it_ty (ty := "range") hx hK (by decide) (by decide +kernel) (evl_cons (ha.mono fun v μ₁ q => evl_nil ?_) he) rfl he (fun _ => rfl)
  intro A env s Z Of Or K ra vals Q E hA T r g
  obtain ⟨b, rfl, hb, p⟩ := q
  obtain ⟨_, rfl, r0⟩ := r.one_inv
  obtain ⟨tk, rfl⟩ := RepD.int_inv r0
  refine call_range_1 ?_
  have T₂ := T.grow (h' := s.heap.push { cls := .type "range", data := .fields #[.int 0 s.toks, .int b tk, .int 1 (s.toks + 1)] }) fun _ _ e => Heap.get?_push_of_some _ e
  exact range_tail hA.hd ht T₂ (IsRange.new ..) (by decide) hb fun h' tk Z' Or' ra' it fr xs μ' e1 e2 z pr T' hf hi hsl => g h' tk Z' Or' ra' it fr xs μ' (by rw [e1, e2, Int.sub_zero]; exact p) z pr T' hf hi hsl
theorem evit_range2 {p pos : Pos} {e f : Expr} (ht : Tgt tgt) (hx : S.sc.names.lookup ("range" : Str) = some .globalImplicit) (hK : nsIn X.K mainGlobals "range" = some none)
    (ha : Ev X n S e ρ μ fun v μ₁ => ∃ a, v = .d (.int a) ∧ (-(2 ^ 60) ≤ a ∧ a < 2 ^ 60) ∧ Ev X n S f ρ μ₁ fun v μ₂ => ∃ b, v = .d (.int b) ∧ (-(2 ^ 60) ≤ b ∧ b < 2 ^ 60) ∧ PI (rangeD a (b - a).toNat) μ₂)
    (he : ∀ env, starEach [e, f] env = (false, eval e env) :: starEach [f] env := by intro _; rfl) (hf : ∀ env, starEach [f] env = (false, eval f env) :: starEach [] env := by intro _; rfl) : EvIt X n S (.Call (.Name "range" p) [e, f] [] pos) tgt ρ μ PI := by
  refine it_ty (ty := "range") hx hK (by decide) (by decide +kernel) (evl_cons (ha.mono fun v μ₁ q => ?_) he) rfl he (fun env => by rw [hf]; rfl)
  obtain ⟨a, rfl, ha1, q⟩ := q
  refine evl_cons (q.mono fun v μ₁ q => evl_nil ?_) hf
  intro A env s Z Of Or K ra vals Q E hA T r g
  obtain ⟨b, rfl, hb, p⟩ := q
  obtain ⟨_, _, rfl, r0, r1⟩ := r.two_inv
  obtain ⟨tk, rfl⟩ := RepD.int_inv r0; obtain ⟨tk2, rfl⟩ := RepD.int_inv r1
  refine call_range_2 ?_
  have T₂ := T.grow (h' := s.heap.push { cls := .type "range", data := .fields #[.int a tk, .int b tk2, .int 1 s.toks] }) fun _ _ e => Heap.get?_push_of_some _ e
  exact range_tail hA.hd ht T₂ (IsRange.new ..) ha1 hb fun h' tk Z' Or' ra' it fr xs μ' e1 e2 z pr T' hf hi hsl => g h' tk Z' Or' ra' it fr xs μ' (by rw [e1, e2]; exact p) z pr T' hf hi hsl
theorem zip_apart (n a b : Nat) (ha : a < n) (hb : b < n) : ZipApart (n + 4) (n + 2) (n + 3) n (n + 1) a b := by
  constructor <;> (show (_ : Nat) ≠ _; omega)
theorem evit_zip {p pos : Pos} {e f : Expr} {es : List Expr} {ek : Nat} {ep : Pos} (hx : S.sc.names.lookup ("zip" : Str) = some .globalImplicit) (hK : nsIn X.K mainGlobals "zip" = some none)
    (ha : Ev X n S e ρ μ fun v μ₁ => ∃ xs, v = .d (.lst xs) ∧ Ev X n S f ρ μ₁ fun v μ₂ => ∃ ys, v = .d (.lst ys) ∧ PI ((xs.zip ys).map fun p => Mine.D.tup [p.1, p.2]) μ₂)
    (he : ∀ env, starEach [e, f] env = (false, eval e env) :: starEach [f] env := by intro _; rfl) (hf : ∀ env, starEach [f] env = (false, eval f env) :: starEach [] env := by intro _; rfl) : EvIt X n S (.Call (.Name "zip" p) [e, f] [] pos) (.Tuple es ek ep) ρ μ PI := by
  refine it_ty (ty := "zip") hx hK (by decide) (by decide +kernel) (evl_cons (ha.mono fun v μ₁ q => ?_) he) rfl he (fun env => by rw [hf]; rfl)
  obtain ⟨xs, rfl, q⟩ := q
  refine evl_cons (q.mono fun v μ₁ q => evl_nil ?_) hf
  intro A env s Z Of Or K ra vals Q E hA T r g
  obtain ⟨ys, rfl, p⟩ := q
  obtain ⟨_, _, rfl, r0, r1⟩ := r.two_inv
  obtain ⟨l1, vs, m1, rfl, z1, q1⟩ := RepD.lst_inv r0
  obtain ⟨l2, ws, m2, rfl, z2, q2⟩ := RepD.lst_inv r1
  have lt1 := Heap.lt_size (T.bs.z _ _ z1)
  have lt2 := Heap.lt_size (T.bs.z _ _ z2)
  refine call_zip_2 (isList_of (T.bs.z _ _ z1)) (isList_of (T.bs.z _ _ z2)) fun h₁ a1 a2 a3 a4 a5 a6 a7 => ?_
  refine wpAny_pyIter_zip a1 ?_
  have T₂ := T.grow a7
  have nw : ∀ b ∈ [s.heap.objs.size + 4, s.heap.objs.size + 2, s.heap.objs.size + 3, s.heap.objs.size, s.heap.objs.size + 1], s.heap.get? b = none := by
    intro b hb
    simp only [List.mem_cons, List.not_mem_nil, or_false] at hb
    rcases hb with rfl | rfl | rfl | rfl | rfl <;> exact none_ge (by first | exact Nat.le_add_right _ _ | exact Nat.le_refl _)
  refine g h₁ s.toks Z Or ra _ [s.heap.objs.size + 4, s.heap.objs.size + 2, s.heap.objs.size + 3, s.heap.objs.size, s.heap.objs.size + 1] _ _ p Le.refl (List.prefix_refl _) T₂ (fun b hb => ⟨?_, T.freshF (nw b hb)⟩) ?_ (fun s' Q' E' hp q => wpAny_pyIter_zip (hp _ (.head _) _ a1) q)
  · simp only [List.mem_cons, List.not_mem_nil, or_false] at hb
    rcases hb with rfl | rfl | rfl | rfl | rfl
    · exact ⟨_, a1⟩
    · exact ⟨_, a2⟩
    · exact ⟨_, a3⟩
    · obtain ⟨o, e, _⟩ := a4; exact ⟨o, e⟩
    · obtain ⟨o, e, _⟩ := a5; exact ⟨o, e⟩
  · have := iter_zip (X := X) (A := A) (es := es) (ek := ek) (ep := ep) hA.hd (zip_apart _ _ _ lt1 lt2) z1 q1 z2 q2 (fun b hb => (T.freshF (nw b hb)).1) _ 0 Z h₁ rfl (Nat.zero_le _) Le.refl (fun b hb => (T.freshF (nw b hb)).1) a1 a2 ⟨_, _, a3⟩ a4 a5
    rwa [List.drop_zero] at this
theorem evit_enum {p pos : Pos} {e : Expr} {es : List Expr} {ek : Nat} {ep : Pos} (hx : S.sc.names.lookup ("enumerate" : Str) = some .globalImplicit) (hK : nsIn X.K mainGlobals "enumerate" = some none)
    (ha : Ev X n S e ρ μ fun v μ₁ => ∃ xs, v = .d (.lst xs) ∧ PI (enumD 0 xs) μ₁)
    (he : ∀ env, starEach [e] env = (false, eval e env) :: starEach [] env := by intro _; rfl) : EvIt X n S (.Call (.Name "enumerate" p) [e] [] pos) (.Tuple es ek ep) ρ μ PI := by
  refine it_ty (ty := "enumerate") hx hK (by decide) (by decide +kernel) (evl_cons (ha.mono fun v μ₁ q => evl_nil ?_) he) rfl he (fun _ => rfl)
  intro A env s Z Of Or K ra vals Q E hA T r g
  obtain ⟨xs, rfl, p⟩ := q
  obtain ⟨_, rfl, r0⟩ := r.one_inv
  obtain ⟨l, vs, m, rfl, z1, q1⟩ := RepD.lst_inv r0
  have lt1 := Heap.lt_size (T.bs.z _ _ z1)
  refine call_enumerate_list (isList_of (T.bs.z _ _ z1)) fun h₁ a1 a2 a3 a4 => ?_
  refine wpAny_pyIter_enum a1 ?_
  have T₂ := T.grow a4
  have nw : ∀ b ∈ [s.heap.objs.size + 1, s.heap.objs.size], s.heap.get? b = none := by
    intro b hb
    simp only [List.mem_cons, List.not_mem_nil, or_false] at hb
    rcases hb with rfl | rfl <;> exact none_ge (by first | exact Nat.le_add_right _ _ | exact Nat.le_refl _)
  refine g h₁ s.toks Z Or ra _ [s.heap.objs.size + 1, s.heap.objs.size] _ _ p Le.refl (List.prefix_refl _) T₂ (fun b hb => ⟨?_, T.freshF (nw b hb)⟩) ?_ (fun s' Q' E' hp q => wpAny_pyIter_enum (hp _ (.head _) _ a1) q)
  · simp only [List.mem_cons, List.not_mem_nil, or_false] at hb
    rcases hb with rfl | rfl
    · exact ⟨_, a1⟩
    · obtain ⟨o, e, _⟩ := a2; exact ⟨o, e⟩
  · have := iter_enum (X := X) (A := A) (es := es) (ek := ek) (ep := ep) hA.hd (Nat.ne_of_gt (Nat.lt_succ_self _)) (Nat.ne_of_lt (Nat.lt_succ_of_lt lt1)) (Nat.ne_of_lt lt1) z1 q1 _ 0 Z h₁ rfl (Nat.zero_le _) Le.refl (fun b hb => (T.freshF (nw b hb)).1) ⟨_, a1⟩ a2
    rwa [List.drop_zero] at this
end
section
variable {X : Cx} {n : Nat} {S : Sc} {env : Env} {oc : List Str} {Z : Fz} {Of Or K : Own} {ra : List Addr} {ρ : Rho} {μ : Mem} {h h' : Heap} {P : Fl → Rho → Mem → Prop} {PA : Rho → Mem → Prop} {PI : List D → Mem → Prop} {A : Around} {tgt iter : Expr}
noncomputable def Fresh4 (fr : List Addr) (Z : Fz) (Of Or K : Own) (h : Heap) : Prop := ∀ b ∈ fr, (∃ o, h.get? b = some o) ∧ (∀ p, ¬ Z b p) ∧ Or b = none ∧ Of b = none ∧ K b = none
theorem join_snap_some {Of K : Own} {fr : List Addr} {hs : Heap} {a : Addr} {o : Obj} (e : Of.join (snap K fr hs) a = some o) : Of a = some o ∨ (Of a = none ∧ a ∈ fr ∧ hs.get? a = some o) ∨ (Of a = none ∧ a ∉ fr ∧ K a = some o) := by
  rcases Own.join_some e with e | ⟨e0, e⟩
  · exact .inl e
  · unfold snap at e
    split at e
    · rename_i m; exact .inr (.inl ⟨e0, m, e⟩)
    · rename_i m; exact .inr (.inr ⟨e0, m, e⟩)
/-- the iterator's objects are kept from here -/
theorem St.hold (T : St X env oc Z Of Or K ra ρ μ h) {fr : List Addr} (hf : Fresh4 fr Z Of Or K h) : St X env oc Z Of Or (snap K fr h) ra ρ μ h := by
  have sn : ∀ {a : Addr} {o : Obj}, K a = some o → snap K fr h a = some o := fun {a o} e => by
    unfold snap
    rw [if_neg]; exact e
    intro m; have := (hf a m).2.2.2.2; rw [e] at this; cases this
  refine ⟨T.bs.keep (fun a o e => e.elim (T.bs.z a o) (T.bs.r a o)) fun a o e => ?_, fun a o e => ?_, T.fr.kind, T.fr.glob, T.fr.bs, ?_, T.fr.own, T.fr.inj, fun x c e => let ⟨o, q⟩ := T.fr.cl x c e; ⟨o, q.imp id sn⟩⟩
  · rcases join_snap_some e with e | ⟨e0, m, e⟩ | ⟨e0, m, e⟩
    · exact ⟨T.bs.k a o (Own.join_left e), T.bs.notK (Own.join_left e)⟩
    · exact ⟨e, (hf a m).2.1, (hf a m).2.2.1⟩
    · exact ⟨T.bs.k a o (Own.join_right e0 e), T.bs.notK (Own.join_right e0 e)⟩
  · unfold snap
    split
    · rename_i m; have := (hf a m).2.2.2.1; rw [e] at this; cases this
    · exact T.fk a o e
  · obtain ⟨oL, m, f1, f2, f3⟩ := T.fr.loc
    refine ⟨oL, m, f1, f2, fun x v e => ?_⟩
    rcases f3 x v e with ⟨a, b⟩ | ⟨a, c', oc, val, e1, e2, e3, e4⟩
    · exact .inl ⟨a, b⟩
    · exact .inr ⟨a, c', oc, val, e1, e2.imp id sn, e3, e4⟩
/-- .. and let go -/
theorem St.drop {fr : List Addr} {hs : Heap} (T : St X env oc Z Of Or (snap K fr hs) ra ρ μ h) (hK : ∀ b ∈ fr, K b = none) (hfr : FrameRel X env oc Of K Z ra ρ) : St X env oc Z Of Or K ra ρ μ h := by
  have sn : ∀ {a : Addr} {o : Obj}, K a = some o → snap K fr hs a = some o := fun {a o} e => by
    unfold snap
    rw [if_neg]; exact e
    intro m; rw [hK a m] at e; cases e
  refine ⟨T.bs.keep (fun a o e => e.elim (T.bs.z a o) (T.bs.r a o)) fun a o e => ?_, fun a o e => ?_, hfr⟩
  · have e' : Of.join (snap K fr hs) a = some o := by
      rcases Own.join_some e with e | ⟨e0, e⟩
      · exact Own.join_left e
      · exact Own.join_right e0 (sn e)
    exact ⟨T.bs.k a o e', T.bs.notK e'⟩
  · cases q : K a with
    | none => rfl
    | some p => have := T.fk a o e; rw [sn q] at this; cases this
/-- free variables' cells stand in K beside the iterator's objects -/
noncomputable def CellsOff (env : Env) (fr : List Addr) : Prop := ∀ x c, env.cells.lookup x = some c → c ∉ fr
theorem snap_off {fr : List Addr} {hs : Heap} {c : Addr} (hc : c ∉ fr) : snap K fr hs c = K c := by unfold snap; rw [if_neg hc]
theorem FrameRel.drop {fr : List Addr} {hs : Heap} (F : FrameRel X env oc Of (snap K fr hs) Z ra ρ) (hc : CellsOff env fr) : FrameRel X env oc Of K Z ra ρ := by
  obtain ⟨oL, m, f1, f2, f3⟩ := F.loc
  refine ⟨F.kind, F.glob, F.bs, ⟨oL, m, f1, f2, fun x v e => ?_⟩, F.own, F.inj, fun x c e => let ⟨o, q⟩ := F.cl x c e; ⟨o, q.imp id fun q => by rwa [snap_off (hc x c e)] at q⟩⟩
  rcases f3 x v e with ⟨a, b⟩ | ⟨a, c', oc, val, e1, e2, e3, e4⟩
  · exact .inl ⟨a, b⟩
  · exact .inr ⟨a, c', oc, val, e1, e2.imp id fun q => by rwa [snap_off (hc x c' e1)] at q, e3, e4⟩
theorem FrameRel.resnap {fr : List Addr} {hs hs' : Heap} (F : FrameRel X env oc Of (snap K fr hs) Z ra ρ) (hc : CellsOff env fr) : FrameRel X env oc Of (snap K fr hs') Z ra ρ := by
  obtain ⟨oL, m, f1, f2, f3⟩ := F.loc
  refine ⟨F.kind, F.glob, F.bs, ⟨oL, m, f1, f2, fun x v e => ?_⟩, F.own, F.inj, fun x c e => let ⟨o, q⟩ := F.cl x c e; ⟨o, q.imp id fun q => by rw [snap_off (hc x c e)] at q ⊢; exact q⟩⟩
  rcases f3 x v e with ⟨a, b⟩ | ⟨a, c', oc, val, e1, e2, e3, e4⟩
  · exact .inl ⟨a, b⟩
  · exact .inr ⟨a, c', oc, val, e1, e2.imp id fun q => by rw [snap_off (hc x c' e1)] at q ⊢; exact q, e3, e4⟩
/-- one step of the iterator -/
theorem St.step {fr : List Addr} {hs : Heap} {Z' : Fz} (T : St X env oc Z Of Or (snap K fr hs) ra ρ μ h) (hp : ∀ b ∈ fr, ∃ o, hs.get? b = some o) (hc : CellsOff env fr)
    (hz : Le Z Z') (hn : ∀ a o, Z' a o → Z a o ∨ h.get? a = none) (hz' : ∀ a o, Z' a o → h'.get? a = some o) (hk : ∀ b o, b ∉ fr → h.get? b = some o → h'.get? b = some o) : St X env oc Z' Of Or (snap K fr h') ra ρ μ h' := by
  have inK : ∀ b ∈ fr, ∃ o, snap K fr hs b = some o := fun b hb => by
    obtain ⟨o, e⟩ := hp b hb
    exact ⟨o, by unfold snap; rw [if_pos hb]; exact e⟩
  have ofN : ∀ b ∈ fr, Of b = none := fun b hb => by
    cases q : Of b with
    | none => rfl
    | some p =>
      obtain ⟨o, e⟩ := inK b hb
      have := T.fk b p q; rw [e] at this; cases this
  have frJ : ∀ b ∈ fr, ∃ o, Of.join (snap K fr hs) b = some o := fun b hb => by
    obtain ⟨o, e⟩ := inK b hb
    exact ⟨o, Own.join_right (ofN b hb) e⟩
  have notZ : ∀ b o, Of.join (snap K fr hs) b = some o → ∀ p, ¬ Z' b p := fun b o e p z => by
    rcases hn b p z with z | z
    · exact (T.bs.notK e).1 p z
    · have := T.bs.k b o e; rw [z] at this; cases this
  have orN : ∀ b o, Or b = some o → b ∉ fr := fun b o e hb => by
    obtain ⟨p, q⟩ := frJ b hb
    have := (T.bs.notK q).2; rw [e] at this; cases this
  have old : ∀ b o, b ∉ fr → Of.join (snap K fr h') b = some o → Of.join (snap K fr hs) b = some o := fun b o hb e => by
    rcases join_snap_some e with e | ⟨e0, m, e⟩ | ⟨e0, m, e⟩
    · exact Own.join_left e
    · exact absurd m hb
    · exact Own.join_right e0 (by unfold snap; rw [if_neg hb]; exact e)
  have B : Bs X Z' Or (Of.join (snap K fr h')) ra μ h' := by
    refine ⟨T.bs.ok, fun a o e => hz a o (T.bs.base a o e), hz', fun a o e => hk a o (orN a o e) (T.bs.r a o e), fun a o e => ?_, fun a o z => ?_, fun a o e => ?_, T.bs.len, T.bs.nd, fun a q => let ⟨o, p⟩ := T.bs.nz a q; ⟨o, p.imp id (hz a o)⟩,
      fun i c e => let ⟨a, p, q⟩ := T.bs.cell i c e; ⟨a, p, q.mono hz (List.prefix_refl _)⟩, T.bs.oz, T.bs.lo⟩
    · by_cases hb : a ∈ fr
      · rcases join_snap_some e with e | ⟨e0, m, e⟩ | ⟨e0, m, e⟩
        · rw [ofN a hb] at e; cases e
        · exact e
        · exact absurd hb m
      · exact hk a o hb (T.bs.k a o (old a o hb e))
    · have key : Of.join (snap K fr h') a = none := by
        cases q : Of.join (snap K fr h') a with
        | none => rfl
        | some p =>
          exfalso
          by_cases hb : a ∈ fr
          · obtain ⟨p', q'⟩ := frJ a hb
            exact notZ a p' q' o z
          · exact notZ a p (old a p hb q) o z
      refine ⟨?_, key⟩
      rcases hn a o z with z | z
      · exact (T.bs.zo a o z).1
      · exact (T.bs.fresh z).1
    · cases q : Of.join (snap K fr h') a with
      | none => rfl
      | some p =>
        exfalso
        have hb := orN a o e
        have := T.bs.ro a o e
        rw [old a p hb q] at this; cases this
  refine ⟨B, fun a o e => ?_, (T.fr.mono hz (List.prefix_refl _)).resnap hc⟩
  unfold snap
  split
  · rename_i m; rw [ofN a m] at e; cases e
  · rename_i m
    have := T.fk a o e
    unfold snap at this
    rwa [if_neg m] at this
theorem mark_none (A : Around) : A.mark none = A := rfl
theorem cells_off (T : St X env oc Z Of Or K ra ρ μ h) {fr : List Addr} (hf : Fresh4 fr Z Of Or K h) : CellsOff env fr := fun x c e m => by
  obtain ⟨o, q⟩ := T.fr.cl x c e
  rcases q with q | q
  · have := (hf c m).2.2.2.1; rw [q] at this; cases this
  · have := (hf c m).2.2.2.2; rw [q] at this; cases this
theorem iter_le {it : Value} {fr : List Addr} : ∀ {xs : List D} {Z Z' : Fz} {h : Heap}, Le Z Z' → (∀ b ∈ fr, ∃ o, h.get? b = some o) → (∀ b ∈ fr, ∀ p, ¬ Z' b p) → Iter X A tgt it fr xs Z h → Iter X A tgt it fr xs Z' h
  | [], _, _, _, hz, _, _, i => fun s Q E p z q => i s Q E p (fun a o w => z a o (hz a o w)) q
  | x :: xs, Z, Z', h, hz, hp, hf, i => fun s Q E p z q => i s Q E p (fun a o w => z a o (hz a o w)) fun v h₁ tk₁ hgo => q v h₁ tk₁ fun s' Q' E' e k => hgo s' Q' E' e fun h₂ tk₂ Z₂ z₂ n₂ zz₂ k₂ pr₂ r₂ it₂ => by
    refine k h₂ tk₂ (fun a o => Z' a o ∨ Z₂ a o) (fun a o w => .inl w) ?_ ?_ k₂ pr₂ (r₂.mono fun a o w => .inr w) (iter_le (fun a o w => .inr w) pr₂ ?_ it₂)
    · rintro a o (w | w)
      · exact .inl w
      · exact (n₂ a o w).imp (hz a o) id
    · rintro a o (w | w)
      · exact k₂ a o (fun hb => hf a hb o w) (z a o w)
      · exact zz₂ a o w
    · rintro b hb o (w | w)
      · exact hf b hb o w
      · rcases n₂ b o w with w | w
        · exact hf b hb o (hz b o w)
        · obtain ⟨o', e'⟩ := hp b hb
          rw [p b hb o' e'] at w; cases w
/-- for -/
inductive ForI (X : Cx) (A : Around) (tgt : Expr) (it : Value) (fr : List Addr) (env : Env) (oc : List Str) (K : Own) (Z : Fz) (ra : List Addr) (s : Shared) (I : List D → Rho → Mem → Prop) (k : Nat) (s₂ : Shared) : Prop
  | mk (xs : List D) (Z₂ : Fz) (Of₂ Or₂ : Own) (ra₂ : List Addr) (ρ₂ : Rho) (μ₂ : Mem) (hs₂ h₂ : Heap) (tk₂ : Nat) : k = xs.length → s₂ = { s with heap := h₂, toks := tk₂ } → I xs ρ₂ μ₂ → Le Z Z₂ → ra <+: ra₂ → St X env oc Z₂ Of₂ Or₂ (snap K fr hs₂) ra₂ ρ₂ μ₂ h₂ → (∀ b ∈ fr, ∃ o, hs₂.get? b = some o) → Iter X A tgt it fr xs Z₂ hs₂ → ForI X A tgt it fr env oc K Z ra s I k s₂
inductive WhileI (X : Cx) (env : Env) (oc : List Str) (K : Own) (Z : Fz) (ra : List Addr) (s : Shared) (I : Nat → Rho → Mem → Prop) (k : Nat) (s₂ : Shared) : Prop
  | mk (Z₂ : Fz) (Of₂ Or₂ : Own) (ra₂ : List Addr) (ρ₂ : Rho) (μ₂ : Mem) (h₂ : Heap) (tk₂ : Nat) : s₂ = { s with heap := h₂, toks := tk₂ } → I k ρ₂ μ₂ → Le Z Z₂ → ra <+: ra₂ → St X env oc Z₂ Of₂ Or₂ K ra₂ ρ₂ μ₂ h₂ → WhileI X env oc K Z ra s I k s₂
theorem ex_for {body : List Stmt} {pos : Pos} (I : List D → Rho → Mem → Prop)
    (hi : EvIt X n S iter tgt ρ μ fun xs μ₁ => I xs ρ μ₁)
    (turn : ∀ x rest ρ₁ μ₁, I (x :: rest) ρ₁ μ₁ → As X n S tgt (.d x) ρ₁ μ₁ fun ρ₂ μ₂ => Exs X n S body ρ₂ μ₂ fun f ρ₃ μ₃ => (f = .nxt ∨ f = .cnt → I rest ρ₃ μ₃) ∧ ∀ v, f = .ret v → P (.ret v) ρ₃ μ₃)
    (fin : ∀ ρ₁ μ₁, I [] ρ₁ μ₁ → P .nxt ρ₁ μ₁) (hs : ∀ env x, foldedSetIterable iter env x = pure x := by intros; rfl) : Ex X n S (.For tgt iter body [] pos) ρ μ P := by
  intro A env s Z Of Or K ra Q E hA hs' T g
  rw [show exec (.For tgt iter body [] pos) env = (do
    standAt pos
    let x ← foldedSetIterable iter env (← eval iter env)
    standAt iter.pos
    runOwn (.forLoop tgt (← holding [x] (pyIter x)) body [] env) env) from rfl]
  refine wpAny_bind (wpAny_standAt (wpAny_bind ?_))
  refine wpAny_mono (hi A env s Z Of Or K ra (fun it s₁ => wpAny X.M A (runOwn (.forLoop tgt it body [] env) env) Q E s₁) E hA hs' T fun h₁ tk₁ Z₁ Or₁ ra₁ it fr xs μ₁ p₁ z₁ pr₁ T₁ hf hit hsl => ?_)
    (fun x s₁ q => wpAny_bind (wpAny_of_eq (hs env x) (wpAny_bind (wpAny_standAt (wpAny_bind (wpAny_holding q)))))) fun _ _ e => e
  refine wpAny_runOwn ?_
  have hoff := cells_off T₁ hf
  refine codeAny_forLoop_any (ForI X A tgt it fr env S.oc K Z ra s I) ?_ xs.length
    ⟨xs, Z₁, Of, Or₁, ra₁, ρ, μ₁, h₁, h₁, tk₁, rfl, rfl, p₁, z₁, pr₁, T₁.hold hf, fun b hb => (hf b hb).1, hit⟩
  rintro k s₂ ⟨xs, Z₂, Of₂, Or₂, ra₂, ρ₂, μ₂, hs₂, h₂, tk₂, rfl, rfl, p₂, z₂, pr₂, T₂, hp₂, hit₂⟩
  have pins : ∀ b ∈ fr, ∀ o, hs₂.get? b = some o → h₂.get? b = some o := fun b hb o e => by
    have q : snap K fr hs₂ b = some o := by unfold snap; rw [if_pos hb]; exact e
    refine T₂.bs.k b o (Own.join_right ?_ q)
    cases w : Of₂ b with
    | none => rfl
    | some p => have := T₂.fk b p w; rw [q] at this; cases this
  cases xs with
  | nil =>
    refine hit₂ _ _ _ pins T₂.bs.z fun h₃ tk₃ hk₃ => ?_
    refine wpAny_execs_nil ?_
    have T₃ : St X env S.oc Z₂ Of₂ Or₂ (snap K fr h₃) ra₂ ρ₂ μ₂ h₃ := T₂.step hp₂ hoff Le.refl (fun a o z => .inl z) (fun a o z => hk₃ a o (fun hb => ?_) (T₂.bs.z a o z)) hk₃
    · exact g h₃ tk₃ Z₂ Of₂ Or₂ ra₂ .next .nxt ρ₂ μ₂ (fin _ _ p₂) z₂ pr₂ (T₃.drop (fun b hb => (hf b hb).2.2.2.2) (T₃.fr.drop hoff)) trivial
    · obtain ⟨p, e⟩ := hp₂ a hb
      have q : snap K fr hs₂ a = some p := by unfold snap; rw [if_pos hb]; exact e
      have w : Of₂ a = none := by
        cases w : Of₂ a with
        | none => rfl
        | some p' => have := T₂.fk a p' w; rw [q] at this; cases this
      exact (T₂.bs.notK (Own.join_right w q)).1 o z
  | cons x rest =>
    refine hit₂ _ _ _ pins T₂.bs.z fun v h₃ tk₃ hgo => ?_
    refine hgo _ _ _ rfl fun h₄ tk₄ Z₄ z₄ n₄ zz₄ k₄ pr₄ r₄ it₄ => ?_
    have T₄ := T₂.step hp₂ hoff z₄ n₄ zz₄ k₄
    refine turn x rest ρ₂ μ₂ p₂ A env _ Z₄ Of₂ Or₂ (snap K fr h₄) ra₂ v _ _ hA hs' T₄ r₄ fun h₅ tk₅ Z₅ Of₅ Or₅ ra₅ ρ₅ μ₅ p₅ z₅ pr₅ T₅ => ?_
    refine p₅ A env _ Z₅ Of₅ Or₅ (snap K fr h₄) ra₅ _ _ hA hs' T₅ fun h₆ tk₆ Z₆ Of₆ Or₆ ra₆ fl f ρ₆ μ₆ p₆ z₆ pr₆ T₆ r₆ => ?_
    have off₆ : ∀ b ∈ fr, ∀ p, ¬ Z₆ b p := fun b hb p => by
      obtain ⟨o, e⟩ := pr₄ b hb
      have q : snap K fr h₄ b = some o := by unfold snap; rw [if_pos hb]; exact e
      have w : Of₆ b = none := by
        cases w : Of₆ b with
        | none => rfl
        | some p' => have := T₆.fk b p' w; rw [q] at this; cases this
      exact (T₆.bs.notK (Own.join_right w q)).1 p
    have next : (f = .nxt ∨ f = .cnt) → ∃ m, m < (x :: rest).length ∧ ForI X A tgt it fr env S.oc K Z ra s I m { s with heap := h₆, toks := tk₆ } := fun w =>
      ⟨rest.length, Nat.lt_succ_self _, rest, Z₆, Of₆, Or₆, ra₆, ρ₆, μ₆, h₄, h₆, tk₆, rfl, rfl, p₆.1 w, ((z₂.trans z₄).trans z₅).trans z₆, (pr₂.trans pr₅).trans pr₆, T₆, pr₄, iter_le (z₅.trans z₆) pr₄ off₆ it₄⟩
    cases fl with
    | next =>
      cases f with
      | nxt => exact next (.inl rfl)
      | cnt => exact r₆.elim
      | ret v => exact r₆.elim
    | cont =>
      cases f with
      | cnt => exact next (.inr rfl)
      | nxt => exact r₆.elim
      | ret v => exact r₆.elim
    | brk => cases f <;> exact r₆.elim
    | ret val =>
      cases f with
      | ret v => exact g h₆ tk₆ Z₆ Of₆ Or₆ ra₆ (.ret val) (.ret v) ρ₆ μ₆ (p₆.2 v rfl) (((z₂.trans z₄).trans z₅).trans z₆) ((pr₂.trans pr₅).trans pr₆) (T₆.drop (fun b hb => (hf b hb).2.2.2.2) (T₆.fr.drop hoff)) r₆
      | nxt => exact r₆.elim
      | cnt => exact r₆.elim
/-- while -/
theorem ex_while {t : Expr} {body : List Stmt} {pos : Pos} (I : Nat → Rho → Mem → Prop) {k : Nat} (h0 : I k ρ μ)
    (turn : ∀ k ρ₁ μ₁, I k ρ₁ μ₁ → Tst X n S t ρ₁ μ₁ fun b μ₂ => (b = true → Exs X n S body ρ₁ μ₂ fun f ρ₃ μ₃ => (f = .nxt ∨ f = .cnt → ∃ m, m < k ∧ I m ρ₃ μ₃) ∧ ∀ v, f = .ret v → P (.ret v) ρ₃ μ₃) ∧ (b = false → P .nxt ρ₁ μ₂)) : Ex X n S (.While t body [] pos) ρ μ P := by
  intro A env s Z Of Or K ra Q E hA hs T g
  refine wpAny_While ?_
  refine codeAny_whileLoop (WhileI X env S.oc K Z ra s I) ?_ k ⟨Z, Of, Or, ra, ρ, μ, s.heap, s.toks, rfl, h0, Le.refl, List.prefix_refl _, T⟩
  rintro k s₂ ⟨Z₂, Of₂, Or₂, ra₂, ρ₂, μ₂, h₂, tk₂, rfl, p₂, z₂, pr₂, T₂⟩
  refine turn k ρ₂ μ₂ p₂ A env _ Z₂ Of₂ Or₂ K ra₂ _ _ hA hs T₂ fun h₃ tk₃ Z₃ Or₃ ra₃ b b' μ₃ p₃ z₃ pr₃ T₃ r₃ => ?_
  cases r₃
  cases b with
  | false => exact wpAny_execs_nil (g h₃ tk₃ Z₃ Of₂ Or₃ ra₃ .next .nxt ρ₂ μ₃ (p₃.2 rfl) (z₂.trans z₃) (pr₂.trans pr₃) T₃ trivial)
  | true =>
    rw [if_pos rfl]
    refine p₃.1 rfl A env _ Z₃ Of₂ Or₃ K ra₃ _ _ hA hs T₃ fun h₆ tk₆ Z₆ Of₆ Or₆ ra₆ fl f ρ₆ μ₆ p₆ z₆ pr₆ T₆ r₆ => ?_
    have next : (f = .nxt ∨ f = .cnt) → ∃ m, m < k ∧ WhileI X env S.oc K Z ra s I m { s with heap := h₆, toks := tk₆ } := fun w =>
      let ⟨m, lt, q⟩ := p₆.1 w
      ⟨m, lt, Z₆, Of₆, Or₆, ra₆, ρ₆, μ₆, h₆, tk₆, rfl, q, (z₂.trans z₃).trans z₆, (pr₂.trans pr₃).trans pr₆, T₆⟩
    cases fl with
    | next =>
      cases f with
      | nxt => exact next (.inl rfl)
      | cnt => exact r₆.elim
      | ret v => exact r₆.elim
    | cont =>
      cases f with
      | cnt => exact next (.inr rfl)
      | nxt => exact r₆.elim
      | ret v => exact r₆.elim
    | brk => cases f <;> exact r₆.elim
    | ret val =>
      cases f with
      | ret v => exact g h₆ tk₆ Z₆ Of₆ Or₆ ra₆ (.ret val) (.ret v) ρ₆ μ₆ (p₆.2 v rfl) ((z₂.trans z₃).trans z₆) ((pr₂.trans pr₃).trans pr₆) T₆ r₆
      | nxt => exact r₆.elim
      | cnt => exact r₆.elim
end
-- plain: cells laid, a closure taken
theorem lookup_map_snd {f : Str × NameKind → Str × NameKind} (hf : ∀ p, (f p).1 = p.1) : ∀ (l : List (Str × NameKind)) (x : Str), (l.map f).lookup x = (l.lookup x).map fun k => (f (x, k)).2
  | [], _ => rfl
  | (y, k) :: l, x => by
    rw [List.map_cons]
    have h1 := hf (y, k)
    cases q : x == y with
    | true =>
      have : x = y := beq_iff_eq.mp q
      subst this
      rw [show f (x, k) = (x, (f (x, k)).2) from Prod.ext h1 rfl, List.lookup_cons, List.lookup_cons]
      simp
    | false =>
      rw [show f (y, k) = (y, (f (y, k)).2) from Prod.ext h1 rfl, List.lookup_cons, List.lookup_cons]
      simp only [q]
      exact lookup_map_snd hf l x
noncomputable abbrev cellObj : Obj := { cls := .type "cell", data := .cell none }
structure CF (n0 : Nat) (cl acc : List (Str × Addr)) (h : Heap) : Prop where
  a : ∀ x c, acc.lookup x = some c → (cl.lookup x = some c ∧ (c : Nat) < n0) ∨ (n0 ≤ (c : Nat) ∧ h.get? c = some cellObj)
  b : ∀ x y c, acc.lookup x = some c → acc.lookup y = some c → n0 ≤ (c : Nat) → x = y
theorem cf_all {n0 : Nat} {cl : List (Str × Addr)} : ∀ (names : List (Str × NameKind)) (h : Heap) (acc : List (Str × Addr)), CF n0 cl acc h → n0 ≤ h.objs.size → CF n0 cl (cellsFrom h.objs.size names acc) (pushCells h names)
  | [], _, _, q, _ => q
  | (name, kind) :: r, h, acc, q, hn => by
    unfold cellsFrom pushCells
    split
    · have hsz : (h.push cellObj).objs.size = h.objs.size + 1 := Heap.size_push ..
      have := cf_all (cl := cl) r (h.push cellObj) ((name, h.objs.size) :: acc) ⟨fun x c e => ?_, fun x y c e1 e2 hc => ?_⟩ (by rw [hsz]; exact Nat.le_succ_of_le hn)
      · rwa [hsz] at this
      · rw [List.lookup_cons] at e
        split at e
        · cases e; exact .inr ⟨hn, Heap.get?_push_size _ rfl⟩
        · rcases q.a x c e with w | ⟨w1, w2⟩
          · exact .inl w
          · exact .inr ⟨w1, Heap.get?_push_of_some _ w2⟩
      · have key : ∀ z, acc.lookup z = some (h.objs.size : Nat) → False := fun z e => by
          rcases q.a z _ e with w | ⟨_, w2⟩
          · exact absurd w.2 (Nat.not_lt.mpr hn)
          · exact absurd (Heap.lt_size w2) (Nat.lt_irrefl _)
        rw [List.lookup_cons] at e1 e2
        split at e1
        · rename_i w1
          cases e1
          split at e2
          · rename_i w2; rw [beq_iff_eq.mp w1, beq_iff_eq.mp w2]
          · exact (key _ e2).elim
        · split at e2
          · cases e2; exact (key _ e1).elim
          · exact q.b x y c e1 e2 hc
    · exact cf_all r h acc q hn
theorem cf_not {x : Str} : ∀ (names : List (Str × NameKind)) (n : Nat) (acc : List (Str × Addr)), (∀ k, (x, k) ∈ names → k ≠ .cell) → (cellsFrom n names acc).lookup x = acc.lookup x
  | [], _, _, _ => rfl
  | (name, kind) :: r, n, acc, h => by
    have hr := fun k m => h k (List.mem_cons_of_mem _ m)
    unfold cellsFrom
    split
    · rename_i q
      rw [cf_not r _ _ hr, List.lookup_cons]
      split
      · rename_i w
        exact absurd (beq_iff_eq.mp q) (h kind (by rw [beq_iff_eq.mp w]; exact .head _))
      · rfl
    · exact cf_not r _ _ hr
theorem cf_cell {x : Str} : ∀ (names : List (Str × NameKind)) (n : Nat) (acc : List (Str × Addr)), (x, NameKind.cell) ∈ names → ∃ c : Addr, (cellsFrom n names acc).lookup x = some c ∧ n ≤ (c : Nat)
  | (name, kind) :: r, n, acc, h => by
    unfold cellsFrom
    split
    · rename_i q
      by_cases w : (x, NameKind.cell) ∈ r
      · obtain ⟨c, e, hc⟩ := cf_cell r (n + 1) ((name, n) :: acc) w
        exact ⟨c, e, Nat.le_of_succ_le hc⟩
      · rw [cf_not r _ _ fun k m e => w (e ▸ m)]
        rcases List.mem_cons.mp h with e | m
        · cases e
          exact ⟨n, by rw [List.lookup_cons]; simp, Nat.le_refl _⟩
        · exact absurd m w
    · rename_i q
      rcases List.mem_cons.mp h with e | m
      · cases e; exact absurd rfl q
      · exact cf_cell r n acc m
theorem clos_run {env : Env} (f : Str × NameKind → List (Str × Addr) → Sem (ForInStep (List (Str × Addr))))
    (hf : ∀ name kind cs, f (name, kind) cs = if kind == .free then (do let c ← cellOf env name; pure (.yield ((name, c) :: cs))) else pure (.yield cs)) :
    ∀ (names : List (Str × NameKind)) (acc : List (Str × Addr)), (∀ p ∈ names, p.2 = .free → ∃ c, env.cells.lookup p.1 = some c) → (∀ x c, acc.lookup x = some c → env.cells.lookup x = some c) →
      ∃ cl, forIn names acc f = pure cl ∧ (∀ x c, cl.lookup x = some c → env.cells.lookup x = some c) ∧ (∀ x, (acc.lookup x).isSome → (cl.lookup x).isSome) ∧ ∀ p ∈ names, p.2 = .free → (cl.lookup p.1).isSome
  | [], acc, _, ha => ⟨acc, by rw [List.forIn_nil], ha, fun _ h => h, fun _ m => nomatch m⟩
  | (name, kind) :: r, acc, hn, ha => by
    rw [List.forIn_cons, hf]
    by_cases q : kind = .free
    · subst q
      obtain ⟨c, e⟩ := hn (name, .free) (.head _) rfl
      have e : env.cells.lookup name = some c := e
      obtain ⟨cl, h1, h2, h3, h4⟩ := clos_run f hf r ((name, c) :: acc) (fun p m => hn p (.tail _ m)) fun x c' h => by
        rw [List.lookup_cons] at h
        split at h
        · rename_i w; cases h; rw [beq_iff_eq.mp w]; exact e
        · exact ha x c' h
      refine ⟨cl, ?_, h2, fun x hx => h3 x ?_, fun p m hp => ?_⟩
      · rw [if_pos (show (NameKind.free == NameKind.free) = true from rfl)]
        have : cellOf env name = pure c := by unfold cellOf; rw [e]
        rw [this]
        exact h1
      · rw [List.lookup_cons]
        split
        · rfl
        · exact hx
      · rcases List.mem_cons.mp m with rfl | m
        · exact h3 name (by rw [List.lookup_cons]; simp)
        · exact h4 p m hp
    · obtain ⟨cl, h1, h2, h3, h4⟩ := clos_run f hf r acc (fun p m => hn p (.tail _ m)) ha
      refine ⟨cl, ?_, h2, h3, fun p m hp => ?_⟩
      · rw [if_neg (by cases kind <;> first | exact absurd rfl q | exact Bool.false_ne_true)]
        exact h1
      · rcases List.mem_cons.mp m with rfl | m
        · exact absurd hp q
        · exact h4 p m hp
theorem clos_ok {env : Env} {scope : Scope} (h : ∀ p ∈ scope.names, p.2 = .free → ∃ c, env.cells.lookup p.1 = some c) :
    ∃ cl, closureFor scope env = pure cl ∧ (∀ x c, cl.lookup x = some c → env.cells.lookup x = some c) ∧ ∀ p ∈ scope.names, p.2 = .free → (cl.lookup p.1).isSome := by
  obtain ⟨cl, h1, h2, _, h4⟩ := clos_run (env := env) (fun p cs => if p.2 == .free then (do let c ← cellOf env p.1; pure (.yield ((p.1, c) :: cs))) else pure (.yield cs)) (fun _ _ _ => rfl) scope.names [] h (fun x c e => nomatch e)
  refine ⟨cl, ?_, h2, h4⟩
  unfold closureFor
  have : ∀ {α : Type} {m : Sem α}, (m >>= fun x => pure x) = m := fun {α m} => bind_pure m
  first
    | exact (bind_pure _).trans h1
    | (simp only [bind_pure]; exact h1)
/-- a comprehension's scope inside one -/
noncomputable def relab (scope sc : Scope) : Scope :=
  { scope with names := scope.names.map fun (n, k) => if (k == .free && sc.kind == .function && sc.names.lookup n == some .cell) then (n, .cell) else (n, k) }
theorem relab_eq (scope : Scope) (env : Env) : relabel scope env = relab scope env.scope := rfl
theorem relab_free {scope sc : Scope} {x : Str} (e : scope.names.lookup x = some .free) : (relab scope sc).names.lookup x = some .cell ∨ (relab scope sc).names.lookup x = some .free := by
  unfold relab
  dsimp only
  rw [lookup_map_snd (fun p => by split <;> rfl), e]
  dsimp only [Option.map]
  split
  · exact .inl rfl
  · exact .inr rfl
theorem relab_cell {scope sc : Scope} {x : Str} (e : scope.names.lookup x = some .cell) : (relab scope sc).names.lookup x = some .cell := by
  unfold relab
  dsimp only
  rw [lookup_map_snd (fun p => by split <;> rfl), e]
  rfl
noncomputable def cellNames (scope : Scope) : List Str := (scope.names.filter fun p => p.2 == .cell).map (·.1)
/-- the scope of a comprehension -/
noncomputable abbrev Sc.sub (S : Sc) (scope : Scope) : Sc := ⟨relab scope S.sc, cellNames scope⟩
structure CompOk (scope : Scope) (S : Sc) (ρ ρ₀ : Rho) : Prop where
  kind : scope.kind = .function
  once : ∀ p ∈ scope.names, scope.names.lookup p.1 = some p.2
  free : ∀ p ∈ ρ₀, ρ.lookup p.1 = some p.2 ∧ scope.names.lookup p.1 = some .free ∧ (S.sc.names.lookup p.1 = some .cell ∨ S.sc.names.lookup p.1 = some .free)
  all : ∀ p ∈ scope.names, p.2 = .free → p.1 ∈ ρ₀.map (·.1)
theorem lookup_mem {α : Type} : ∀ {l : List (Str × α)} {n : Str} {c : α}, l.lookup n = some c → (n, c) ∈ l := fun h => mem_of_lookup h
section
variable {X : Cx} {n : Nat} {S : Sc} {env : Env} {oc : List Str} {Z : Fz} {Of Or K : Own} {ra : List Addr} {ρ ρ₀ : Rho} {μ : Mem} {h h' : Heap}
theorem comp_cells {scope : Scope} (T : St X env S.oc Z Of Or K ra ρ μ h) (hs : env.scope = S.sc) (C : CompOk scope S ρ ρ₀) :
    (∀ p ∈ ρ₀, ∃ c oc val, env.cells.lookup p.1 = some c ∧ (Of c = some oc ∨ K c = some oc) ∧ oc.data = .cell (some val) ∧ RepV X Z ra val p.2) ∧
    ∃ cl, closureFor scope env = pure cl ∧ (∀ x c, cl.lookup x = some c → env.cells.lookup x = some c) ∧ ∀ p ∈ scope.names, p.2 = .free → (cl.lookup p.1).isSome := by
  obtain ⟨oL, m, f1, f2, f3⟩ := T.fr.loc
  have A : ∀ p ∈ ρ₀, ∃ c oc val, env.cells.lookup p.1 = some c ∧ (Of c = some oc ∨ K c = some oc) ∧ oc.data = .cell (some val) ∧ RepV X Z ra val p.2 := by
    intro p hp
    obtain ⟨e1, _, e3⟩ := C.free p hp
    rcases f3 _ _ e1 with ⟨a, _⟩ | ⟨_, c, oc, val, q1, q2, q3, q4⟩
    · exfalso
      rw [kindOf_def, hs] at a
      rcases e3 with e3 | e3 <;> rw [a] at e3 <;> cases e3
    · exact ⟨c, oc, val, q1, q2, q3, q4⟩
  refine ⟨A, clos_ok fun p hp hk => ?_⟩
  obtain ⟨q, hq, e⟩ := List.mem_map.mp (C.all p hp hk)
  obtain ⟨c, _, _, e1, _⟩ := A q hq
  exact ⟨c, by rw [← e]; exact e1⟩
/-- what is kept while a comprehension runs -/
noncomputable def fromC (C : Addr) (h : Heap) : Own := fun a => if (C : Nat) ≤ a then h.get? a else none
theorem compNew_St {scope : Scope} {cl : List (Str × Addr)} (T : St X env S.oc Z Of Or K ra ρ μ h) (C : CompOk scope S ρ ρ₀)
    (hA : ∀ p ∈ ρ₀, ∃ c oc val, env.cells.lookup p.1 = some c ∧ (Of c = some oc ∨ K c = some oc) ∧ oc.data = .cell (some val) ∧ RepV X Z ra val p.2)
    (hcl : ∀ x c, cl.lookup x = some c → env.cells.lookup x = some c) (hcl2 : ∀ p ∈ scope.names, p.2 = .free → (cl.lookup p.1).isSome) {cenv : Env}
    (ce : cenv = { scope := relabel scope env, locals := (h.push (lstObj [])).objs.size, globals := env.globals, cells := cellsFrom ((h.push (lstObj [])).push { cls := .type "dict", data := .dict #[] }).objs.size scope.names cl, qual := env.qual, func := none, code := env.code, frame := env.frame, builtins := env.builtins })
    (h₂ : Heap) (e₂ : h₂ = pushCells ((h.push (lstObj [])).push { cls := .type "dict", data := .dict #[] }) scope.names) :
    St X cenv (cellNames scope) Z (fromC (h.push (lstObj [])).objs.size h₂) Or ((Of.join K).put h.objs.size (lstObj [])) ra ρ₀ μ h₂ ∧ (∀ b o, h.get? b = some o → h₂.get? b = some o) := by
  have z1 : (h.push (lstObj [])).objs.size = h.objs.size + 1 := Heap.size_push ..
  have z2 : ((h.push (lstObj [])).push { cls := .type "dict", data := .dict #[] }).objs.size = h.objs.size + 2 := by rw [Heap.size_push, z1]
  have hk : ∀ b o, h.get? b = some o → h₂.get? b = some o := fun b o e => by
    rw [e₂]; exact pushCells_keeps _ _ b o (Heap.get?_push_of_some _ (Heap.get?_push_of_some _ e))
  have hD : h₂.get? h.objs.size = some (lstObj []) := by
    rw [e₂]; exact pushCells_keeps _ _ _ _ (Heap.get?_push_of_some _ (Heap.get?_push_size _ rfl))
  have hC : h₂.get? (h.push (lstObj [])).objs.size = some { cls := .type "dict", data := .dict #[] } := by
    rw [e₂]; exact pushCells_keeps _ _ _ _ (Heap.get?_push_size _ rfl)
  have new : ∀ a : Addr, h.objs.size ≤ (a : Nat) → h.get? a = none := fun a q => none_ge q
  have lt : ∀ {a : Addr} {o : Obj}, h.get? a = some o → (a : Nat) < h.objs.size := fun e => Heap.lt_size e
  have old : ∀ {a : Addr} {o : Obj}, (Of.join K) a = some o → h.get? a = some o := fun e => T.bs.k _ _ e
  have fC : ∀ {a : Addr} {o : Obj}, fromC (h.push (lstObj [])).objs.size h₂ a = some o → h.objs.size + 1 ≤ (a : Nat) ∧ h₂.get? a = some o := fun {a o} e => by
    unfold fromC at e
    split at e
    · rename_i w; rw [z1] at w; exact ⟨w, e⟩
    · cases e
  have fC' : ∀ {a : Addr} {o : Obj}, h.objs.size + 1 ≤ (a : Nat) → h₂.get? a = some o → fromC (h.push (lstObj [])).objs.size h₂ a = some o := fun {a o} w e => by
    unfold fromC
    rw [if_pos (by rw [z1]; exact w)]; exact e
  have fO : ∀ {a : Addr}, (a : Nat) < h.objs.size → fromC (h.push (lstObj [])).objs.size h₂ a = none := fun {a} w => by
    unfold fromC
    rw [if_neg (by rw [z1]; exact Nat.not_le.mpr (Nat.lt_succ_of_lt w))]
  have jk : ∀ {a : Addr} {o : Obj}, (Of.join K) a = some o → ((Of.join K).put h.objs.size (lstObj [])) a = some o := fun {a o} e => by
    rw [Own.put_ne]; exact e
    exact Nat.ne_of_lt (lt (old e))
  have cf : CF (h.objs.size + 2) cl (cellsFrom ((h.push (lstObj [])).push { cls := .type "dict", data := .dict #[] }).objs.size scope.names cl) h₂ := by
    rw [e₂]
    refine cf_all _ _ _ ⟨fun x c e => .inl ⟨e, ?_⟩, fun x y c e1 e2 q => ?_⟩ (by rw [z2]; exact Nat.le_refl _)
    · obtain ⟨o, q⟩ := T.fr.cl x c (hcl x c e)
      have : h.get? c = some o ∨ h.get? c = some o := q.imp (fun q => T.bs.k _ _ (Own.join_left q)) fun q => by
        cases w : Of c with
        | none => exact T.bs.k _ _ (Own.join_right w q)
        | some p => have := T.fk c p w; rw [q] at this; cases this
      exact Nat.lt_succ_of_lt (Nat.lt_succ_of_lt (lt (this.elim id id)))
    · exact T.fr.inj x y c (hcl _ _ e1) (hcl _ _ e2)
  refine ⟨⟨T.bs.keep (fun a o e => hk a o (e.elim (T.bs.z a o) (T.bs.r a o))) fun a o e => ?_, fun a o e => ?_, ?_⟩, hk⟩
  · rcases Own.join_some e with e | ⟨_, e⟩
    · obtain ⟨w1, w2⟩ := fC e
      exact ⟨w2, T.bs.notNew (new a (Nat.le_of_succ_le w1))⟩
    · by_cases w : a = h.objs.size
      · subst w
        rw [Own.put_self] at e; cases e
        exact ⟨hD, T.bs.notNew (new _ (Nat.le_refl _))⟩
      · rw [Own.put_ne w] at e
        exact ⟨hk _ _ (old e), T.bs.notK e⟩
  · obtain ⟨w1, w2⟩ := fC e
    rw [Own.put_ne (Nat.ne_of_gt w1)]
    exact (T.bs.fresh (new a (Nat.le_of_succ_le w1))).2.1
  · subst ce
    have cov : ∀ x c, (cellsFrom ((h.push (lstObj [])).push { cls := .type "dict", data := .dict #[] }).objs.size scope.names cl).lookup x = some c → env.cells.lookup x = some c ∨ (h.objs.size + 2 ≤ (c : Nat) ∧ h₂.get? c = some cellObj) := fun x c e => (cf.a x c e).imp (fun w => hcl x c w.1) id
    have notcell : ∀ {x : Str}, scope.names.lookup x = some .free → ∀ k, (x, k) ∈ scope.names → k ≠ .cell := fun {x} e k m q => by
      have := C.once _ m
      rw [e] at this; rw [q] at this; cases this
    have jof : ∀ {c : Addr} {o : Obj}, (Of c = some o ∨ K c = some o) → (Of.join K) c = some o := fun {c o} q => by
      rcases q with q | q
      · exact Own.join_left q
      · cases w : Of c with
        | none => exact Own.join_right w q
        | some p => have := T.fk c p w; rw [q] at this; cases this
    refine ⟨C.kind, T.fr.glob, T.fr.bs, ⟨_, fun _ => none, fC' (by show h.objs.size + 1 ≤ (h.push (lstObj [])).objs.size; rw [z1]; exact Nat.le_refl _) hC, ?_, ?_⟩, ?_, ?_, ?_⟩
    · refine ⟨#[], 0, rfl, ?_, ?_⟩
      · intro e he; simp at he
      · intro name; rfl
    · intro x v hx
      have hm := mem_of_lookup hx
      obtain ⟨c, oc, val, q1, q2, q3, q4⟩ := hA (x, v) hm
      obtain ⟨_, e2, _⟩ := C.free (x, v) hm
      refine .inr ⟨relab_free e2, c, oc, val, ?_, .inr (jk (jof q2)), q3, q4⟩
      show (cellsFrom _ scope.names cl).lookup x = some c
      rw [cf_not _ _ _ (notcell e2)]
      obtain ⟨c', w⟩ := Option.isSome_iff_exists.mp (hcl2 _ (mem_of_lookup e2) rfl)
      have w : cl.lookup x = some c' := w
      have := hcl x c' w
      rw [q1] at this; cases this; exact w
    · intro x hx
      unfold cellNames at hx
      obtain ⟨⟨y, k⟩, hm, rfl⟩ := List.mem_map.mp hx
      obtain ⟨hm, hk'⟩ := List.mem_filter.mp hm
      have hk' : k = .cell := by simpa using hk'
      subst hk'
      have e2 : scope.names.lookup y = some .cell := C.once _ hm
      obtain ⟨c, e, hc⟩ := cf_cell (x := y) scope.names ((h.push (lstObj [])).push { cls := .type "dict", data := .dict #[] }).objs.size cl hm
      rw [z2] at hc
      refine ⟨relab_cell e2, c, cellObj, none, e, ?_, rfl⟩
      rcases cf.a y c e with w | ⟨w1, w2⟩
      · exact absurd w.2 (Nat.not_lt.mpr hc)
      · exact fC' (Nat.le_of_succ_le hc) w2
    · intro x y c e1 e2
      by_cases w : h.objs.size + 2 ≤ (c : Nat)
      · exact cf.b x y c e1 e2 w
      · rcases cov x c e1 with q1 | q1
        · rcases cov y c e2 with q2 | q2
          · exact T.fr.inj x y c q1 q2
          · exact absurd q2.1 w
        · exact absurd q1.1 w
    · intro x c e
      rcases cov x c e with q | ⟨q1, q2⟩
      · obtain ⟨o, q⟩ := T.fr.cl x c q
        exact ⟨o, .inr (jk (jof q))⟩
      · exact ⟨_, .inl (fC' (Nat.le_of_succ_le q1) q2)⟩
end
section
variable {X : Cx} {n : Nat} {S : Sc} {env : Env} {oc : List Str} {Z : Fz} {Of Or K : Own} {ra : List Addr} {ρ ρ₀ : Rho} {μ : Mem} {h h' : Heap} {A : Around}
theorem put_eq {D : Addr} {o : Obj} (e : K D = some o) : K.put D o = K := by
  funext a
  by_cases w : a = D
  · subst w; rw [Own.put_self, e]
  · rw [Own.put_ne w]
theorem snap_put {D : Addr} {o o' : Obj} {fr : List Addr} {h : Heap} (hD : D ∉ fr) : (snap (K.put D o) fr h).put D o' = snap (K.put D o') fr h := by
  funext a
  by_cases w : a = D
  · subst w
    rw [Own.put_self]
    unfold snap
    rw [if_neg hD, Own.put_self]
  · rw [Own.put_ne w]
    unfold snap
    split
    · rfl
    · rw [Own.put_ne w, Own.put_ne w]
/-- a kept thing that is no variable's cell turns -/
theorem St.setK (T : St X env oc Z Of Or K ra ρ μ h) {D : Addr} {o o' : Obj} (hD : K D = some o) (hc : ∀ v, o.data ≠ .cell v) (hn : h'.get? D = some o') (hk : ∀ b o, b ≠ D → h.get? b = some o → h'.get? b = some o) : St X env oc Z Of Or (K.put D o') ra ρ μ h' := by
  have ofD : Of D = none := by
    cases w : Of D with
    | none => rfl
    | some p => have := T.fk D p w; rw [hD] at this; cases this
  obtain ⟨nz, no⟩ := T.bs.notK (Own.join_right ofD hD)
  refine ⟨T.bs.keep (fun a o e => hk a o ?_ (e.elim (T.bs.z a o) (T.bs.r a o))) fun a o e => ?_, fun a p e => ?_, T.fr.kind, T.fr.glob, T.fr.bs, ?_, T.fr.own, T.fr.inj, fun x c e => ?_⟩
  · rintro rfl
    rcases e with e | e
    · exact nz o e
    · rw [no] at e; cases e
  · rcases Own.join_some e with e1 | ⟨e0, e⟩
    · have ne : a ≠ D := fun w => by rw [w, ofD] at e1; cases e1
      exact ⟨hk a o ne (T.bs.k a o (Own.join_left e1)), T.bs.notK (Own.join_left e1)⟩
    · by_cases w : a = D
      · subst w
        rw [Own.put_self] at e; cases e
        exact ⟨hn, nz, no⟩
      · rw [Own.put_ne w] at e
        exact ⟨hk a o w (T.bs.k a o (Own.join_right e0 e)), T.bs.notK (Own.join_right e0 e)⟩
  · have ne : a ≠ D := by rintro rfl; rw [ofD] at e; cases e
    rw [Own.put_ne ne]; exact T.fk a p e
  · obtain ⟨oL, m, f1, f2, f3⟩ := T.fr.loc
    refine ⟨oL, m, f1, f2, fun x v e => ?_⟩
    rcases f3 x v e with ⟨a, b⟩ | ⟨a, c', oc, val, e1, e2, e3, e4⟩
    · exact .inl ⟨a, b⟩
    · refine .inr ⟨a, c', oc, val, e1, e2.imp id fun q => ?_, e3, e4⟩
      rw [Own.put_ne]; exact q
      rintro rfl
      rw [hD] at q; cases q
      exact hc _ e3
  · obtain ⟨p, q⟩ := T.fr.cl x c e
    by_cases w : c = D
    · subst w; exact ⟨o', .inr Own.put_self⟩
    · exact ⟨p, q.imp id fun q => by rw [Own.put_ne w]; exact q⟩
/-- tests of a clause -/
noncomputable def Tsts (X : Cx) (n : Nat) (S : Sc) (ifs : List Expr) (ρ : Rho) (μ : Mem) (P : Bool → Mem → Prop) : Prop :=
  ∀ (A : Around) (env : Env) (s : Shared) (Z : Fz) (Of Or K : Own) (ra : List Addr) (Q : Bool → Shared → Prop) (E : Value → Shared → Prop),
    AOK A n → env.scope = S.sc → St X env S.oc Z Of Or K ra ρ μ s.heap → Go X env S.oc Z Of K ra ρ RB P s Q →
      wpAny X.M A (forIn ifs true fun c r => if r = true then do let ok ← isTrue c env (eval c env); pure (ForInStep.yield ok) else pure (ForInStep.yield r)) Q E s
theorem tsts_nil {P : Bool → Mem → Prop} (p : P true μ) : Tsts X n S [] ρ μ P := by
  intro A env s Z Of Or K ra Q E hA hs T g
  exact wpAny_tests_nil (g s.heap s.toks Z Or ra true true μ p Le.refl (List.prefix_refl _) T rfl)
theorem tsts_one {P : Bool → Mem → Prop} {c : Expr} (h : Tst X n S c ρ μ P) : Tsts X n S [c] ρ μ P := by
  intro A env s Z Of Or K ra Q E hA hs T g
  exact wpAny_tests_one (h A env s Z Of Or K ra Q E hA hs T g)
/-- what stands inside the clauses above d -/
noncomputable def wpAcc (X : Cx) (A : Around) (elt : Expr) (gens : List Comprehension) (scope : Scope) (pos : Pos) (d : Nat) (acc : Value) (env : Env) (Q : Unit → Shared → Prop) (E : Value → Shared → Prop) (s : Shared) : Prop :=
  match gens[d]? with
  | some g' => g'.is_async = 0 ∧ (∀ x, foldedSetIterable g'.iter env x = pure x) ∧ wpAny X.M A (eval g'.iter env) (fun x s₁ => wpAny X.M A (pyIter x) (fun it s₂ => wpAny X.M A (runOwn (.compStart (.ListComp elt gens scope pos) d it acc env) env) (fun _ s₃ => Q () s₃) E s₂) E s₁) E s
  | none => wpAny X.M A (eval elt env) (fun x s₁ => wpAny X.M A (call (.builtin "list.append") [acc, x]) (fun _ s₂ => Q () s₂) E s₁) E s
theorem compTurn_none {elt target iter : Expr} {ifs : List Expr} {gens : List Comprehension} {scope : Scope} {pos : Pos} {d : Nat} {it acc : Value} {env : Env} (hg : gens[d]? = some ⟨target, iter, ifs, 0⟩) (hq : gens[d + 1]? = none) :
    compTurn (.ListComp elt gens scope pos) d it acc env = (do
      standAt iter.pos
      match ← pyNext it with
      | none => pure (.done .next)
      | some v =>
        letOwnedTupleGo target it v
        assign target env v
        let mut ok := true
        for c in ifs do
          if ok then ok ← isTrue c env (eval c env)
        if ok then
          (do let _ ← call (.builtin "list.append") [acc, ← eval elt env])
        again (.compLoop (.ListComp elt gens scope pos) d it acc env)) := by
  unfold compTurn
  dsimp only
  generalize gens[d + 1]? = q at hq
  generalize gens[d]? = r at hg
  subst hg
  subst hq
  rfl
theorem compTurn_some {elt target iter : Expr} {ifs : List Expr} {gens : List Comprehension} {scope : Scope} {pos : Pos} {d : Nat} {it acc : Value} {env : Env} {t2 i2 : Expr} {f2 : List Expr} (hg : gens[d]? = some ⟨target, iter, ifs, 0⟩) (hq : gens[d + 1]? = some ⟨t2, i2, f2, 0⟩) :
    compTurn (.ListComp elt gens scope pos) d it acc env = (do
      standAt iter.pos
      match ← pyNext it with
      | none => pure (.done .next)
      | some v =>
        letOwnedTupleGo target it v
        assign target env v
        let mut ok := true
        for c in ifs do
          if ok then ok ← isTrue c env (eval c env)
        if ok then
          let x ← eval i2 env
          standAt i2.pos
          let x ← foldedSetIterable i2 env x
          let _ ← runOwn (.compStart (.ListComp elt gens scope pos) (d + 1) (← holding [x] (pyIter x)) acc env) env
        again (.compLoop (.ListComp elt gens scope pos) d it acc env)) := by
  unfold compTurn
  dsimp only
  generalize gens[d + 1]? = q at hq
  generalize gens[d]? = r at hg
  subst hg
  subst hq
  rfl
theorem compTurn_run {elt target iter : Expr} {ifs : List Expr} {gens : List Comprehension} {scope : Scope} {pos : Pos} {d : Nat} {it acc : Value} {env : Env} {Q : Fin → Shared → Prop} {E : Value → Shared → Prop} {s : Shared} (hg : gens[d]? = some ⟨target, iter, ifs, 0⟩) (ha : ∀ g ∈ gens, g.is_async = 0)
    (h : wpAny X.M A (pyNext it) (fun r s₁ => match r with
      | none => Q (.done .next) s₁
      | some v => wpAny X.M A (letOwnedTupleGo target it v) (fun _ s₂ => wpAny X.M A (assign target env v) (fun _ s₃ =>
        wpAny X.M A (forIn ifs true fun c r => if r = true then do let ok ← isTrue c env (eval c env); pure (ForInStep.yield ok) else pure (ForInStep.yield r)) (fun ok s₄ =>
          (ok = true → wpAcc X A elt gens scope pos (d + 1) acc env (fun _ s₅ => Q (.again (.compLoop (.ListComp elt gens scope pos) d it acc env)) s₅) E s₄) ∧ (ok = false → Q (.again (.compLoop (.ListComp elt gens scope pos) d it acc env)) s₄)) E s₃) E s₂) E s₁) E s) :
    wpAny X.M A (compTurn (.ListComp elt gens scope pos) d it acc env) Q E s := by
  unfold wpAcc at h
  cases hq : gens[d + 1]? with
  | none =>
    rw [compTurn_none hg hq]
    simp only [hq] at h
    refine wpAny_bind (wpAny_standAt (wpAny_bind (wpAny_mono h (fun r s₁ h₁ => ?_) fun _ _ e => e)))
    cases r with
    | none => exact wpAny_pure h₁
    | some v =>
      refine wpAny_bind (wpAny_mono h₁ (fun _ s₂ h₂ => wpAny_bind (wpAny_mono h₂ (fun _ s₃ h₃ => wpAny_bind (wpAny_mono h₃ (fun ok s₄ h₄ => ?_) fun _ _ e => e)) fun _ _ e => e)) fun _ _ e => e)
      cases ok with
      | false => exact wpAny_pure (h₄.2 rfl)
      | true => exact wpAny_bind (wpAny_bind (wpAny_mono (h₄.1 rfl) (fun x s₅ h₅ => wpAny_bind (wpAny_mono h₅ (fun _ s₆ h₆ => wpAny_pure (wpAny_pure h₆)) fun _ _ e => e)) fun _ _ e => e))
  | some g' =>
    obtain ⟨t2, i2, f2, a2⟩ := g'
    obtain rfl : a2 = 0 := ha _ (List.mem_of_getElem? hq)
    rw [compTurn_some hg hq]
    simp only [hq] at h
    refine wpAny_bind (wpAny_standAt (wpAny_bind (wpAny_mono h (fun r s₁ h₁ => ?_) fun _ _ e => e)))
    cases r with
    | none => exact wpAny_pure h₁
    | some v =>
      refine wpAny_bind (wpAny_mono h₁ (fun _ s₂ h₂ => wpAny_bind (wpAny_mono h₂ (fun _ s₃ h₃ => wpAny_bind (wpAny_mono h₃ (fun ok s₄ h₄ => ?_) fun _ _ e => e)) fun _ _ e => e)) fun _ _ e => e)
      cases ok with
      | false => exact wpAny_pure (h₄.2 rfl)
      | true =>
        obtain ⟨_, hf, w⟩ := h₄.1 rfl
        exact wpAny_bind (wpAny_mono w (fun x s₅ h₅ => wpAny_bind (wpAny_standAt (wpAny_bind (wpAny_of_eq (hf x) (wpAny_bind (wpAny_holding (wpAny_mono h₅ (fun it' s₆ h₆ => wpAny_bind (wpAny_mono h₆ (fun _ s₇ h₇ => wpAny_pure h₇) fun _ _ e => e)) fun _ _ e => e))))))) fun _ _ e => e)
noncomputable def Gc (X : Cx) (env : Env) (oc : List Str) (Z : Fz) (K : Own) (dA : Addr) (ra : List Addr) (P : Rho → Mem → List D → Prop) (s : Shared) (Q : Unit → Shared → Prop) : Prop :=
  ∀ h' tk Z' Of' Or' ra' ρ' μ' vs' m' acc', P ρ' μ' acc' → Le Z Z' → ra <+: ra' → St X env oc Z' Of' Or' (K.put dA (lstObj vs' m')) ra' ρ' μ' h' → RepAll X Z' vs' acc' → Q () { s with heap := h', toks := tk }
structure Cm where
  elt : Expr
  gens : List Comprehension
  scope : Scope
  pos : Pos
noncomputable abbrev Cm.e (c : Cm) : Expr := .ListComp c.elt c.gens c.scope c.pos
noncomputable def Em (X : Cx) (n : Nat) (S : Sc) (c : Cm) (d : Nat) (ρ : Rho) (μ : Mem) (acc : List D) (P : Rho → Mem → List D → Prop) : Prop :=
  ∀ (A : Around) (env : Env) (s : Shared) (Z : Fz) (Of Or K : Own) (ra : List Addr) (D : Addr) (vs : List Value) (m : Nat) (Q : Unit → Shared → Prop) (E : Value → Shared → Prop),
    AOK A n → env.scope = S.sc → St X env S.oc Z Of Or K ra ρ μ s.heap → K D = some (lstObj vs m) → RepAll X Z vs acc → Gc X env S.oc Z K D ra P s Q →
      wpAcc X A c.elt c.gens c.scope c.pos d (.ref D) env Q E s
theorem em_elt {c : Cm} {d : Nat} {acc : List D} {P : Rho → Mem → List D → Prop} (hg : c.gens[d]? = none) (hn : acc.length ≤ 100000)
    (he : Ev X n S c.elt ρ μ fun v μ₁ => ∃ x, v = .d x ∧ P ρ μ₁ (acc ++ [x])) : Em X n S c d ρ μ acc P := by
  intro A env s Z Of Or K ra D vs m Q E hA hs T hD hr g
  unfold wpAcc
  rw [hg]
  refine (he A env s Z Of Or K ra _ E hA hs T fun h₁ tk₁ Z₁ Or₁ ra₁ va a μ₁ p₁ z₁ pr₁ T₁ r₁ => ?_)
  obtain ⟨x, rfl, p⟩ := p₁
  have ofD : Of D = none := by
    cases w : Of D with
    | none => rfl
    | some p => have := T.fk D p w; rw [hD] at this; cases this
  have l := hr.length
  refine (wpAny_list_append_plain (items := vs.toArray) ⟨m, T₁.bs.k _ _ (Own.join_right ofD hD)⟩ (fun h₃ hp hs₃ => ?_) (by rw [List.size_toArray, sizeLine_eq]; omega))
  obtain ⟨k', e'⟩ := hp
  have e' : h₃.get? D = some (lstObj (vs ++ [va]) k') := by rw [e']; simp
  exact (g h₃ tk₁ Z₁ Of Or₁ ra₁ ρ μ₁ (vs ++ [va]) k' _ p z₁ pr₁ (T₁.setK hD (fun v => nofun) e' fun b o hb eb => (hs₃.2 b hb).trans eb) ((hr.mono z₁).append (.one r₁)))
theorem compStart_any {elt target iter : Expr} {ifs : List Expr} {gens : List Comprehension} {scope : Scope} {pos : Pos} {d : Nat} {it acc : Value} {env : Env} {R : Result → Shared → Prop} {s : Shared} (hg : gens[d]? = some ⟨target, iter, ifs, 0⟩)
    (h0 : codeAny X.M A (.compLoop (.ListComp elt gens scope pos) d it acc env) R s)
    (h : ∀ E, wpAny X.M A (pyIter it) (fun it' s' => codeAny X.M A (.compLoop (.ListComp elt gens scope pos) d it' acc env) R s') E s) :
    codeAny X.M A (.compStart (.ListComp elt gens scope pos) d it acc env) R s := by
  refine codeAny_of_tree ?_
  show wpAny _ _ ((compStart (.ListComp elt gens scope pos) d it acc env).onRaise (fun x => do noteFrame x env; standAt theWindowsPlace)) _ _ s
  refine wpAny_notedAt ?_
  have hg' : (clausesOf (.ListComp elt gens scope pos))[d]? = some ⟨target, iter, ifs, 0⟩ := hg
  unfold compStart
  simp only [hg']
  show wpAny _ _ (ask >>= _) _ _ s
  refine wpAny_bind (wpAny_askSetting (wpAny_ite ?_))
  split
  · first
      | exact wpAny_bind (wpAny_pure (wpAny_pure (And.intro rfl h0)))
      | exact wpAny_pure (And.intro rfl h0)
  · first
      | exact wpAny_bind (wpAny_rule (wpAny_bind (wpAny_standAt (wpAny_bind (wpAny_mono (h _) (fun it' s' h' => wpAny_pure (And.intro rfl h')) fun _ _ x => x)))))
      | (refine wpAny_bind (wpAny_rule ?_); show wpAny _ _ (standAt iter.pos >>= _) _ _ s; exact wpAny_bind (wpAny_standAt (wpAny_bind (wpAny_mono (h _) (fun it' s' h' => wpAny_pure (And.intro rfl h')) fun _ _ x => x))))
inductive CompI (X : Cx) (A : Around) (tgt : Expr) (it : Value) (fr : List Addr) (env : Env) (oc : List Str) (K : Own) (D : Addr) (Z : Fz) (ra : List Addr) (s : Shared) (I : List Mine.D → Rho → Mem → List Mine.D → Prop) (k : Nat) (s₂ : Shared) : Prop
  | mk (xs : List Mine.D) (Z₂ : Fz) (Of₂ Or₂ : Own) (ra₂ : List Addr) (ρ₂ : Rho) (μ₂ : Mem) (hs₂ h₂ : Heap) (tk₂ : Nat) (vs₂ : List Value) (m₂ : Nat) (acc₂ : List Mine.D) : k = xs.length → s₂ = { s with heap := h₂, toks := tk₂ } → I xs ρ₂ μ₂ acc₂ → Le Z Z₂ → ra <+: ra₂ → St X env oc Z₂ Of₂ Or₂ (snap (K.put D (lstObj vs₂ m₂)) fr hs₂) ra₂ ρ₂ μ₂ h₂ → RepAll X Z₂ vs₂ acc₂ → (∀ b ∈ fr, ∃ o, hs₂.get? b = some o) → Iter X A tgt it fr xs Z₂ hs₂ → CompI X A tgt it fr env oc K D Z ra s I k s₂
theorem comp_loop {c : Cm} {d : Nat} {target iter : Expr} {ifs : List Expr} (hg : c.gens[d]? = some ⟨target, iter, ifs, 0⟩) (ha : ∀ g ∈ c.gens, g.is_async = 0) {P : Rho → Mem → List D → Prop} (I : List D → Rho → Mem → List D → Prop)
    (turn : ∀ x rest ρ₁ μ₁ acc₁, I (x :: rest) ρ₁ μ₁ acc₁ → As X n S target (.d x) ρ₁ μ₁ fun ρ₂ μ₂ => Tsts X n S ifs ρ₂ μ₂ fun b μ₃ => (b = true → Em X n S c (d + 1) ρ₂ μ₃ acc₁ fun ρ₄ μ₄ acc₄ => I rest ρ₄ μ₄ acc₄) ∧ (b = false → I rest ρ₂ μ₃ acc₁))
    (fin : ∀ ρ₁ μ₁ acc₁, I [] ρ₁ μ₁ acc₁ → P ρ₁ μ₁ acc₁)
    {s : Shared} {D : Addr} {vs : List Value} {m : Nat} {acc : List Mine.D} {it : Value} {fr : List Addr} {xs : List Mine.D} {R : Result → Shared → Prop}
    (hA : AOK A n) (hs : env.scope = S.sc) (T : St X env S.oc Z Of Or K ra ρ μ s.heap) (hD : K D = some (lstObj vs m)) (hr : RepAll X Z vs acc) (hf : Fresh4 fr Z Of Or K s.heap) (hit : Iter X A target it fr xs Z s.heap) (h0 : I xs ρ μ acc)
    (g : Gc X env S.oc Z K D ra P s fun _ s' => R (.ok .next) s') : codeAny X.M A (.compLoop c.e d it (.ref D) env) R s := by
  have hoff := cells_off T hf
  have Dfr : D ∉ fr := fun w => by have := (hf D w).2.2.2.2; rw [hD] at this; cases this
  have Kfr : ∀ o, ∀ b ∈ fr, (K.put D o) b = none := fun o b hb => by rw [Own.put_ne (fun w : b = D => Dfr (by rw [← w]; exact hb))]; exact (hf b hb).2.2.2.2
  refine codeAny_loop rfl (CompI X A target it fr env S.oc K D Z ra s I) ?_ xs.length
    ⟨xs, Z, Of, Or, ra, ρ, μ, s.heap, s.heap, s.toks, vs, m, acc, rfl, rfl, h0, Le.refl, List.prefix_refl _, by rw [put_eq hD]; exact T.hold hf, hr, fun b hb => (hf b hb).1, hit⟩
  rintro k s₂ ⟨xs, Z₂, Of₂, Or₂, ra₂, ρ₂, μ₂, hs₂, h₂, tk₂, vs₂, m₂, acc₂, rfl, rfl, p₂, z₂, pr₂, T₂, hr₂, hp₂, hit₂⟩
  show wpAny _ A ((compTurn c.e d it (.ref D) env).onRaise (fun x => do noteFrame x env; theTreesLotGoes x)) _ _ _
  refine wpAny_noted ?_
  refine compTurn_run hg ha ?_
  have frO : ∀ {h₉ : Heap} {Of₉ : Own} {Z₉ : Fz} {Or₉ : Own} {ra₉ : List Addr} {ρ₉ : Rho} {μ₉ : Mem} {vs₉ : List Value} {m₉ : Nat} {hs₉ : Heap}, St X env S.oc Z₉ Of₉ Or₉ (snap (K.put D (lstObj vs₉ m₉)) fr hs₉) ra₉ ρ₉ μ₉ h₉ → (∀ b ∈ fr, ∃ o, hs₉.get? b = some o) → ∀ b ∈ fr, ∃ o, hs₉.get? b = some o ∧ Of₉.join (snap (K.put D (lstObj vs₉ m₉)) fr hs₉) b = some o := fun {h₉ Of₉ Z₉ Or₉ ra₉ ρ₉ μ₉ vs₉ m₉ hs₉} T hp b hb => by
    obtain ⟨o, e⟩ := hp b hb
    have q : snap (K.put D (lstObj vs₉ m₉)) fr hs₉ b = some o := by unfold snap; rw [if_pos hb]; exact e
    refine ⟨o, e, Own.join_right ?_ q⟩
    cases w : Of₉ b with
    | none => rfl
    | some p => have := T.fk b p w; rw [q] at this; cases this
  have pins : ∀ b ∈ fr, ∀ o, hs₂.get? b = some o → h₂.get? b = some o := fun b hb o e => by
    obtain ⟨o', e1, e2⟩ := frO T₂ hp₂ b hb
    rw [e] at e1; cases e1
    exact T₂.bs.k b o e2
  cases xs with
  | nil =>
    refine hit₂ _ _ _ pins T₂.bs.z fun h₃ tk₃ hk₃ => ?_
    have T₃ : St X env S.oc Z₂ Of₂ Or₂ (snap (K.put D (lstObj vs₂ m₂)) fr h₃) ra₂ ρ₂ μ₂ h₃ := T₂.step hp₂ hoff Le.refl (fun a o z => .inl z) (fun a o z => hk₃ a o (fun hb => ?_) (T₂.bs.z a o z)) hk₃
    · exact g h₃ tk₃ Z₂ Of₂ Or₂ ra₂ ρ₂ μ₂ vs₂ m₂ acc₂ (fin _ _ _ p₂) z₂ pr₂ (T₃.drop (Kfr _) (T₃.fr.drop hoff)) hr₂
    · obtain ⟨p, e1, e2⟩ := frO T₂ hp₂ a hb
      exact (T₂.bs.notK e2).1 o z
  | cons x rest =>
    refine hit₂ _ _ _ pins T₂.bs.z fun v h₃ tk₃ hgo => ?_
    refine hgo _ _ _ rfl fun h₄ tk₄ Z₄ z₄ n₄ zz₄ k₄ pr₄ r₄ it₄ => ?_
    have T₄ := T₂.step hp₂ hoff z₄ n₄ zz₄ k₄
    refine turn x rest ρ₂ μ₂ acc₂ p₂ A env _ Z₄ Of₂ Or₂ (snap (K.put D (lstObj vs₂ m₂)) fr h₄) ra₂ v _ _ hA hs T₄ r₄ fun h₅ tk₅ Z₅ Of₅ Or₅ ra₅ ρ₅ μ₅ p₅ z₅ pr₅ T₅ => ?_
    refine p₅ A env _ Z₅ Of₅ Or₅ (snap (K.put D (lstObj vs₂ m₂)) fr h₄) ra₅ _ _ hA hs T₅ fun h₆ tk₆ Z₆ Or₆ ra₆ b b' μ₆ p₆ z₆ pr₆ T₆ r₆ => ?_
    cases r₆
    have off : ∀ {h₉ : Heap} {Of₉ : Own} {Z₉ : Fz} {Or₉ : Own} {ra₉ : List Addr} {ρ₉ : Rho} {μ₉ : Mem} {vs₉ : List Value} {m₉ : Nat}, St X env S.oc Z₉ Of₉ Or₉ (snap (K.put D (lstObj vs₉ m₉)) fr h₄) ra₉ ρ₉ μ₉ h₉ → ∀ b ∈ fr, ∀ p, ¬ Z₉ b p := fun T b hb p => by
      obtain ⟨o, _, e⟩ := frO T pr₄ b hb
      exact (T.bs.notK e).1 p
    refine ⟨fun hb => ?_, fun hb => ?_⟩ <;> cases hb
    rotate_left
    · refine ⟨rfl, rest.length, Nat.lt_succ_self _, rest, Z₆, Of₅, Or₆, ra₆, ρ₅, μ₆, h₄, h₆, tk₆, vs₂, m₂, acc₂, rfl, rfl, p₆.2 rfl, ((z₂.trans z₄).trans z₅).trans z₆, (pr₂.trans pr₅).trans pr₆, T₆, hr₂.mono ((z₄.trans z₅).trans z₆), pr₄, iter_le (z₅.trans z₆) pr₄ (off T₆) it₄⟩
    · refine (p₆.1 rfl A env _ Z₆ Of₅ Or₆ (snap (K.put D (lstObj vs₂ m₂)) fr h₄) ra₆ D vs₂ m₂ _ _ hA hs T₆ (by rw [snap_off Dfr, Own.put_self]) (hr₂.mono ((z₄.trans z₅).trans z₆)) fun h₇ tk₇ Z₇ Of₇ Or₇ ra₇ ρ₇ μ₇ vs₇ m₇ acc₇ p₇ z₇ pr₇ T₇ hr₇ => ?_)
      rw [snap_put Dfr] at T₇
      exact ⟨rfl, rest.length, Nat.lt_succ_self _, rest, Z₇, Of₇, Or₇, ra₇, ρ₇, μ₇, h₄, h₇, tk₇, vs₇, m₇, acc₇, rfl, rfl, p₇, (((z₂.trans z₄).trans z₅).trans z₆).trans z₇, ((pr₂.trans pr₅).trans pr₆).trans pr₇, T₇, hr₇, pr₄, iter_le ((z₅.trans z₆).trans z₇) pr₄ (off T₇) it₄⟩
/-- a clause -/
theorem em_gen {c : Cm} {d : Nat} {target iter : Expr} {ifs : List Expr} (hg : c.gens[d]? = some ⟨target, iter, ifs, 0⟩) (ha : ∀ g ∈ c.gens, g.is_async = 0) {acc : List D} {P : Rho → Mem → List D → Prop} (I : List D → Rho → Mem → List D → Prop)
    (hi : EvIt X n S iter target ρ μ fun xs μ₁ => I xs ρ μ₁ acc)
    (turn : ∀ x rest ρ₁ μ₁ acc₁, I (x :: rest) ρ₁ μ₁ acc₁ → As X n S target (.d x) ρ₁ μ₁ fun ρ₂ μ₂ => Tsts X n S ifs ρ₂ μ₂ fun b μ₃ => (b = true → Em X n S c (d + 1) ρ₂ μ₃ acc₁ fun ρ₄ μ₄ acc₄ => I rest ρ₄ μ₄ acc₄) ∧ (b = false → I rest ρ₂ μ₃ acc₁))
    (fin : ∀ ρ₁ μ₁ acc₁, I [] ρ₁ μ₁ acc₁ → P ρ₁ μ₁ acc₁) (hs : ∀ env x, foldedSetIterable iter env x = pure x := by intros; rfl) : Em X n S c d ρ μ acc P := by
  intro A env s Z Of Or K ra D vs m Q E hA hs' T hD hr g
  unfold wpAcc
  rw [hg]
  refine ⟨rfl, fun x => hs env x, hi A env s Z Of Or K ra _ E hA hs' T fun h₁ tk₁ Z₁ Or₁ ra₁ it fr xs μ₁ p₁ z₁ pr₁ T₁ hf hit hsl => ?_⟩
  refine wpAny_runOwn ?_
  have key : codeAny X.M A (.compLoop c.e d it (.ref D) env) (fun r s' => match r with | .ok f => Q () s' | .error e => cameBackBy X.M A env E e s') { s with heap := h₁, toks := tk₁ } :=
    comp_loop hg ha I turn fin hA hs' T₁ hD (hr.mono z₁) hf hit p₁ fun h' tk Z' Of' Or' ra' ρ' μ' vs' m' acc' p z pr T' r => g h' tk Z' Of' Or' ra' ρ' μ' vs' m' acc' p (z₁.trans z) (pr₁.trans pr) T' r
  exact compStart_any hg key fun E' => hsl _ _ _ (fun b hb o e => e) key
end
section
variable {X : Cx} {n : Nat} {S : Sc} {env : Env} {oc : List Str} {Z : Fz} {Of Or K : Own} {ra : List Addr} {ρ ρ₀ : Rho} {μ : Mem} {h h' : Heap} {A : Around}
/-- another heap with the same -/
theorem St.swap (T : St X env oc Z Of Or K ra ρ μ h) (hk : ∀ a o, (Z a o ∨ Or a = some o ∨ (Of.join K) a = some o) → h'.get? a = some o) : St X env oc Z Of Or K ra ρ μ h' :=
  ⟨T.bs.keep (fun a o e => hk a o (e.elim .inl fun e => .inr (.inl e))) fun a o e => ⟨hk a o (.inr (.inr e)), T.bs.notK e⟩, T.fk, T.fr⟩
theorem iter_heap {tgt : Expr} {it : Value} {fr : List Addr} {xs : List D} (hk : ∀ b ∈ fr, ∀ o, h.get? b = some o → h'.get? b = some o) (i : Iter X A tgt it fr xs Z h) : Iter X A tgt it fr xs Z h' := by
  cases xs with
  | nil => exact fun s Q E p z q => i s Q E (fun b hb o e => p b hb o (hk b hb o e)) z q
  | cons x xs => exact fun s Q E p z q => i s Q E (fun b hb o e => p b hb o (hk b hb o e)) z q
/-- after a comprehension: the frame as it was, the list data -/
theorem comp_back {oc' : List Str} {cenv : Env} {Z₁ Z₃ : Fz} {Of₃ Or₁ Or₃ : Own} {ra₁ ra₃ : List Addr} {ρ₃ : Rho} {μ₁ μ₃ : Mem} {h₁ h₃ : Heap} {vs : List Value} {m : Nat}
    (T₁ : St X env oc Z₁ Of Or₁ K ra₁ ρ μ₁ h₁) (T₃ : St X cenv oc' Z₃ Of₃ Or₃ (((Of.join K).put h₁.objs.size (lstObj [])).put h₁.objs.size (lstObj vs m)) ra₃ ρ₃ μ₃ h₃) (hz : Le Z₁ Z₃) (hp : ra₁ <+: ra₃) :
    (∀ a o, Of₃ a = some o → h₃.get? a = some o ∧ (∀ p, ¬ addZ Z₃ h₁.objs.size (lstObj vs m) a p) ∧ Or₃ a = none ∧ Of a = none ∧ K a = none) ∧
      St X env oc (addZ Z₃ h₁.objs.size (lstObj vs m)) Of Or₃ K ra₃ ρ μ₃ h₃ := by
  have kD : (((Of.join K).put h₁.objs.size (lstObj [])).put h₁.objs.size (lstObj vs m)) h₁.objs.size = some (lstObj vs m) := Own.put_self
  have ofD : Of₃ h₁.objs.size = none := by
    cases w : Of₃ h₁.objs.size with
    | none => rfl
    | some p => have := T₃.fk _ p w; rw [kD] at this; cases this
  have hh : ∀ a o, (Of.join K) a = some o → Of₃ a = none := fun a o e => by
    have ne : a ≠ h₁.objs.size := Nat.ne_of_lt (Heap.lt_size (T₁.bs.k _ _ e))
    cases w : Of₃ a with
    | none => rfl
    | some p => have := T₃.fk _ p w; rw [Own.put_ne ne, Own.put_ne ne, e] at this; cases this
  have B := T₃.bs.calm (Own.join_right ofD kD)
  have jk : ∀ {a : Addr} {o : Obj}, (Of.join K) a = some o → ((Of₃.join (((Of.join K).put h₁.objs.size (lstObj [])).put h₁.objs.size (lstObj vs m))).del h₁.objs.size) a = some o := fun {a o} e => by
    have ne : a ≠ h₁.objs.size := Nat.ne_of_lt (Heap.lt_size (T₁.bs.k _ _ e))
    rw [Own.del_ne ne, Own.join_right_none (hh a o e), Own.put_ne ne, Own.put_ne ne]; exact e
  refine ⟨fun a o e => ?_, B.keep (fun a o e => e.elim (B.z a o) (B.r a o)) (fun a o e => ⟨B.k a o (jk e), B.notK (jk e)⟩), T₁.fk, T₁.fr.mono (hz.trans addZ_le) hp⟩
  have ne : a ≠ h₁.objs.size := by rintro rfl; rw [ofD] at e; cases e
  have q : ((Of₃.join (((Of.join K).put h₁.objs.size (lstObj [])).put h₁.objs.size (lstObj vs m))).del h₁.objs.size) a = some o := by rw [Own.del_ne ne]; exact Own.join_left e
  obtain ⟨n1, n2⟩ := B.notK q
  have : (Of.join K) a = none := by
    cases w : (Of.join K) a with
    | none => rfl
    | some p => have := hh a p w; rw [e] at this; cases this
  exact ⟨B.k a o q, n1, n2, Own.join_none.mp this⟩
/-- the run of a list comprehension -/
theorem comp_run {elt target iter : Expr} {ifs : List Expr} {gs : List Comprehension} {scope : Scope} {pos p0 : Pos} {s : Shared} {use : Option (Value → Sem Unit)} {Q : Value → Shared → Prop} {E : Value → Shared → Prop}
    (I : List D → Rho → Mem → List D → Prop) {PF : Rho → Mem → List D → Prop} (C : CompOk scope S ρ ρ₀) (ha : ∀ g ∈ gs, g.is_async = 0)
    (hi : EvIt X n S iter target ρ μ fun xs μ₁ => I xs ρ₀ μ₁ [])
    (turn : ∀ x rest ρ₁ μ₁ acc₁, I (x :: rest) ρ₁ μ₁ acc₁ → As X n (S.sub scope) target (.d x) ρ₁ μ₁ fun ρ₂ μ₂ => Tsts X n (S.sub scope) ifs ρ₂ μ₂ fun b μ₃ => (b = true → Em X n (S.sub scope) ⟨elt, ⟨target, iter, ifs, 0⟩ :: gs, scope, pos⟩ 1 ρ₂ μ₃ acc₁ fun ρ₄ μ₄ acc₄ => I rest ρ₄ μ₄ acc₄) ∧ (b = false → I rest ρ₂ μ₃ acc₁))
    (fin : ∀ ρ₁ μ₁ acc₁, I [] ρ₁ μ₁ acc₁ → PF ρ₁ μ₁ acc₁)
    (hs : ∀ env x, foldedSetIterable iter env x = pure x) (hA : AOK A n) (hs' : env.scope = S.sc) (T : St X env S.oc Z Of Or K ra ρ μ s.heap)
    (g : ∀ h' tk Z' Or' ra' a ρ' μ' acc, PF ρ' μ' acc → Le Z Z' → ra <+: ra' → RepD X Z' (.ref a) (.lst acc) → ∀ C oC, h'.get? C = some oC → (∃ m, ObjNs oC m) → (∀ p, ¬ Z' C p) → Or' C = none → Of C = none → K C = none → (∀ x c, env.cells.lookup x = some c → c ≠ C) →
      St X env S.oc Z' Of Or' K ra' ρ μ' h' → compPost X.M A E use Q (.ref a) C (.ok .next) { s with heap := h', toks := tk }) :
    wpAny X.M A (comprehension (.ListComp elt (⟨target, iter, ifs, 0⟩ :: gs) scope pos) scope env p0 (newList []) false (eval iter env) use) Q E s := by
  obtain ⟨_, cl, hclos, _, _⟩ := comp_cells T hs' C
  refine wpAny_comprehension_free (g := ⟨target, iter, ifs, 0⟩) (gs := gs) rfl (fun x => hs env x) hclos C.kind (fun x hx hl => by rw [C.once x hx, hl]) ?_
  refine hi A env s Z Of Or K ra (fun it s₂ => wpAny X.M A (newList []) (fun acc s₃ => wpAny X.M A (newFunctionEnv scope env.globals cl [] env.qual none .none (some env)) (fun cenv s₄ =>
        codeAny X.M A (.compStart (.ListComp elt (⟨target, iter, ifs, 0⟩ :: gs) scope pos) 0 it acc { cenv with scope := relabel scope env }) (compPost X.M A E use Q acc cenv.locals) s₄) E s₃) E s₂) E hA hs' T
    fun h₁ tk₁ Z₁ Or₁ ra₁ it fr xs μ₁ p₁ z₁ pr₁ T₁ hf hit hsl => ?_
  obtain ⟨hA₁, cl', hclos', hcl1, hcl2⟩ := comp_cells T₁ hs' C
  obtain rfl : cl' = cl := by
    have := hclos'.symm.trans hclos
    injection this
  refine wpAny_newObj_type ?_
  simp only [newFunctionEnv, Option.isSome_some, if_true]
  refine wpAny_bind (wpAny_alloc ?_)
  refine wpAny_bind (wpAny_layCells _ (fun name kind cells => by cases hkc : kind == NameKind.cell <;> simp [hkc]) _ _ _ _ ?_)
  refine wpAny_bind (wpAny_pure (wpAny_pure ?_))
  obtain ⟨T₂, hk₂⟩ := compNew_St (cl := cl') T₁ C hA₁ hcl1 hcl2 rfl _ rfl
  have lt : ∀ {a : Addr} {o : Obj}, h₁.get? a = some o → (a : Nat) < h₁.objs.size := fun e => Heap.lt_size e
  have z1 : (h₁.push (lstObj [])).objs.size = h₁.objs.size + 1 := Heap.size_push ..
  have ofN : ∀ {a : Addr}, (a : Nat) < h₁.objs.size → fromC (h₁.push (lstObj [])).objs.size (pushCells ((h₁.push (lstObj [])).push { cls := .type "dict", data := .dict #[] }) scope.names) a = none := fun {a} w => by
    unfold fromC
    rw [if_neg (by rw [z1]; exact Nat.not_le.mpr (Nat.lt_succ_of_lt w))]
  have hf₂ : Fresh4 fr Z₁ (fromC (h₁.push (lstObj [])).objs.size (pushCells ((h₁.push (lstObj [])).push { cls := .type "dict", data := .dict #[] }) scope.names)) Or₁ ((Of.join K).put h₁.objs.size (lstObj [])) (pushCells ((h₁.push (lstObj [])).push { cls := .type "dict", data := .dict #[] }) scope.names) := fun b hb => by
    obtain ⟨⟨o, e⟩, f1, f2, f3, f4⟩ := hf b hb
    refine ⟨⟨o, hk₂ b o e⟩, f1, f2, ofN (lt e), ?_⟩
    rw [Own.put_ne (Nat.ne_of_lt (lt e))]; exact Own.join_none.mpr ⟨f3, f4⟩
  have e0 : ∀ (R : Result → Shared → Prop), codeAny X.M A (.compLoop (.ListComp elt (⟨target, iter, ifs, 0⟩ :: gs) scope pos) 0 it (.ref h₁.objs.size) { scope := relabel scope env, locals := (h₁.push (lstObj [])).objs.size, globals := env.globals, cells := cellsFrom ((h₁.push (lstObj [])).push { cls := .type "dict", data := .dict #[] }).objs.size scope.names cl', qual := env.qual, func := none, code := env.code, frame := env.frame, builtins := env.builtins }) R
      { s with heap := pushCells ((h₁.push (lstObj [])).push { cls := .type "dict", data := .dict #[] }) scope.names, toks := tk₁ } →
      codeAny X.M A (.compStart (.ListComp elt (⟨target, iter, ifs, 0⟩ :: gs) scope pos) 0 it (.ref h₁.objs.size) { scope := relabel scope env, locals := (h₁.push (lstObj [])).objs.size, globals := env.globals, cells := cellsFrom ((h₁.push (lstObj [])).push { cls := .type "dict", data := .dict #[] }).objs.size scope.names cl', qual := env.qual, func := none, code := env.code, frame := env.frame, builtins := env.builtins }) R
      { s with heap := pushCells ((h₁.push (lstObj [])).push { cls := .type "dict", data := .dict #[] }) scope.names, toks := tk₁ } := fun R k =>
    compStart_any rfl k fun E' => hsl _ _ _ (fun b hb o e => hk₂ b o e) k
  refine e0 _ ?_
  refine comp_loop (c := ⟨elt, ⟨target, iter, ifs, 0⟩ :: gs, scope, pos⟩) (d := 0) (S := S.sub scope) (n := n) rfl (fun g hg => ?_) I turn fin hA (by show relabel scope env = relab scope S.sc; rw [relab_eq, hs']) T₂ Own.put_self .nil hf₂ (iter_heap (fun b _ o e => hk₂ b o e) hit) p₁ fun h' tk Z' Of' Or' ra' ρ' μ' vs' m' acc' p z pr T' r => ?_
  · rcases List.mem_cons.mp hg with rfl | hg
    · rfl
    · exact ha g hg
  · obtain ⟨b1, b2⟩ := comp_back T₁ T' z pr
    obtain ⟨oL, mL, l1, l2, _⟩ := T'.fr.loc
    obtain ⟨c1, c2, c3, c4, c5⟩ := b1 _ _ l1
    exact g h' tk _ Or' ra' h₁.objs.size ρ' μ' acc' p ((z₁.trans z).trans addZ_le) (pr₁.trans pr) (.lst addZ_new (r.mono addZ_le)) _ oL c1 ⟨mL, l2⟩ c2 c3 c4 c5 (fun x c e w => by
      obtain ⟨o, q⟩ := T₁.fr.cl x c e
      have : (Of.join K) c = some o := by
        rcases q with q | q
        · exact Own.join_left q
        · cases w : Of c with
          | none => exact Own.join_right w q
          | some p => have := T₁.fk c p w; rw [q] at this; cases this
      have := lt (T₁.bs.k _ _ this)
      rw [w] at this
      have this : (h₁.push (lstObj [])).objs.size < h₁.objs.size := this
      rw [z1] at this
      exact absurd this (Nat.not_lt.mpr (Nat.le_succ _))) b2
/-- [.. for .. in ..] -/
theorem ev_comp (ρ₀ : Rho) {elt target iter : Expr} {ifs : List Expr} {gs : List Comprehension} {scope : Scope} {pos : Pos} {P : V → Mem → Prop} (I : List D → Rho → Mem → List D → Prop) (C : CompOk scope S ρ ρ₀)
    (hi : EvIt X n S iter target ρ μ fun xs μ₁ => I xs ρ₀ μ₁ [])
    (turn : ∀ x rest ρ₁ μ₁ acc₁, I (x :: rest) ρ₁ μ₁ acc₁ → As X n (S.sub scope) target (.d x) ρ₁ μ₁ fun ρ₂ μ₂ => Tsts X n (S.sub scope) ifs ρ₂ μ₂ fun b μ₃ => (b = true → Em X n (S.sub scope) ⟨elt, ⟨target, iter, ifs, 0⟩ :: gs, scope, pos⟩ 1 ρ₂ μ₃ acc₁ fun ρ₄ μ₄ acc₄ => I rest ρ₄ μ₄ acc₄) ∧ (b = false → I rest ρ₂ μ₃ acc₁))
    (fin : ∀ ρ₁ μ₁ acc₁, I [] ρ₁ μ₁ acc₁ → P (.d (.lst acc₁)) μ₁) (ha : ∀ g ∈ gs, g.is_async = 0 := by simp)
    (hs : ∀ env x, foldedSetIterable iter env x = pure x := by intros; rfl) : Ev X n S (.ListComp elt (⟨target, iter, ifs, 0⟩ :: gs) scope pos) ρ μ P := by
  intro A env s Z Of Or K ra Q E hA hs' T g
  rw [eval_ListComp]
  refine comp_run (PF := fun _ μ₁ acc₁ => P (.d (.lst acc₁)) μ₁) I C ha hi turn fin hs hA hs' T fun h' tk Z' Or' ra' a ρ' μ' acc p z pr r Ca oC c1 cm c2 c3 c4 c5 c6 T' => ?_
  obtain ⟨m, cm⟩ := cm
  refine ⟨m, cm.at c1, fun h'' hs'' => ?_⟩
  have T'' : St X env S.oc Z' Of Or' K ra' ρ μ' h'' := T'.swap fun a o e => (hs''.2 a ?_).trans ?_
  · exact g h'' tk Z' Or' ra' _ (.d (.lst acc)) μ' p z pr T'' r
  · rintro rfl
    rcases e with e | e | e
    · exact c2 o e
    · rw [c3] at e; cases e
    · rw [Own.join_none.mpr ⟨c4, c5⟩] at e; cases e
  · rcases e with e | e | e
    · exact T'.bs.z a o e
    · exact T'.bs.r a o e
    · exact T'.bs.k a o e
/-- x = [.. for .. in ..] on one line -/
theorem ex_comp (ρ₀ : Rho) {elt target iter : Expr} {ifs : List Expr} {gs : List Comprehension} {scope : Scope} {pos spos py : Pos} {y : Str} {P : Fl → Rho → Mem → Prop} (I : List D → Rho → Mem → List D → Prop) (C : CompOk scope S ρ ρ₀)
    (hsw : ∀ env, env.scope = S.sc → swapsWith (.ListComp elt (⟨target, iter, ifs, 0⟩ :: gs) scope pos) (some (.Name y py)) spos.line env = pure true)
    (hi : EvIt X n S iter target ρ μ fun xs μ₁ => I xs ρ₀ μ₁ [])
    (turn : ∀ x rest ρ₁ μ₁ acc₁, I (x :: rest) ρ₁ μ₁ acc₁ → As X n (S.sub scope) target (.d x) ρ₁ μ₁ fun ρ₂ μ₂ => Tsts X n (S.sub scope) ifs ρ₂ μ₂ fun b μ₃ => (b = true → Em X n (S.sub scope) ⟨elt, ⟨target, iter, ifs, 0⟩ :: gs, scope, pos⟩ 1 ρ₂ μ₃ acc₁ fun ρ₄ μ₄ acc₄ => I rest ρ₄ μ₄ acc₄) ∧ (b = false → I rest ρ₂ μ₃ acc₁))
    (fin : ∀ ρ₁ μ₁ acc₁, I [] ρ₁ μ₁ acc₁ → As X n S (.Name y py) (.d (.lst acc₁)) ρ μ₁ fun ρ' μ' => P .nxt ρ' μ') (ha : ∀ g ∈ gs, g.is_async = 0 := by simp)
    (hs : ∀ env x, foldedSetIterable iter env x = pure x := by intros; rfl) : Ex X n S (.Assign [.Name y py] (.ListComp elt (⟨target, iter, ifs, 0⟩ :: gs) scope pos) spos) ρ μ P := by
  intro A env s Z Of Or K ra Q E hA hs' T g
  rw [exec_Assign_Name_used _ _ _ _ (hsw env hs')]
  refine wpAny_bind (wpAny_standAt (wpAny_bind ?_))
  show wpAny _ A (do let _ ← comprehension (.ListComp elt (⟨target, iter, ifs, 0⟩ :: gs) scope pos) scope env _ (newList []) false (eval iter env) (some (assign (.Name y py) env))) _ _ s
  refine wpAny_bind (wpAny_mono (comp_run (use := some (assign (.Name y py) env)) (Q := fun _ s' => Q .next s') (PF := fun _ μ₁ acc₁ => As X n S (.Name y py) (.d (.lst acc₁)) ρ μ₁ fun ρ' μ' => P .nxt ρ' μ') I C ha hi turn fin hs hA hs' T
    fun h' tk Z' Or' ra' a ρ' μ' acc p z pr r Ca oC c1 cm c2 c3 c4 c5 c6 T' => ?_) (fun _ s' hq => wpAny_pure (wpAny_pure hq)) fun _ _ e => e)
  obtain ⟨m, cm⟩ := cm
  have hf : Fresh4 [Ca] Z' Of Or' K h' := fun b hb => by
    rw [List.mem_singleton.mp hb]; exact ⟨⟨oC, c1⟩, c2, c3, c4, c5⟩
  show wpAny _ A (assign (.Name y py) env (.ref a)) _ _ _
  refine p A env _ Z' Of Or' (snap K [Ca] h') ra' (.ref a) _ _ hA hs' (T'.hold hf) r fun h₂ tk₂ Z₂ Of₂ Or₂ ra₂ ρ₂ μ₂ p₂ z₂ pr₂ T₂ => ?_
  have kC : snap K [Ca] h' Ca = some oC := by unfold snap; rw [if_pos (.head _)]; exact c1
  have ofC : Of₂ Ca = none := by
    cases w : Of₂ Ca with
    | none => rfl
    | some q => have := T₂.fk Ca q w; rw [kC] at this; cases this
  refine ⟨m, cm.at (T₂.bs.k _ _ (Own.join_right ofC kC)), fun h'' hs'' => ?_⟩
  have off : CellsOff env [Ca] := fun x c e hm => c6 x c e (List.mem_singleton.mp hm)
  have T₃ := T₂.drop (fun b hb => by rw [List.mem_singleton.mp hb]; exact c5) (T₂.fr.drop off)
  have nC := T₂.bs.notK (Own.join_right ofC kC)
  have T₄ : St X env S.oc Z₂ Of₂ Or₂ K ra₂ ρ₂ μ₂ h'' := T₃.swap fun b o e => (hs''.2 b ?_).trans ?_
  · exact g h'' tk₂ Z₂ Of₂ Or₂ ra₂ .next .nxt ρ₂ μ₂ p₂ (z.trans z₂) (pr.trans pr₂) T₄ trivial
  · rintro rfl
    rcases e with e | e | e
    · exact nC.1 o e
    · rw [nC.2] at e; cases e
    · rw [Own.join_none.mpr ⟨ofC, c5⟩] at e; cases e
  · rcases e with e | e | e
    · exact T₃.bs.z b o e
    · exact T₃.bs.r b o e
    · exact T₃.bs.k b o e
end
theorem bindL_not {k : Str → Option NameKind} {x : Str} : ∀ (bs : List (Str × Value)) (m : Str → Option Value), x ∉ bs.map (·.1) → bindL k bs m x = m x
  | [], _, _ => rfl
  | (n, v) :: r, m, h => by
    have h1 : x ≠ n := fun w => h (by rw [w]; exact .head _)
    unfold bindL
    rw [bindL_not r _ fun w => h (.tail _ w)]
    split
    · show (if x = n then _ else _) = _
      rw [if_neg h1]
    · rfl
theorem bindL_mem {k : Str → Option NameKind} {x : Str} {v : Value} (hk : k x = some .local) : ∀ (bs : List (Str × Value)) (m : Str → Option Value), (bs.map (·.1)).Nodup → (x, v) ∈ bs → bindL k bs m x = some v
  | (n, u) :: r, m, hn, hm => by
    rw [List.map_cons, List.nodup_cons] at hn
    unfold bindL
    rcases List.mem_cons.mp hm with e | hm
    · cases e
      rw [bindL_not r _ hn.1, if_pos hk]
      exact if_pos rfl
    · exact bindL_mem hk r _ hn.2 hm
theorem bindC_not {k : Str → Option NameKind} {x : Str} : ∀ (bs : List (Str × Value)) (m : Str → Option Value), x ∉ bs.map (·.1) → bindC k bs m x = m x
  | [], _, _ => rfl
  | (n, v) :: r, m, h => by
    have h1 : x ≠ n := fun w => h (by rw [w]; exact .head _)
    unfold bindC
    rw [bindC_not r _ fun w => h (.tail _ w)]
    split
    · rfl
    · show (if x = n then _ else _) = _
      rw [if_neg h1]
theorem bindC_mem {k : Str → Option NameKind} {x : Str} {v : Value} (hk : k x ≠ some .local) : ∀ (bs : List (Str × Value)) (m : Str → Option Value), (bs.map (·.1)).Nodup → (x, v) ∈ bs → bindC k bs m x = some v
  | (n, u) :: r, m, hn, hm => by
    rw [List.map_cons, List.nodup_cons] at hn
    unfold bindC
    rcases List.mem_cons.mp hm with e | hm
    · cases e
      rw [bindC_not r _ hn.1, if_neg hk]
      exact if_pos rfl
    · exact bindC_mem hk r _ hn.2 hm
theorem zip_keys {α : Type} : ∀ (ns : List Str) (vs : List α), ns.length = vs.length → (ns.zip vs).map (·.1) = ns
  | [], _, _ => rfl
  | n :: ns, v :: vs, h => by rw [List.zip_cons_cons, List.map_cons, zip_keys ns vs (by simpa using h)]
theorem zip_rep {X : Cx} {Z : Fz} {ra : List Addr} {x : Str} {v : V} : ∀ {ns : List Str} {vals : List Value} {vs : List V}, RepVs X Z ra vals vs → (ns.zip vs).lookup x = some v → ∃ val, (x, val) ∈ ns.zip vals ∧ RepV X Z ra val v
  | [], _, _, _, h => nomatch h
  | n :: ns, _, _, .nil, h => nomatch h
  | n :: ns, _, _, .cons (v := val) r0 r, h => by
    rw [List.zip_cons_cons, List.lookup_cons] at h
    split at h
    · rename_i w
      cases h
      exact ⟨val, by rw [List.zip_cons_cons, beq_iff_eq.mp w]; exact .head _, r0⟩
    · obtain ⟨val, m, r⟩ := zip_rep r h
      exact ⟨val, by rw [List.zip_cons_cons]; exact .tail _ m, r⟩
section
variable {X : Cx} {n : Nat} {S : Sc} {env : Env} {oc : List Str} {Z : Fz} {Of Or K : Own} {ra : List Addr} {ρ ρ₀ : Rho} {μ : Mem} {h h' : Heap} {A : Around}
noncomputable def RetP (P : V → Mem → Prop) : Fl → Rho → Mem → Prop := fun f _ μ => match f with
  | .ret v => P v μ
  | _ => P (.d .none) μ
/-- .. of the call's own code -/
noncomputable def Fc (X : Cx) (n : Nat) (f : Addr) (args : List V) (μ : Mem) (P : V → Mem → Prop) : Prop :=
  ∀ (A : Around) (s : Shared) (Z : Fz) (Or K : Own) (ra : List Addr) (vals : List Value) (R : Result → Shared → Prop),
    AOK A n → Bs X Z Or K ra μ s.heap → RepVs X Z ra vals args → Gb X Z K ra (RV X) P s (fun v s' => R (.ok (.ret v)) s') → codeAny X.M A (.call (.ref f) ⟨vals, []⟩) R s
theorem Fc.fn {f : Addr} {args : List V} {P : V → Mem → Prop} (k : Fc X n f args μ P) : Fn X n f args μ P :=
  fun A s Z Or K ra vals Q E hA T r g => wpAny_call (k A s Z Or K ra vals (fun r s' => match r with | .ok (.ret v) => Q v s' | .ok _ => False | .error e => E e s') hA T r g)
/-- a call of a def of the top -/
theorem fn_callC {P : V → Mem → Prop} {name qual : Str} {params : Arguments} {body : List Stmt} {scope : Scope} {dV kV doc pm cdv ct oc : Value} {an od : Option Addr} {osl : Array (Option Value)} {f : Addr} {args : List V}
    (names : List Str) (ho : X.K.lookup f = some ⟨oc, od, .func (fnOf name qual params body scope dV kV doc pm an cdv ct), osl⟩) (hcd : codeIn X.K cdv qual = true)
    (hbind : ∀ vals : List Value, vals.length = names.length → bindArgs (fnOf name qual params body scope dV kV doc pm an cdv ct) ⟨vals, []⟩ = pure (names.zip vals)) (hlen : args.length = names.length)
    (hnm : ∀ x ∈ names, scope.names.lookup x = some .local ∨ scope.names.lookup x = some .cell) (hnd : names.Nodup) (honce : ∀ p ∈ scope.names, scope.names.lookup p.1 = some p.2)
    (hb : Exs X n ⟨scope, cellNames scope⟩ body (names.zip args) μ (RetP P))
    (hco : scope.isCoroutine = false := by rfl) (hgen : scope.isGenerator = false := by rfl) (hk : scope.kind = .function := by rfl) : Fc X (n + 1) f args μ P := by
  intro A s Z Or K ra vals R hA T r g
  have hl : vals.length = names.length := r.length.trans hlen
  have keysV := zip_keys names vals hl.symm
  have keysA := zip_keys names args hlen.symm
  refine (codeAny_call_cells (fd := fnOf name qual params body scope dV kV doc pm an cdv ct) (body := body) (binds := names.zip vals) ?_ (T.kin _ _ ho) rfl T.lim (codeRec_of T.kin hcd) rfl (hbind vals hl) rfl ?_ (fun s₁ x => ?_) hco hgen hk)
  · have := hA.dep; rw [show recursionLimit = 1000 from rfl]; omega
  · intro p hp
    have : p.1 ∈ names := by rw [← keysV]; exact List.mem_map_of_mem hp
    rcases hnm _ this with w | w
    · exact .inl w
    · obtain ⟨c, e, _⟩ := cf_cell (x := p.1) scope.names (s.heap.objs.size + 1) [] (mem_of_lookup w)
      exact .inr ⟨w, by show (List.lookup p.1 (cellsFrom (s.heap.objs.size + 1) scope.names [])).isSome = true; rw [e]; rfl⟩
  · have hA' : AOK (A.deeper (callEnvC (fnOf name qual params body scope dV kV doc pm an cdv ct) s.heap.objs.size f)) n :=
      ⟨hA.hd, by have := hA.dep; show A.depth + 1 + 4 * n ≤ 900; omega, by have := hA.uni; show A.units + 3 + 60 * n ≤ 9500; omega⟩
    obtain ⟨h₁, tk₁, rfl⟩ := x.toInCall.same
    have keep : ∀ b o, s.heap.get? b = some o → h₁.get? b = some o := x.toInCall.keep
    have fC' : ∀ {a : Addr} {o : Obj}, s.heap.objs.size ≤ (a : Nat) → h₁.get? a = some o → fromC s.heap.objs.size h₁ a = some o := fun {a o} w e => by
      unfold fromC; rw [if_pos w]; exact e
    have fC : ∀ {a : Addr} {o : Obj}, fromC s.heap.objs.size h₁ a = some o → s.heap.objs.size ≤ (a : Nat) ∧ h₁.get? a = some o := fun {a o} e => by
      unfold fromC at e
      split at e
      · rename_i w; exact ⟨w, e⟩
      · cases e
    have cellAt : ∀ {y : Str} {c : Addr}, (cellsFrom (s.heap.objs.size + 1) scope.names []).lookup y = some c → ∃ o, fromC s.heap.objs.size h₁ c = some o ∧ o.data = .cell (bindC (callEnvC (fnOf name qual params body scope dV kV doc pm an cdv ct) s.heap.objs.size f).kindOf (names.zip vals) (fun _ => none) y) := fun {y c} e => by
      obtain ⟨o, e1, e2⟩ := x.cell y c e
      exact ⟨o, fC' (Nat.le_of_lt (x.above y c (mem_of_lookup e))) e1, e2⟩
    have T₁ : St X (callEnvC (fnOf name qual params body scope dV kV doc pm an cdv ct) s.heap.objs.size f) (cellNames scope) Z (fromC s.heap.objs.size h₁) Or K ra (names.zip args) μ h₁ := by
      refine ⟨T.keep (fun a o e => keep a o (e.elim (T.z a o) (T.r a o))) fun a o e => ?_, fun a o e => ?_, hk, rfl, rfl, ?_, ?_, ?_, ?_⟩
      · rcases Own.join_some e with e | ⟨_, e⟩
        · obtain ⟨w1, w2⟩ := fC e
          exact ⟨w2, T.notNew (none_ge w1)⟩
        · exact ⟨keep a o (T.k a o e), T.notK e⟩
      · exact (T.fresh (none_ge (fC e).1)).2.1
      · obtain ⟨oL, e1, e2⟩ := ObjNs.of x.toInCall.ns
        refine ⟨oL, _, fC' (Nat.le_refl _) e1, e2, fun y v hy => ?_⟩
        obtain ⟨val, hm, rv⟩ := zip_rep r hy
        have hin : y ∈ names := by rw [← keysV]; exact List.mem_map_of_mem hm
        have hnv : ((names.zip vals).map (·.1)).Nodup := by rw [keysV]; exact hnd
        rcases hnm y hin with w | w
        · exact .inl ⟨w, val, bindL_mem w _ _ hnv hm, rv⟩
        · obtain ⟨c, e, _⟩ := cf_cell (x := y) scope.names (s.heap.objs.size + 1) [] (mem_of_lookup w)
          obtain ⟨o, o1, o2⟩ := cellAt e
          refine .inr ⟨.inl w, c, o, val, e, .inl o1, ?_, rv⟩
          rw [o2, bindC_mem (v := val) (fun q => by
            have q : scope.names.lookup y = some .local := q
            rw [w] at q; cases q) _ _ hnv hm]
      · intro y hy
        unfold cellNames at hy
        obtain ⟨⟨z, k⟩, hm, rfl⟩ := List.mem_map.mp hy
        obtain ⟨hm, hk'⟩ := List.mem_filter.mp hm
        have hk' : k = .cell := by simpa using hk'
        subst hk'
        obtain ⟨c, e, _⟩ := cf_cell (x := z) scope.names (s.heap.objs.size + 1) [] hm
        obtain ⟨o, o1, o2⟩ := cellAt e
        exact ⟨honce _ hm, c, o, _, e, o1, o2⟩
      · intro y z c e1 e2
        exact name_of_addr x.apart (mem_of_lookup e1) (mem_of_lookup e2)
      · intro y c e
        obtain ⟨o, o1, _⟩ := cellAt e
        exact ⟨o, .inl o1⟩
    refine hb _ _ _ Z (fromC s.heap.objs.size h₁) Or K ra _ _ hA' rfl T₁ fun h' tk Z' Of' Or' ra' fl fv ρ' μ' p z pr T' rr => ?_
    have B : Bs X Z' Or' K ra' μ' h' := T'.bs.keep (fun a o e => e.elim (T'.bs.z a o) (T'.bs.r a o)) fun a o e => by
      have ofN : Of' a = none := by
        cases w : Of' a with
        | none => rfl
        | some q => have := T'.fk a q w; rw [e] at this; cases this
      exact ⟨T'.bs.k a o (Own.join_right ofN e), T'.bs.notK (Own.join_right ofN e)⟩
    cases fl with
    | ret val =>
      cases fv with
      | ret v => exact g h' tk Z' Or' ra' val v μ' p z pr B rr
      | nxt => exact rr.elim
      | cnt => exact rr.elim
    | next =>
      cases fv with
      | nxt => exact g h' tk Z' Or' ra' .none (.d .none) μ' p z pr B .none
      | ret v => exact rr.elim
      | cnt => exact rr.elim
    | cont =>
      cases fv with
      | cnt => exact g h' tk Z' Or' ra' .none (.d .none) μ' p z pr B .none
      | ret v => exact rr.elim
      | nxt => exact rr.elim
    | brk => cases fv <;> exact rr.elim
end
section
variable {X : Cx} {n : Nat} {S : Sc} {env : Env} {oc : List Str} {Z : Fz} {Of Or K : Own} {ra : List Addr} {ρ ρ₀ : Rho} {μ : Mem} {h h' : Heap} {A : Around} {P : V → Mem → Prop}
/-- a new record of a thing held till now -/
theorem Bs.newRec' (T : Bs X Z Or K ra μ h) {a : Addr} {o : Obj} {c : Cell} (hlo : a ≠ sysModules) (hn : h'.get? a = some o) (hk : ∀ b o, b ≠ a → h.get? b = some o → h'.get? b = some o) (f4 : ∀ p, ¬ Z a p) (f2 : Or a = none) (f3 : K a = none)
    (hc : CellRel X (Or.put a o) Z (ra ++ [a]) a c) : Bs X Z (Or.put a o) K (ra ++ [a]) (μ ++ [c]) h' := by
  have hra : a ∉ ra := fun q => by
    obtain ⟨o, e⟩ := T.nz a q
    rcases e with e | e
    · rw [f2] at e; cases e
    · exact f4 o e
  refine ⟨T.ok, T.base, ?_, ?_, ?_, ?_, ?_, ?_, ?_, ?_, ?_, ?_, ?_⟩
  · intro b p z
    exact hk b p (fun q => f4 p (q ▸ z)) (T.z b p z)
  · intro b p x
    by_cases q : b = a
    · subst q; rw [Own.put_self] at x; cases x; exact hn
    · rw [Own.put_ne q] at x; exact hk b p q (T.r b p x)
  · intro b p x
    exact hk b p (fun q => by rw [q, f3] at x; cases x) (T.k b p x)
  · intro b p z
    have q : b ≠ a := fun q => f4 p (q ▸ z)
    rw [Own.put_ne q]; exact T.zo b p z
  · intro b p x
    by_cases q : b = a
    · subst q; exact f3
    · rw [Own.put_ne q] at x; exact T.ro b p x
  · rw [List.length_append, List.length_append, T.len]; rfl
  · rw [List.nodup_append]
    exact ⟨T.nd, List.nodup_cons.mpr ⟨List.not_mem_nil, List.nodup_nil⟩, fun x hx y hy e => by rw [List.mem_singleton.mp hy] at e; exact hra (e ▸ hx)⟩
  · intro b q
    rcases List.mem_append.mp q with q | q
    · have hb : b ≠ a := fun w => hra (w ▸ q)
      obtain ⟨p, e⟩ := T.nz b q
      exact ⟨p, by rw [Own.put_ne hb]; exact e⟩
    · rw [List.mem_singleton.mp q]; exact ⟨o, .inl Own.put_self⟩
  · intro i d e
    by_cases q : i < μ.length
    · rw [List.getElem?_append_left q] at e
      obtain ⟨b, e1, e2⟩ := T.cell i d e
      have hb : b ≠ a := fun q => hra (q ▸ List.mem_of_getElem? e1)
      exact ⟨b, pre_get ⟨_, rfl⟩ e1, (e2.mono Le.refl ⟨_, rfl⟩).own (Own.put_ne hb)⟩
    · rw [List.getElem?_append_right (Nat.not_lt.mp q)] at e
      have hi : i - μ.length = 0 := by
        cases hj : i - μ.length with
        | zero => rfl
        | succ n => rw [hj] at e; simp at e
      rw [hi] at e; cases e
      have : i = ra.length := by rw [T.len]; omega
      exact ⟨a, by rw [this]; simp, hc⟩
  · intro b p x
    by_cases q : b = a
    · subst q; simp
    · rw [Own.put_ne q] at x; exact List.mem_append_left _ (T.oz b p x)
  · intro b q
    rcases List.mem_append.mp q with q | q
    · exact T.lo b q
    · rw [List.mem_singleton.mp q]; exact hlo
/-- xs[:k] -/
theorem ev_slice {value e : Expr} {p pos : Pos} (hv : Ev X n S value ρ μ fun o μ₁ => Ev X n S e ρ μ₁ fun i μ₂ => ∃ ds k, Sees μ₂ o (.lst ds) ∧ i = .d (.int k) ∧ 0 ≤ k ∧ ds.length ≤ 100000 ∧ P (.d (.lst (ds.take k.toNat))) μ₂) : Ev X n S (.Subscript value (.Slice none (some e) none p) pos) ρ μ P := by
  intro A env s Z Of Or K ra Q E hA hs T g
  refine Subscript_ ?_
  refine hv A env s Z Of Or K ra _ E hA hs T fun h₁ tk₁ Z₁ Or₁ ra₁ va a μ₁ p₁ z₁ pr₁ T₁ r₁ => wpAny_Slice ?_
  rw [evalPart_none, evalPart_some]
  refine wpAny_pure ?_
  refine p₁ A env _ Z₁ Of Or₁ K ra₁ _ E hA hs T₁ fun h₂ tk₂ Z₂ Or₂ ra₂ vb b μ₂ p₂ z₂ pr₂ T₂ r₂ => wpAny_pure ?_
  obtain ⟨ds, k, so, rfl, h0, hn, hp⟩ := p₂
  obtain ⟨t, rfl⟩ := RepD.int_inv r₂
  obtain ⟨l, vs, m, rfl, e1, q⟩ := so.lstAt T₂.bs (r₁.mono z₂ pr₂)
  have T₃ := T₂.grow (h' := h₂.push { cls := .type "slice", data := .fields #[.none, .int k t, .none] }) fun _ _ e => Heap.get?_push_of_some _ e
  have lk := q.length
  refine tail_any (o := .ref l) (i := .ref h₂.objs.size) (ops := [.ref h₂.objs.size, .ref l]) (Heap.IsList.typeIs (s := { s with heap := h₂.push { cls := .type "slice", data := .fields #[.none, .int k t, .none] }, toks := tk₂ }) (isList_of (Heap.get?_push_of_some _ e1))) slot_list_getitem.lookup
    (wpAny_getItem_list_slice (isList_of (Heap.get?_push_of_some _ e1)) (Heap.IsSliceOf.new ..) .none (.int k t) .none (by simp) ?_ (by rw [List.size_toArray, sizeLine_eq]; omega)) (by with_unfolding_all rfl)
  have ek : k = ((k.toNat : Nat) : Int) := (Int.toNat_of_nonneg h0).symm
  have ep : slicePick vs.toArray none (some k) none = (vs.take k.toNat).toArray := by
    have := slicePick_upto' vs.toArray k.toNat
    rw [← ek] at this; exact this
  rw [ep]
  exact g _ tk₂ _ Or₂ ra₂ _ _ μ₂ hp (z₁.trans (z₂.trans addZ_le)) (pr₁.trans pr₂) (T₃.push (lstObj (vs.take k.toNat))) (.lst addZ_new ((q.take _).mono addZ_le))
theorem ev_slice_own {value e : Expr} {p pos : Pos} (hv : Ev X n S value ρ μ fun o μ₁ => Ev X n S e ρ μ₁ fun i μ₂ => ∃ ds k, Sees μ₂ o (.lst ds) ∧ i = .d (.int k) ∧ 0 ≤ k ∧ ds.length ≤ 100000 ∧ P (.own μ₂.length) (μ₂ ++ [.lst (ds.take k.toNat)])) : Ev X n S (.Subscript value (.Slice none (some e) none p) pos) ρ μ P := by
  intro A env s Z Of Or K ra Q E hA hs T g
  refine Subscript_ ?_
  refine hv A env s Z Of Or K ra _ E hA hs T fun h₁ tk₁ Z₁ Or₁ ra₁ va a μ₁ p₁ z₁ pr₁ T₁ r₁ => wpAny_Slice ?_
  rw [evalPart_none, evalPart_some]
  refine wpAny_pure ?_
  refine p₁ A env _ Z₁ Of Or₁ K ra₁ _ E hA hs T₁ fun h₂ tk₂ Z₂ Or₂ ra₂ vb b μ₂ p₂ z₂ pr₂ T₂ r₂ => wpAny_pure ?_
  obtain ⟨ds, k, so, rfl, h0, hn, hp⟩ := p₂
  obtain ⟨t, rfl⟩ := RepD.int_inv r₂
  obtain ⟨l, vs, m, rfl, e1, q⟩ := so.lstAt T₂.bs (r₁.mono z₂ pr₂)
  have T₃ := T₂.grow (h' := h₂.push { cls := .type "slice", data := .fields #[.none, .int k t, .none] }) fun _ _ e => Heap.get?_push_of_some _ e
  have lk := q.length
  refine tail_any (o := .ref l) (i := .ref h₂.objs.size) (ops := [.ref h₂.objs.size, .ref l]) (Heap.IsList.typeIs (s := { s with heap := h₂.push { cls := .type "slice", data := .fields #[.none, .int k t, .none] }, toks := tk₂ }) (isList_of (Heap.get?_push_of_some _ e1))) slot_list_getitem.lookup
    (wpAny_getItem_list_slice (isList_of (Heap.get?_push_of_some _ e1)) (Heap.IsSliceOf.new ..) .none (.int k t) .none (by simp) ?_ (by rw [List.size_toArray, sizeLine_eq]; omega)) (by with_unfolding_all rfl)
  have ek : k = ((k.toNat : Nat) : Int) := (Int.toNat_of_nonneg h0).symm
  have ep : slicePick vs.toArray none (some k) none = (vs.take k.toNat).toArray := by
    have := slicePick_upto' vs.toArray k.toNat
    rw [← ek] at this; exact this
  rw [ep]
  have B := T₃.bs.newRec (c := .lst (ds.take k.toNat)) (Nat.ne_of_gt T₃.bs.lowSize) (size_none _) (Heap.get?_push_size _ rfl : ((h₂.push { cls := .type "slice", data := .fields #[.none, .int k t, .none] }).push (lstObj (vs.take k.toNat))).get? (h₂.push { cls := .type "slice", data := .fields #[.none, .int k t, .none] }).objs.size = some (lstObj (vs.take k.toNat))) (fun _ _ e => Heap.get?_push_of_some _ e) ⟨vs.take k.toNat, 0, Own.put_self, q.take _⟩
  refine g _ tk₂ _ _ _ _ _ _ hp (z₁.trans z₂) ((pr₁.trans pr₂).trans ⟨_, rfl⟩) (T₃.back Le.refl ⟨_, rfl⟩ B) ⟨_, rfl, by rw [← T₂.bs.len]; simp⟩
/-- {'a': .., 'b': ..}, its own -/
theorem ev_sd_own {k1 k2 v1 v2 : Expr} {a b : Str} {pos : Pos} (hab : a ≠ b) (h1 : Ev X n S k1 ρ μ fun v μ₁ => v = .d (.str a) ∧ Ev X n S v1 ρ μ₁ fun x μ₂ => ∃ x', x = .d x' ∧ Ev X n S k2 ρ μ₂ fun v μ₃ => v = .d (.str b) ∧ Ev X n S v2 ρ μ₃ fun y μ₄ => ∃ y', y = .d y' ∧ P (.own μ₄.length) (μ₄ ++ [.sd [(a, x'), (b, y')]])) :
    Ev X n S (.Dict [some k1, some k2] [v1, v2] pos) ρ μ P := by
  intro A env s Z Of Or K ra Q E hA hs T g
  have f := T.bs.fresh (size_none s.heap)
  obtain ⟨f1, f2⟩ := Own.join_none.mp f.2.1
  have eD : (s.heap.push { cls := .type "dict", data := .dict #[] }).get? s.heap.objs.size = some { cls := .type "dict", data := .dict #[] } := Heap.get?_push_size _ rfl
  have T₀ := T.grow (h' := s.heap.push { cls := .type "dict", data := .dict #[] }) fun _ _ e => Heap.get?_push_of_some _ e
  have hf : Fresh4 [s.heap.objs.size] Z Of Or K (s.heap.push { cls := .type "dict", data := .dict #[] }) := fun b hb => by
    rw [List.mem_singleton.mp hb]; exact ⟨⟨_, eD⟩, f.2.2, f.1, f1, f2⟩
  refine wpAny_Dict_walk (knd := strKind X.prog X.w) rfl rfl (by simp) (by simp) ?_
  refine pairTrees_cons_walk (h1 A env _ Z Of Or _ ra _ E hA hs (T₀.hold hf) fun h₁ tk₁ Z₁ Or₁ ra₁ w1 x1 μ₁ p₁ z₁ pr₁ T₁ r₁ => ?_)
  obtain ⟨rfl, p₁⟩ := p₁
  obtain ⟨t1, rfl⟩ := RepD.str_inv r₁
  refine p₁ A env _ Z₁ Of Or₁ _ ra₁ _ E hA hs T₁ fun h₂ tk₂ Z₂ Or₂ ra₂ w2 x2 μ₂ p₂ z₂ pr₂ T₂ r₂ => ?_
  obtain ⟨x', rfl, p₂⟩ := p₂
  refine pairTrees_cons_walk (p₂ A env _ Z₂ Of Or₂ _ ra₂ _ E hA hs T₂ fun h₃ tk₃ Z₃ Or₃ ra₃ w3 x3 μ₃ p₃ z₃ pr₃ T₃ r₃ => ?_)
  obtain ⟨rfl, p₃⟩ := p₃
  obtain ⟨t2, rfl⟩ := RepD.str_inv r₃
  refine p₃ A env _ Z₃ Of Or₃ _ ra₃ _ E hA hs T₃ fun h₄ tk₄ Z₄ Or₄ ra₄ w4 x4 μ₄ p₄ z₄ pr₄ T₄ r₄ => ?_
  obtain ⟨y', rfl, p₄⟩ := p₄
  refine pairTrees_nil_walk ⟨[(a, w2), (b, w4)], ⟨strKind_is _ _ a t1, rfl, strKind_is _ _ b t2, rfl, trivial⟩, ?_, fun h₅ hd hs₅ => ?_⟩
  all_goals
    have kD : snap K [s.heap.objs.size] (s.heap.push { cls := .type "dict", data := .dict #[] }) s.heap.objs.size = some { cls := .type "dict", data := .dict #[] } := by
      unfold snap; rw [if_pos (.head _)]; exact eD
    have hDn := T₄.bs.k _ _ (Own.join_right f1 kD)
    have hNK := T₄.bs.notK (Own.join_right f1 kD)
  · exact Heap.dictOf_iff.mpr ⟨_, hDn, isDict_nil _⟩
  · have hoff : CellsOff env [s.heap.objs.size] := cells_off T₀ hf
    have T₅ := T₄.drop (fun b hb => by rw [List.mem_singleton.mp hb]; exact f2) (T₄.fr.drop hoff)
    obtain ⟨o, e1, e2⟩ := Heap.dictOf_iff.mp hd
    have em : merged [] [(a, w2), (b, w4)] = [(a, w2), (b, w4)] := by
      unfold merged
      simp only [List.foldl_cons, List.foldl_nil]
      unfold stored
      simp [hab]
    rw [em] at e2
    have B := T₅.bs.newRec' (c := .sd [(a, x'), (b, y')]) (h' := h₅) (Nat.ne_of_gt T.bs.lowSize) e1 (fun b o hb e => (hs₅.2 b hb).trans e) hNK.1 hNK.2 (Own.join_none.mpr ⟨f1, f2⟩)
      ⟨o, _, Own.put_self, e2, rfl, .cons (RepD.mono (z₃.trans z₄) r₂) (.one r₄)⟩
    refine g h₅ _ Z₄ _ _ _ _ _ p₄ (((z₁.trans z₂).trans z₃).trans z₄) ((((pr₁.trans pr₂).trans pr₃).trans pr₄).trans ⟨_, rfl⟩) (T₅.back Le.refl ⟨_, rfl⟩ B) ⟨_, rfl, by rw [← T₅.bs.len]; simp⟩
/-- C() -/
theorem ev_make {g : Str} {p pos : Pos} {fI : Addr} (hx : S.sc.names.lookup g = some .globalImplicit) (hK : nsIn X.K mainGlobals g = some (some (.ref X.C))) (hk : keepIn X.K (.ref X.C) = true)
    (hi : findIn X.K (.ref X.C) "__init__" = some (some (.ref fI))) (hf : typeIn X.K (.ref fI) = some (.type "function")) (hm : makesIn X.K X.C = true)
    (hb : Fc X n fI [.own (μ.length + 1)] (μ ++ [.ns []] ++ [.inst μ.length]) fun v μ' => v = .d .none ∧ P (.own (μ.length + 1)) μ') (hd : (g == ("__debug__" : Str)) = false := by rfl) : Ev X (n + 1) S (.Call (.Name g p) [] [] pos) ρ μ P := by
  intro A env s Z Of Or K ra Q E hA hs T q
  refine wpAny_Call_NameR (glob_def T (by rw [kindOf_def, hs]; exact hx) hd hK ?_)
  refine callWith_K0 (K := X.K) T.bs.kin hk ?_
  refine wpAny_call ?_
  have hr : ra.length = μ.length := T.bs.len
  obtain ⟨hh, gg, d, t, os⟩ := s
  have hA' : AOK (A.under (.builtin "type.__call__" ⟨.ref X.C :: [], []⟩)) n := by
    refine ⟨hA.hd, ?_, ?_⟩
    · have := hA.dep
      show A.depth + Code.weight (.builtin "type.__call__" ⟨[.ref X.C], []⟩) + 4 * n ≤ 900
      have : Code.weight (.builtin "type.__call__" ⟨[.ref X.C], []⟩) ≤ 4 := Nat.le_of_ble_eq_true rfl
      omega
    · have := hA.uni
      show A.units + Code.cUnits (.builtin "type.__call__" ⟨[.ref X.C], []⟩) + 60 * n ≤ 9500
      have : Code.cUnits (.builtin "type.__call__" ⟨[.ref X.C], []⟩) = 1 := rfl
      omega
  refine make_core (rest := []) (makes_of (M := model X.prog X.w) T.bs.kin hm) (looks_findIn T.bs.kin hi) (fun self => bind_fn T.bs.kin self hf) (.inl rfl) ?_
  have T : St X env S.oc Z Of Or K ra ρ μ hh := T
  have B₁ := T.bs.newRec (c := .ns []) (Nat.ne_of_gt T.bs.lowSize) (size_none hh) (Heap.get?_push_size _ rfl : (hh.push emptyDict).get? hh.objs.size = some emptyDict) (fun _ _ e => Heap.get?_push_of_some _ e)
    ⟨emptyDict, fun _ => none, Own.put_self, ⟨#[], 0, rfl, by intro e he; simp at he, by unfold UniqKeys; simp, fun _ => rfl⟩, fun x => ⟨fun v e => (nomatch e), fun _ => rfl⟩⟩
  have sz : (hh.push emptyDict).objs.size = hh.objs.size + 1 := Heap.size_push ..
  have e2 : ((hh.push emptyDict).push (instObj X.C hh.objs.size)).get? (hh.objs.size + 1) = some (instObj X.C hh.objs.size) := by
    have := Heap.get?_push_size (hh.push emptyDict) (o := instObj X.C hh.objs.size) rfl
    rwa [sz] at this
  have B₂ := B₁.newRec (c := .inst μ.length) (a := hh.objs.size + 1) (o := instObj X.C hh.objs.size) (h' := (hh.push emptyDict).push (instObj X.C hh.objs.size)) (Nat.ne_of_gt (Nat.lt_succ_of_lt T.bs.lowSize)) (by rw [← sz]; exact size_none _) e2 (fun _ _ e => Heap.get?_push_of_some _ e)
    ⟨hh.objs.size, by rw [← hr]; simp, Own.put_self⟩
  refine hb _ _ Z _ _ _ [.ref (hh.objs.size + 1)] _ hA' B₂ (.cons ⟨_, rfl, ?_⟩ .nil) fun h' tk Z' Or' ra' val v μ' p z pr B r => ?_
  · rw [← hr]; simp
  · obtain ⟨rfl, p⟩ := p
    obtain rfl := RepD.none_inv r
    refine ⟨rfl, q h' tk Z' Or' ra' _ (.own (μ.length + 1)) μ' p z (List.IsPrefix.trans ⟨_, by rw [List.append_assoc]⟩ pr) (T.back z (List.IsPrefix.trans ⟨_, by rw [List.append_assoc]⟩ pr) B) ⟨_, rfl, ?_⟩⟩
    exact pre_get pr (by rw [← hr]; simp)
end
/-- the ends of a block -/
noncomputable abbrev Po (nx cn : Rho → Mem → Prop) (rt : V → Mem → Prop) : Fl → Rho → Mem → Prop := fun f ρ μ => match f with
  | .nxt => nx ρ μ
  | .cnt => cn ρ μ
  | .ret v => rt v μ
section
variable {X : Cx} {n : Nat} {S : Sc} {Z : Fz} {ra : List Addr} {ρ : Rho} {μ : Mem} {nx cn : Rho → Mem → Prop} {rt : V → Mem → Prop} {rest : List Stmt}
theorem xs_nil (h : nx ρ μ) : Exs X n S [] ρ μ (Po nx cn rt) := exs_nil h
theorem xs_ret {e : Expr} {pos : Pos} (h : Ev X n S e ρ μ rt) : Exs X n S (.Return (some e) pos :: rest) ρ μ (Po nx cn rt) :=
  exs_cons (ex_ret (h.mono fun v μ₁ p => ⟨by nofun, fun _ => p⟩))
theorem xs_ret0 {pos : Pos} (h : rt (.d .none) μ) : Exs X n S (.Return none pos :: rest) ρ μ (Po nx cn rt) :=
  exs_cons (ex_ret0 ⟨by nofun, fun _ => h⟩)
theorem xs_cont {pos : Pos} (h : cn ρ μ) : Exs X n S (.Continue pos :: rest) ρ μ (Po nx cn rt) :=
  exs_cons (ex_cont ⟨by nofun, fun _ => h⟩)
theorem po_seq {f : Fl} {ρ : Rho} {μ : Mem} (h : Po (fun ρ' μ' => Exs X n S rest ρ' μ' (Po nx cn rt)) cn rt f ρ μ) : (f = .nxt → Exs X n S rest ρ μ (Po nx cn rt)) ∧ (f ≠ .nxt → Po nx cn rt f ρ μ) := by
  cases f with
  | nxt => exact ⟨fun _ => h, fun w => absurd rfl w⟩
  | cnt => exact ⟨by nofun, fun _ => h⟩
  | ret v => exact ⟨by nofun, fun _ => h⟩
theorem xs_st {st : Stmt} (h : Ex X n S st ρ μ (Po (fun ρ' μ' => Exs X n S rest ρ' μ' (Po nx cn rt)) cn rt)) : Exs X n S (st :: rest) ρ μ (Po nx cn rt) :=
  exs_cons fun A env s Z Of Or K ra Q E hA hs T g => h A env s Z Of Or K ra Q E hA hs T fun h' tk Z' Of' Or' ra' fl f ρ' μ' p => g h' tk Z' Of' Or' ra' fl f ρ' μ' (po_seq p)
theorem xs_if {t : Expr} {b c : List Stmt} {pos : Pos} (h : Tst X n S t ρ μ fun v μ₁ => (v = true → Exs X n S b ρ μ₁ (Po (fun ρ' μ' => Exs X n S rest ρ' μ' (Po nx cn rt)) cn rt)) ∧ (v = false → Exs X n S c ρ μ₁ (Po (fun ρ' μ' => Exs X n S rest ρ' μ' (Po nx cn rt)) cn rt))) :
    Exs X n S (.If t b c pos :: rest) ρ μ (Po nx cn rt) := xs_st (ex_if h)
theorem xs_expr {e : Expr} {pos : Pos} (h : Ev X n S e ρ μ fun v μ₁ => (∃ x, v = .d x ∧ (x = .none ∨ (∃ i, x = .int i) ∨ ∃ b, x = .bool b)) ∧ Exs X n S rest ρ μ₁ (Po nx cn rt)) (hs : ∀ env, swapsWith e none pos.line env = pure false := by intro _; rfl) : Exs X n S (.Expr e pos :: rest) ρ μ (Po nx cn rt) :=
  xs_st (ex_expr h hs)
theorem xs_assign {t e : Expr} {pos : Pos} (h : Ev X n S e ρ μ fun v μ₁ => As X n S t v ρ μ₁ fun ρ₂ μ₂ => Exs X n S rest ρ₂ μ₂ (Po nx cn rt))
    (hs : ∀ env, env.scope = S.sc → swapsWithSole [t] e pos.line env = pure false := by intro env _; with_unfolding_all rfl) (hw : ∀ env, env.scope = S.sc → swappedStores [t] e env = pure none := by intro env _; with_unfolding_all rfl)
    (he : ∀ env, (assignEach [t] env).map (·.2) = [assign t env] := by intro _; rfl) : Exs X n S (.Assign [t] e pos :: rest) ρ μ (Po nx cn rt) :=
  xs_st (ex_assign h hs hw he)
end
section
variable {X : Cx} {n : Nat} {S : Sc} {env : Env} {oc : List Str} {Z Z' : Fz} {Of Or Or' K : Own} {ra ra' : List Addr} {ρ : Rho} {μ μ' : Mem} {h h' : Heap}
noncomputable def Own.only (O : Own) (l : List Addr) : Own := fun a => if a ∈ l then O a else none
theorem Own.only_in {O : Own} {l : List Addr} {a : Addr} (e : a ∈ l) : O.only l a = O a := if_pos e
theorem Own.only_some {O : Own} {l : List Addr} {a : Addr} {o : Obj} (e : O.only l a = some o) : a ∈ l ∧ O a = some o := by
  unfold Own.only at e
  split at e
  · exact ⟨by assumption, e⟩
  · cases e
theorem pre_back {i : Nat} {a : Addr} (k : ra <+: ra') (e : ra'[i]? = some a) (lt : i < ra.length) : ra[i]? = some a := by
  obtain ⟨t, rfl⟩ := k
  rwa [List.getElem?_append_left lt] at e
theorem repV_back {val : Value} {v : V} {val₀ : Value} (k : ra <+: ra') (r : RepV X Z' ra' val v) (r₀ : RepV X Z ra val₀ v) : RepV X Z' ra val v := by
  cases v with
  | d x => exact r
  | own i =>
    obtain ⟨a, e, q⟩ := r
    obtain ⟨b, _, q₀⟩ := r₀
    exact ⟨a, e, pre_back k q (List.getElem?_eq_some_iff.mp q₀).1⟩
/-- what a part has made for itself is forgotten -/
theorem Bs.tidy (T : Bs X Z Or K ra μ h) (T' : Bs X Z' Or' K ra' μ' h') (pr : ra <+: ra') (pm : μ <+: μ') : Bs X Z' (Or'.only ra) K ra μ h' := by
  have inr : ∀ {a : Addr} {i : Nat}, ra[i]? = some a → a ∈ ra := fun e => List.mem_of_getElem? e
  refine ⟨T.ok, T'.base, T'.z, fun a o e => T'.r a o (Own.only_some e).2, T'.k, fun a o z => ⟨?_, (T'.zo a o z).2⟩, fun a o e => T'.ro a o (Own.only_some e).2, T.len, T.nd, fun a q => ?_, fun i c e => ?_, fun a o e => (Own.only_some e).1, T.lo⟩
  · unfold Own.only
    rw [(T'.zo a o z).1]
    split <;> rfl
  · obtain ⟨t, rfl⟩ := pr
    obtain ⟨o, w⟩ := T'.nz a (List.mem_append_left _ q)
    exact ⟨o, by rw [Own.only_in q]; exact w⟩
  · obtain ⟨a₀, e0, c0⟩ := T.cell i c e
    have lt : i < ra.length := (List.getElem?_eq_some_iff.mp e0).1
    have e' : μ'[i]? = some c := by
      obtain ⟨t, rfl⟩ := pm
      rw [List.getElem?_append_left (List.getElem?_eq_some_iff.mp e).1]; exact e
    obtain ⟨a, e1, c1⟩ := T'.cell i c e'
    have e2 := pre_back pr e1 lt
    have oa := Own.only_in (O := Or') (inr e2)
    refine ⟨a, e2, ?_⟩
    cases c with
    | lst xs => obtain ⟨vs, n, w, r⟩ := c1; exact ⟨vs, n, by rw [oa]; exact w, r⟩
    | dct es => obtain ⟨o, kvs, w, r⟩ := c1; exact ⟨o, kvs, by rw [oa]; exact w, r⟩
    | sd es => obtain ⟨o, kvs, w, r⟩ := c1; exact ⟨o, kvs, by rw [oa]; exact w, r⟩
    | ns fs =>
      obtain ⟨o, m, w, r, q⟩ := c1
      obtain ⟨_, _, _, _, q0⟩ := c0
      refine ⟨o, m, by rw [oa]; exact w, r, fun x => ⟨fun v hv => ?_, (q x).2⟩⟩
      obtain ⟨val, a1, a2⟩ := (q x).1 v hv
      obtain ⟨val0, _, b2⟩ := (q0 x).1 v hv
      exact ⟨val, a1, repV_back pr a2 b2⟩
    | inst j =>
      obtain ⟨d, w, q⟩ := c1
      obtain ⟨d0, w0, _⟩ := c0
      exact ⟨d, pre_back pr w (List.getElem?_eq_some_iff.mp w0).1, by rw [oa]; exact q⟩
    | dead => trivial
theorem Fc.tidy {f : Addr} {args : List V} {P : V → Mem → Prop} (k : Fc X n f args μ (fun v μ' => ∃ d, v = .d d ∧ μ <+: μ' ∧ P (.d d) μ)) : Fc X n f args μ P := by
  intro A s Z Or K ra vals R hA T r g
  refine k A s Z Or K ra vals R hA T r fun h' tk Z' Or' ra' val v μ' p z pr T' rv => ?_
  obtain ⟨d, rfl, pm, p⟩ := p
  exact g h' tk Z' _ ra val (.d d) μ p z (List.prefix_refl _) (T.tidy T' pr pm) rv
theorem Fc.mono {f : Addr} {args : List V} {P P' : V → Mem → Prop} (h : Fc X n f args μ P) (k : ∀ v μ', P v μ' → P' v μ') : Fc X n f args μ P' :=
  fun A s Z Or K ra vals R hA T r g => h A s Z Or K ra vals R hA T r fun h' tk Z' Or' ra' val v μ' p => g h' tk Z' Or' ra' val v μ' (k v μ' p)
/-- the names of a def, looked over -/
noncomputable def ckN (names : List Str) (sc : Scope) : Bool :=
  names.all (fun x => sc.names.lookup x == some .local || sc.names.lookup x == some .cell) && decide names.Nodup && sc.names.all (fun p => sc.names.lookup p.1 == some p.2) && !sc.isCoroutine && !sc.isGenerator && sc.kind == .function
theorem kind_eq {a b : Option NameKind} (h : (a == b) = true) : a = b := by
  revert h
  cases a with
  | none => cases b <;> intro h <;> first | rfl | cases h
  | some a => cases b with
    | none => intro h; cases h
    | some b => cases a <;> cases b <;> intro h <;> first | rfl | cases h
theorem fn_callP {P : V → Mem → Prop} {name qual : Str} {params : Arguments} {body : List Stmt} {scope : Scope} {dV kV doc pm cdv ct oc : Value} {an od : Option Addr} {osl : Array (Option Value)} {f : Addr} {args : List V}
    (names : List Str) (ho : X.K.lookup f = some ⟨oc, od, .func (fnOf name qual params body scope dV kV doc pm an cdv ct), osl⟩) (hcd : codeIn X.K cdv qual = true)
    (hck : ckN names scope = true)
    (hbind : ∀ vals : List Value, vals.length = names.length → bindArgs (fnOf name qual params body scope dV kV doc pm an cdv ct) ⟨vals, []⟩ = pure (names.zip vals)) (hlen : args.length = names.length)
    (hb : Exs X n ⟨scope, cellNames scope⟩ body (names.zip args) μ (Po (fun _ μ' => P (.d .none) μ') (fun _ μ' => P (.d .none) μ') P)) : Fc X (n + 1) f args μ P := by
  unfold ckN at hck
  simp only [Bool.and_eq_true, List.all_eq_true, Bool.or_eq_true, decide_eq_true_eq, Bool.not_eq_true'] at hck
  obtain ⟨⟨⟨⟨⟨h1, h2⟩, h3⟩, h4⟩, h5⟩, h6⟩ := hck
  refine fn_callC names ho hcd hbind hlen (fun x hx => (h1 x hx).imp kind_eq kind_eq) h2 (fun p hp => kind_eq (h3 p hp)) (hb.mono fun f ρ' μ' p => ?_) h4 h5 ?_
  · cases f <;> exact p
  · cases hk : scope.kind <;> rw [hk] at h6 <;> first | rfl | cases h6
end
/-- what the one says the other says too -/
noncomputable def Sub' (ρ ρ' : Rho) : Prop := ∀ x v, ρ.lookup x = some v → ρ'.lookup x = some v
theorem Sub'.refl {ρ : Rho} : Sub' ρ ρ := fun _ _ h => h
theorem look_app {ρ : Rho} (τ : Rho) {x : Str} {v : V} (h : ρ.lookup x = some v) : (ρ ++ τ).lookup x = some v := by
  induction ρ with
  | nil => cases h
  | cons p r ih =>
    obtain ⟨y, u⟩ := p
    rw [List.cons_append, List.lookup_cons]
    rw [List.lookup_cons] at h
    split
    · rename_i w; rw [w] at h; exact h
    · rename_i w; rw [w] at h; exact ih h
theorem Sub'.app {ρ τ : Rho} : Sub' ρ (ρ ++ τ) := fun _ _ h => look_app τ h
theorem Sub'.nil {ρ : Rho} : Sub' [] ρ := fun _ _ h => nomatch h
theorem Sub'.cons {x : Str} {v : V} {r ρ : Rho} (h : ρ.lookup x = some v) (k : Sub' r ρ) : Sub' ((x, v) :: r) ρ := fun y u e => by
  rw [List.lookup_cons] at e
  split at e
  · rename_i w; cases e; rw [beq_iff_eq.mp w]; exact h
  · exact k y u e
section
variable {X : Cx} {n : Nat} {S : Sc} {env : Env} {oc : List Str} {Z : Fz} {Of Or K : Own} {ra : List Addr} {ρ base : Rho} {μ : Mem} {h : Heap} {nx cn : Rho → Mem → Prop} {rt : V → Mem → Prop} {rest : List Stmt}
theorem St.forget (T : St X env oc Z Of Or K ra ρ μ h) (k : Sub' base ρ) : St X env oc Z Of Or K ra base μ h :=
  ⟨T.bs, T.fk, T.fr.kind, T.fr.glob, T.fr.bs, let ⟨oL, m, a, b, c⟩ := T.fr.loc; ⟨oL, m, a, b, fun x v e => c x v (k x v e)⟩, T.fr.own, T.fr.inj, T.fr.cl⟩
theorem Exs.forget {st : List Stmt} {P : Fl → Rho → Mem → Prop} (k : Sub' base ρ) (h : Exs X n S st base μ P) : Exs X n S st ρ μ P :=
  fun A env s Z Of Or K ra Q E hA hs T g => h A env s Z Of Or K ra Q E hA hs (T.forget k) g
theorem As.forget {t : Expr} {v : V} {P : Rho → Mem → Prop} (k : Sub' base ρ) (h : As X n S t v base μ P) : As X n S t v ρ μ P :=
  fun A env s Z Of Or K ra val Q E hA hs T r g => h A env s Z Of Or K ra val Q E hA hs (T.forget k) r g
theorem Tst.forget' {e : Expr} {P : Bool → Mem → Prop} (k : Sub' base ρ) (h : Tst X n S e base μ P) :
  ∀ (A : Around) (env : Env) (s : Shared) (Z : Fz) (Of Or K : Own) (ra : List Addr) (Q : Bool → Shared → Prop) (E : Value → Shared → Prop),
    AOK A n → env.scope = S.sc → St X env S.oc Z Of Or K ra ρ μ s.heap → Go X env S.oc Z Of K ra base RB P s Q → wpAny X.M A (isTrue e env (eval e env)) Q E s :=
  fun A env s Z Of Or K ra Q E hA hs T g => h A env s Z Of Or K ra Q E hA hs (T.forget k) g
/-- a variable of the frame -/
noncomputable def ckV (S : Sc) (x : Str) : Bool := S.sc.names.lookup x == some .local || S.oc.contains x
theorem ckV_of {x : Str} (h : ckV S x = true) : S.sc.names.lookup x = some .local ∨ x ∈ S.oc := by
  unfold ckV at h
  rcases Bool.or_eq_true _ _ |>.mp h with h | h
  · exact .inl (kind_eq h)
  · exact .inr (List.contains_iff_mem.mp h)
theorem as_nm {x : Str} {pos : Pos} {v : V} {ρ' : Rho} {PA : Rho → Mem → Prop} (hx : ckV S x = true) (hp : Put x v ρ ρ') (p : PA ρ' μ) : As X n S (.Name x pos) v ρ μ PA :=
  as_name (ckV_of hx) hp p
theorem xs_forget {st : List Stmt} {P : Fl → Rho → Mem → Prop} (base : Rho) (k : Sub' base ρ) (h : Exs X n S st base μ P) : Exs X n S st ρ μ P := Exs.forget k h
/-- for, over a plain invariant; what the body stores in new names is forgotten -/
theorem xs_for {tgt iter : Expr} {body : List Stmt} {pos : Pos} (base : Rho) (I : List D → Mem → Prop) (hb : Sub' base ρ)
    (hi : EvIt X n S iter tgt ρ μ fun xs μ₁ => I xs μ₁)
    (turn : ∀ x rest μ₁, I (x :: rest) μ₁ → As X n S tgt (.d x) base μ₁ fun ρ₂ μ₂ => Exs X n S body ρ₂ μ₂ (Po (fun ρ₃ μ₃ => Sub' base ρ₃ ∧ I rest μ₃) (fun ρ₃ μ₃ => Sub' base ρ₃ ∧ I rest μ₃) rt))
    (fin : ∀ μ₁, I [] μ₁ → Exs X n S rest base μ₁ (Po nx cn rt)) (hs : ∀ env x, foldedSetIterable iter env x = pure x := by intros; rfl) : Exs X n S (.For tgt iter body [] pos :: rest) ρ μ (Po nx cn rt) := by
  refine xs_st (ex_for (fun xs ρ₁ μ₁ => Sub' base ρ₁ ∧ I xs μ₁) ?_ (fun x xs ρ₁ μ₁ p => As.forget p.1 ?_) (fun ρ₁ μ₁ p => Exs.forget p.1 (fin μ₁ p.2)) hs)
  · exact fun A env s Z Of Or K ra Q E hA hs' T g => hi A env s Z Of Or K ra Q E hA hs' T fun h' tk Z' Or' ra' it fr xs μ' p => g h' tk Z' Or' ra' it fr xs μ' ⟨hb, p⟩
  · have t := turn x xs μ₁ p.2
    intro A env s Z Of Or K ra val Q E hA hs' T r g
    refine t A env s Z Of Or K ra val Q E hA hs' T r fun h' tk Z' Of' Or' ra' ρ' μ' q => g h' tk Z' Of' Or' ra' ρ' μ' (q.mono fun f ρ₃ μ₃ w => ⟨?_, ?_⟩)
    · rintro (rfl | rfl) <;> exact w
    · rintro v rfl; exact w
/-- while -/
theorem xs_while {t : Expr} {body : List Stmt} {pos : Pos} (I : Nat → Rho → Mem → Prop) (k : Nat) (h0 : I k ρ μ)
    (turn : ∀ k ρ₁ μ₁, I k ρ₁ μ₁ → ∃ base, Sub' base ρ₁ ∧ Tst X n S t base μ₁ fun b μ₂ => (b = true → Exs X n S body base μ₂ (Po (fun ρ₃ μ₃ => ∃ m, m < k ∧ I m ρ₃ μ₃) (fun ρ₃ μ₃ => ∃ m, m < k ∧ I m ρ₃ μ₃) rt)) ∧ (b = false → Exs X n S rest base μ₂ (Po nx cn rt))) :
    Exs X n S (.While t body [] pos :: rest) ρ μ (Po nx cn rt) := by
  refine xs_st (ex_while I h0 fun k ρ₁ μ₁ p => ?_)
  obtain ⟨base, hb, T⟩ := turn k ρ₁ μ₁ p
  intro A env s Z Of Or K ra Q E hA hs' T' g
  refine T A env s Z Of Or K ra Q E hA hs' (T'.forget hb) fun h' tk Z' Or' ra' val v μ' q z pr Tq r => ?_
  have fr : St X env S.oc Z' Of Or' K ra' ρ₁ μ' h' := ⟨Tq.bs, Tq.fk, T'.fr.mono z pr⟩
  refine g h' tk Z' Or' ra' val v μ' ⟨fun e => Exs.forget hb ((q.1 e).mono fun f ρ₃ μ₃ w => ⟨?_, ?_⟩), fun e => Exs.forget hb (q.2 e)⟩ z pr fr r
  · rintro (rfl | rfl) <;> exact w
  · rintro v rfl; exact w
theorem xs_still {st : List Stmt} {P : Fl → Rho → Mem → Prop} (x : Str) {i : Nat} {c : Cell} {d : D} {ρ' : Rho} (hx : ρ.lookup x = some (.own i)) (hc : μ[i]? = some c) (hd : (∃ xs, c = .lst xs ∧ d = .lst xs) ∨ ∃ es, c = .dct es ∧ d = .dct es) (hp : Put x (.d d) ρ ρ')
    (h : Exs X n S st ρ' (μ.set i .dead) P) : Exs X n S st ρ μ P := exs_still hx hc hd hp h
theorem xs_still_l {st : List Stmt} {P : Fl → Rho → Mem → Prop} (x : Str) {i : Nat} {xs : List D} {ρ' : Rho} (hx : ρ.lookup x = some (.own i)) (hc : μ[i]? = some (.lst xs)) (hp : Put x (.d (.lst xs)) ρ ρ')
    (h : Exs X n S st ρ' (μ.set i .dead) P) : Exs X n S st ρ μ P := exs_still hx hc (.inl ⟨xs, rfl, rfl⟩) hp h
theorem xs_still_d {st : List Stmt} {P : Fl → Rho → Mem → Prop} (x : Str) {i : Nat} {xs : List (Int × D)} {ρ' : Rho} (hx : ρ.lookup x = some (.own i)) (hc : μ[i]? = some (.dct xs)) (hp : Put x (.d (.dct xs)) ρ ρ')
    (h : Exs X n S st ρ' (μ.set i .dead) P) : Exs X n S st ρ μ P := exs_still hx hc (.inr ⟨xs, rfl, rfl⟩) hp h
theorem xs_swap {elts vs : List Expr} {k k2 : Nat} {tpos p2 pos : Pos} (names : List Str) (hw : ∀ env, env.scope = S.sc → swappedStores [.Tuple elts k tpos] (.Tuple vs k2 p2) env = pure (some names)) (hx : (names.all fun x => S.sc.names.lookup x == some .local) = true)
    (h : EvL X n S vs ρ μ fun us μ₁ => ∃ ρ', us.length = names.length ∧ us.length ≤ 100 ∧ PutL names.reverse us.reverse ρ ρ' ∧ Exs X n S rest ρ' μ₁ (Po nx cn rt)) : Exs X n S (.Assign [.Tuple elts k tpos] (.Tuple vs k2 p2) pos :: rest) ρ μ (Po nx cn rt) :=
  xs_st (ex_swap hw (fun x hm => kind_eq (List.all_eq_true.mp hx x hm)) h)
/-- comprehensions whose parts leave all as it was -/
noncomputable def CTurn {α : Type} (X : Cx) (n : Nat) (S : Sc) (elt target : Expr) (ifs : List Expr) (ρ₀ : Rho) (μ : Mem) (em : α → D) (g : α → Option D) (x : α) : Prop :=
  As X n S target (.d (em x)) ρ₀ μ fun ρ₂ μ₂ => μ₂ = μ ∧ Sub' ρ₀ ρ₂ ∧ Tsts X n S ifs ρ₂ μ fun b μ₃ => (b = true → Ev X n S elt ρ₂ μ₃ fun v μ₄ => ∃ y, v = .d y ∧ g x = some y ∧ μ₄ = μ) ∧ (b = false → g x = none ∧ μ₃ = μ)
theorem cturn {α : Type} {ρ₀ : Rho} {elt target : Expr} {ifs : List Expr} {c : Cm} {xs : List α} {em : α → D} {g : α → Option D} (hn : xs.length ≤ 100000) (hc : c.gens[1]? = none) (hce : c.elt = elt)
    (turn : ∀ x ∈ xs, CTurn X n S elt target ifs ρ₀ μ em g x) :
    ∀ x rest ρ₁ μ₁ acc, (∃ zs ys, xs = zs ++ ys ∧ x :: rest = ys.map em ∧ acc = zs.filterMap g ∧ Sub' ρ₀ ρ₁ ∧ μ₁ = μ) → As X n S target (.d x) ρ₁ μ₁ fun ρ₂ μ₂ => Tsts X n S ifs ρ₂ μ₂ fun b μ₃ => (b = true → Em X n S c 1 ρ₂ μ₃ acc fun ρ₄ μ₄ acc₄ => ∃ zs ys, xs = zs ++ ys ∧ rest = ys.map em ∧ acc₄ = zs.filterMap g ∧ Sub' ρ₀ ρ₄ ∧ μ₄ = μ) ∧ (b = false → ∃ zs ys, xs = zs ++ ys ∧ rest = ys.map em ∧ acc = zs.filterMap g ∧ Sub' ρ₀ ρ₂ ∧ μ₃ = μ) := by
  rintro x rest ρ₁ μ₁ acc ⟨zs, ys, e, ey, rfl, sb, rfl⟩
  cases ys with
  | nil => cases ey
  | cons y ys =>
    rw [List.map_cons, List.cons.injEq] at ey
    obtain ⟨rfl, rfl⟩ := ey
    refine As.forget sb ?_
    have t := turn y (by rw [e]; simp)
    intro A env s Z Of Or K ra val Q E hA hs' T r k
    refine t A env s Z Of Or K ra val Q E hA hs' T r fun h' tk Z' Of' Or' ra' ρ₂ μ₂ q => ?_
    obtain ⟨rfl, sb₂, q⟩ := q
    refine k h' tk Z' Of' Or' ra' ρ₂ μ₂ fun A env s Z Of Or K ra Q E hA hs' T k => q A env s Z Of Or K ra Q E hA hs' T fun h' tk Z' Or' ra' val b μ₃ q => k h' tk Z' Or' ra' val b μ₃ ⟨fun hb => ?_, fun hb => ?_⟩
    · refine em_elt hc ?_ ?_
      · have := List.length_filterMap_le g zs
        rw [e] at hn; rw [List.length_append] at hn; omega
      · rw [hce]
        refine (q.1 hb).mono fun v μ₄ w => ?_
        obtain ⟨z, rfl, gy, rfl⟩ := w
        exact ⟨z, rfl, zs ++ [y], ys, by rw [e]; simp, rfl, by simp [gy], sb₂, rfl⟩
    · obtain ⟨gn, rfl⟩ := q.2 hb
      exact ⟨zs ++ [y], ys, by rw [e]; simp, rfl, by simp [gn], sb₂, rfl⟩
theorem ev_cmap {α : Type} (ρ₀ : Rho) {elt target iter : Expr} {ifs : List Expr} {scope : Scope} {pos : Pos} {P : V → Mem → Prop} (xs : List α) (em : α → D) (g : α → Option D) (C : CompOk scope S ρ ρ₀) (hn : xs.length ≤ 100000)
    (hi : EvIt X n S iter target ρ μ fun ys μ₁ => ys = xs.map em ∧ μ₁ = μ)
    (turn : ∀ x ∈ xs, CTurn X n (S.sub scope) elt target ifs ρ₀ μ em g x)
    (fin : P (.d (.lst (xs.filterMap g))) μ)
    (hs : ∀ env x, foldedSetIterable iter env x = pure x := by intros; rfl) : Ev X n S (.ListComp elt [⟨target, iter, ifs, 0⟩] scope pos) ρ μ P := by
  refine ev_comp ρ₀ (fun ys ρ₁ μ₁ acc => ∃ zs ys', xs = zs ++ ys' ∧ ys = ys'.map em ∧ acc = zs.filterMap g ∧ Sub' ρ₀ ρ₁ ∧ μ₁ = μ) C ?_ (cturn hn rfl rfl turn) ?_ (by simp) hs
  · exact fun A env s Z Of Or K ra Q E hA hs' T k => hi A env s Z Of Or K ra Q E hA hs' T fun h' tk Z' Or' ra' it fr ys μ' p => k h' tk Z' Or' ra' it fr ys μ' (by obtain ⟨rfl, rfl⟩ := p; exact ⟨[], xs, rfl, rfl, rfl, .refl, rfl⟩)
  · rintro ρ₁ μ₁ acc ⟨zs, ys, e, ey, rfl, _, rfl⟩
    rw [List.map_eq_nil_iff.mp ey.symm, List.append_nil] at e; subst e; exact fin
theorem xs_cmap {α : Type} (ρ₀ : Rho) {elt target iter : Expr} {ifs : List Expr} {scope : Scope} {pos spos py : Pos} {y : Str} (xs : List α) (em : α → D) (g : α → Option D) (C : CompOk scope S ρ ρ₀) (hn : xs.length ≤ 100000)
    (hsw : ∀ env, env.scope = S.sc → swapsWith (.ListComp elt [⟨target, iter, ifs, 0⟩] scope pos) (some (.Name y py)) spos.line env = pure true)
    (hi : EvIt X n S iter target ρ μ fun ys μ₁ => ys = xs.map em ∧ μ₁ = μ)
    (turn : ∀ x ∈ xs, CTurn X n (S.sub scope) elt target ifs ρ₀ μ em g x)
    (fin : As X n S (.Name y py) (.d (.lst (xs.filterMap g))) ρ μ fun ρ' μ' => Exs X n S rest ρ' μ' (Po nx cn rt))
    (hs : ∀ env x, foldedSetIterable iter env x = pure x := by intros; rfl) : Exs X n S (.Assign [.Name y py] (.ListComp elt [⟨target, iter, ifs, 0⟩] scope pos) spos :: rest) ρ μ (Po nx cn rt) := by
  refine xs_st (ex_comp ρ₀ (fun ys ρ₁ μ₁ acc => ∃ zs ys', xs = zs ++ ys' ∧ ys = ys'.map em ∧ acc = zs.filterMap g ∧ Sub' ρ₀ ρ₁ ∧ μ₁ = μ) C hsw ?_ (cturn hn rfl rfl turn) ?_ (by simp) hs)
  · exact fun A env s Z Of Or K ra Q E hA hs' T k => hi A env s Z Of Or K ra Q E hA hs' T fun h' tk Z' Or' ra' it fr ys μ' p => k h' tk Z' Or' ra' it fr ys μ' (by obtain ⟨rfl, rfl⟩ := p; exact ⟨[], xs, rfl, rfl, rfl, .refl, rfl⟩)
  · rintro ρ₁ μ₁ acc ⟨zs, ys, e, ey, rfl, _, rfl⟩
    rw [List.map_eq_nil_iff.mp ey.symm, List.append_nil] at e; subst e; exact fin
/-- CompOk, looked over -/
noncomputable def ckC (scope : Scope) (S : Sc) (ρ₀ : Rho) : Bool :=
  scope.kind == .function && scope.names.all (fun p => scope.names.lookup p.1 == some p.2) &&
  ρ₀.all (fun p => scope.names.lookup p.1 == some .free && (S.sc.names.lookup p.1 == some .cell || S.sc.names.lookup p.1 == some .free)) &&
  scope.names.all (fun p => p.2 != .free || (ρ₀.map (·.1)).contains p.1)
theorem ckC_of {scope : Scope} {ρ₀ : Rho} (h : ckC scope S ρ₀ = true) (hr : ∀ p ∈ ρ₀, ρ.lookup p.1 = some p.2) : CompOk scope S ρ ρ₀ := by
  unfold ckC at h
  simp only [Bool.and_eq_true, List.all_eq_true, Bool.or_eq_true] at h
  obtain ⟨⟨⟨h1, h2⟩, h3⟩, h4⟩ := h
  refine ⟨?_, fun p hp => kind_eq (h2 p hp), fun p hp => ⟨hr p hp, kind_eq (h3 p hp).1, (h3 p hp).2.imp kind_eq kind_eq⟩, fun p hp e => ?_⟩
  · cases hk : scope.kind <;> rw [hk] at h1 <;> first | rfl | cases h1
  · rcases h4 p hp with w | w
    · rw [e] at w; cases w
    · exact List.contains_iff_mem.mp w
theorem all_nil {ρ : Rho} : ∀ p ∈ ([] : Rho), ρ.lookup p.1 = some p.2 := fun _ h => nomatch h
theorem all_cons {x : Str} {v : V} {r ρ : Rho} (h : ρ.lookup x = some v) (k : ∀ p ∈ r, ρ.lookup p.1 = some p.2) : ∀ p ∈ ((x, v) :: r), ρ.lookup p.1 = some p.2 := fun p hp => by
  rcases List.mem_cons.mp hp with rfl | hp
  · exact h
  · exact k p hp
-- built-in names
section
variable {P : V → Mem → Prop} {p pos : Pos} {e : Expr} {es : List Expr}
noncomputable def NoG (X : Cx) (S : Sc) (g : Str) : Prop := S.sc.names.lookup g = some .globalImplicit ∧ nsIn X.K mainGlobals g = some none
theorem ev_len (hx : S.sc.names.lookup ("len" : Str) = some .globalImplicit) (hK : nsIn X.K mainGlobals "len" = some none) (ha : EvL X n S [e] ρ μ fun vs μ₁ => Op X n (fun vals => call (.builtin "len") vals) vs μ₁ P) (he : ∀ env, starEach [e] env = (false, eval e env) :: starEach [] env := by intro _; rfl) : Ev X n S (.Call (.Name "len" p) [e] [] pos) ρ μ P :=
  ev_bi hx hK (by decide) (by decide +kernel) ha rfl he
theorem ev_abs (hx : S.sc.names.lookup ("abs" : Str) = some .globalImplicit) (hK : nsIn X.K mainGlobals "abs" = some none) (ha : EvL X n S [e] ρ μ fun vs μ₁ => Op X n (fun vals => call (.builtin "abs") vals) vs μ₁ P) (he : ∀ env, starEach [e] env = (false, eval e env) :: starEach [] env := by intro _; rfl) : Ev X n S (.Call (.Name "abs" p) [e] [] pos) ρ μ P :=
  ev_bi hx hK (by decide) (by decide +kernel) ha rfl he
theorem ev_sum (hx : S.sc.names.lookup ("sum" : Str) = some .globalImplicit) (hK : nsIn X.K mainGlobals "sum" = some none) (ha : EvL X n S [e] ρ μ fun vs μ₁ => Op X n (fun vals => call (.builtin "sum") vals) vs μ₁ P) (he : ∀ env, starEach [e] env = (false, eval e env) :: starEach [] env := by intro _; rfl) : Ev X n S (.Call (.Name "sum" p) [e] [] pos) ρ μ P :=
  ev_bi hx hK (by decide) (by decide +kernel) ha rfl he
theorem ev_all (hx : S.sc.names.lookup ("all" : Str) = some .globalImplicit) (hK : nsIn X.K mainGlobals "all" = some none) (ha : EvL X n S [e] ρ μ fun vs μ₁ => Op X n (fun vals => call (.builtin "all") vals) vs μ₁ P) (he : ∀ env, starEach [e] env = (false, eval e env) :: starEach [] env := by intro _; rfl) : Ev X n S (.Call (.Name "all" p) [e] [] pos) ρ μ P :=
  ev_bi hx hK (by decide) (by decide +kernel) ha rfl he
theorem ev_min (hx : S.sc.names.lookup ("min" : Str) = some .globalImplicit) (hK : nsIn X.K mainGlobals "min" = some none) (ha : EvL X n S (e :: es) ρ μ fun vs μ₁ => Op X n (fun vals => call (.builtin "min") vals) vs μ₁ P) (he : ∀ env, starEach (e :: es) env = (false, eval e env) :: starEach es env := by intro _; rfl) (hpl : ∀ env, (backTo pos (starEach es env)).any (·.1) = false := by intro _; rfl) : Ev X n S (.Call (.Name "min" p) (e :: es) [] pos) ρ μ P :=
  ev_bi hx hK (by decide) (by decide +kernel) ha rfl he hpl
theorem ev_max (hx : S.sc.names.lookup ("max" : Str) = some .globalImplicit) (hK : nsIn X.K mainGlobals "max" = some none) (ha : EvL X n S (e :: es) ρ μ fun vs μ₁ => Op X n (fun vals => call (.builtin "max") vals) vs μ₁ P) (he : ∀ env, starEach (e :: es) env = (false, eval e env) :: starEach es env := by intro _; rfl) (hpl : ∀ env, (backTo pos (starEach es env)).any (·.1) = false := by intro _; rfl) : Ev X n S (.Call (.Name "max" p) (e :: es) [] pos) ρ μ P :=
  ev_bi hx hK (by decide) (by decide +kernel) ha rfl he hpl
theorem ev_tuple (hx : S.sc.names.lookup ("tuple" : Str) = some .globalImplicit) (hK : nsIn X.K mainGlobals "tuple" = some none) (ha : EvL X n S [e] ρ μ fun vs μ₁ => Op X n (fun vals => call (.type "tuple") vals) vs μ₁ P) (he : ∀ env, starEach [e] env = (false, eval e env) :: starEach [] env := by intro _; rfl) : Ev X n S (.Call (.Name "tuple" p) [e] [] pos) ρ μ P :=
  ev_ty hx hK (by decide) (by decide +kernel) ha rfl he
theorem ev_list (hx : S.sc.names.lookup ("list" : Str) = some .globalImplicit) (hK : nsIn X.K mainGlobals "list" = some none) (ha : EvL X n S [e] ρ μ fun vs μ₁ => Op X n (fun vals => call (.type "list") vals) vs μ₁ P) (he : ∀ env, starEach [e] env = (false, eval e env) :: starEach [] env := by intro _; rfl) : Ev X n S (.Call (.Name "list" p) [e] [] pos) ρ μ P :=
  ev_ty hx hK (by decide) (by decide +kernel) ha rfl he
theorem ev_intc (hx : S.sc.names.lookup ("int" : Str) = some .globalImplicit) (hK : nsIn X.K mainGlobals "int" = some none) (ha : EvL X n S [e] ρ μ fun vs μ₁ => Op X n (fun vals => call (.type "int") vals) vs μ₁ P) (he : ∀ env, starEach [e] env = (false, eval e env) :: starEach [] env := by intro _; rfl) : Ev X n S (.Call (.Name "int" p) [e] [] pos) ρ μ P :=
  ev_ty hx hK (by decide) (by decide +kernel) ha rfl he
end
end
noncomputable def cx (w : World) (h₀ : Heap) (mb : Str → Option Value) : Cx := ⟨PySem.Challenge.rw_nz0014_01.row.prog, w, h₀, frag w.params, 261, 260, mb⟩
noncomputable def IsInst (μ : Mem) (i : Nat) (fs : List (Str × V)) : Prop := ∃ j, μ[i]? = some (.inst j) ∧ μ[j]? = some (.ns fs)
section
variable {w : World} {h₀ : Heap} {mb : Str → Option Value} {n : Nat} {S : Sc} {ρ : Rho} {μ : Mem} {P : V → Mem → Prop}
theorem EvL.mono {X : Cx} {es : List Expr} {P P' : List V → Mem → Prop} (h : EvL X n S es ρ μ P) (k : ∀ v μ', P v μ' → P' v μ') : EvL X n S es ρ μ P' :=
  fun A env s pos Z Of Or K ra Q E hA hs T g => h A env s pos Z Of Or K ra Q E hA hs T fun h' tk Z' Or' ra' val v μ' p => g h' tk Z' Or' ra' val v μ' (k v μ' p)
theorem evl_fn {X : Cx} {es : List Expr} {f : Addr} (h : EvL X n S es ρ μ fun vs μ₁ => Fc X n f vs μ₁ P) : EvL X n S es ρ μ fun vs μ₁ => Fn X n f vs μ₁ P := h.mono fun _ _ k => k.fn
theorem evl_fn' {X : Cx} {es : List Expr} {f : Addr} {u : V} (h : EvL X n S es ρ μ fun vs μ₁ => Fc X n f (u :: vs) μ₁ P) : EvL X n S es ρ μ fun vs μ₁ => Fn X n f (u :: vs) μ₁ P := h.mono fun _ _ k => k.fn
theorem c_rows_of {p pos : Pos} {e : Expr} {es : List Expr} (ha : EvL (cx w h₀ mb) n S (e :: es) ρ μ fun vs μ₁ => Fc (cx w h₀ mb) n 26 vs μ₁ P) (hx : S.sc.names.lookup ("rows_of" : Str) = some .globalImplicit := by kernel_rfl!) (he : ∀ env, starEach (e :: es) env = (false, eval e env) :: starEach es env := by intro _; rfl) (hpl : ∀ env, (backTo pos (starEach es env)).any (·.1) = false := by intro _; rfl) : Ev (cx w h₀ mb) n S (.Call (.Name "rows_of" p) (e :: es) [] pos) ρ μ P :=
  ev_call hx (by kernel_rfl!) (by kernel_rfl!) (evl_fn ha) (by rfl) he hpl
theorem c_sum_at {p pos : Pos} {e : Expr} {es : List Expr} (ha : EvL (cx w h₀ mb) n S (e :: es) ρ μ fun vs μ₁ => Fc (cx w h₀ mb) n 31 vs μ₁ P) (hx : S.sc.names.lookup ("sum_at" : Str) = some .globalImplicit := by kernel_rfl!) (he : ∀ env, starEach (e :: es) env = (false, eval e env) :: starEach es env := by intro _; rfl) (hpl : ∀ env, (backTo pos (starEach es env)).any (·.1) = false := by intro _; rfl) : Ev (cx w h₀ mb) n S (.Call (.Name "sum_at" p) (e :: es) [] pos) ρ μ P :=
  ev_call hx (by kernel_rfl!) (by kernel_rfl!) (evl_fn ha) (by rfl) he hpl
theorem c_least_reasons {p pos : Pos} {e : Expr} {es : List Expr} (ha : EvL (cx w h₀ mb) n S (e :: es) ρ μ fun vs μ₁ => Fc (cx w h₀ mb) n 38 vs μ₁ P) (hx : S.sc.names.lookup ("least_reasons" : Str) = some .globalImplicit := by kernel_rfl!) (he : ∀ env, starEach (e :: es) env = (false, eval e env) :: starEach es env := by intro _; rfl) (hpl : ∀ env, (backTo pos (starEach es env)).any (·.1) = false := by intro _; rfl) : Ev (cx w h₀ mb) n S (.Call (.Name "least_reasons" p) (e :: es) [] pos) ρ μ P :=
  ev_call hx (by kernel_rfl!) (by kernel_rfl!) (evl_fn ha) (by rfl) he hpl
theorem c_least {p pos : Pos} {e : Expr} {es : List Expr} (ha : EvL (cx w h₀ mb) n S (e :: es) ρ μ fun vs μ₁ => Fc (cx w h₀ mb) n 45 vs μ₁ P) (hx : S.sc.names.lookup ("least" : Str) = some .globalImplicit := by kernel_rfl!) (he : ∀ env, starEach (e :: es) env = (false, eval e env) :: starEach es env := by intro _; rfl) (hpl : ∀ env, (backTo pos (starEach es env)).any (·.1) = false := by intro _; rfl) : Ev (cx w h₀ mb) n S (.Call (.Name "least" p) (e :: es) [] pos) ρ μ P :=
  ev_call hx (by kernel_rfl!) (by kernel_rfl!) (evl_fn ha) (by rfl) he hpl
theorem c_greatest {p pos : Pos} {e : Expr} {es : List Expr} (ha : EvL (cx w h₀ mb) n S (e :: es) ρ μ fun vs μ₁ => Fc (cx w h₀ mb) n 52 vs μ₁ P) (hx : S.sc.names.lookup ("greatest" : Str) = some .globalImplicit := by kernel_rfl!) (he : ∀ env, starEach (e :: es) env = (false, eval e env) :: starEach es env := by intro _; rfl) (hpl : ∀ env, (backTo pos (starEach es env)).any (·.1) = false := by intro _; rfl) : Ev (cx w h₀ mb) n S (.Call (.Name "greatest" p) (e :: es) [] pos) ρ μ P :=
  ev_call hx (by kernel_rfl!) (by kernel_rfl!) (evl_fn ha) (by rfl) he hpl
theorem c_up_to {p pos : Pos} {e : Expr} {es : List Expr} (ha : EvL (cx w h₀ mb) n S (e :: es) ρ μ fun vs μ₁ => Fc (cx w h₀ mb) n 71 vs μ₁ P) (hx : S.sc.names.lookup ("up_to" : Str) = some .globalImplicit := by kernel_rfl!) (he : ∀ env, starEach (e :: es) env = (false, eval e env) :: starEach es env := by intro _; rfl) (hpl : ∀ env, (backTo pos (starEach es env)).any (·.1) = false := by intro _; rfl) : Ev (cx w h₀ mb) n S (.Call (.Name "up_to" p) (e :: es) [] pos) ρ μ P :=
  ev_call hx (by kernel_rfl!) (by kernel_rfl!) (evl_fn ha) (by rfl) he hpl
theorem c_from_on {p pos : Pos} {e : Expr} {es : List Expr} (ha : EvL (cx w h₀ mb) n S (e :: es) ρ μ fun vs μ₁ => Fc (cx w h₀ mb) n 76 vs μ₁ P) (hx : S.sc.names.lookup ("from_on" : Str) = some .globalImplicit := by kernel_rfl!) (he : ∀ env, starEach (e :: es) env = (false, eval e env) :: starEach es env := by intro _; rfl) (hpl : ∀ env, (backTo pos (starEach es env)).any (·.1) = false := by intro _; rfl) : Ev (cx w h₀ mb) n S (.Call (.Name "from_on" p) (e :: es) [] pos) ρ μ P :=
  ev_call hx (by kernel_rfl!) (by kernel_rfl!) (evl_fn ha) (by rfl) he hpl
theorem c_without {p pos : Pos} {e : Expr} {es : List Expr} (ha : EvL (cx w h₀ mb) n S (e :: es) ρ μ fun vs μ₁ => Fc (cx w h₀ mb) n 83 vs μ₁ P) (hx : S.sc.names.lookup ("without" : Str) = some .globalImplicit := by kernel_rfl!) (he : ∀ env, starEach (e :: es) env = (false, eval e env) :: starEach es env := by intro _; rfl) (hpl : ∀ env, (backTo pos (starEach es env)).any (·.1) = false := by intro _; rfl) : Ev (cx w h₀ mb) n S (.Call (.Name "without" p) (e :: es) [] pos) ρ μ P :=
  ev_call hx (by kernel_rfl!) (by kernel_rfl!) (evl_fn ha) (by rfl) he hpl
theorem c_meet {p pos : Pos} {e : Expr} {es : List Expr} (ha : EvL (cx w h₀ mb) n S (e :: es) ρ μ fun vs μ₁ => Fc (cx w h₀ mb) n 90 vs μ₁ P) (hx : S.sc.names.lookup ("meet" : Str) = some .globalImplicit := by kernel_rfl!) (he : ∀ env, starEach (e :: es) env = (false, eval e env) :: starEach es env := by intro _; rfl) (hpl : ∀ env, (backTo pos (starEach es env)).any (·.1) = false := by intro _; rfl) : Ev (cx w h₀ mb) n S (.Call (.Name "meet" p) (e :: es) [] pos) ρ μ P :=
  ev_call hx (by kernel_rfl!) (by kernel_rfl!) (evl_fn ha) (by rfl) he hpl
theorem c_struck {p pos : Pos} {e : Expr} {es : List Expr} (ha : EvL (cx w h₀ mb) n S (e :: es) ρ μ fun vs μ₁ => Fc (cx w h₀ mb) n 104 vs μ₁ P) (hx : S.sc.names.lookup ("struck" : Str) = some .globalImplicit := by kernel_rfl!) (he : ∀ env, starEach (e :: es) env = (false, eval e env) :: starEach es env := by intro _; rfl) (hpl : ∀ env, (backTo pos (starEach es env)).any (·.1) = false := by intro _; rfl) : Ev (cx w h₀ mb) n S (.Call (.Name "struck" p) (e :: es) [] pos) ρ μ P :=
  ev_call hx (by kernel_rfl!) (by kernel_rfl!) (evl_fn ha) (by rfl) he hpl
theorem c_law_draw {p pos : Pos} {e : Expr} {es : List Expr} (ha : EvL (cx w h₀ mb) n S (e :: es) ρ μ fun vs μ₁ => Fc (cx w h₀ mb) n 272 vs μ₁ P) (hx : S.sc.names.lookup ("_law_draw" : Str) = some .globalImplicit := by kernel_rfl!) (he : ∀ env, starEach (e :: es) env = (false, eval e env) :: starEach es env := by intro _; rfl) (hpl : ∀ env, (backTo pos (starEach es env)).any (·.1) = false := by intro _; rfl) : Ev (cx w h₀ mb) n S (.Call (.Name "_law_draw" p) (e :: es) [] pos) ρ μ P :=
  ev_call hx (by kernel_rfl!) (by kernel_rfl!) (evl_fn ha) (by rfl) he hpl
theorem c_law_rows {p pos : Pos} {e : Expr} {es : List Expr} (ha : EvL (cx w h₀ mb) n S (e :: es) ρ μ fun vs μ₁ => Fc (cx w h₀ mb) n 277 vs μ₁ P) (hx : S.sc.names.lookup ("_law_rows" : Str) = some .globalImplicit := by kernel_rfl!) (he : ∀ env, starEach (e :: es) env = (false, eval e env) :: starEach es env := by intro _; rfl) (hpl : ∀ env, (backTo pos (starEach es env)).any (·.1) = false := by intro _; rfl) : Ev (cx w h₀ mb) n S (.Call (.Name "_law_rows" p) (e :: es) [] pos) ρ μ P :=
  ev_call hx (by kernel_rfl!) (by kernel_rfl!) (evl_fn ha) (by rfl) he hpl
theorem c_law_domain {p pos : Pos} {e : Expr} {es : List Expr} (ha : EvL (cx w h₀ mb) n S (e :: es) ρ μ fun vs μ₁ => Fc (cx w h₀ mb) n 284 vs μ₁ P) (hx : S.sc.names.lookup ("_law_domain" : Str) = some .globalImplicit := by kernel_rfl!) (he : ∀ env, starEach (e :: es) env = (false, eval e env) :: starEach es env := by intro _; rfl) (hpl : ∀ env, (backTo pos (starEach es env)).any (·.1) = false := by intro _; rfl) : Ev (cx w h₀ mb) n S (.Call (.Name "_law_domain" p) (e :: es) [] pos) ρ μ P :=
  ev_call hx (by kernel_rfl!) (by kernel_rfl!) (evl_fn ha) (by rfl) he hpl
theorem c_law_now {p pos : Pos} {e : Expr} {es : List Expr} (ha : EvL (cx w h₀ mb) n S (e :: es) ρ μ fun vs μ₁ => Fc (cx w h₀ mb) n 289 vs μ₁ P) (hx : S.sc.names.lookup ("_law_now" : Str) = some .globalImplicit := by kernel_rfl!) (he : ∀ env, starEach (e :: es) env = (false, eval e env) :: starEach es env := by intro _; rfl) (hpl : ∀ env, (backTo pos (starEach es env)).any (·.1) = false := by intro _; rfl) : Ev (cx w h₀ mb) n S (.Call (.Name "_law_now" p) (e :: es) [] pos) ρ μ P :=
  ev_call hx (by kernel_rfl!) (by kernel_rfl!) (evl_fn ha) (by rfl) he hpl
theorem c_law_points {p pos : Pos} {e : Expr} {es : List Expr} (ha : EvL (cx w h₀ mb) n S (e :: es) ρ μ fun vs μ₁ => Fc (cx w h₀ mb) n 294 vs μ₁ P) (hx : S.sc.names.lookup ("_law_points" : Str) = some .globalImplicit := by kernel_rfl!) (he : ∀ env, starEach (e :: es) env = (false, eval e env) :: starEach es env := by intro _; rfl) (hpl : ∀ env, (backTo pos (starEach es env)).any (·.1) = false := by intro _; rfl) : Ev (cx w h₀ mb) n S (.Call (.Name "_law_points" p) (e :: es) [] pos) ρ μ P :=
  ev_call hx (by kernel_rfl!) (by kernel_rfl!) (evl_fn ha) (by rfl) he hpl
theorem c_law_says {p pos : Pos} {e : Expr} {es : List Expr} (ha : EvL (cx w h₀ mb) n S (e :: es) ρ μ fun vs μ₁ => Fc (cx w h₀ mb) n 301 vs μ₁ P) (hx : S.sc.names.lookup ("_law_says" : Str) = some .globalImplicit := by kernel_rfl!) (he : ∀ env, starEach (e :: es) env = (false, eval e env) :: starEach es env := by intro _; rfl) (hpl : ∀ env, (backTo pos (starEach es env)).any (·.1) = false := by intro _; rfl) : Ev (cx w h₀ mb) n S (.Call (.Name "_law_says" p) (e :: es) [] pos) ρ μ P :=
  ev_call hx (by kernel_rfl!) (by kernel_rfl!) (evl_fn ha) (by rfl) he hpl
theorem c_law_often {p pos : Pos} {e : Expr} {es : List Expr} (ha : EvL (cx w h₀ mb) n S (e :: es) ρ μ fun vs μ₁ => Fc (cx w h₀ mb) n 308 vs μ₁ P) (hx : S.sc.names.lookup ("_law_often" : Str) = some .globalImplicit := by kernel_rfl!) (he : ∀ env, starEach (e :: es) env = (false, eval e env) :: starEach es env := by intro _; rfl) (hpl : ∀ env, (backTo pos (starEach es env)).any (·.1) = false := by intro _; rfl) : Ev (cx w h₀ mb) n S (.Call (.Name "_law_often" p) (e :: es) [] pos) ρ μ P :=
  ev_call hx (by kernel_rfl!) (by kernel_rfl!) (evl_fn ha) (by rfl) he hpl
theorem c_law_lowest {p pos : Pos} {e : Expr} {es : List Expr} (ha : EvL (cx w h₀ mb) n S (e :: es) ρ μ fun vs μ₁ => Fc (cx w h₀ mb) n 313 vs μ₁ P) (hx : S.sc.names.lookup ("_law_lowest" : Str) = some .globalImplicit := by kernel_rfl!) (he : ∀ env, starEach (e :: es) env = (false, eval e env) :: starEach es env := by intro _; rfl) (hpl : ∀ env, (backTo pos (starEach es env)).any (·.1) = false := by intro _; rfl) : Ev (cx w h₀ mb) n S (.Call (.Name "_law_lowest" p) (e :: es) [] pos) ρ μ P :=
  ev_call hx (by kernel_rfl!) (by kernel_rfl!) (evl_fn ha) (by rfl) he hpl
theorem c_law_is_told_right {p pos : Pos} {e : Expr} {es : List Expr} (ha : EvL (cx w h₀ mb) n S (e :: es) ρ μ fun vs μ₁ => Fc (cx w h₀ mb) n 318 vs μ₁ P) (hx : S.sc.names.lookup ("_law_is_told_right" : Str) = some .globalImplicit := by kernel_rfl!) (he : ∀ env, starEach (e :: es) env = (false, eval e env) :: starEach es env := by intro _; rfl) (hpl : ∀ env, (backTo pos (starEach es env)).any (·.1) = false := by intro _; rfl) : Ev (cx w h₀ mb) n S (.Call (.Name "_law_is_told_right" p) (e :: es) [] pos) ρ μ P :=
  ev_call hx (by kernel_rfl!) (by kernel_rfl!) (evl_fn ha) (by rfl) he hpl
theorem c_law_literal {p pos : Pos} {e : Expr} {es : List Expr} (ha : EvL (cx w h₀ mb) n S (e :: es) ρ μ fun vs μ₁ => Fc (cx w h₀ mb) n 323 vs μ₁ P) (hx : S.sc.names.lookup ("_law_literal" : Str) = some .globalImplicit := by kernel_rfl!) (he : ∀ env, starEach (e :: es) env = (false, eval e env) :: starEach es env := by intro _; rfl) (hpl : ∀ env, (backTo pos (starEach es env)).any (·.1) = false := by intro _; rfl) : Ev (cx w h₀ mb) n S (.Call (.Name "_law_literal" p) (e :: es) [] pos) ρ μ P :=
  ev_call hx (by kernel_rfl!) (by kernel_rfl!) (evl_fn ha) (by rfl) he hpl
theorem m_new_var {o e : Expr} {es : List Expr} {apos pos : Pos} {pl : Env → Sem Bool} (hv : Ev (cx w h₀ mb) n S o ρ μ fun ov μ₁ => ∃ i fs, ov = .own i ∧ IsInst μ₁ i fs ∧ fs.lookup ("new_var" : Str) = none ∧ EvL (cx w h₀ mb) n S (e :: es) ρ μ₁ fun vs μ₂ => Fc (cx w h₀ mb) n 132 (.own i :: vs) μ₂ P) (hm : MForm o "new_var" apos pos (e :: es) pl := by intro _; with_unfolding_all rfl)
    (he : ∀ env, starEach (e :: es) env = (false, eval e env) :: starEach es env := by intro _; rfl) (hpl : ∀ env, (backTo pos (starEach es env)).any (·.1) = false := by intro _; rfl) : Ev (cx w h₀ mb) n S (.Call (.Attribute o "new_var" apos) (e :: es) [] pos) ρ μ P :=
  ev_meth (f := 132) (by kernel_rfl!) (by kernel_rfl!) (by kernel_rfl!) (hv.mono fun ov μ₁ ⟨i, fs, h1, ⟨j, h2, h3⟩, h4, h5⟩ => ⟨i, j, fs, h1, h2, h3, h4, evl_fn' h5⟩) hm he hpl
theorem m_dom {o e : Expr} {es : List Expr} {apos pos : Pos} {pl : Env → Sem Bool} (hv : Ev (cx w h₀ mb) n S o ρ μ fun ov μ₁ => ∃ i fs, ov = .own i ∧ IsInst μ₁ i fs ∧ fs.lookup ("dom" : Str) = none ∧ EvL (cx w h₀ mb) n S (e :: es) ρ μ₁ fun vs μ₂ => Fc (cx w h₀ mb) n 146 (.own i :: vs) μ₂ P) (hm : MForm o "dom" apos pos (e :: es) pl := by intro _; with_unfolding_all rfl)
    (he : ∀ env, starEach (e :: es) env = (false, eval e env) :: starEach es env := by intro _; rfl) (hpl : ∀ env, (backTo pos (starEach es env)).any (·.1) = false := by intro _; rfl) : Ev (cx w h₀ mb) n S (.Call (.Attribute o "dom" apos) (e :: es) [] pos) ρ μ P :=
  ev_meth (f := 146) (by kernel_rfl!) (by kernel_rfl!) (by kernel_rfl!) (hv.mono fun ov μ₁ ⟨i, fs, h1, ⟨j, h2, h3⟩, h4, h5⟩ => ⟨i, j, fs, h1, h2, h3, h4, evl_fn' h5⟩) hm he hpl
theorem m_initial {o e : Expr} {es : List Expr} {apos pos : Pos} {pl : Env → Sem Bool} (hv : Ev (cx w h₀ mb) n S o ρ μ fun ov μ₁ => ∃ i fs, ov = .own i ∧ IsInst μ₁ i fs ∧ fs.lookup ("initial" : Str) = none ∧ EvL (cx w h₀ mb) n S (e :: es) ρ μ₁ fun vs μ₂ => Fc (cx w h₀ mb) n 153 (.own i :: vs) μ₂ P) (hm : MForm o "initial" apos pos (e :: es) pl := by intro _; with_unfolding_all rfl)
    (he : ∀ env, starEach (e :: es) env = (false, eval e env) :: starEach es env := by intro _; rfl) (hpl : ∀ env, (backTo pos (starEach es env)).any (·.1) = false := by intro _; rfl) : Ev (cx w h₀ mb) n S (.Call (.Attribute o "initial" apos) (e :: es) [] pos) ρ μ P :=
  ev_meth (f := 153) (by kernel_rfl!) (by kernel_rfl!) (by kernel_rfl!) (hv.mono fun ov μ₁ ⟨i, fs, h1, ⟨j, h2, h3⟩, h4, h5⟩ => ⟨i, j, fs, h1, h2, h3, h4, evl_fn' h5⟩) hm he hpl
theorem m_low {o e : Expr} {es : List Expr} {apos pos : Pos} {pl : Env → Sem Bool} (hv : Ev (cx w h₀ mb) n S o ρ μ fun ov μ₁ => ∃ i fs, ov = .own i ∧ IsInst μ₁ i fs ∧ fs.lookup ("low" : Str) = none ∧ EvL (cx w h₀ mb) n S (e :: es) ρ μ₁ fun vs μ₂ => Fc (cx w h₀ mb) n 160 (.own i :: vs) μ₂ P) (hm : MForm o "low" apos pos (e :: es) pl := by intro _; with_unfolding_all rfl)
    (he : ∀ env, starEach (e :: es) env = (false, eval e env) :: starEach es env := by intro _; rfl) (hpl : ∀ env, (backTo pos (starEach es env)).any (·.1) = false := by intro _; rfl) : Ev (cx w h₀ mb) n S (.Call (.Attribute o "low" apos) (e :: es) [] pos) ρ μ P :=
  ev_meth (f := 160) (by kernel_rfl!) (by kernel_rfl!) (by kernel_rfl!) (hv.mono fun ov μ₁ ⟨i, fs, h1, ⟨j, h2, h3⟩, h4, h5⟩ => ⟨i, j, fs, h1, h2, h3, h4, evl_fn' h5⟩) hm he hpl
theorem m_high {o e : Expr} {es : List Expr} {apos pos : Pos} {pl : Env → Sem Bool} (hv : Ev (cx w h₀ mb) n S o ρ μ fun ov μ₁ => ∃ i fs, ov = .own i ∧ IsInst μ₁ i fs ∧ fs.lookup ("high" : Str) = none ∧ EvL (cx w h₀ mb) n S (e :: es) ρ μ₁ fun vs μ₂ => Fc (cx w h₀ mb) n 167 (.own i :: vs) μ₂ P) (hm : MForm o "high" apos pos (e :: es) pl := by intro _; with_unfolding_all rfl)
    (he : ∀ env, starEach (e :: es) env = (false, eval e env) :: starEach es env := by intro _; rfl) (hpl : ∀ env, (backTo pos (starEach es env)).any (·.1) = false := by intro _; rfl) : Ev (cx w h₀ mb) n S (.Call (.Attribute o "high" apos) (e :: es) [] pos) ρ μ P :=
  ev_meth (f := 167) (by kernel_rfl!) (by kernel_rfl!) (by kernel_rfl!) (hv.mono fun ov μ₁ ⟨i, fs, h1, ⟨j, h2, h3⟩, h4, h5⟩ => ⟨i, j, fs, h1, h2, h3, h4, evl_fn' h5⟩) hm he hpl
theorem m_enter {o e : Expr} {es : List Expr} {apos pos : Pos} {pl : Env → Sem Bool} (hv : Ev (cx w h₀ mb) n S o ρ μ fun ov μ₁ => ∃ i fs, ov = .own i ∧ IsInst μ₁ i fs ∧ fs.lookup ("enter" : Str) = none ∧ EvL (cx w h₀ mb) n S (e :: es) ρ μ₁ fun vs μ₂ => Fc (cx w h₀ mb) n 209 (.own i :: vs) μ₂ P) (hm : MForm o "enter" apos pos (e :: es) pl := by intro _; with_unfolding_all rfl)
    (he : ∀ env, starEach (e :: es) env = (false, eval e env) :: starEach es env := by intro _; rfl) (hpl : ∀ env, (backTo pos (starEach es env)).any (·.1) = false := by intro _; rfl) : Ev (cx w h₀ mb) n S (.Call (.Attribute o "enter" apos) (e :: es) [] pos) ρ μ P :=
  ev_meth (f := 209) (by kernel_rfl!) (by kernel_rfl!) (by kernel_rfl!) (hv.mono fun ov μ₁ ⟨i, fs, h1, ⟨j, h2, h3⟩, h4, h5⟩ => ⟨i, j, fs, h1, h2, h3, h4, evl_fn' h5⟩) hm he hpl
theorem m_decide {o e : Expr} {es : List Expr} {apos pos : Pos} {pl : Env → Sem Bool} (hv : Ev (cx w h₀ mb) n S o ρ μ fun ov μ₁ => ∃ i fs, ov = .own i ∧ IsInst μ₁ i fs ∧ fs.lookup ("decide" : Str) = none ∧ EvL (cx w h₀ mb) n S (e :: es) ρ μ₁ fun vs μ₂ => Fc (cx w h₀ mb) n 223 (.own i :: vs) μ₂ P) (hm : MForm o "decide" apos pos (e :: es) pl := by intro _; with_unfolding_all rfl)
    (he : ∀ env, starEach (e :: es) env = (false, eval e env) :: starEach es env := by intro _; rfl) (hpl : ∀ env, (backTo pos (starEach es env)).any (·.1) = false := by intro _; rfl) : Ev (cx w h₀ mb) n S (.Call (.Attribute o "decide" apos) (e :: es) [] pos) ρ μ P :=
  ev_meth (f := 223) (by kernel_rfl!) (by kernel_rfl!) (by kernel_rfl!) (hv.mono fun ov μ₁ ⟨i, fs, h1, ⟨j, h2, h3⟩, h4, h5⟩ => ⟨i, j, fs, h1, h2, h3, h4, evl_fn' h5⟩) hm he hpl
theorem m_pop {o e : Expr} {es : List Expr} {apos pos : Pos} {pl : Env → Sem Bool} (hv : Ev (cx w h₀ mb) n S o ρ μ fun ov μ₁ => ∃ i fs, ov = .own i ∧ IsInst μ₁ i fs ∧ fs.lookup ("pop" : Str) = none ∧ EvL (cx w h₀ mb) n S (e :: es) ρ μ₁ fun vs μ₂ => Fc (cx w h₀ mb) n 244 (.own i :: vs) μ₂ P) (hm : MForm o "pop" apos pos (e :: es) pl := by intro _; with_unfolding_all rfl)
    (he : ∀ env, starEach (e :: es) env = (false, eval e env) :: starEach es env := by intro _; rfl) (hpl : ∀ env, (backTo pos (starEach es env)).any (·.1) = false := by intro _; rfl) : Ev (cx w h₀ mb) n S (.Call (.Attribute o "pop" apos) (e :: es) [] pos) ρ μ P :=
  ev_meth (f := 244) (by kernel_rfl!) (by kernel_rfl!) (by kernel_rfl!) (hv.mono fun ov μ₁ ⟨i, fs, h1, ⟨j, h2, h3⟩, h4, h5⟩ => ⟨i, j, fs, h1, h2, h3, h4, evl_fn' h5⟩) hm he hpl
theorem m_is_fixed {o e : Expr} {es : List Expr} {apos pos : Pos} {pl : Env → Sem Bool} (hv : Ev (cx w h₀ mb) n S o ρ μ fun ov μ₁ => ∃ i fs, ov = .own i ∧ IsInst μ₁ i fs ∧ fs.lookup ("is_fixed" : Str) = none ∧ EvL (cx w h₀ mb) n S (e :: es) ρ μ₁ fun vs μ₂ => Fc (cx w h₀ mb) n 181 (.own i :: vs) μ₂ P) (hm : MForm o "is_fixed" apos pos (e :: es) pl := by intro _; with_unfolding_all rfl)
    (he : ∀ env, starEach (e :: es) env = (false, eval e env) :: starEach es env := by intro _; rfl) (hpl : ∀ env, (backTo pos (starEach es env)).any (·.1) = false := by intro _; rfl) : Ev (cx w h₀ mb) n S (.Call (.Attribute o "is_fixed" apos) (e :: es) [] pos) ρ μ P :=
  ev_meth (f := 181) (by kernel_rfl!) (by kernel_rfl!) (by kernel_rfl!) (hv.mono fun ov μ₁ ⟨i, fs, h1, ⟨j, h2, h3⟩, h4, h5⟩ => ⟨i, j, fs, h1, h2, h3, h4, evl_fn' h5⟩) hm he hpl
theorem m_push {o : Expr} {apos pos : Pos} {pl : Env → Sem Bool} (hv : Ev (cx w h₀ mb) n S o ρ μ fun ov μ₁ => ∃ i fs, ov = .own i ∧ IsInst μ₁ i fs ∧ fs.lookup ("push" : Str) = none ∧ Fc (cx w h₀ mb) n 237 [.own i] μ₁ P) (hm : MForm o "push" apos pos [] pl := by intro _; with_unfolding_all rfl) : Ev (cx w h₀ mb) n S (.Call (.Attribute o "push" apos) [] [] pos) ρ μ P :=
  ev_meth0 (f := 237) (by kernel_rfl!) (by kernel_rfl!) (by kernel_rfl!) (hv.mono fun ov μ₁ ⟨i, fs, h1, ⟨j, h2, h3⟩, h4, h5⟩ => ⟨i, j, fs, h1, h2, h3, h4, h5.fn⟩) hm
theorem m_depth {o : Expr} {apos pos : Pos} {pl : Env → Sem Bool} (hv : Ev (cx w h₀ mb) n S o ρ μ fun ov μ₁ => ∃ i fs, ov = .own i ∧ IsInst μ₁ i fs ∧ fs.lookup ("depth" : Str) = none ∧ Fc (cx w h₀ mb) n 251 [.own i] μ₁ P) (hm : MForm o "depth" apos pos [] pl := by intro _; with_unfolding_all rfl) : Ev (cx w h₀ mb) n S (.Call (.Attribute o "depth" apos) [] [] pos) ρ μ P :=
  ev_meth0 (f := 251) (by kernel_rfl!) (by kernel_rfl!) (by kernel_rfl!) (hv.mono fun ov μ₁ ⟨i, fs, h1, ⟨j, h2, h3⟩, h4, h5⟩ => ⟨i, j, fs, h1, h2, h3, h4, h5.fn⟩) hm
end
local macro_rules | `(tactic| walk_at "def") => `(tactic| (intro vals h; rcases vals with _ | ⟨v1, _ | ⟨v2, _ | ⟨v3, _ | ⟨v4, _ | ⟨v5, _ | ⟨v6, vals⟩⟩⟩⟩⟩⟩ <;> first | (cases h; done) | kernel_rfl!))
local macro_rules | `(tactic| walk_at "put") => `(tactic| repeat' (first | with_reducible exact Put.here | with_reducible exact Put.new | refine' Put.there (by rfl) ?_ | exact Put.new))
local macro_rules | `(tactic| walk_at "nm") => `(tactic| refine as_nm (by kernel_rfl!) (by walk_at "put") ?_)
local macro_rules | `(tactic| walk_at "sw") => `(tactic| (intro env h; cases env; cases h; kernel_rfl!))
local macro_rules | `(tactic| walk_at "e") => `(tactic| first
  | with_reducible refine ev_int ?_ | with_reducible refine ev_str ?_ | with_reducible refine ev_bool ?_ | with_reducible refine ev_none ?_
  | ((with_reducible show Ev _ _ _ (Expr.Name _ _) _ _ _); refine ev_var rfl ?_)
  | with_reducible refine ev_bin ?_ | with_reducible refine ev_sub ?_ | with_reducible refine ev_neg ?_)
noncomputable abbrev dI (p : Int × Int) : D := .tup [.int p.1, .int p.2]
noncomputable abbrev dDom (d : List (Int × Int)) : D := .tup (d.map dI)
noncomputable abbrev dInts (l : List Int) : D := .lst (l.map D.int)
section
variable {w : World} {h₀ : Heap} {mb : Str → Option Value} {n : Nat} {S : Sc} {ρ : Rho} {μ : Mem} {P : V → Mem → Prop}
theorem fn_least {d : List (Int × Int)} {p : Int × Int} (hd : d[0]? = some p) (hp : P (.d (.int p.1)) μ) : Fc (cx w h₀ mb) (n+1) 45 [.d (dDom d)] μ P := by
  refine fn_callP ["d"] rfl (by kernel_rfl!) (by kernel_rfl!) (by walk_at "def") rfl ?_
  refine xs_ret ?_
  repeat walk_at "e"
  refine sub_tup (.d _) (.d _) (by decide) (by decide) (x := dI p) (by rw [List.getElem?_map]; show Option.map _ d[0]? = _; rw [hd]; rfl) ?_
  repeat walk_at "e"
  exact sub_tup (.d _) (.d _) (by decide) (by decide) rfl hp
theorem fn_greatest {d : List (Int × Int)} {p : Int × Int} (hd : d.getLast? = some p) (hp : P (.d (.int p.2)) μ) : Fc (cx w h₀ mb) (n+1) 52 [.d (dDom d)] μ P := by
  refine fn_callP ["d"] rfl (by kernel_rfl!) (by kernel_rfl!) (by walk_at "def") rfl ?_
  refine xs_ret ?_
  repeat walk_at "e"
  refine ⟨1, rfl, ?_⟩
  refine sub_tup_last (.d _) (.d _) (x := dI p) (by rw [List.getLast?_map, hd]; rfl) ?_
  repeat walk_at "e"
  exact sub_tup (.d _) (.d _) (by decide) (by decide) rfl hp
noncomputable def upTo (d : List (Int × Int)) (k : Int) : List (Int × Int) := d.filterMap fun p => if p.1 ≤ k then some (p.1, if k < p.2 then k else p.2) else none
theorem fn_up_to {d : List (Int × Int)} {k : Int} (hn : d.length ≤ 1000) (hp : P (.d (dDom (upTo d k))) μ) : Fc (cx w h₀ mb) (n+1) 71 [.d (dDom d), .d (.int k)] μ P := by
  refine fn_callP ["d", "k"] rfl (by kernel_rfl!) (by kernel_rfl!) (by walk_at "def") rfl ?_
  refine xs_ret ?_
  refine ev_tuple (by kernel_rfl!) (by kernel_rfl!) (evl_cons ?_)
  refine ev_cmap [("k", .d (.int k))] d dI (fun p => if p.1 ≤ k then some (dI (p.1, if k < p.2 then k else p.2)) else none) (ckC_of (by kernel_rfl!) (all_cons rfl all_nil)) (by omega) (evit_tup (.tup _ _ _) (ev_var rfl ⟨_, rfl, rfl, rfl⟩)) (fun p _ => ?_) ?_
  · refine as_tup rfl (asl_cons ?_)
    walk_at "nm"
    refine asl_cons ?_
    walk_at "nm"
    refine asl_nil ⟨rfl, Sub'.app, tsts_one (tst_cmp ?_)⟩
    walk_at "e"
    walk_at "e"
    refine cop_le ⟨_, rfl, fun hb => ?_, fun hb => ?_⟩
    · refine ev_tup (evl_cons ?_)
      walk_at "e"
      refine evl_cons (ev_min (by kernel_rfl!) (by kernel_rfl!) (evl_cons ?_))
      walk_at "e"
      refine evl_cons ?_
      walk_at "e"
      refine evl_nil (op_min2 (evl_nil ⟨_, rfl, by simp, _, rfl, ?_, rfl⟩))
      exact if_pos (of_decide_eq_true hb)
    · exact ⟨if_neg (of_decide_eq_false hb), rfl⟩
  · refine evl_nil (op_tuple (.d _) (Nat.le_trans (List.length_filterMap_le _ _) (by omega)) ?_)
    rw [show (d.filterMap fun p => if p.1 ≤ k then some (dI (p.1, if k < p.2 then k else p.2)) else none) = (upTo d k).map dI from ?_]
    · exact hp
    · unfold upTo
      rw [List.map_filterMap]
      congr; funext p; split <;> rfl
noncomputable def fromOn (d : List (Int × Int)) (k : Int) : List (Int × Int) := d.filterMap fun p => if k ≤ p.2 then some (if p.1 < k then k else p.1, p.2) else none
theorem fn_from_on {d : List (Int × Int)} {k : Int} (hn : d.length ≤ 1000) (hp : P (.d (dDom (fromOn d k))) μ) : Fc (cx w h₀ mb) (n+1) 76 [.d (dDom d), .d (.int k)] μ P := by
  refine fn_callP ["d", "k"] rfl (by kernel_rfl!) (by kernel_rfl!) (by walk_at "def") rfl ?_
  refine xs_ret ?_
  refine ev_tuple (by kernel_rfl!) (by kernel_rfl!) (evl_cons ?_)
  refine ev_cmap [("k", .d (.int k))] d dI (fun p => if k ≤ p.2 then some (dI (if p.1 < k then k else p.1, p.2)) else none) (ckC_of (by kernel_rfl!) (all_cons rfl all_nil)) (by omega) (evit_tup (.tup _ _ _) (ev_var rfl ⟨_, rfl, rfl, rfl⟩)) (fun p _ => ?_) ?_
  · refine as_tup rfl (asl_cons ?_)
    walk_at "nm"
    refine asl_cons ?_
    walk_at "nm"
    refine asl_nil ⟨rfl, Sub'.app, tsts_one (tst_cmp ?_)⟩
    walk_at "e"
    walk_at "e"
    refine cop_ge ⟨_, rfl, fun hb => ?_, fun hb => ?_⟩
    · refine ev_tup (evl_cons (ev_max (by kernel_rfl!) (by kernel_rfl!) (evl_cons ?_)))
      walk_at "e"
      refine evl_cons ?_
      walk_at "e"
      refine evl_nil (op_max2 (evl_cons ?_))
      walk_at "e"
      refine evl_nil ⟨_, rfl, by simp, _, rfl, ?_, rfl⟩
      exact if_pos (of_decide_eq_true hb)
    · exact ⟨if_neg (of_decide_eq_false hb), rfl⟩
  · refine evl_nil (op_tuple (.d _) (Nat.le_trans (List.length_filterMap_le _ _) (by omega)) ?_)
    rw [show (d.filterMap fun p => if k ≤ p.2 then some (dI (if p.1 < k then k else p.1, p.2)) else none) = (fromOn d k).map dI from ?_]
    · exact hp
    · unfold fromOn
      rw [List.map_filterMap]
      congr; funext p; split <;> rfl
theorem upTo_len (d : List (Int × Int)) (k : Int) : (upTo d k).length ≤ d.length := List.length_filterMap_le _ _
theorem fromOn_len (d : List (Int × Int)) (k : Int) : (fromOn d k).length ≤ d.length := List.length_filterMap_le _ _
theorem fn_without {d : List (Int × Int)} {k : Int} (hn : d.length ≤ 1000) (hp : P (.d (dDom (upTo d (k - 1) ++ fromOn d (k + 1)))) μ) : Fc (cx w h₀ mb) (n+2) 83 [.d (dDom d), .d (.int k)] μ P := by
  refine fn_callP ["d", "v"] rfl (by kernel_rfl!) (by kernel_rfl!) (by walk_at "def") rfl ?_
  refine xs_ret (ev_bin (c_up_to (evl_cons ?_)))
  walk_at "e"
  refine evl_cons (ev_bin ?_)
  walk_at "e"
  walk_at "e"
  refine bop_sub (evl_nil (fn_up_to hn (c_from_on (evl_cons ?_))))
  walk_at "e"
  refine evl_cons (ev_bin ?_)
  walk_at "e"
  walk_at "e"
  refine bop_add (evl_nil (fn_from_on hn (bop_addt ?_ ?_)))
  · rw [List.length_map, List.length_map]
    have := upTo_len d (k - 1)
    have := fromOn_len d (k + 1)
    omega
  · rw [← List.map_append]; exact hp
end
section
variable {w : World} {h₀ : Heap} {mb : Str → Option Value} {n : Nat} {S : Sc} {ρ : Rho} {μ : Mem} {P : V → Mem → Prop}
theorem get_app (μ : Mem) (c : Cell) : (μ ++ [c])[μ.length]? = some c := by simp
theorem set_app (μ : Mem) (c d : Cell) : (μ ++ [c]).set μ.length d = μ ++ [d] := by simp
noncomputable def meetL : List (Int × Int) → List (Int × Int) → List (Int × Int)
  | [], _ => []
  | _ :: _, [] => []
  | p :: d, q :: e =>
    (if (if p.1 < q.1 then q.1 else p.1) ≤ (if q.2 < p.2 then q.2 else p.2) then [(if p.1 < q.1 then q.1 else p.1, if q.2 < p.2 then q.2 else p.2)] else []) ++
      if p.2 < q.2 then meetL d (q :: e) else meetL (p :: d) e
termination_by d e => d.length + e.length
theorem meetL_step {d e : List (Int × Int)} {i j : Nat} (hi : i < d.length) (hj : j < e.length) : meetL (d.drop i) (e.drop j) =
    (if (if d[i].1 < e[j].1 then e[j].1 else d[i].1) ≤ (if e[j].2 < d[i].2 then e[j].2 else d[i].2) then [(if d[i].1 < e[j].1 then e[j].1 else d[i].1, if e[j].2 < d[i].2 then e[j].2 else d[i].2)] else []) ++
      if d[i].2 < e[j].2 then meetL (d.drop (i + 1)) (e.drop j) else meetL (d.drop i) (e.drop (j + 1)) := by
  rw [List.drop_eq_getElem_cons hi, List.drop_eq_getElem_cons hj, meetL, ← List.drop_eq_getElem_cons hi, ← List.drop_eq_getElem_cons hj]
theorem meetL_nil (d : List (Int × Int)) : meetL d [] = [] := by cases d <;> rw [meetL]
theorem dI_get {d : List (Int × Int)} {i : Nat} {p : Int × Int} (h : d[i]? = some p) : (d.map dI)[((i : Nat) : Int).toNat]? = some (dI p) := by
  rw [Int.toNat_natCast, List.getElem?_map, h]; rfl
theorem fn_meet {d e : List (Int × Int)} (hn : d.length ≤ 1000) (hm : e.length ≤ 1000) (hp : P (.d (dDom (meetL d e))) μ) : Fc (cx w h₀ mb) (n+1) 90 [.d (dDom d), .d (dDom e)] μ P := by
  refine Fc.tidy ?_
  refine fn_callP ["d", "e"] rfl (by kernel_rfl!) (by kernel_rfl!) (by walk_at "def") rfl ?_
  refine xs_swap ["found", "i", "j"] (by walk_at "sw") (by kernel_rfl!) (evl_cons (ev_nil_own (evl_cons ?_)))
  walk_at "e"
  refine evl_cons ?_
  walk_at "e"
  refine evl_nil ⟨_, rfl, by simp, .cons (by walk_at "put") (.cons (by walk_at "put") (.cons (by walk_at "put") .nil)), ?_⟩
  refine xs_while (fun k ρ' μ' => ∃ (i j : Nat) (acc : List (Int × Int)), k = (d.length - i) + (e.length - j) ∧ i ≤ d.length ∧ j ≤ e.length ∧ acc ++ meetL (d.drop i) (e.drop j) = meetL d e ∧ acc.length ≤ i + j ∧
    Sub' [("d", .d (dDom d)), ("e", .d (dDom e)), ("j", .d (.int j)), ("i", .d (.int i)), ("found", .own μ.length)] ρ' ∧ μ' = μ ++ [.lst (acc.map dI)]) (d.length + e.length) ⟨0, 0, [], by simp, by simp, by simp, by simp, by simp, .refl, rfl⟩ ?_
  rintro k ρ₁ μ₁ ⟨i, j, acc, rfl, hi, hj, hmt, hl, sb, rfl⟩
  refine ⟨_, sb, tst_and (tst_cmp ?_)⟩
  walk_at "e"
  refine ev_len (by kernel_rfl!) (by kernel_rfl!) (evl_cons ?_)
  walk_at "e"
  refine evl_nil (op_len_tup (.d _) (by rw [List.length_map]; omega) (cop_lt ⟨_, rfl, fun hb => ?_, fun hb => ?_⟩))
  · refine tst_cmp ?_
    walk_at "e"
    refine ev_len (by kernel_rfl!) (by kernel_rfl!) (evl_cons ?_)
    walk_at "e"
    refine evl_nil (op_len_tup (.d _) (by rw [List.length_map]; omega) (cop_lt ⟨_, rfl, fun hb2 => ?_, fun hb2 => ?_⟩))
    · have hi' : i < d.length := by have := of_decide_eq_true hb; rw [List.length_map] at this; omega
      have hj' : j < e.length := by have := of_decide_eq_true hb2; rw [List.length_map] at this; omega
      have ep : d[i]? = some d[i] := List.getElem?_eq_getElem hi'
      have eq : e[j]? = some e[j] := List.getElem?_eq_getElem hj'
      refine xs_swap ["low", "high"] (by walk_at "sw") (by kernel_rfl!) (evl_cons (ev_max (by kernel_rfl!) (by kernel_rfl!) (evl_cons ?_)))
      repeat walk_at "e"
      refine sub_tup (.d _) (.d _) (by omega) (by omega) (dI_get ep) ?_
      repeat walk_at "e"
      refine sub_tup (.d _) (.d _) (by decide) (by decide) rfl (evl_cons ?_)
      repeat walk_at "e"
      refine sub_tup (.d _) (.d _) (by omega) (by omega) (dI_get eq) ?_
      repeat walk_at "e"
      refine sub_tup (.d _) (.d _) (by decide) (by decide) rfl (evl_nil (op_max2 (evl_cons (ev_min (by kernel_rfl!) (by kernel_rfl!) (evl_cons ?_)))))
      repeat walk_at "e"
      refine sub_tup (.d _) (.d _) (by omega) (by omega) (dI_get ep) ?_
      repeat walk_at "e"
      refine sub_tup (.d _) (.d _) (by decide) (by decide) rfl (evl_cons ?_)
      repeat walk_at "e"
      refine sub_tup (.d _) (.d _) (by omega) (by omega) (dI_get eq) ?_
      repeat walk_at "e"
      refine sub_tup (.d _) (.d _) (by decide) (by decide) rfl (evl_nil (op_min2 (evl_nil ⟨_, rfl, by simp, .cons (by walk_at "put") (.cons (by walk_at "put") .nil), ?_⟩)))
      have hmt' := meetL_step hi' hj'
      refine xs_if (tst_cmp ?_)
      walk_at "e"
      walk_at "e"
      refine cop_le ⟨_, rfl, fun hc => ?_, fun hc => ?_⟩
      · refine xs_expr (ev_append ?_)
        walk_at "e"
        refine ⟨_, acc.map dI, rfl, get_app _ _, ev_tup (evl_cons ?_)⟩
        walk_at "e"
        refine evl_cons ?_
        walk_at "e"
        refine evl_nil ⟨_, rfl, by simp, _, _, rfl, get_app _ _, by rw [List.length_map]; omega, ⟨_, rfl, .inl rfl⟩, xs_nil ?_⟩
        rw [set_app]
        rw [if_pos (of_decide_eq_true hc)] at hmt'
        refine xs_if (tst_cmp ?_)
        repeat walk_at "e"
        refine sub_tup (.d _) (.d _) (by omega) (by omega) (dI_get ep) ?_
        repeat walk_at "e"
        refine sub_tup (.d _) (.d _) (by decide) (by decide) rfl ?_
        repeat walk_at "e"
        refine sub_tup (.d _) (.d _) (by omega) (by omega) (dI_get eq) ?_
        repeat walk_at "e"
        refine sub_tup (.d _) (.d _) (by decide) (by decide) rfl (cop_lt ⟨_, rfl, fun hd => ?_, fun hd => ?_⟩)
        · refine xs_assign ?_
          repeat walk_at "e"
          refine bop_add ?_
          walk_at "nm"
          refine xs_nil (xs_nil ⟨(d.length - (i + 1)) + (e.length - j), by omega, i + 1, j, acc ++ [(if d[i].1 < e[j].1 then e[j].1 else d[i].1, if e[j].2 < d[i].2 then e[j].2 else d[i].2)], rfl, by omega, hj, ?_, by rw [List.length_append, List.length_singleton]; omega, Sub'.app, by rw [List.map_append]; rfl⟩)
          rw [List.append_assoc, ← hmt, hmt', if_pos (of_decide_eq_true hd)]
        · refine xs_assign ?_
          repeat walk_at "e"
          refine bop_add ?_
          walk_at "nm"
          refine xs_nil (xs_nil ⟨(d.length - i) + (e.length - (j + 1)), by omega, i, j + 1, acc ++ [(if d[i].1 < e[j].1 then e[j].1 else d[i].1, if e[j].2 < d[i].2 then e[j].2 else d[i].2)], rfl, hi, by omega, ?_, by rw [List.length_append, List.length_singleton]; omega, Sub'.app, by rw [List.map_append]; rfl⟩)
          rw [List.append_assoc, ← hmt, hmt', if_neg (of_decide_eq_false hd)]
      · refine xs_nil ?_
        rw [if_neg (of_decide_eq_false hc), List.nil_append] at hmt'
        refine xs_if (tst_cmp ?_)
        repeat walk_at "e"
        refine sub_tup (.d _) (.d _) (by omega) (by omega) (dI_get ep) ?_
        repeat walk_at "e"
        refine sub_tup (.d _) (.d _) (by decide) (by decide) rfl ?_
        repeat walk_at "e"
        refine sub_tup (.d _) (.d _) (by omega) (by omega) (dI_get eq) ?_
        repeat walk_at "e"
        refine sub_tup (.d _) (.d _) (by decide) (by decide) rfl (cop_lt ⟨_, rfl, fun hd => ?_, fun hd => ?_⟩)
        · refine xs_assign ?_
          repeat walk_at "e"
          refine bop_add ?_
          walk_at "nm"
          refine xs_nil (xs_nil ⟨(d.length - (i + 1)) + (e.length - j), by omega, i + 1, j, acc, rfl, by omega, hj, ?_, by omega, Sub'.app, rfl⟩)
          rw [← hmt, hmt', if_pos (of_decide_eq_true hd)]
        · refine xs_assign ?_
          repeat walk_at "e"
          refine bop_add ?_
          walk_at "nm"
          refine xs_nil (xs_nil ⟨(d.length - i) + (e.length - (j + 1)), by omega, i, j + 1, acc, rfl, hi, by omega, ?_, by omega, Sub'.app, rfl⟩)
          rw [← hmt, hmt', if_neg (of_decide_eq_false hd)]
    · rw [List.length_map] at hb2
      have hj' : e.drop j = [] := List.drop_eq_nil_of_le (by have := of_decide_eq_false hb2; omega)
      rw [hj', meetL_nil, List.append_nil] at hmt
      subst hmt
      refine xs_ret (ev_tuple (by kernel_rfl!) (by kernel_rfl!) (evl_cons ?_))
      walk_at "e"
      exact evl_nil (op_tuple (.lst (get_app _ _)) (by rw [List.length_map]; omega) ⟨_, rfl, ⟨_, rfl⟩, hp⟩)
  · rw [List.length_map] at hb
    have hj' : d.drop i = [] := List.drop_eq_nil_of_le (by have := of_decide_eq_false hb; omega)
    rw [hj', meetL, List.append_nil] at hmt
    subst hmt
    refine ⟨by nofun, fun _ => ?_⟩
    refine xs_ret (ev_tuple (by kernel_rfl!) (by kernel_rfl!) (evl_cons ?_))
    walk_at "e"
    exact evl_nil (op_tuple (.lst (get_app _ _)) (by rw [List.length_map]; omega) ⟨_, rfl, ⟨_, rfl⟩, hp⟩)
end
/-- plain things without bools -/
inductive NB : Nat → D → Prop where
  | none {n : Nat} : NB n .none
  | int {n : Nat} (i : Int) : NB n (.int i)
  | str {n : Nat} (x : Str) (h : PyData.strOk x = true) : NB n (.str x)
  | tup {n : Nat} (ds : List D) (h : ∀ x ∈ ds, NB n x) : NB (n + 1) (.tup ds)
  | lst {n : Nat} (ds : List D) (h : ∀ x ∈ ds, NB n x) : NB (n + 1) (.lst ds)
theorem lay_all {ds : List D} (h : ∀ x ∈ ds, x.py.canLay0 = true) : PyData.canLayAll0 (D.pys ds) = true := by
  induction ds with
  | nil => rfl
  | cons d ds ih =>
    rw [D.pys, PyData.canLayAll0, h d (.head _), ih fun x hx => h x (.tail _ hx)]; rfl
theorem depth_all {n : Nat} {ds : List D} (h : ∀ x ∈ ds, x.py.depth ≤ n) : PyData.depthAll (D.pys ds) ≤ n := by
  induction ds with
  | nil => rw [D.pys, PyData.depthAll]; exact Nat.zero_le _
  | cons d ds ih =>
    rw [D.pys, PyData.depthAll]
    exact Nat.max_le.mpr ⟨h d (.head _), ih fun x hx => h x (.tail _ hx)⟩
theorem NB.lay {n : Nat} {x : D} (h : NB n x) : x.py.canLay0 = true ∧ x.py.depth ≤ n := by
  induction h with
  | none => exact ⟨by simp [D.py, PyData.canLay0], by simp [D.py, PyData.depth]⟩
  | int i => exact ⟨by simp [D.py, PyData.canLay0], by simp [D.py, PyData.depth]⟩
  | str x h => exact ⟨by simp [D.py, PyData.canLay0, h], by simp [D.py, PyData.depth]⟩
  | tup ds h ih => 
    refine ⟨?_, ?_⟩
    · rw [D.py, PyData.canLay0]; exact lay_all fun x hx => (ih x hx).1
    · rw [D.py, PyData.depth]; exact Nat.succ_le_succ (depth_all fun x hx => (ih x hx).2)
  | lst ds h ih => 
    refine ⟨?_, ?_⟩
    · rw [D.py, PyData.canLay0]; exact lay_all fun x hx => (ih x hx).1
    · rw [D.py, PyData.depth]; exact Nat.succ_le_succ (depth_all fun x hx => (ih x hx).2)
theorem NB.ok {n : Nat} {x : D} (h : NB n x) (hn : n ≤ 64 := by decide) : x.ok :=
  Bool.and_eq_true_iff.mpr ⟨h.lay.1, decide_eq_true (Nat.le_trans h.lay.2 hn)⟩
theorem ok_bool (b : Bool) : (D.bool b).ok := by
  refine Bool.and_eq_true_iff.mpr ⟨?_, decide_eq_true ?_⟩
  · simp [D.py, PyData.canLay0]
  · simp [D.py, PyData.depth]
theorem eqv_all {n : Nat} {ds : List D} (h : ∀ x ∈ ds, ∀ y, NB n y → (eqD x y = true ↔ x = y)) : ∀ {es : List D}, (∀ y ∈ es, NB n y) → (PyData.eqvAll (D.pys ds) (D.pys es) = true ↔ ds = es) := by
  induction ds with
  | nil =>
    intro es _
    cases es with
    | nil => rw [D.pys, PyData.eqvAll]; exact ⟨fun _ => rfl, fun _ => rfl⟩
    | cons e es => rw [D.pys, D.pys, PyData.eqvAll]; exact ⟨nofun, nofun⟩
  | cons d ds ih =>
    intro es he
    cases es with
    | nil => rw [D.pys, D.pys, PyData.eqvAll]; exact ⟨nofun, nofun⟩
    | cons e es =>
      rw [D.pys, D.pys, PyData.eqvAll, Bool.and_eq_true, ih (fun x hx => h x (.tail _ hx)) (fun y hy => he y (.tail _ hy)), List.cons.injEq]
      exact and_congr (h d (.head _) e (he e (.head _))) Iff.rfl
theorem NB.mono {n m : Nat} {x : D} (h : NB n x) (k : n ≤ m) : NB m x := by
  induction h generalizing m with
  | none => exact .none
  | int i => exact .int i
  | str x h => exact .str x h
  | tup ds h ih =>
    cases m with
    | zero => omega
    | succ m => exact .tup ds fun x hx => ih x hx (by omega)
  | lst ds h ih =>
    cases m with
    | zero => omega
    | succ m => exact .lst ds fun x hx => ih x hx (by omega)
theorem eqD_iff' {n : Nat} {x : D} (h : NB n x) : ∀ y, NB n y → (eqD x y = true ↔ x = y) := by
  induction h with
  | none =>
    intro y hy
    cases hy <;> simp [eqD, D.py, PyData.eqv]
  | int i =>
    intro y hy
    cases hy <;> simp [eqD, D.py, PyData.eqv]
  | str x h =>
    intro y hy
    cases hy <;> simp [eqD, D.py, PyData.eqv]
  | tup ds h ih =>
    intro y hy
    cases hy with
    | tup es he =>
      have := eqv_all (es := es) ih he
      simp only [eqD, D.py, PyData.eqv, D.tup.injEq]; exact this
    | _ => simp [eqD, D.py, PyData.eqv]
  | lst ds h ih =>
    intro y hy
    cases hy with
    | lst es he =>
      have := eqv_all (es := es) ih he
      simp only [eqD, D.py, PyData.eqv, D.lst.injEq]; exact this
    | _ => simp [eqD, D.py, PyData.eqv]
theorem eqD_iff {n m : Nat} {x y : D} (h : NB n x) (k : NB m y) : eqD x y = true ↔ x = y :=
  eqD_iff' (h.mono (Nat.le_max_left n m)) y (k.mono (Nat.le_max_right n m))
theorem nb_map {α : Type} {n : Nat} {f : α → D} {l : List α} (h : ∀ a, NB n (f a)) : ∀ x ∈ l.map f, NB n x := fun x hx => by
  obtain ⟨a, _, rfl⟩ := List.mem_map.mp hx
  exact h a
theorem nb_dI (p : Int × Int) : NB 1 (dI p) := .tup _ fun x hx => by
  rcases List.mem_cons.mp hx with rfl | hx
  · exact .int _
  · rw [List.mem_singleton.mp hx]; exact .int _
theorem nb_dom (d : List (Int × Int)) : NB 2 (dDom d) := .tup _ (nb_map nb_dI)
theorem nb_ints (l : List Int) : NB 1 (dInts l) := .lst _ (nb_map fun i => .int i)
theorem map_inj {α β : Type} {f : α → β} (hf : ∀ a b, f a = f b → a = b) : ∀ {l m : List α}, l.map f = m.map f → l = m
  | [], [], _ => rfl
  | [], _ :: _, h => nomatch h
  | _ :: _, [], h => nomatch h
  | a :: l, b :: m, h => by
    rw [List.map_cons, List.map_cons, List.cons.injEq] at h
    rw [hf _ _ h.1, map_inj hf h.2]
theorem dI_inj (a b : Int × Int) (h : dI a = dI b) : a = b := by
  obtain ⟨a1, a2⟩ := a; obtain ⟨b1, b2⟩ := b
  unfold dI at h; cases h; rfl
theorem eqD_dom (d e : List (Int × Int)) : eqD (dDom d) (dDom e) = decide (d = e) := by
  rw [Bool.eq_iff_iff, eqD_iff (nb_dom d) (nb_dom e), decide_eq_true_iff]
  exact ⟨fun h => map_inj dI_inj (by injection h), fun h => by rw [h]⟩
theorem eqD_ints (d e : List Int) : eqD (dInts d) (dInts e) = decide (d = e) := by
  rw [Bool.eq_iff_iff, eqD_iff (nb_ints d) (nb_ints e), decide_eq_true_iff]
  exact ⟨fun h => map_inj (f := D.int) (fun a b h => by cases h; rfl) (by injection h), fun h => by rw [h]⟩
theorem eqD_int (a b : Int) : eqD (.int a) (.int b) = decide (a = b) := by
  rw [Bool.eq_iff_iff, eqD_iff (n := 0) (m := 0) (.int a) (.int b), decide_eq_true_iff]
  exact ⟨fun h => by cases h; rfl, fun h => by rw [h]⟩
theorem eqD_bool (a b : Bool) : eqD (.bool a) (.bool b) = (a == b) := by
  cases a <;> cases b <;> kernel_rfl!
theorem ok_int (x : Int) : (D.int x).ok := NB.ok (n := 0) (.int x)
inductive Sg where
  | le | ge | eq | ne
  deriving DecidableEq
noncomputable def Sg.str : Sg → Str
  | .le => "<="
  | .ge => ">="
  | .eq => "="
  | .ne => "!="
noncomputable abbrev dLit (x : Int) (g : Sg) (k : Int) : D := .tup [.int x, .str g.str, .int k]
theorem sg_le (g : Sg) : eqD (.str g.str) (.str "<=") = decide (g = .le) := by cases g <;> kernel_rfl!
theorem sg_ge (g : Sg) : eqD (.str g.str) (.str ">=") = decide (g = .ge) := by cases g <;> kernel_rfl!
theorem sg_eq (g : Sg) : eqD (.str g.str) (.str "=") = decide (g = .eq) := by cases g <;> kernel_rfl!
theorem nb_sg (g : Sg) : NB 0 (.str g.str) := .str _ (by cases g <;> kernel_rfl!)
theorem ok_sg (g : Sg) : (D.str g.str).ok := (nb_sg g).ok
theorem ok_le : (D.str "<=").ok := ok_sg .le
theorem ok_ge : (D.str ">=").ok := ok_sg .ge
theorem ok_eq : (D.str "=").ok := ok_sg .eq
theorem ok_ne : (D.str "!=").ok := ok_sg .ne
theorem nb_lit (x : Int) (g : Sg) (k : Int) : NB 1 (dLit x g k) := .tup _ fun y hy => by
  simp only [List.mem_cons, List.not_mem_nil, or_false] at hy
  rcases hy with rfl | rfl | rfl
  · exact .int _
  · exact nb_sg g
  · exact .int _
theorem sg_inj {g h : Sg} (e : g.str = h.str) : g = h := by
  have h1 := sg_le g; have h2 := sg_ge g; have h3 := sg_eq g
  rw [e, sg_le] at h1; rw [e, sg_ge] at h2; rw [e, sg_eq] at h3
  revert h1 h2 h3
  cases g <;> cases h <;> decide
theorem eqD_lit (x y : Int) (g h : Sg) (k l : Int) : eqD (dLit x g k) (dLit y h l) = decide (x = y ∧ g = h ∧ k = l) := by
  rw [Bool.eq_iff_iff, eqD_iff (nb_lit x g k) (nb_lit y h l), decide_eq_true_iff]
  refine ⟨fun e => ?_, fun ⟨a, b, c⟩ => by rw [a, b, c]⟩
  simp only [D.tup.injEq, List.cons.injEq, D.int.injEq, D.str.injEq, and_true] at e
  exact ⟨e.1, sg_inj e.2.1, e.2.2⟩
noncomputable def strike (g : Sg) (k : Int) (d : List (Int × Int)) : List (Int × Int) := match g with
  | .le => upTo d k
  | .ge => fromOn d k
  | .eq => meetL d [(k, k)]
  | .ne => upTo d (k - 1) ++ fromOn d (k + 1)
section
variable {w : World} {h₀ : Heap} {mb : Str → Option Value} {n : Nat} {S : Sc} {ρ : Rho} {μ : Mem} {P : V → Mem → Prop}
theorem fn_struck {x : Int} {g : Sg} {k : Int} {d : List (Int × Int)} (hn : d.length ≤ 1000) (hp : P (.d (dDom (strike g k d))) μ) : Fc (cx w h₀ mb) (n+3) 104 [.d (dLit x g k), .d (dDom d)] μ P := by
  refine fn_callP ["literal", "d"] rfl (by kernel_rfl!) (by kernel_rfl!) (by walk_at "def") rfl ?_
  refine xs_swap ["sign", "k"] (by walk_at "sw") (by kernel_rfl!) (evl_cons ?_)
  repeat walk_at "e"
  refine sub_tup (.d _) (.d _) (by decide) (by decide) rfl (evl_cons ?_)
  repeat walk_at "e"
  refine sub_tup (.d _) (.d _) (by decide) (by decide) rfl (evl_nil ⟨_, rfl, by simp, .cons (by walk_at "put") (.cons (by walk_at "put") .nil), ?_⟩)
  refine xs_if (tst_cmp ?_)
  repeat walk_at "e"
  refine cop_eq (.d _) (.d _) (ok_sg _) ok_le ⟨_, rfl, fun hb => ?_, fun hb => ?_⟩
  · rw [sg_le] at hb
    obtain rfl := of_decide_eq_true hb
    refine xs_ret (c_up_to (evl_cons ?_))
    walk_at "e"
    refine evl_cons ?_
    walk_at "e"
    exact evl_nil (fn_up_to hn hp)
  rw [sg_le] at hb
  have hb := of_decide_eq_false hb
  refine xs_nil (xs_if (tst_cmp ?_))
  repeat walk_at "e"
  refine cop_eq (.d _) (.d _) (ok_sg _) ok_ge ⟨_, rfl, fun hb => ?_, fun hb2 => ?_⟩
  · rw [sg_ge] at hb
    obtain rfl := of_decide_eq_true hb
    refine xs_ret (c_from_on (evl_cons ?_))
    walk_at "e"
    refine evl_cons ?_
    walk_at "e"
    exact evl_nil (fn_from_on hn hp)
  rw [sg_ge] at hb2
  have hb2 := of_decide_eq_false hb2
  refine xs_nil (xs_ret (ev_if (tst_cmp ?_)))
  repeat walk_at "e"
  refine cop_eq (.d _) (.d _) (ok_sg _) ok_eq ⟨_, rfl, fun hb => ?_, fun hb3 => ?_⟩
  · rw [sg_eq] at hb
    obtain rfl := of_decide_eq_true hb
    refine c_meet (evl_cons ?_)
    walk_at "e"
    refine evl_cons (ev_tup (evl_cons (ev_tup (evl_cons ?_))))
    walk_at "e"
    refine evl_cons ?_
    walk_at "e"
    refine evl_nil ⟨_, rfl, by simp, evl_nil ⟨_, rfl, by simp, evl_nil ?_⟩⟩
    exact fn_meet (e := [(k, k)]) hn (by simp) hp
  · rw [sg_eq] at hb3
    have hb3 := of_decide_eq_false hb3
    refine c_without (evl_cons ?_)
    walk_at "e"
    refine evl_cons ?_
    walk_at "e"
    refine evl_nil (fn_without hn ?_)
    cases g <;> first | exact absurd rfl hb | exact absurd rfl hb2 | exact absurd rfl hb3 | exact hp
noncomputable def says (g : Sg) (k v : Int) : Bool := match g with
  | .le => decide (v ≤ k)
  | .ge => decide (k ≤ v)
  | .eq => decide (v = k)
  | .ne => !decide (v = k)
theorem fn_says {x : Int} {g : Sg} {k v : Int} (hp : P (.d (.bool (says g k v))) μ) : Fc (cx w h₀ mb) (n+1) 301 [.d (dLit x g k), .d (.int v)] μ P := by
  refine fn_callP ["literal", "v"] rfl (by kernel_rfl!) (by kernel_rfl!) (by walk_at "def") rfl ?_
  refine xs_assign ?_ (hw := by walk_at "sw")
  walk_at "e"
  refine as_tup rfl (asl_cons ?_)
  walk_at "nm"
  refine asl_cons ?_
  walk_at "nm"
  refine asl_cons ?_
  walk_at "nm"
  refine asl_nil (xs_if (tst_or (tst_cmp ?_)))
  repeat walk_at "e"
  refine cop_eq (.d _) (.d _) (ok_sg _) ok_le ⟨_, rfl, fun hb => ?_, fun hb => ?_⟩
  · rw [sg_le] at hb
    have hb := of_decide_eq_false hb
    refine tst_cmp ?_
    repeat walk_at "e"
    refine cop_eq (.d _) (.d _) (ok_sg _) ok_ge ⟨_, rfl, fun hb2 => ?_, fun hb2 => ?_⟩
    · rw [sg_ge] at hb2
      obtain rfl := of_decide_eq_true hb2
      refine xs_ret (ev_if (tst_cmp ?_))
      repeat walk_at "e"
      refine cop_eq (.d _) (.d _) (ok_sg _) ok_le ⟨_, rfl, fun hb => ?_, fun hb => ?_⟩
      · rw [sg_le] at hb; cases hb
      · refine ev_cmp ?_
        walk_at "e"
        walk_at "e"
        exact cop_ge hp
    · rw [sg_ge] at hb2
      have hb2 := of_decide_eq_false hb2
      refine xs_nil (xs_ret (ev_cmp (ev_cmp ?_)))
      walk_at "e"
      walk_at "e"
      refine cop_eq (.d _) (.d _) (ok_int _) (ok_int _) (ev_cmp ?_)
      repeat walk_at "e"
      refine cop_eq (.d _) (.d _) (ok_sg _) ok_eq (cop_eq (.d _) (.d _) (ok_bool _) (ok_bool _) ?_)
      rw [sg_eq, eqD_bool, eqD_int]
      revert hp
      cases g with
      | le => exact absurd rfl hb
      | ge => exact absurd rfl hb2
      | eq => unfold says; intro hp; cases q : decide (v = k) <;> rw [q] at hp <;> exact hp
      | ne => unfold says; intro hp; cases q : decide (v = k) <;> rw [q] at hp <;> exact hp
  · rw [sg_le] at hb
    obtain rfl := of_decide_eq_true hb
    refine ⟨fun _ => ?_, by nofun⟩
    refine xs_ret (ev_if (tst_cmp ?_))
    repeat walk_at "e"
    refine cop_eq (.d _) (.d _) (ok_sg _) ok_le ⟨_, rfl, fun hb => ?_, fun hb => ?_⟩
    · refine ev_cmp ?_
      walk_at "e"
      walk_at "e"
      exact cop_le hp
    · rw [sg_le] at hb; cases hb
end
section
variable {w : World} {h₀ : Heap} {mb : Str → Option Value} {n : Nat} {S : Sc} {ρ : Rho} {μ : Mem} {P : V → Mem → Prop}
theorem flat_one (k : Nat) (i : Int) : (List.replicate k [D.int i]).flatten = (List.replicate k i).map D.int := by
  induction k with
  | zero => rfl
  | succ k ih => rw [List.replicate_succ, List.flatten_cons, ih, List.replicate_succ, List.map_cons]; rfl
theorem sum_rep (k : Nat) (i : Int) : (List.replicate k i).sum = k * i := by
  induction k with
  | zero => simp
  | succ k ih => rw [List.replicate_succ, List.sum_cons, ih, Int.natCast_succ, Int.add_mul, Int.one_mul, Int.add_comm]
theorem fn_often {c v : Int} (hv : -1000 ≤ v ∧ v ≤ 1000) (hp : P (.d (.int (c * v))) μ) : Fc (cx w h₀ mb) (n+1) 308 [.d (.int c), .d (.int v)] μ P := by
  refine fn_callP ["number", "v"] rfl (by kernel_rfl!) (by kernel_rfl!) (by walk_at "def") rfl ?_
  refine xs_ret (ev_if (tst_cmp ?_))
  repeat walk_at "e"
  refine cop_ge ⟨_, rfl, fun hb => ?_, fun hb => ?_⟩
  · have hb := of_decide_eq_true hb
    refine ev_sum (by kernel_rfl!) (by kernel_rfl!) (evl_cons (ev_bin (ev_lst (evl_cons ?_))))
    walk_at "e"
    refine evl_nil ⟨_, rfl, by simp, ?_⟩
    walk_at "e"
    refine bop_mull hv (by simp) ?_
    rw [flat_one]
    refine evl_nil (op_sum (.d _) ?_)
    rw [sum_rep, Int.toNat_of_nonneg hb, Int.mul_comm]; exact hp
  · have hb := of_decide_eq_false hb
    walk_at "e"
    walk_at "e"
    refine ev_sum (by kernel_rfl!) (by kernel_rfl!) (evl_cons (ev_bin (ev_lst (evl_cons ?_))))
    walk_at "e"
    refine evl_nil ⟨_, rfl, by simp, ?_⟩
    repeat walk_at "e"
    refine bop_sub (bop_mull (by omega) (by simp) ?_)
    rw [flat_one]
    refine evl_nil (op_sum (.d _) (bop_sub ?_))
    rw [sum_rep, Int.toNat_of_nonneg (by omega)]
    have : 0 - (0 - v) * c = c * v := by rw [Int.zero_sub, Int.zero_sub, Int.neg_mul, Int.neg_neg, Int.mul_comm]
    rw [this]; exact hp
theorem zip_dI (a b : List Int) : ((a.map D.int).zip (b.map D.int)).map (fun p => D.tup [p.1, p.2]) = (a.zip b).map dI := by
  rw [List.zip_map, List.map_map]; rfl
theorem fn_sum_at {cs vs : List Int} (hc : ∀ c ∈ cs, -(2 ^ 60) < c ∧ c < 2 ^ 60) (hn : cs.length ≤ 1000) (hp : P (.d (.int ((cs.zip vs).map fun p => p.1 * p.2).sum)) μ) : Fc (cx w h₀ mb) (n+1) 31 [.d (dInts cs), .d (dInts vs)] μ P := by
  refine fn_callP ["coefs", "values"] rfl (by kernel_rfl!) (by kernel_rfl!) (by walk_at "def") rfl ?_
  refine xs_ret (ev_sum (by kernel_rfl!) (by kernel_rfl!) (evl_cons ?_))
  refine ev_cmap [] (cs.zip vs) dI (fun p => some (.int (p.1 * p.2))) (ckC_of (by kernel_rfl!) all_nil) (by rw [List.length_zip]; omega)
    (evit_zip (by kernel_rfl!) (by kernel_rfl!) (ev_var rfl ⟨_, rfl, ev_var rfl ⟨_, rfl, zip_dI _ _, rfl⟩⟩)) (fun p hp => ?_) ?_
  · refine as_tup rfl (asl_cons ?_)
    walk_at "nm"
    refine asl_cons ?_
    walk_at "nm"
    refine asl_nil ⟨rfl, Sub'.nil, tsts_nil ⟨fun _ => ?_, nofun⟩⟩
    repeat walk_at "e"
    have := hc p.1 (List.of_mem_zip hp).1
    exact bop_mul (by omega) ⟨_, rfl, rfl, rfl⟩
  · have e : (cs.zip vs).filterMap (fun p => some (D.int (p.1 * p.2))) = ((cs.zip vs).map fun p => p.1 * p.2).map D.int := by
      rw [List.map_map, ← List.filterMap_eq_map]; rfl
    rw [e]
    exact evl_nil (op_sum (.d _) hp)
noncomputable abbrev dP (p : List Int) : D := .tup (p.map D.int)
noncomputable abbrev dL (l : Int × Sg × Int) : D := dLit l.1 l.2.1 l.2.2
noncomputable def holdsAt (l : Int × Sg × Int) (p : List Int) : Bool := says l.2.1 l.2.2 (p.getD l.1.toNat 0)
noncomputable def kept (points : List (List Int)) (sums : List Int) (lits : List (Int × Sg × Int)) : List Int :=
  (points.zip sums).filterMap fun q => if lits.all (fun l => holdsAt l q.1) then some q.2 else none
theorem zip_dP (a : List (List Int)) (b : List Int) : ((a.map dP).zip (b.map D.int)).map (fun p => D.tup [p.1, p.2]) = (a.zip b).map fun q => D.tup [dP q.1, .int q.2] := by
  rw [List.zip_map, List.map_map]; rfl
theorem fn_lowest {ps : List (List Int)} {ss : List Int} {ls : List (Int × Sg × Int)} (hl : ∀ l ∈ ls, 0 ≤ l.1 ∧ ∀ p ∈ ps, l.1.toNat < p.length) (hps : ∀ p ∈ ps, p.length ≤ 3) (hn : ps.length ≤ 1000) (hm : ls.length ≤ 1000)
    (hk : 0 < (kept ps ss ls).length) (hp : P (.d (.int (minL (kept ps ss ls)))) μ) : Fc (cx w h₀ mb) (n+2) 313 [.d (.lst (ps.map dP)), .d (dInts ss), .d (.lst (ls.map dL))] μ P := by
  refine fn_callP ["points", "sums", "literals"] rfl (by kernel_rfl!) (by kernel_rfl!) (by walk_at "def") rfl ?_
  refine xs_cmap [("literals", .d (.lst (ls.map dL)))] (ps.zip ss) (fun q => D.tup [dP q.1, .int q.2]) (fun q => if ls.all (fun l => holdsAt l q.1) then some (.int q.2) else none) (ckC_of (by kernel_rfl!) (all_cons rfl all_nil)) (by rw [List.length_zip]; omega) (by walk_at "sw")
    (evit_zip (by kernel_rfl!) (by kernel_rfl!) (ev_var rfl ⟨_, rfl, ev_var rfl ⟨_, rfl, zip_dP _ _, rfl⟩⟩)) (fun q hq => ?_) ?_
  · refine as_tup rfl (asl_cons ?_)
    walk_at "nm"
    refine asl_cons ?_
    walk_at "nm"
    refine asl_nil ⟨rfl, Sub'.app, tsts_one (tst_of_ev (ev_all (by kernel_rfl!) (by kernel_rfl!) (evl_cons ?_)))⟩
    have hq1 := (List.of_mem_zip hq).1
    refine ev_cmap [("one", .d (dP q.1))] ls dL (fun l => some (.bool (holdsAt l q.1))) (ckC_of (by kernel_rfl!) (all_cons rfl all_nil)) (by omega) (evit_lst (.name _ _) (ev_var rfl ⟨_, rfl, rfl, rfl⟩)) (fun l hl' => ?_) ?_
    · walk_at "nm"
      refine ⟨rfl, Sub'.app, tsts_nil ⟨fun _ => c_law_says (evl_cons ?_), nofun⟩⟩
      walk_at "e"
      refine evl_cons ?_
      repeat walk_at "e"
      obtain ⟨h0, h1⟩ := hl l hl'
      have h1 := h1 q.1 hq1
      have h2 := hps q.1 hq1
      refine sub_tup (.d _) (.d _) (by decide) (by decide) rfl (sub_tup (.d _) (.d _) h0 (by omega) (x := .int (q.1.getD l.1.toNat 0)) ?_ (evl_nil (fn_says ⟨_, rfl, rfl, rfl⟩)))
      rw [List.getElem?_map, List.getD_eq_getElem?_getD, List.getElem?_eq_getElem h1]; rfl
    · have e : ls.filterMap (fun l => some (D.bool (holdsAt l q.1))) = (ls.map fun l => holdsAt l q.1).map D.bool := by
        rw [List.map_map, ← List.filterMap_eq_map]; rfl
      rw [e]
      refine evl_nil (op_all (.d _) ⟨_, rfl, fun hb => ?_, fun hb => ?_⟩)
      · walk_at "e"
        refine ⟨_, rfl, if_pos ?_, rfl⟩
        rw [List.all_map] at hb; exact hb
      · refine ⟨if_neg ?_, rfl⟩
        rw [List.all_map] at hb
        have hb : (ls.all fun l => holdsAt l q.1) = false := hb
        rw [hb]; decide
  · have e : (ps.zip ss).filterMap (fun q => if ls.all (fun l => holdsAt l q.1) then some (D.int q.2) else none) = (kept ps ss ls).map D.int := by
      unfold kept
      rw [List.map_filterMap]
      congr; funext q; split <;> rfl
    rw [e]
    walk_at "nm"
    refine xs_ret (ev_min (by kernel_rfl!) (by kernel_rfl!) (evl_cons ?_))
    walk_at "e"
    exact evl_nil (op_min (.d _) hk hp)
end
section
variable {w : World} {h₀ : Heap} {mb : Str → Option Value} {n : Nat} {S : Sc} {ρ : Rho} {μ : Mem} {P : V → Mem → Prop}
noncomputable def pts (a b c : List Int) : List (List Int) := a.flatMap fun x => b.flatMap fun y => c.map fun z => [x, y, z]
theorem pts_len (a b c : List Int) : (pts a b c).length = a.length * (b.length * c.length) := by
  unfold pts
  simp only [List.length_flatMap, List.length_map, List.map_const', List.sum_replicate_nat]
theorem fn_points {a b c : List Int} (ha : a.length ≤ 3) (hb : b.length ≤ 3) (hc : c.length ≤ 3) (hp : P (.d (.lst ((pts a b c).map dP))) μ) : Fc (cx w h₀ mb) (n+1) 294 [.d (.lst [dInts a, dInts b, dInts c])] μ P := by
  refine fn_callP ["rows"] rfl (by kernel_rfl!) (by kernel_rfl!) (by walk_at "def") rfl ?_
  refine xs_ret ?_
  refine ev_comp [("rows", .d (.lst [dInts a, dInts b, dInts c]))] (fun ys ρ₁ μ₁ acc => ∃ done todo, a = done ++ todo ∧ ys = todo.map D.int ∧ acc = (pts done b c).map dP ∧ Sub' [("rows", .d (.lst [dInts a, dInts b, dInts c]))] ρ₁ ∧ μ = μ₁) (ckC_of (by kernel_rfl!) (all_cons rfl all_nil)) ?_ ?_ ?_
  · refine evit_lst (.name _ _) ?_
    repeat walk_at "e"
    exact sub_lst (.d _) (.d _) (by decide) (by decide) rfl ⟨_, rfl, [], a, rfl, rfl, rfl, .refl, rfl⟩
  · rintro x rest ρ₁ μ₁ acc ⟨done, todo, e, ey, rfl, sb, rfl⟩
    obtain _ | ⟨t, todo⟩ := todo
    · cases ey
    rw [List.map_cons, List.cons.injEq] at ey
    obtain ⟨rfl, rfl⟩ := ey
    have la : (pts done b c).length ≤ 27 := by
      rw [pts_len]
      have h1 : done.length ≤ 3 := by rw [e, List.length_append] at ha; omega
      calc _ ≤ 3 * (3 * 3) := Nat.mul_le_mul h1 (Nat.mul_le_mul hb hc)
        _ = 27 := rfl
    refine As.forget sb ?_
    walk_at "nm"
    refine tsts_nil ⟨fun _ => ?_, nofun⟩
    refine em_gen rfl (by simp) (fun ys ρ₁ μ₁ acc => ∃ done2 todo2, b = done2 ++ todo2 ∧ ys = todo2.map D.int ∧ acc = (pts done b c ++ pts [t] done2 c).map dP ∧ Sub' [("rows", .d (.lst [dInts a, dInts b, dInts c])), ("a", .d (.int t))] ρ₁ ∧ μ = μ₁) ?_ ?_ ?_
    · refine evit_lst (.name _ _) ?_
      repeat walk_at "e"
      exact sub_lst (.d _) (.d _) (by decide) (by decide) rfl ⟨_, rfl, [], b, rfl, rfl, by simp [pts], .refl, rfl⟩
    · rintro x rest ρ₁ μ₁ acc ⟨done2, todo2, e2, ey2, rfl, sb2, rfl⟩
      obtain _ | ⟨t2, todo2⟩ := todo2
      · cases ey2
      rw [List.map_cons, List.cons.injEq] at ey2
      obtain ⟨rfl, rfl⟩ := ey2
      have lb : (pts [t] done2 c).length ≤ 9 := by
        rw [pts_len, List.length_singleton, Nat.one_mul]
        have h1 : done2.length ≤ 3 := by rw [e2, List.length_append] at hb; omega
        calc _ ≤ 3 * 3 := Nat.mul_le_mul h1 hc
          _ = 9 := rfl
      refine As.forget sb2 ?_
      walk_at "nm"
      refine tsts_nil ⟨fun _ => ?_, nofun⟩
      refine em_gen rfl (by simp) (fun ys ρ₁ μ₁ acc => ∃ done3 todo3, c = done3 ++ todo3 ∧ ys = todo3.map D.int ∧ acc = (pts done b c ++ pts [t] done2 c ++ pts [t] [t2] done3).map dP ∧ Sub' [("rows", .d (.lst [dInts a, dInts b, dInts c])), ("a", .d (.int t)), ("b", .d (.int t2))] ρ₁ ∧ μ = μ₁) ?_ ?_ ?_
      · refine evit_lst (.name _ _) ?_
        repeat walk_at "e"
        exact sub_lst (.d _) (.d _) (by decide) (by decide) rfl ⟨_, rfl, [], c, rfl, rfl, by simp [pts], .refl, rfl⟩
      · rintro x rest ρ₁ μ₁ acc ⟨done3, todo3, e3, ey3, rfl, sb3, rfl⟩
        obtain _ | ⟨t3, todo3⟩ := todo3
        · cases ey3
        rw [List.map_cons, List.cons.injEq] at ey3
        obtain ⟨rfl, rfl⟩ := ey3
        have lc : (pts [t] [t2] done3).length ≤ 3 := by
          rw [pts_len, List.length_singleton, Nat.one_mul, List.length_singleton, Nat.one_mul]
          rw [e3, List.length_append] at hc; omega
        refine As.forget sb3 ?_
        walk_at "nm"
        refine tsts_nil ⟨fun _ => ?_, nofun⟩
        refine em_elt rfl (by rw [List.length_map, List.length_append, List.length_append]; omega) (ev_tup (evl_cons ?_))
        walk_at "e"
        refine evl_cons ?_
        walk_at "e"
        refine evl_cons ?_
        walk_at "e"
        exact evl_nil ⟨_, rfl, by simp, _, rfl, done3 ++ [t3], todo3, by rw [e3]; simp, rfl, by simp [pts], Sub'.app, rfl⟩
      · rintro ρ₁ μ₁ acc ⟨done3, todo3, e3, ey3, rfl, sb3, rfl⟩
        rw [List.map_eq_nil_iff.mp ey3.symm, List.append_nil] at e3; subst e3
        exact ⟨done2 ++ [t2], todo2, by rw [e2]; simp, rfl, by simp [pts], fun x v h => sb3 x v (look_app [("b", .d (.int t2))] h), rfl⟩
    · rintro ρ₁ μ₁ acc ⟨done2, todo2, e2, ey2, rfl, sb2, rfl⟩
      rw [List.map_eq_nil_iff.mp ey2.symm, List.append_nil] at e2; subst e2
      exact ⟨done ++ [t], todo, by rw [e]; simp, rfl, by simp [pts], fun x v h => sb2 x v (look_app [("a", .d (.int t))] h), rfl⟩
  · rintro ρ₁ μ₁ acc ⟨done, todo, e, ey, rfl, _, rfl⟩
    rw [List.map_eq_nil_iff.mp ey.symm, List.append_nil] at e; subst e; exact hp
end
section
variable {w : World} {h₀ : Heap} {mb : Str → Option Value} {n : Nat} {S : Sc} {ρ : Rho} {μ : Mem} {P : V → Mem → Prop}
noncomputable def domStep (acc : List (Int × Int)) (v : Int) : List (Int × Int) := match acc.getLast? with
  | some p => if p.2 = v - 1 then acc.dropLast ++ [(p.1, v)] else acc ++ [(v, v)]
  | none => acc ++ [(v, v)]
noncomputable def domF (row : List Int) : List (Int × Int) := row.foldl domStep []
theorem domStep_len (acc : List (Int × Int)) (v : Int) : (domStep acc v).length ≤ acc.length + 1 := by
  unfold domStep
  split
  · split
    · rw [List.length_append, List.length_dropLast, List.length_singleton]; omega
    · rw [List.length_append, List.length_singleton]; omega
  · rw [List.length_append, List.length_singleton]; omega
theorem nb_doml (d : List (Int × Int)) : NB 2 (.lst (d.map dI)) := .lst _ (nb_map nb_dI)
theorem nb_nil : NB 1 (.lst []) := .lst _ (fun _ h => nomatch h)
theorem eqD_lnil (acc : List (Int × Int)) : (!eqD (.lst (acc.map dI)) (.lst [])) = !acc.isEmpty := by
  congr 1
  rw [Bool.eq_iff_iff, eqD_iff (nb_doml acc) nb_nil]
  cases acc <;> simp
theorem snoc_of {α : Type} {l : List α} {p : α} (h : l.getLast? = some p) : l = l.dropLast ++ [p] := by
  obtain ⟨ys, rfl⟩ := List.getLast?_eq_some_iff.mp h
  simp
theorem fn_domain {row : List Int} (hn : row.length ≤ 1000) (hp : P (.d (dDom (domF row))) μ) : Fc (cx w h₀ mb) (n+1) 284 [.d (dInts row)] μ P := by
  refine Fc.tidy ?_
  refine fn_callP ["row"] rfl (by kernel_rfl!) (by kernel_rfl!) (by walk_at "def") rfl ?_
  refine xs_assign (ev_nil_own ?_)
  walk_at "nm"
  refine xs_for _ (fun ys μ₁ => ∃ done todo acc, row = done ++ todo ∧ ys = todo.map D.int ∧ acc = done.foldl domStep [] ∧ acc.length ≤ done.length ∧ μ₁ = μ ++ [.lst (acc.map dI)]) .refl (evit_lst (.name _ _) (ev_var rfl ⟨_, rfl, [], row, [], rfl, rfl, rfl, by simp, rfl⟩)) ?_ ?_
  · rintro x rest μ₁ ⟨done, todo, acc, e, ey, ea, la, rfl⟩
    obtain _ | ⟨t, todo⟩ := todo
    · cases ey
    rw [List.map_cons, List.cons.injEq] at ey
    obtain ⟨rfl, rfl⟩ := ey
    have ln : done.length + 1 ≤ 1000 := by rw [e, List.length_append, List.length_cons] at hn; omega
    have fold : ∀ acc', acc' = domStep acc t → ∃ done2 todo2 acc2, row = done2 ++ todo2 ∧ todo.map D.int = todo2.map D.int ∧ acc2 = done2.foldl domStep [] ∧ acc2.length ≤ done2.length ∧ μ ++ [Cell.lst (acc'.map dI)] = μ ++ [.lst (acc2.map dI)] := by
      rintro acc' rfl
      refine ⟨done ++ [t], todo, domStep acc t, by rw [e]; simp, rfl, by rw [List.foldl_append, ← ea]; rfl, ?_, rfl⟩
      have := domStep_len acc t
      rw [List.length_append, List.length_singleton]; omega
    walk_at "nm"
    refine xs_if (tst_and (tst_cmp ?_))
    walk_at "e"
    refine ev_lst (evl_nil ⟨_, rfl, by simp, ?_⟩)
    refine cop_ne (.lst (get_app _ _)) (.d _) (nb_doml _).ok nb_nil.ok ⟨_, rfl, fun hb => ?_, fun hb => ?_⟩
    · rw [eqD_lnil] at hb
      obtain ⟨p, hp'⟩ : ∃ p, acc.getLast? = some p := by
        cases acc with
        | nil => cases hb
        | cons a acc => exact ⟨_, List.getLast?_eq_some_getLast (by simp)⟩
      have hpl : (acc.map dI).getLast? = some (dI p) := by rw [List.getLast?_map, hp']; rfl
      refine tst_cmp ?_
      repeat walk_at "e"
      refine ⟨1, rfl, ?_⟩
      refine sub_lst_last (.lst (get_app _ _)) (.d _) hpl ?_
      repeat walk_at "e"
      refine sub_tup (.d _) (.d _) (by decide) (by decide) rfl ?_
      repeat walk_at "e"
      refine bop_sub (cop_eq (.d _) (.d _) (ok_int _) (ok_int _) ⟨_, rfl, fun hc => ?_, fun hc => ?_⟩)
      · rw [eqD_int] at hc
        have hc := of_decide_eq_true hc
        refine xs_assign (ev_tup (evl_cons ?_))
        repeat walk_at "e"
        refine ⟨1, rfl, ?_⟩
        refine sub_lst_last (.lst (get_app _ _)) (.d _) hpl ?_
        repeat walk_at "e"
        refine sub_tup (.d _) (.d _) (by decide) (by decide) rfl (evl_cons ?_)
        walk_at "e"
        refine evl_nil ⟨_, rfl, by simp, as_sub_last ?_⟩
        repeat walk_at "e"
        refine ⟨1, rfl, _, acc.dropLast.map dI, dI p, rfl, rfl, by rw [List.length_map, List.length_dropLast]; omega, ?_, ?_⟩
        · rw [get_app, show acc.map dI = acc.dropLast.map dI ++ [dI p] by rw [← List.map_singleton, ← List.map_append, ← snoc_of hp']]
        · refine xs_nil (xs_nil ⟨Sub'.app, ?_⟩)
          rw [set_app]
          have := fold (acc.dropLast ++ [(p.1, t)]) (by unfold domStep; rw [hp']; dsimp only; rw [if_pos hc])
          rwa [List.map_append] at this
      · rw [eqD_int] at hc
        have hc := of_decide_eq_false hc
        refine xs_expr (ev_append ?_)
        walk_at "e"
        refine ⟨_, acc.map dI, rfl, get_app _ _, ev_tup (evl_cons ?_)⟩
        walk_at "e"
        refine evl_cons ?_
        walk_at "e"
        refine evl_nil ⟨_, rfl, by simp, _, _, rfl, get_app _ _, by rw [List.length_map]; omega, ⟨_, rfl, .inl rfl⟩, xs_nil (xs_nil ⟨Sub'.app, ?_⟩)⟩
        rw [set_app]
        have := fold (acc ++ [(t, t)]) (by unfold domStep; rw [hp']; dsimp only; rw [if_neg hc])
        rwa [List.map_append] at this
    · rw [eqD_lnil] at hb
      have hb : acc = [] := by cases acc with
        | nil => rfl
        | cons a l => cases hb
      refine ⟨nofun, fun _ => ?_⟩
      refine xs_expr (ev_append ?_)
      walk_at "e"
      refine ⟨_, acc.map dI, rfl, get_app _ _, ev_tup (evl_cons ?_)⟩
      walk_at "e"
      refine evl_cons ?_
      walk_at "e"
      refine evl_nil ⟨_, rfl, by simp, _, _, rfl, get_app _ _, by rw [List.length_map]; omega, ⟨_, rfl, .inl rfl⟩, xs_nil (xs_nil ⟨Sub'.app, ?_⟩)⟩
      rw [set_app]
      have := fold (acc ++ [(t, t)]) (by unfold domStep; rw [hb]; rfl)
      rwa [List.map_append] at this
  · rintro μ₁ ⟨done, todo, acc, e, ey, ea, la, rfl⟩
    rw [List.map_eq_nil_iff.mp ey.symm, List.append_nil] at e; subst e
    refine xs_ret (ev_tuple (by kernel_rfl!) (by kernel_rfl!) (evl_cons ?_))
    walk_at "e"
    refine evl_nil (op_tuple (.lst (get_app _ _)) (by rw [List.length_map]; omega) ⟨_, rfl, ⟨_, rfl⟩, ?_⟩)
    rw [ea]; exact hp
end
section
variable {w : World} {h₀ : Heap} {mb : Str → Option Value} {n : Nat} {S : Sc} {ρ : Rho} {μ : Mem} {P : V → Mem → Prop}
/-- a dict of ints to ints: (key, value) -/
noncomputable abbrev emK (es : List (Int × Int)) : List (Int × D) := es.map fun p => (p.1, .int p.2)
noncomputable def getI (es : List (Int × Int)) (k : Int) : Int := match es.find? (fun p => p.1 = k) with
  | some p => p.2
  | none => 0
noncomputable def putI (es : List (Int × Int)) (k v : Int) : List (Int × Int) :=
  if es.any (fun p => p.1 = k) then es.map (fun p => if p.1 = k then (p.1, v) else p) else es ++ [(k, v)]
theorem getK_em (es : List (Int × Int)) (k : Int) : getK (emK es) k = (es.find? (fun p => p.1 = k)).map fun p => .int p.2 := by
  unfold getK
  rw [List.find?_map, Option.map_map]; rfl
theorem getK_d (es : List (Int × Int)) (k : Int) : (getK (emK es) k).getD (.int 0) = .int (getI es k) := by
  rw [getK_em]; unfold getI
  cases es.find? (fun p => p.1 = k) <;> rfl
theorem putK_em (es : List (Int × Int)) (k v : Int) : putK (emK es) k (.int v) = emK (putI es k v) := by
  unfold putK putI emK
  rw [List.any_map]
  have e : (((fun kv : Int × D => decide (kv.1 = k)) ∘ fun p : Int × Int => (p.1, D.int p.2))) = fun p : Int × Int => decide (p.1 = k) := rfl
  rw [e]
  split
  · rw [List.map_map, List.map_map]
    apply List.map_congr_left
    intro p _
    show (if p.1 = k then _ else _) = (fun p : Int × Int => (p.1, D.int p.2)) (if p.1 = k then _ else _)
    split <;> rfl
  · rw [List.map_append]; rfl
theorem putI_len (es : List (Int × Int)) (k v : Int) : (putI es k v).length ≤ es.length + 1 := by
  unfold putI
  split
  · rw [List.length_map]; omega
  · rw [List.length_append, List.length_singleton]; omega
noncomputable def addUp (es : List (Int × Int)) (p : Int × Int) : List (Int × Int) := putI es p.2 (getI es p.2 + p.1)
noncomputable def sumsOf (cs xs : List Int) : List (Int × Int) := (cs.zip xs).foldl addUp []
noncomputable def rowsF (cs xs : List Int) : List (Int × Int) := (sumsOf cs xs).filterMap fun p => if getI (sumsOf cs xs) p.1 ≠ 0 then some (getI (sumsOf cs xs) p.1, p.1) else none
theorem find_mem {es : List (Int × Int)} {p : Int × Int} (h : p ∈ es) : (es.find? (fun q => q.1 = p.1)).map (fun q => D.int q.2) = some (.int (getI es p.1)) := by
  unfold getI
  cases q : es.find? (fun q => q.1 = p.1) with
  | some r => rfl
  | none =>
    have := List.find?_eq_none.mp q p h
    simp at this
theorem fn_rows_of {cs xs : List Int} (hn : cs.length ≤ 100) (hp : P (.d (.lst ((rowsF cs xs).map dI))) μ) : Fc (cx w h₀ mb) (n+1) 26 [.d (dInts cs), .d (dInts xs)] μ P := by
  refine Fc.tidy ?_
  refine fn_callP ["coefs", "scope"] rfl (by kernel_rfl!) (by kernel_rfl!) (by walk_at "def") rfl ?_
  refine xs_assign (ev_dct_own ?_)
  walk_at "nm"
  refine xs_for _ (fun ys μ₁ => ∃ done todo es, cs.zip xs = done ++ todo ∧ ys = todo.map dI ∧ es = done.foldl addUp [] ∧ es.length ≤ done.length ∧ μ₁ = μ ++ [.dct (emK es)]) .refl (evit_zip (by kernel_rfl!) (by kernel_rfl!) (ev_var rfl ⟨_, rfl, ev_var rfl ⟨_, rfl, [], cs.zip xs, [], rfl, zip_dI _ _, rfl, by simp, rfl⟩⟩)) ?_ ?_
  · rintro x rest μ₁ ⟨done, todo, es, e, ey, ea, la, rfl⟩
    obtain _ | ⟨t, todo⟩ := todo
    · cases ey
    rw [List.map_cons, List.cons.injEq] at ey
    obtain ⟨rfl, rfl⟩ := ey
    have ln : done.length + 1 ≤ 100 := by
      have := congrArg List.length e
      rw [List.length_zip, List.length_append, List.length_cons] at this; omega
    refine as_tup rfl (asl_cons ?_)
    walk_at "nm"
    refine asl_cons ?_
    walk_at "nm"
    refine asl_nil (xs_assign (ev_bin (ev_dget ?_)))
    walk_at "e"
    refine ⟨_, _, rfl, get_app _ _, evl_cons ?_⟩
    walk_at "e"
    refine evl_cons ?_
    walk_at "e"
    refine evl_nil ⟨_, _, _, rfl, get_app _ _, ?_⟩
    rw [getK_d]
    walk_at "e"
    refine bop_add (as_sub_dct ?_)
    walk_at "e"
    walk_at "e"
    refine ⟨_, _, _, rfl, rfl, ?_, get_app _ _, xs_nil ⟨Sub'.app, ?_⟩⟩
    · rw [List.length_map]; omega
    · rw [set_app, putK_em]
      refine ⟨done ++ [t], todo, addUp es t, by rw [e]; simp, rfl, by rw [List.foldl_append, ← ea]; rfl, ?_, rfl⟩
      have := putI_len es t.2 (getI es t.2 + t.1)
      rw [List.length_append, List.length_singleton]; unfold addUp; omega
  · rintro μ₁ ⟨done, todo, es, e, ey, ea, la, rfl⟩
    rw [List.map_eq_nil_iff.mp ey.symm, List.append_nil] at e; subst e
    have ln : es.length ≤ 100 := by rw [List.length_zip] at la; omega
    have ea : sumsOf cs xs = es := ea.symm
    refine xs_still_d "found" rfl (get_app _ _) (by walk_at "put") ?_
    rw [set_app]
    refine xs_ret ?_
    refine ev_cmap [("found", .d (.dct (emK es)))] es (fun p => .int p.1) (fun p => if getI es p.1 ≠ 0 then some (dI (getI es p.1, p.1)) else none) (ckC_of (by kernel_rfl!) (all_cons rfl all_nil)) (by omega)
      (evit_dct (.name _ _) (ev_var rfl ⟨_, rfl, by rw [List.map_map]; rfl, rfl⟩)) (fun p hp => ?_) ?_
    · have hg : getK (emK es) p.1 = some (.int (getI es p.1)) := by rw [getK_em]; exact find_mem hp
      walk_at "nm"
      refine ⟨rfl, Sub'.app, tsts_one (tst_cmp ?_)⟩
      repeat walk_at "e"
      refine sub_dct (.d _) (.d _) hg ?_
      repeat walk_at "e"
      refine cop_ne (.d _) (.d _) (ok_int _) (ok_int _) ⟨_, rfl, fun hb => ?_, fun hb => ?_⟩
      · rw [eqD_int] at hb
        refine ev_tup (evl_cons ?_)
        repeat walk_at "e"
        refine sub_dct (.d _) (.d _) hg (evl_cons ?_)
        walk_at "e"
        refine evl_nil ⟨_, rfl, by simp, _, rfl, if_pos (by simpa using hb), rfl⟩
      · rw [eqD_int] at hb
        exact ⟨if_neg (by simpa using hb), rfl⟩
    · refine ⟨_, rfl, ⟨_, rfl⟩, ?_⟩
      have : (rowsF cs xs).map dI = es.filterMap fun p => if getI es p.1 ≠ 0 then some (dI (getI es p.1, p.1)) else none := by
        unfold rowsF
        rw [ea, List.map_filterMap]
        congr; funext p; split <;> rfl
      rw [← this]; exact hp
end
section
variable {w : World} {h₀ : Heap} {mb : Str → Option Value} {n : Nat} {S : Sc} {ρ : Rho} {μ : Mem} {P : V → Mem → Prop}
noncomputable abbrev feed (cs : List Int) (s : Int) : Cell := .sd [("cells", dInts cs), ("spot", .int s)]
structure FeedOk (cs : List Int) : Prop where
  ne : cs ≠ []
  le : cs.length ≤ 1000
theorem set_lt {μ : Mem} {i : Nat} {c : Cell} (h : μ[i]? = some c) : i < μ.length := (List.getElem?_eq_some_iff.mp h).1
theorem feed_put (cs : List Int) (s t : Int) : putK [(("cells" : Str), dInts cs), (("spot" : Str), D.int s)] "spot" (.int t) = [(("cells" : Str), dInts cs), (("spot" : Str), D.int t)] := by kernel_rfl!
theorem fn_draw {cs : List Int} {s many : Int} {i : Nat} (hf : μ[i]? = some (feed cs s)) (ho : FeedOk cs) (h0 : 0 ≤ s) (hs : s ≤ 2 ^ 40) (hm : 0 < many)
    (hp : ∀ r, 0 ≤ r → r < many → P (.d (.int r)) (μ.set i (feed cs (s + 1)))) : Fc (cx w h₀ mb) (n+1) 272 [.own i, .d (.int many)] μ P := by
  refine fn_callP ["feed", "many"] rfl (by kernel_rfl!) (by kernel_rfl!) (by walk_at "def") rfl ?_
  refine xs_swap ["cells", "spot"] (by walk_at "sw") (by kernel_rfl!) (evl_cons ?_)
  repeat walk_at "e"
  refine sub_sd hf (.d _) (x := dInts cs) (by kernel_rfl!) (evl_cons ?_)
  repeat walk_at "e"
  refine sub_sd hf (.d _) (x := .int s) (by kernel_rfl!) (evl_nil ⟨_, rfl, by simp, .cons (by walk_at "put") (.cons (by walk_at "put") .nil), ?_⟩)
  refine xs_assign ?_
  repeat walk_at "e"
  refine bop_add (as_sub_sd ?_)
  walk_at "e"
  walk_at "e"
  refine ⟨i, [("cells", dInts cs), ("spot", .int s)], "spot", rfl, rfl, by simp, hf, ?_⟩
  rw [feed_put]
  have ln : 0 < cs.length := List.length_pos_iff.mpr ho.ne
  have l2 := ho.le
  have e1 : s.fdiv ((cs.map D.int).length : Int) = s / (cs.length : Int) := by rw [List.length_map]; exact Int.fdiv_eq_ediv_of_nonneg _ (by omega)
  have e2 : s.fmod ((cs.map D.int).length : Int) = s % (cs.length : Int) := by rw [List.length_map]; exact Int.fmod_eq_emod_of_nonneg _ (by omega)
  have b1 : 0 ≤ s / (cs.length : Int) := Int.ediv_nonneg h0 (by omega)
  have b2 : s / (cs.length : Int) ≤ s := Int.ediv_le_self _ h0
  have b3 : 0 ≤ s % (cs.length : Int) := Int.emod_nonneg _ (by omega)
  have b4 : s % (cs.length : Int) < cs.length := Int.emod_lt_of_pos _ (by omega)
  refine xs_assign ?_
  repeat walk_at "e"
  refine ev_len (by kernel_rfl!) (by kernel_rfl!) (evl_cons ?_)
  walk_at "e"
  refine evl_nil (op_len_lst (.d _) (by rw [List.length_map]; omega) (bop_fdiv (by rw [List.length_map]; omega) (by rw [List.length_map]; omega) ?_))
  walk_at "nm"
  refine xs_ret ?_
  repeat walk_at "e"
  refine ev_len (by kernel_rfl!) (by kernel_rfl!) (evl_cons ?_)
  walk_at "e"
  refine evl_nil (op_len_lst (.d _) (by rw [List.length_map]; omega) (bop_mod (by rw [List.length_map]; omega) ?_))
  refine sub_lst (.d _) (.d _) (by rw [e2]; exact b3) (by rw [e2]; omega) (x := .int (cs[(s % (cs.length : Int)).toNat]'(by omega))) ?_ ?_
  · rw [e2, List.getElem?_map, List.getElem?_eq_getElem (by omega)]; rfl
  repeat walk_at "e"
  refine bop_fdiv (by decide) (by decide) ?_
  walk_at "e"
  refine bop_add (bop_mul (by rw [e1]; omega) (bop_add ?_))
  walk_at "e"
  refine bop_mod (by omega) ?_
  refine hp _ ?_ ?_
  · rw [Int.fmod_eq_emod_of_nonneg _ (by omega)]; exact Int.emod_nonneg _ (by omega)
  · rw [Int.fmod_eq_emod_of_nonneg _ (by omega)]; exact Int.emod_lt_of_pos _ hm
end
section
variable {w : World} {h₀ : Heap} {mb : Str → Option Value} {n : Nat} {S : Sc} {ρ : Rho} {μ : Mem} {P : V → Mem → Prop}
structure RowOk (r : List Int) : Prop where
  ne : r ≠ []
  le : r.length ≤ 3
  lt : r.Pairwise (· < ·)
  bd : ∀ v ∈ r, -100 ≤ v ∧ v ≤ 100
theorem rowOk_of {low : Int} {sub : List Int} (h : sub.Sublist [1, 2, 3]) (hl : -2 ≤ low ∧ low < 2) : RowOk (([low] ++ sub.map fun st => low + st).take 3) := by
  have sb : ([low] ++ sub.map fun st => low + st).Sublist [low, low + 1, low + 2, low + 3] := List.Sublist.cons₂ low (h.map fun st => low + st)
  have sb : (([low] ++ sub.map fun st => low + st).take 3).Sublist [low, low + 1, low + 2, low + 3] := (List.take_sublist _ _).trans sb
  refine ⟨by simp, by rw [List.length_take]; omega, List.Pairwise.sublist sb ?_, fun v hv => ?_⟩
  · simp only [List.pairwise_cons, List.mem_cons, List.not_mem_nil, or_false, forall_eq_or_imp, forall_eq, false_imp_iff, implies_true, List.Pairwise.nil, and_true]
    omega
  · have := sb.subset hv
    simp only [List.mem_cons, List.not_mem_nil, or_false] at this
    omega
theorem feed_app {M : Mem} {i : Nat} {c d e : Cell} (h : M[i]? = some d) : ((M ++ [c])[i]? = some d) ∧ (M ++ [c]).set i e = M.set i e ++ [c] := by
  have lt := set_lt h
  exact ⟨by rw [List.getElem?_append_left lt]; exact h, List.set_append_left _ _ lt⟩
theorem fn_rows {cs : List Int} {s : Int} {i : Nat} (hf : μ[i]? = some (feed cs s)) (ho : FeedOk cs) (h0 : 0 ≤ s) (hs : s ≤ 2 ^ 30)
    (hp : ∀ a b c, RowOk a → RowOk b → RowOk c → P (.d (.lst [dInts a, dInts b, dInts c])) (μ.set i (feed cs (s + 12)) ++ [.dead])) : Fc (cx w h₀ mb) (n+2) 277 [.own i] μ P := by
  have hset : ∀ t, (μ.set i (feed cs t))[i]? = some (feed cs t) := fun t => getElem?_set_self' hf
  have hget : ∀ t c, (μ.set i (feed cs t) ++ [c])[i]? = some (feed cs t) := fun t c => (feed_app (e := c) (hset t)).1
  have hput : ∀ t u c, (μ.set i (feed cs t) ++ [c]).set i (feed cs u) = μ.set i (feed cs u) ++ [c] := fun t u c => by rw [(feed_app (hset t)).2, List.set_set]
  have hlen : ∀ t, (μ.set i (feed cs t)).length = μ.length := fun t => List.length_set
  have h00 : μ.set i (feed cs s) = μ := by
    apply List.ext_getElem?
    intro j
    by_cases q : i = j
    · subst q; rw [hset, hf]
    · rw [List.getElem?_set_ne q]
  have gapp : ∀ t c, (μ.set i (feed cs t) ++ [c])[μ.length]? = some c := fun t c => by rw [← hlen t]; exact get_app _ _
  have sapp : ∀ t c d, (μ.set i (feed cs t) ++ [c]).set μ.length d = μ.set i (feed cs t) ++ [d] := fun t c d => by rw [← hlen t]; exact set_app _ _ _
  refine fn_callP ["feed"] rfl (by kernel_rfl!) (by kernel_rfl!) (by walk_at "def") rfl ?_
  refine xs_assign (ev_nil_own ?_)
  walk_at "nm"
  refine xs_for _ (fun ys μ₁ => ∃ (k : Nat) (acc : List (List Int)), k ≤ 3 ∧ ys = rangeD k (3 - k) ∧ acc.length = k ∧ (∀ r ∈ acc, RowOk r) ∧ μ₁ = μ.set i (feed cs (s + 4 * k)) ++ [.lst (acc.map dInts)]) .refl
    (evit_range1 (.name _ _) (by kernel_rfl!) (by kernel_rfl!) (ev_int ⟨3, rfl, by decide, 0, [], by decide, rfl, rfl, by simp, ?_⟩)) ?_ ?_
  · rw [show s + 4 * ((0 : Nat) : Int) = s by omega, h00]; rfl
  · rintro x rest μ₁ ⟨k, acc, hk, ey, la, hr, rfl⟩
    obtain ⟨m, hm⟩ : ∃ m, 3 - k = m + 1 := by
      cases q : 3 - k with
      | zero => rw [q] at ey; cases ey
      | succ m => exact ⟨m, rfl⟩
    rw [hm, rangeD_succ, List.cons.injEq] at ey
    obtain ⟨rfl, rfl⟩ := ey
    walk_at "nm"
    refine xs_assign (ev_bin (c_law_draw (evl_cons ?_)))
    walk_at "e"
    refine evl_cons ?_
    walk_at "e"
    refine evl_nil (fn_draw (hget _ _) ho (by omega) (by omega) (by decide) fun low l0 l1 => ?_)
    rw [hput]
    walk_at "e"
    refine bop_sub ?_
    walk_at "nm"
    refine xs_expr (ev_append ?_)
    walk_at "e"
    refine ⟨_, _, rfl, gapp _ _, ev_slice (ev_bin (ev_lst (evl_cons ?_)))⟩
    walk_at "e"
    refine evl_nil ⟨_, rfl, by simp, ?_⟩
    refine ev_comp [("feed", .own i), ("low", .d (.int (low - 2)))] (fun ys ρ₁ μ₁ a => ∃ done todo sub : List Int, [1, 2, 3] = done ++ todo ∧ ys = todo.map D.int ∧ sub.Sublist done ∧ a = sub.map (fun st => D.int (low - 2 + st)) ∧ Sub' [("feed", .own i), ("low", .d (.int (low - 2)))] ρ₁ ∧
      μ₁ = μ.set i (feed cs (s + 4 * k + 1 + done.length)) ++ [.lst (acc.map dInts)]) (ckC_of (by kernel_rfl!) (all_cons rfl (all_cons rfl all_nil))) ?_ ?_ ?_
    · refine evit_tup (.name _ _) (ev_tup (evl_cons ?_))
      walk_at "e"
      refine evl_cons ?_
      walk_at "e"
      refine evl_cons ?_
      walk_at "e"
      refine evl_nil ⟨_, rfl, by simp, _, rfl, [], [1, 2, 3], [], rfl, rfl, .slnil, rfl, .refl, ?_⟩
      rw [show s + 4 * (k : Int) + 1 + ((([] : List Int).length : Nat) : Int) = s + 4 * k + 1 by simp]
    · rintro x rest ρ₁ μ₁ a ⟨done, todo, sub, e, ey, hsb, rfl, sb, rfl⟩
      obtain _ | ⟨t, todo⟩ := todo
      · cases ey
      rw [List.map_cons, List.cons.injEq] at ey
      obtain ⟨rfl, rfl⟩ := ey
      have ld : done.length ≤ 2 := by
        have := congrArg List.length e
        simp only [List.length_cons, List.length_nil, List.length_append] at this; omega
      have lsb := hsb.length_le
      refine As.forget sb ?_
      walk_at "nm"
      refine tsts_one (tst_cmp (c_law_draw (evl_cons ?_)))
      walk_at "e"
      refine evl_cons ?_
      walk_at "e"
      refine evl_nil (fn_draw (hget _ _) ho (by omega) (by omega) (by decide) fun r _ _ => ?_)
      rw [hput]
      have ei : s + 4 * (k : Int) + 1 + (done.length : Int) + 1 = s + 4 * k + 1 + ((done ++ [t]).length : Int) := by
        rw [List.length_append, List.length_singleton]; omega
      rw [ei]
      walk_at "e"
      refine cop_eq (.d _) (.d _) (ok_int _) (ok_int _) ⟨_, rfl, fun _ => ?_, fun _ => ?_⟩
      · refine em_elt rfl (by rw [List.length_map]; omega) ?_
        repeat walk_at "e"
        refine bop_add ⟨_, rfl, done ++ [t], todo, sub ++ [t], by rw [e]; simp, rfl, hsb.append (.refl _), by rw [List.map_append]; rfl, Sub'.app, rfl⟩
      · exact ⟨done ++ [t], todo, sub, by rw [e]; simp, rfl, hsb.trans (List.sublist_append_left _ _), rfl, Sub'.app, rfl⟩
    · rintro ρ₁ μ₁ a ⟨done, todo, sub, e, ey, hsb, rfl, sb, rfl⟩
      rw [List.map_eq_nil_iff.mp ey.symm, List.append_nil] at e; subst e
      have lsb := hsb.length_le
      refine bop_addl (by rw [List.length_map]; simp at lsb ⊢; omega) ?_
      walk_at "e"
      refine ⟨_, _, .d _, rfl, by decide, by rw [List.length_append, List.length_map]; simp at lsb ⊢; omega, ?_⟩
      have hro := rowOk_of hsb (show -2 ≤ low - 2 ∧ low - 2 < 2 by omega)
      have e2 : D.lst (([D.int (low - 2)] ++ sub.map fun st => D.int (low - 2 + st)).take (3 : Int).toNat) = dInts (([low - 2] ++ sub.map fun st => low - 2 + st).take 3) := by
        unfold dInts
        rw [List.map_take, List.map_append, List.map_map]; rfl
      refine ⟨_, _, rfl, gapp _ _, by rw [List.length_map]; omega, ⟨_, rfl, .inl rfl⟩, xs_nil ⟨Sub'.app, k + 1, acc ++ [([low - 2] ++ sub.map fun st => low - 2 + st).take 3], by omega, ?_, by rw [List.length_append, la]; rfl, fun r hr' => ?_, ?_⟩⟩
      · rw [show 3 - (k + 1) = m by omega]; rfl
      · rcases List.mem_append.mp hr' with hr' | hr'
        · exact hr r hr'
        · rw [List.mem_singleton.mp hr']; exact hro
      · rw [sapp, List.map_append]
        have : s + 4 * (k : Int) + 1 + (([1, 2, 3] : List Int).length : Int) = s + 4 * ((k + 1 : Nat) : Int) := by
          simp only [List.length_cons, List.length_nil]; omega
        rw [this, e2]; rfl
  · rintro μ₁ ⟨k, acc, hk, ey, la, hr, rfl⟩
    have hk3 : k = 3 := by
      cases q : 3 - k with
      | zero => omega
      | succ m => rw [q, rangeD_succ] at ey; cases ey
    subst hk3
    refine xs_still_l "found" rfl (gapp _ _) (by walk_at "put") ?_
    rw [sapp]
    refine xs_ret ?_
    walk_at "e"
    match acc, la with
    | [a, b, c], _ => exact hp a b c (hr a (by simp)) (hr b (by simp)) (hr c (by simp))
end
structure SP where
  i : Nat
  j : Nat
  d : Nat
  f : Nat
  t : Nat
  m : Nat
  w : Nat
structure SD where
  doms : List (List (Int × Int))
  firsts : List (List (Int × Int))
  trail : List (Int × List (Int × Int) × D)
  marks : List Int
  news : List (Int × D)
  bad : Bool
  clash : List D
noncomputable abbrev dTr (e : Int × List (Int × Int) × D) : D := .tup [.int e.1, dDom e.2.1, e.2.2, .none, .int (-1)]
noncomputable abbrev stf (p : SP) (bad : Bool) (clash : List D) : List (Str × V) := [("domains", .own p.d), ("firsts", .own p.f), ("trail", .own p.t), ("marks", .own p.m), ("news", .own p.w), ("speaker", .d (.int (-1))), ("is_failed", .d (.bool bad)), ("clash", .d (.tup clash))]
structure SA (μ : Mem) (p : SP) (s : SD) : Prop where
  i : μ[p.i]? = some (.inst p.j)
  j : μ[p.j]? = some (.ns (stf p s.bad s.clash))
  d : μ[p.d]? = some (.lst (s.doms.map dDom))
  f : μ[p.f]? = some (.lst (s.firsts.map dDom))
  t : μ[p.t]? = some (.lst (s.trail.map dTr))
  m : μ[p.m]? = some (.lst (s.marks.map .int))
  w : μ[p.w]? = some (.dct s.news)
  df : p.d ≠ p.f
  dt : p.d ≠ p.t
  dm : p.d ≠ p.m
  ft : p.f ≠ p.t
  fm : p.f ≠ p.m
  tm : p.t ≠ p.m
noncomputable def SP.all (p : SP) : List Nat := [p.i, p.j, p.d, p.f, p.t, p.m, p.w]
noncomputable def Oth (p : SP) (μ μ' : Mem) : Prop := ∀ k c, k ∉ p.all → μ[k]? = some c → μ'[k]? = some c
theorem Oth.refl {p : SP} {μ : Mem} : Oth p μ μ := fun _ _ _ h => h
theorem Oth.trans {p : SP} {μ μ' μ'' : Mem} (h : Oth p μ μ') (k : Oth p μ' μ'') : Oth p μ μ'' := fun a c n e => k a c n (h a c n e)
theorem Oth.set {p : SP} {μ : Mem} {a : Nat} {c : Cell} (h : a ∈ p.all) : Oth p μ (μ.set a c) := fun k d n e => by
  have q : a ≠ k := fun q => n (q ▸ h)
  rw [List.getElem?_set_ne q]; exact e
theorem ne_of_get {μ : Mem} {a b : Nat} {c d : Cell} (h : μ[a]? = some c) (k : μ[b]? = some d) (n : c ≠ d) : a ≠ b := fun q => by
  subst q; rw [h] at k; cases k; exact n rfl
section
variable {μ : Mem} {p : SP} {s : SD}
theorem SA.setD (h : SA μ p s) (ds : List (List (Int × Int))) : SA (μ.set p.d (.lst (ds.map dDom))) p { s with doms := ds } :=
  ⟨by rw [List.getElem?_set_ne (ne_of_get h.d h.i nofun)]; exact h.i, by rw [List.getElem?_set_ne (ne_of_get h.d h.j nofun)]; exact h.j, getElem?_set_self' h.d, by rw [List.getElem?_set_ne h.df]; exact h.f,
   by rw [List.getElem?_set_ne h.dt]; exact h.t, by rw [List.getElem?_set_ne h.dm]; exact h.m, by rw [List.getElem?_set_ne (ne_of_get h.d h.w nofun)]; exact h.w, h.df, h.dt, h.dm, h.ft, h.fm, h.tm⟩
theorem SA.setF (h : SA μ p s) (ds : List (List (Int × Int))) : SA (μ.set p.f (.lst (ds.map dDom))) p { s with firsts := ds } :=
  ⟨by rw [List.getElem?_set_ne (ne_of_get h.f h.i nofun)]; exact h.i, by rw [List.getElem?_set_ne (ne_of_get h.f h.j nofun)]; exact h.j, by rw [List.getElem?_set_ne h.df.symm]; exact h.d, getElem?_set_self' h.f,
   by rw [List.getElem?_set_ne h.ft]; exact h.t, by rw [List.getElem?_set_ne h.fm]; exact h.m, by rw [List.getElem?_set_ne (ne_of_get h.f h.w nofun)]; exact h.w, h.df, h.dt, h.dm, h.ft, h.fm, h.tm⟩
theorem SA.setT (h : SA μ p s) (es : List (Int × List (Int × Int) × D)) : SA (μ.set p.t (.lst (es.map dTr))) p { s with trail := es } :=
  ⟨by rw [List.getElem?_set_ne (ne_of_get h.t h.i nofun)]; exact h.i, by rw [List.getElem?_set_ne (ne_of_get h.t h.j nofun)]; exact h.j, by rw [List.getElem?_set_ne h.dt.symm]; exact h.d, by rw [List.getElem?_set_ne h.ft.symm]; exact h.f,
   getElem?_set_self' h.t, by rw [List.getElem?_set_ne h.tm]; exact h.m, by rw [List.getElem?_set_ne (ne_of_get h.t h.w nofun)]; exact h.w, h.df, h.dt, h.dm, h.ft, h.fm, h.tm⟩
theorem SA.setM (h : SA μ p s) (es : List Int) : SA (μ.set p.m (.lst (es.map .int))) p { s with marks := es } :=
  ⟨by rw [List.getElem?_set_ne (ne_of_get h.m h.i nofun)]; exact h.i, by rw [List.getElem?_set_ne (ne_of_get h.m h.j nofun)]; exact h.j, by rw [List.getElem?_set_ne h.dm.symm]; exact h.d, by rw [List.getElem?_set_ne h.fm.symm]; exact h.f,
   by rw [List.getElem?_set_ne h.tm.symm]; exact h.t, getElem?_set_self' h.m, by rw [List.getElem?_set_ne (ne_of_get h.m h.w nofun)]; exact h.w, h.df, h.dt, h.dm, h.ft, h.fm, h.tm⟩
theorem SA.setW (h : SA μ p s) (es : List (Int × D)) : SA (μ.set p.w (.dct es)) p { s with news := es } :=
  ⟨by rw [List.getElem?_set_ne (ne_of_get h.w h.i nofun)]; exact h.i, by rw [List.getElem?_set_ne (ne_of_get h.w h.j nofun)]; exact h.j, by rw [List.getElem?_set_ne (ne_of_get h.w h.d nofun)]; exact h.d, by rw [List.getElem?_set_ne (ne_of_get h.w h.f nofun)]; exact h.f,
   by rw [List.getElem?_set_ne (ne_of_get h.w h.t nofun)]; exact h.t, by rw [List.getElem?_set_ne (ne_of_get h.w h.m nofun)]; exact h.m, getElem?_set_self' h.w, h.df, h.dt, h.dm, h.ft, h.fm, h.tm⟩
theorem SA.inst (h : SA μ p s) : IsInst μ p.i (stf p s.bad s.clash) := ⟨p.j, h.i, h.j⟩
end
section
variable {w : World} {h₀ : Heap} {mb : Str → Option Value} {n : Nat} {S : Sc} {ρ : Rho} {μ : Mem} {P : V → Mem → Prop} {p : SP} {s : SD} {pos : Pos} {e : Expr}
-- the store's fields
theorem a_domains (hv : Ev (cx w h₀ mb) n S e ρ μ fun o μ₁ => ∃ p s, o = .own p.i ∧ SA μ₁ p s ∧ P (.own p.d) μ₁) (he : ∀ env, eval (.Attribute e "domains" pos) env = (do
      let o ← eval e env
      standAt pos.atName
      let r ← holding [o] (getAttr o "domains" true)
      letTemporaryGo e o r
      pure r) := by intro _; with_unfolding_all rfl) : Ev (cx w h₀ mb) n S (.Attribute e "domains" pos) ρ μ P :=
  ev_attr (hv.mono fun o μ₁ ⟨p, s, h1, h2, h3⟩ => ⟨p.i, p.j, _, .own p.d, h1, h2.i, h2.j, by kernel_rfl!, h3⟩) (by kernel_rfl!) he
theorem a_firsts (hv : Ev (cx w h₀ mb) n S e ρ μ fun o μ₁ => ∃ p s, o = .own p.i ∧ SA μ₁ p s ∧ P (.own p.f) μ₁) (he : ∀ env, eval (.Attribute e "firsts" pos) env = (do
      let o ← eval e env
      standAt pos.atName
      let r ← holding [o] (getAttr o "firsts" true)
      letTemporaryGo e o r
      pure r) := by intro _; with_unfolding_all rfl) : Ev (cx w h₀ mb) n S (.Attribute e "firsts" pos) ρ μ P :=
  ev_attr (hv.mono fun o μ₁ ⟨p, s, h1, h2, h3⟩ => ⟨p.i, p.j, _, .own p.f, h1, h2.i, h2.j, by kernel_rfl!, h3⟩) (by kernel_rfl!) he
theorem a_trail (hv : Ev (cx w h₀ mb) n S e ρ μ fun o μ₁ => ∃ p s, o = .own p.i ∧ SA μ₁ p s ∧ P (.own p.t) μ₁) (he : ∀ env, eval (.Attribute e "trail" pos) env = (do
      let o ← eval e env
      standAt pos.atName
      let r ← holding [o] (getAttr o "trail" true)
      letTemporaryGo e o r
      pure r) := by intro _; with_unfolding_all rfl) : Ev (cx w h₀ mb) n S (.Attribute e "trail" pos) ρ μ P :=
  ev_attr (hv.mono fun o μ₁ ⟨p, s, h1, h2, h3⟩ => ⟨p.i, p.j, _, .own p.t, h1, h2.i, h2.j, by kernel_rfl!, h3⟩) (by kernel_rfl!) he
theorem a_marks (hv : Ev (cx w h₀ mb) n S e ρ μ fun o μ₁ => ∃ p s, o = .own p.i ∧ SA μ₁ p s ∧ P (.own p.m) μ₁) (he : ∀ env, eval (.Attribute e "marks" pos) env = (do
      let o ← eval e env
      standAt pos.atName
      let r ← holding [o] (getAttr o "marks" true)
      letTemporaryGo e o r
      pure r) := by intro _; with_unfolding_all rfl) : Ev (cx w h₀ mb) n S (.Attribute e "marks" pos) ρ μ P :=
  ev_attr (hv.mono fun o μ₁ ⟨p, s, h1, h2, h3⟩ => ⟨p.i, p.j, _, .own p.m, h1, h2.i, h2.j, by kernel_rfl!, h3⟩) (by kernel_rfl!) he
theorem a_news (hv : Ev (cx w h₀ mb) n S e ρ μ fun o μ₁ => ∃ p s, o = .own p.i ∧ SA μ₁ p s ∧ P (.own p.w) μ₁) (he : ∀ env, eval (.Attribute e "news" pos) env = (do
      let o ← eval e env
      standAt pos.atName
      let r ← holding [o] (getAttr o "news" true)
      letTemporaryGo e o r
      pure r) := by intro _; with_unfolding_all rfl) : Ev (cx w h₀ mb) n S (.Attribute e "news" pos) ρ μ P :=
  ev_attr (hv.mono fun o μ₁ ⟨p, s, h1, h2, h3⟩ => ⟨p.i, p.j, _, .own p.w, h1, h2.i, h2.j, by kernel_rfl!, h3⟩) (by kernel_rfl!) he
theorem dom_get {l : List (List (Int × Int))} {x : Int} {d : List (Int × Int)} (h : l[x.toNat]? = some d) : (l.map dDom)[x.toNat]? = some (dDom d) := by
  rw [List.getElem?_map, h]; rfl
theorem fn_dom {x : Int} {d : List (Int × Int)} (h : SA μ p s) (h0 : 0 ≤ x) (h1 : x < 1000) (hd : s.doms[x.toNat]? = some d) (hp : P (.d (dDom d)) μ) : Fc (cx w h₀ mb) (n+1) 146 [.own p.i, .d (.int x)] μ P := by
  refine fn_callP ["self", "x"] rfl (by kernel_rfl!) (by kernel_rfl!) (by walk_at "def") rfl ?_
  refine xs_ret (ev_sub (a_domains ?_))
  walk_at "e"
  refine ⟨p, s, rfl, h, ?_⟩
  walk_at "e"
  exact sub_lst (.lst h.d) (.d _) h0 (by omega) (dom_get hd) hp
theorem fn_initial {x : Int} {d : List (Int × Int)} (h : SA μ p s) (h0 : 0 ≤ x) (h1 : x < 1000) (hd : s.firsts[x.toNat]? = some d) (hp : P (.d (dDom d)) μ) : Fc (cx w h₀ mb) (n+1) 153 [.own p.i, .d (.int x)] μ P := by
  refine fn_callP ["self", "x"] rfl (by kernel_rfl!) (by kernel_rfl!) (by walk_at "def") rfl ?_
  refine xs_ret (ev_sub (a_firsts ?_))
  walk_at "e"
  refine ⟨p, s, rfl, h, ?_⟩
  walk_at "e"
  exact sub_lst (.lst h.f) (.d _) h0 (by omega) (dom_get hd) hp
theorem fn_low {x : Int} {d : List (Int × Int)} {q : Int × Int} (h : SA μ p s) (h0 : 0 ≤ x) (h1 : x < 1000) (hd : s.doms[x.toNat]? = some d) (hq : d[0]? = some q) (hp : P (.d (.int q.1)) μ) : Fc (cx w h₀ mb) (n+2) 160 [.own p.i, .d (.int x)] μ P := by
  refine fn_callP ["self", "x"] rfl (by kernel_rfl!) (by kernel_rfl!) (by walk_at "def") rfl ?_
  refine xs_ret (c_least (evl_cons (ev_sub (a_domains ?_))))
  walk_at "e"
  refine ⟨p, s, rfl, h, ?_⟩
  walk_at "e"
  exact sub_lst (.lst h.d) (.d _) h0 (by omega) (dom_get hd) (evl_nil (fn_least hq hp))
theorem fn_high {x : Int} {d : List (Int × Int)} {q : Int × Int} (h : SA μ p s) (h0 : 0 ≤ x) (h1 : x < 1000) (hd : s.doms[x.toNat]? = some d) (hq : d.getLast? = some q) (hp : P (.d (.int q.2)) μ) : Fc (cx w h₀ mb) (n+2) 167 [.own p.i, .d (.int x)] μ P := by
  refine fn_callP ["self", "x"] rfl (by kernel_rfl!) (by kernel_rfl!) (by walk_at "def") rfl ?_
  refine xs_ret (c_greatest (evl_cons (ev_sub (a_domains ?_))))
  walk_at "e"
  refine ⟨p, s, rfl, h, ?_⟩
  walk_at "e"
  exact sub_lst (.lst h.d) (.d _) h0 (by omega) (dom_get hd) (evl_nil (fn_greatest hq hp))
noncomputable def fixedB (d : List (Int × Int)) : Bool := match d with
  | [q] => decide (q.1 = q.2)
  | _ => false
theorem fn_is_fixed {x : Int} {d : List (Int × Int)} (h : SA μ p s) (h0 : 0 ≤ x) (h1 : x < 1000) (hd : s.doms[x.toNat]? = some d) (hn : d.length ≤ 1000) (hp : P (.d (.bool (fixedB d))) μ) : Fc (cx w h₀ mb) (n+1) 181 [.own p.i, .d (.int x)] μ P := by
  refine fn_callP ["self", "x"] rfl (by kernel_rfl!) (by kernel_rfl!) (by walk_at "def") rfl ?_
  refine xs_assign (ev_sub (a_domains ?_))
  walk_at "e"
  refine ⟨p, s, rfl, h, ?_⟩
  walk_at "e"
  refine sub_lst (.lst h.d) (.d _) h0 (by omega) (dom_get hd) ?_
  walk_at "nm"
  refine xs_ret (ev_and (ev_cmp (ev_len (by kernel_rfl!) (by kernel_rfl!) (evl_cons ?_))))
  walk_at "e"
  refine evl_nil (op_len_tup (.d _) (by rw [List.length_map]; omega) ?_)
  walk_at "e"
  refine cop_eq (.d _) (.d _) (ok_int _) (ok_int _) ⟨_, rfl, fun hb => ?_, fun hb => ?_⟩
  · rw [eqD_int, List.length_map] at hb
    have hb := of_decide_eq_true hb
    match d, hb with
    | [q], _ =>
      refine ev_cmp ?_
      repeat walk_at "e"
      refine sub_tup (.d _) (.d _) (by decide) (by decide) rfl ?_
      repeat walk_at "e"
      refine sub_tup (.d _) (.d _) (by decide) (by decide) rfl ?_
      repeat walk_at "e"
      refine sub_tup (.d _) (.d _) (by decide) (by decide) rfl ?_
      repeat walk_at "e"
      refine sub_tup (.d _) (.d _) (by decide) (by decide) rfl (cop_eq (.d _) (.d _) (ok_int _) (ok_int _) ?_)
      rw [eqD_int]; exact hp
  · rw [eqD_int, List.length_map] at hb
    have hb := of_decide_eq_false hb
    match d, hb with
    | [], _ => exact hp
    | [q], hb => exact absurd rfl hb
    | _ :: _ :: _, _ => exact hp
theorem fn_depth (h : SA μ p s) (hn : s.marks.length ≤ 1000) (hp : P (.d (.int s.marks.length)) μ) : Fc (cx w h₀ mb) (n+1) 251 [.own p.i] μ P := by
  refine fn_callP ["self"] rfl (by kernel_rfl!) (by kernel_rfl!) (by walk_at "def") rfl ?_
  refine xs_ret (ev_len (by kernel_rfl!) (by kernel_rfl!) (evl_cons (a_marks ?_)))
  walk_at "e"
  refine ⟨p, s, rfl, h, evl_nil (op_len_lst (.lst h.m) (by rw [List.length_map]; omega) ?_)⟩
  rw [List.length_map]; exact hp
theorem fn_push (h : SA μ p s) (hn : s.marks.length ≤ 1000) (hm : s.trail.length ≤ 1000) (hp : ∀ μ', SA μ' p { s with marks := s.marks ++ [(s.trail.length : Int)] } → Oth p μ μ' → P (.d .none) μ') : Fc (cx w h₀ mb) (n+1) 237 [.own p.i] μ P := by
  refine fn_callP ["self"] rfl (by kernel_rfl!) (by kernel_rfl!) (by walk_at "def") rfl ?_
  refine xs_expr (ev_append (a_marks ?_))
  walk_at "e"
  refine ⟨p, s, rfl, h, _, _, rfl, h.m, ev_len (by kernel_rfl!) (by kernel_rfl!) (evl_cons (a_trail ?_))⟩
  walk_at "e"
  refine ⟨p, s, rfl, h, evl_nil (op_len_lst (.lst h.t) (by rw [List.length_map]; omega) ⟨_, _, rfl, h.m, by rw [List.length_map]; omega, ⟨_, rfl, .inl rfl⟩, xs_nil ?_⟩)⟩
  rw [List.length_map]
  have e : s.marks.map D.int ++ [D.int (s.trail.length : Int)] = (s.marks ++ [(s.trail.length : Int)]).map D.int := by rw [List.map_append]; rfl
  rw [e]
  exact hp _ (h.setM _) (.set (by simp [SP.all]))
end
section
variable {w : World} {h₀ : Heap} {mb : Str → Option Value} {n : Nat} {S : Sc} {ρ : Rho} {μ : Mem} {P : V → Mem → Prop} {p : SP} {s : SD} {pos : Pos} {e : Expr}
theorem eqD_tnil (d : List (Int × Int)) : eqD (dDom d) (.tup []) = decide (d = []) := eqD_dom d []
theorem nb_tnil : NB 1 (.tup []) := .tup _ (fun _ h => nomatch h)
theorem fn_new_var {d : List (Int × Int)} (h : SA μ p s) (hd : d ≠ []) (hn : s.doms.length ≤ 1000) (hm : s.firsts.length ≤ 1000)
    (hp : ∀ μ', SA μ' p { s with doms := s.doms ++ [d], firsts := s.firsts ++ [d] } → Oth p μ μ' → ∀ i, P (.d (.int i)) μ') : Fc (cx w h₀ mb) (n+1) 132 [.own p.i, .d (dDom d)] μ P := by
  refine fn_callP ["self", "domain"] rfl (by kernel_rfl!) (by kernel_rfl!) (by walk_at "def") rfl ?_
  refine xs_expr (ev_append (a_domains ?_))
  walk_at "e"
  refine ⟨p, s, rfl, h, _, _, rfl, h.d, ?_⟩
  walk_at "e"
  refine ⟨_, _, rfl, h.d, by rw [List.length_map]; omega, ⟨_, rfl, .inl rfl⟩, ?_⟩
  rw [show s.doms.map dDom ++ [dDom d] = (s.doms ++ [d]).map dDom by rw [List.map_append]; rfl]
  have h1 := h.setD (s.doms ++ [d])
  have o1 : Oth p μ (μ.set p.d (.lst ((s.doms ++ [d]).map dDom))) := .set (by simp [SP.all])
  generalize μ.set p.d (.lst ((s.doms ++ [d]).map dDom)) = μ₁ at h1 o1
  refine xs_expr (ev_append (a_firsts ?_))
  walk_at "e"
  refine ⟨p, _, rfl, h1, _, _, rfl, h1.f, ?_⟩
  walk_at "e"
  refine ⟨_, _, rfl, h1.f, by rw [List.length_map]; exact Nat.le_trans hm (by decide), ⟨_, rfl, .inl rfl⟩, ?_⟩
  rw [show s.firsts.map dDom ++ [dDom d] = (s.firsts ++ [d]).map dDom by rw [List.map_append]; rfl]
  have h2 := h1.setF (s.firsts ++ [d])
  have o2 : Oth p μ₁ (μ₁.set p.f (.lst ((s.firsts ++ [d]).map dDom))) := .set (by simp [SP.all])
  generalize μ₁.set p.f (.lst ((s.firsts ++ [d]).map dDom)) = μ₂ at h2 o2
  refine xs_if (tst_cmp ?_)
  walk_at "e"
  refine ev_tup (evl_nil ⟨_, rfl, by simp, cop_eq (.d _) (.d _) (nb_dom d).ok nb_tnil.ok ⟨_, rfl, fun hb => ?_, fun hb => ?_⟩⟩)
  · rw [eqD_tnil] at hb
    exact absurd (of_decide_eq_true hb) hd
  · refine xs_nil (xs_ret (ev_bin (ev_len (by kernel_rfl!) (by kernel_rfl!) (evl_cons (a_domains ?_)))))
    walk_at "e"
    refine ⟨p, _, rfl, h2, evl_nil (op_len_lst (.lst h2.d) ?_ ?_)⟩
    · rw [List.length_map]
      show (s.doms ++ [d]).length < 2 ^ 40
      rw [List.length_append, List.length_singleton]; omega
    walk_at "e"
    exact bop_sub (hp _ h2 (o1.trans o2) _)
theorem c_enter_len (g : Sg) (k : Int) (d : List (Int × Int)) : True := trivial
theorem fn_enter {x : Int} {g : Sg} {k : Int} {d : List (Int × Int)} (h : SA μ p s) (h0 : 0 ≤ x) (h1 : x < 1000) (hd : s.doms[x.toNat]? = some d) (hdl : d.length ≤ 1000) (hne : strike g k d ≠ []) (hsl : s.trail.length ≤ 1000) (hwl : s.news.length ≤ 1000)
    (hp1 : strike g k d = d → P (.d (.bool true)) μ)
    (hp2 : ∀ μ' nw, nw.length ≤ s.news.length + 1 → SA μ' p { s with doms := s.doms.set x.toNat (strike g k d), trail := s.trail ++ [(x, d, dLit x g k)], news := nw } → Oth p μ μ' → P (.d (.bool true)) μ') :
    Fc (cx w h₀ mb) (n+4) 209 [.own p.i, .d (dLit x g k), .d .none, .d (.int (-1))] μ P := by
  refine fn_callP ["self", "literal", "reasons", "speaker"] rfl (by kernel_rfl!) (by kernel_rfl!) (by walk_at "def") rfl ?_
  refine xs_assign ?_
  repeat walk_at "e"
  refine sub_tup (.d _) (.d _) (by decide) (by decide) rfl ?_
  walk_at "nm"
  refine xs_assign (ev_sub (a_domains ?_))
  walk_at "e"
  refine ⟨p, s, rfl, h, ?_⟩
  walk_at "e"
  refine sub_lst (.lst h.d) (.d _) h0 (by omega) (dom_get hd) ?_
  walk_at "nm"
  refine xs_assign (c_struck (evl_cons ?_))
  walk_at "e"
  refine evl_cons ?_
  walk_at "e"
  refine evl_nil (fn_struck hdl ?_)
  walk_at "nm"
  refine xs_if (tst_cmp ?_)
  walk_at "e"
  refine ev_tup (evl_nil ⟨_, rfl, by simp, cop_eq (.d _) (.d _) (nb_dom _).ok nb_tnil.ok ⟨_, rfl, fun hb => ?_, fun hb => ?_⟩⟩)
  · rw [eqD_tnil] at hb
    exact absurd (of_decide_eq_true hb) hne
  refine xs_nil (xs_if (tst_cmp ?_))
  walk_at "e"
  walk_at "e"
  refine cop_eq (.d _) (.d _) (nb_dom _).ok (nb_dom _).ok ⟨_, rfl, fun hb => ?_, fun hb => ?_⟩
  · rw [eqD_dom] at hb
    refine xs_ret ?_
    walk_at "e"
    exact hp1 (of_decide_eq_true hb)
  refine xs_nil (xs_expr (ev_append (a_trail ?_)))
  walk_at "e"
  refine ⟨p, s, rfl, h, _, _, rfl, h.t, ev_tup (evl_cons ?_)⟩
  walk_at "e"
  refine evl_cons ?_
  walk_at "e"
  refine evl_cons ?_
  walk_at "e"
  refine evl_cons ?_
  walk_at "e"
  refine evl_cons ?_
  walk_at "e"
  refine evl_nil ⟨_, rfl, by simp, _, _, rfl, h.t, by rw [List.length_map]; omega, ⟨_, rfl, .inl rfl⟩, ?_⟩
  have et : s.trail.map dTr ++ [dTr (x, d, dLit x g k)] = (s.trail ++ [(x, d, dLit x g k)]).map dTr := by rw [List.map_append]; rfl
  have h1' := h.setT (s.trail ++ [(x, d, dLit x g k)])
  have o1 : Oth p μ (μ.set p.t (.lst ((s.trail ++ [(x, d, dLit x g k)]).map dTr))) := .set (by simp [SP.all])
  rw [← et] at h1' o1
  refine xs_forget [("self", .own p.i), ("x", .d (.int x)), ("fresh", .d (dDom (strike g k d)))] (.cons rfl (.cons rfl (.cons rfl .nil))) ?_
  generalize μ.set p.t (.lst (s.trail.map dTr ++ [dTr (x, d, dLit x g k)])) = μ₁ at h1' o1
  refine xs_assign ?_
  walk_at "e"
  refine as_sub_lst (a_domains ?_)
  walk_at "e"
  refine ⟨p, _, rfl, h1', ?_⟩
  walk_at "e"
  have lx : x.toNat < s.doms.length := (List.getElem?_eq_some_iff.mp hd).1
  refine ⟨p.d, s.doms.map dDom, x, rfl, rfl, h0, by omega, by rw [List.length_map]; omega, h1'.d, ?_⟩
  have h2 := h1'.setD (s.doms.set x.toNat (strike g k d))
  have o2 : Oth p μ₁ (μ₁.set p.d (.lst ((s.doms.set x.toNat (strike g k d)).map dDom))) := .set (by simp [SP.all])
  rw [List.map_set] at h2 o2
  generalize μ₁.set p.d (.lst ((s.doms.map dDom).set x.toNat (dDom (strike g k d)))) = μ₂ at h2 o2
  refine xs_assign ?_
  walk_at "e"
  refine as_sub_dct (a_news ?_)
  walk_at "e"
  refine ⟨p, _, rfl, h2, ?_⟩
  walk_at "e"
  refine ⟨p.w, _, x, rfl, rfl, Nat.lt_of_le_of_lt hwl (by decide), h2.w, ?_⟩
  have h3 := h2.setW (putK s.news x (.bool true))
  have o3 : Oth p μ₂ (μ₂.set p.w (.dct (putK s.news x (.bool true)))) := .set (by simp [SP.all])
  refine xs_ret ?_
  walk_at "e"
  refine hp2 _ _ ?_ h3 ((o1.trans o2).trans o3)
  unfold putK
  split
  · rw [List.length_map]; exact Nat.le_succ _
  · rw [List.length_append]; exact Nat.le_refl _
theorem fn_decide {x : Int} {g : Sg} {k : Int} {d : List (Int × Int)} (h : SA μ p s) (h0 : 0 ≤ x) (h1 : x < 1000) (hd : s.doms[x.toNat]? = some d) (hdl : d.length ≤ 1000) (hne : strike g k d ≠ []) (hsl : s.trail.length ≤ 1000) (hwl : s.news.length ≤ 1000)
    (hp1 : strike g k d = d → P (.d (.bool true)) μ)
    (hp2 : ∀ μ' nw, nw.length ≤ s.news.length + 1 → SA μ' p { s with doms := s.doms.set x.toNat (strike g k d), trail := s.trail ++ [(x, d, dLit x g k)], news := nw } → Oth p μ μ' → P (.d (.bool true)) μ') :
    Fc (cx w h₀ mb) (n+5) 223 [.own p.i, .d (dLit x g k)] μ P := by
  refine fn_callP ["self", "literal"] rfl (by kernel_rfl!) (by kernel_rfl!) (by walk_at "def") rfl ?_
  refine xs_ret (m_enter ?_)
  walk_at "e"
  refine ⟨p.i, _, rfl, h.inst, by kernel_rfl!, evl_cons ?_⟩
  walk_at "e"
  refine evl_cons ?_
  walk_at "e"
  refine evl_cons ?_
  walk_at "e"
  walk_at "e"
  refine ⟨1, rfl, evl_nil ?_⟩
  exact fn_enter h h0 h1 hd hdl hne hsl hwl hp1 hp2
end
section
variable {w : World} {h₀ : Heap} {mb : Str → Option Value} {n : Nat} {S : Sc} {ρ : Rho} {μ : Mem} {P : V → Mem → Prop} {p : SP} {s : SD} {pos : Pos} {e : Expr}
theorem setF_marks (p : SP) (b : Bool) (c : List D) (L : Nat) : setF (stf p b c) "marks" (.own L) = stf { p with m := L } b c := by kernel_rfl!
theorem setF_news (p : SP) (b : Bool) (c : List D) (L : Nat) : setF (stf p b c) "news" (.own L) = stf { p with w := L } b c := by kernel_rfl!
theorem setF_bad (p : SP) (b b' : Bool) (c : List D) : setF (stf p b c) "is_failed" (.d (.bool b')) = stf p b' c := by kernel_rfl!
theorem setF_clash (p : SP) (b : Bool) (c c' : List D) : setF (stf p b c) "clash" (.d (.tup c')) = stf p b c' := by kernel_rfl!
theorem get_grow {μ : Mem} {k : Nat} {c d : Cell} (h : μ[k]? = some c) : (μ ++ [d])[k]? = some c := by
  rw [List.getElem?_append_left (set_lt h)]; exact h
/-- a store whose marks lie anew -/
theorem SA.newM (h : SA μ p s) (ms : List Int) : SA ((μ ++ [Cell.lst (ms.map .int)]).set p.j (.ns (stf { p with m := μ.length } s.bad s.clash))) { p with m := μ.length } { s with marks := ms } := by
  have lt : ∀ {k c}, μ[k]? = some c → k ≠ μ.length := fun e => Nat.ne_of_lt (set_lt e)
  have g : ∀ {k c}, μ[k]? = some c → p.j ≠ k → ((μ ++ [Cell.lst (ms.map .int)]).set p.j (.ns (stf { p with m := μ.length } s.bad s.clash)))[k]? = some c := fun e q => by
    rw [List.getElem?_set_ne q]; exact get_grow e
  refine ⟨g h.i (ne_of_get h.j h.i nofun), getElem?_set_self' (get_grow h.j), g h.d (ne_of_get h.j h.d nofun), g h.f (ne_of_get h.j h.f nofun), g h.t (ne_of_get h.j h.t nofun), ?_, g h.w (ne_of_get h.j h.w nofun), h.df, h.dt, lt h.d, h.ft, lt h.f, lt h.t⟩
  rw [List.getElem?_set_ne (lt h.j)]; exact get_app _ _
theorem SA.newW (h : SA μ p s) : SA ((μ ++ [Cell.dct []]).set p.j (.ns (stf { p with w := μ.length } s.bad s.clash))) { p with w := μ.length } { s with news := [] } := by
  have lt : ∀ {k c}, μ[k]? = some c → k ≠ μ.length := fun e => Nat.ne_of_lt (set_lt e)
  have g : ∀ {k c}, μ[k]? = some c → p.j ≠ k → ((μ ++ [Cell.dct []]).set p.j (.ns (stf { p with w := μ.length } s.bad s.clash)))[k]? = some c := fun e q => by
    rw [List.getElem?_set_ne q]; exact get_grow e
  refine ⟨g h.i (ne_of_get h.j h.i nofun), getElem?_set_self' (get_grow h.j), g h.d (ne_of_get h.j h.d nofun), g h.f (ne_of_get h.j h.f nofun), g h.t (ne_of_get h.j h.t nofun), g h.m (ne_of_get h.j h.m nofun), ?_, h.df, h.dt, h.dm, h.ft, h.fm, h.tm⟩
  rw [List.getElem?_set_ne (lt h.j)]; exact get_app _ _
theorem SA.setB (h : SA μ p s) (b : Bool) (c : List D) : SA (μ.set p.j (.ns (stf p b c))) p { s with bad := b, clash := c } := by
  have g : ∀ {k d}, μ[k]? = some d → p.j ≠ k → (μ.set p.j (.ns (stf p b c)))[k]? = some d := fun e q => by
    rw [List.getElem?_set_ne q]; exact e
  exact ⟨g h.i (ne_of_get h.j h.i nofun), getElem?_set_self' h.j, g h.d (ne_of_get h.j h.d nofun), g h.f (ne_of_get h.j h.f nofun), g h.t (ne_of_get h.j h.t nofun), g h.m (ne_of_get h.j h.m nofun), g h.w (ne_of_get h.j h.w nofun), h.df, h.dt, h.dm, h.ft, h.fm, h.tm⟩
theorem Oth.grow {c d : Cell} : Oth p μ ((μ ++ [c]).set p.j d) := fun k e n h => by
  have q : p.j ≠ k := fun q => n (q ▸ by simp [SP.all])
  rw [List.getElem?_set_ne q]; exact get_grow h
/-- another place for the same store -/
noncomputable def Nx (L : Nat) (p p' : SP) : Prop := p'.i = p.i ∧ ∀ k, k < L → k ∉ p.all → k ∉ p'.all
theorem Nx.newM {L : Nat} {a : Nat} (h : L ≤ a) : Nx L p { p with m := a } := by
  refine ⟨rfl, fun k hk hn => ?_⟩
  simp only [SP.all, List.mem_cons, List.not_mem_nil, or_false, not_or] at hn ⊢
  refine ⟨hn.1, hn.2.1, hn.2.2.1, hn.2.2.2.1, hn.2.2.2.2.1, by omega, hn.2.2.2.2.2.2⟩
theorem Nx.newW {L : Nat} {a : Nat} (h : L ≤ a) : Nx L p { p with w := a } := by
  refine ⟨rfl, fun k hk hn => ?_⟩
  simp only [SP.all, List.mem_cons, List.not_mem_nil, or_false, not_or] at hn ⊢
  refine ⟨hn.1, hn.2.1, hn.2.2.1, hn.2.2.2.1, hn.2.2.2.2.1, hn.2.2.2.2.2.1, by omega⟩
theorem Nx.trans {L : Nat} {p' p'' : SP} (h : Nx L p p') (k : Nx L p' p'') : Nx L p p'' := ⟨k.1.trans h.1, fun a b c => k.2 a b (h.2 a b c)⟩
/-- what stands beside the store -/
noncomputable def Bes (p p' : SP) (μ μ' : Mem) : Prop := ∀ k c, k ∉ p.all → μ[k]? = some c → μ'[k]? = some c ∧ k ∉ p'.all
theorem nb_doms (l : List (List (Int × Int))) : NB 3 (.lst (l.map dDom)) := .lst _ (nb_map nb_dom)
theorem any_empty (l : List (List (Int × Int))) (h : ∀ d ∈ l, d ≠ []) : ((l.map dDom).any fun y => eqD y (.tup [])) = false := by
  rw [List.any_map, List.any_eq_false]
  intro d hd
  show ¬ eqD (dDom d) (.tup []) = true
  rw [eqD_tnil]
  simpa using h d hd
theorem fn_pop {ms : List Int} {mk : Int} (R : List (List (Int × Int)) → List (Int × List (Int × Int) × D) → Prop) (h : SA μ p s) (hms : s.marks = ms ++ [mk]) (hmk : 0 ≤ mk) (hml : ms.length ≤ 1000) (hfs : ∀ d ∈ s.firsts, d ≠ []) (hfl : s.firsts.length ≤ 1000)
    (hR : R s.doms s.trail) (htl : s.trail.length ≤ 1000) (hstep : ∀ doms tr e, R doms (tr ++ [e]) → 0 ≤ e.1 ∧ e.1 < 1000 ∧ e.1.toNat < doms.length ∧ R (doms.set e.1.toNat e.2.1) tr)
    (hp : ∀ μ' p' doms tr, R doms tr → tr.length ≤ s.trail.length → p'.i = p.i → SA μ' p' ⟨doms, s.firsts, tr, ms, [], false, []⟩ → Bes p p' μ μ' → P (.d .none) μ') : Fc (cx w h₀ mb) (n+1) 244 [.own p.i, .d (.int 1)] μ P := by
  refine fn_callP ["self", "n"] rfl (by kernel_rfl!) (by kernel_rfl!) (by walk_at "def") rfl ?_
  refine xs_if (tst_cmp ?_)
  walk_at "e"
  walk_at "e"
  refine cop_lt ⟨_, rfl, fun hb => ?_, fun _ => ?_⟩
  · cases hb
  have lm : (s.marks.map D.int).length = ms.length + 1 := by rw [hms, List.length_map, List.length_append]; rfl
  refine xs_nil (xs_assign (ev_sub (a_marks ?_)))
  walk_at "e"
  refine ⟨p, s, rfl, h, ev_bin (ev_len (by kernel_rfl!) (by kernel_rfl!) (evl_cons (a_marks ?_)))⟩
  walk_at "e"
  refine ⟨p, s, rfl, h, evl_nil (op_len_lst (.lst h.m) (by omega) ?_)⟩
  walk_at "e"
  rw [lm]
  refine bop_sub (sub_lst (.lst h.m) (.d _) (by omega) (by omega) (x := .int mk) ?_ ?_)
  · rw [show ((ms.length + 1 : Nat) : Int) - 1 = (ms.length : Int) by omega, Int.toNat_natCast, hms, List.map_append, List.getElem?_append_right (by simp)]; simp
  walk_at "nm"
  refine xs_assign (ev_slice_own (a_marks ?_))
  walk_at "e"
  refine ⟨p, s, rfl, h, ev_bin (ev_len (by kernel_rfl!) (by kernel_rfl!) (evl_cons (a_marks ?_)))⟩
  walk_at "e"
  refine ⟨p, s, rfl, h, evl_nil (op_len_lst (.lst h.m) (by omega) ?_)⟩
  walk_at "e"
  rw [lm]
  refine bop_sub ⟨_, _, .lst h.m, rfl, by omega, by omega, ?_⟩
  have et : (s.marks.map D.int).take (((ms.length + 1 : Nat) : Int) - 1).toNat = ms.map .int := by
    rw [show (((ms.length + 1 : Nat) : Int) - 1).toNat = ms.length by omega, hms, List.map_append, List.take_append_of_le_length (by simp), List.take_of_length_le (by simp)]
  rw [et]
  refine as_attr ?_ (by kernel_rfl!) (by kernel_rfl!)
  walk_at "e"
  refine ⟨p.i, p.j, _, rfl, get_grow h.i, get_grow h.j, by simp, ?_⟩
  rw [setF_marks]
  have h1 := h.newM ms
  have o1 : Oth p μ ((μ ++ [Cell.lst (ms.map .int)]).set p.j (.ns (stf { p with m := μ.length } s.bad s.clash))) := .grow
  have n1 : Nx μ.length p { p with m := μ.length } := .newM (Nat.le_refl _)
  generalize (μ ++ [Cell.lst (ms.map .int)]).set p.j (.ns (stf { p with m := μ.length } s.bad s.clash)) = μ₁ at h1 o1
  have hi1 : ({ p with m := μ.length } : SP).i = p.i := rfl
  generalize ({ p with m := μ.length } : SP) = p₁ at h1 n1 hi1
  have B1 : Bes p p₁ μ μ₁ := fun k c hk e => ⟨o1 k c hk e, n1.2 k (set_lt e) hk⟩
  refine xs_forget [("self", .own p₁.i), ("mark", .d (.int mk))] (by rw [hi1]; exact .cons rfl (.cons rfl .nil)) ?_
  refine xs_while (fun k ρ' μ' => ∃ doms tr, k = tr.length ∧ R doms tr ∧ tr.length ≤ s.trail.length ∧ SA μ' p₁ ⟨doms, s.firsts, tr, ms, s.news, s.bad, s.clash⟩ ∧ Bes p p₁ μ μ' ∧ Sub' [("self", .own p₁.i), ("mark", .d (.int mk))] ρ') s.trail.length ⟨s.doms, s.trail, rfl, hR, Nat.le_refl _, h1, B1, .refl⟩ ?_
  rintro k ρ₁ μ₁ ⟨doms, tr, rfl, hRt, ltr, h2, B2, sb⟩
  refine ⟨_, sb, tst_cmp (ev_len (by kernel_rfl!) (by kernel_rfl!) (evl_cons (a_trail ?_)))⟩
  walk_at "e"
  refine ⟨p₁, _, rfl, h2, evl_nil (op_len_lst (.lst h2.t) (by rw [List.length_map]; dsimp only; omega) ?_)⟩
  walk_at "e"
  rw [List.length_map]
  refine cop_gt ⟨_, rfl, fun hb => ?_, fun hb => ?_⟩
  · have hb := of_decide_eq_true hb
    dsimp only at hb
    obtain ⟨tr', e, rfl⟩ : ∃ tr' e, tr = tr' ++ [e] := by
      have : tr ≠ [] := fun q => by rw [q] at hb; simp at hb; omega
      exact ⟨tr.dropLast, tr.getLast this, (List.dropLast_concat_getLast this).symm⟩
    obtain ⟨e0, e1, e2, e3⟩ := hstep _ _ _ hRt
    have le : tr'.length + 1 ≤ s.trail.length := by rw [List.length_append] at ltr; exact ltr
    refine xs_assign (ev_pop (a_trail ?_))
    walk_at "e"
    have ht := h2.t
    refine ⟨p₁, _, rfl, h2, _, tr'.map dTr, dTr e, rfl, by rw [ht, List.map_append]; rfl, by rw [List.length_map]; omega, ?_⟩
    have h3 := h2.setT tr'
    have B3 : Bes p p₁ μ (μ₁.set p₁.t (.lst (tr'.map dTr))) := fun k c hk e => by
      obtain ⟨a, b⟩ := B2 k c hk e
      have q : p₁.t ≠ k := fun q => b (q ▸ by simp [SP.all])
      exact ⟨by rw [List.getElem?_set_ne q]; exact a, b⟩
    generalize μ₁.set p₁.t (.lst (tr'.map dTr)) = μ₂ at h3 B3
    walk_at "nm"
    refine xs_assign ?_
    repeat walk_at "e"
    refine sub_tup (.d _) (.d _) (by decide) (by decide) rfl (as_sub_lst (a_domains ?_))
    walk_at "e"
    refine ⟨p₁, _, rfl, h3, ?_⟩
    repeat walk_at "e"
    refine sub_tup (.d _) (.d _) (by decide) (by decide) rfl ⟨p₁.d, doms.map dDom, e.1, rfl, rfl, e0, by omega, by rw [List.length_map]; omega, h3.d, ?_⟩
    have h4 := h3.setD (doms.set e.1.toNat e.2.1)
    have B4 : Bes p p₁ μ (μ₂.set p₁.d (.lst ((doms.set e.1.toNat e.2.1).map dDom))) := fun k c hk e => by
      obtain ⟨a, b⟩ := B3 k c hk e
      have q : p₁.d ≠ k := fun q => b (q ▸ by simp [SP.all])
      exact ⟨by rw [List.getElem?_set_ne q]; exact a, b⟩
    rw [List.map_set] at h4 B4
    exact xs_nil ⟨tr'.length, by rw [List.length_append]; exact Nat.lt_succ_self _, _, tr', rfl, e3, by omega, h4, B4, Sub'.app⟩
  · refine xs_assign (ev_dct_own ?_)
    refine as_attr ?_ (by kernel_rfl!) (by kernel_rfl!)
    walk_at "e"
    refine ⟨p₁.i, p₁.j, _, rfl, get_grow h2.i, get_grow h2.j, by simp, ?_⟩
    rw [setF_news]
    have h3 := h2.newW
    have n3 : Nx μ₁.length p₁ { p₁ with w := μ₁.length } := .newW (Nat.le_refl _)
    have B3 : Bes p { p₁ with w := μ₁.length } μ ((μ₁ ++ [Cell.dct []]).set p₁.j (.ns (stf { p₁ with w := μ₁.length } s.bad s.clash))) := fun k c hk e => by
      obtain ⟨a, b⟩ := B2 k c hk e
      exact ⟨Oth.grow k c b a, n3.2 k (set_lt a) b⟩
    dsimp only at h3
    generalize (μ₁ ++ [Cell.dct []]).set p₁.j (.ns (stf { p₁ with w := μ₁.length } s.bad s.clash)) = μ₂ at h3 B3
    have hi3 : ({ p₁ with w := μ₁.length } : SP).i = p₁.i := rfl
    generalize ({ p₁ with w := μ₁.length } : SP) = p₂ at h3 B3 hi3
    refine xs_forget [("self", .own p₂.i)] (by rw [hi3]; exact .cons rfl .nil) ?_
    refine xs_assign (ev_cmp (ev_tup (evl_nil ⟨_, rfl, by simp, a_firsts ?_⟩)))
    walk_at "e"
    refine ⟨p₂, _, rfl, h3, cop_in (.d _) (.lst h3.f) nb_tnil.ok (nb_doms _).ok ?_⟩
    rw [any_empty _ hfs]
    refine as_attr ?_ (by kernel_rfl!) (by kernel_rfl!)
    walk_at "e"
    refine ⟨p₂.i, p₂.j, _, rfl, h3.i, h3.j, by simp, ?_⟩
    rw [setF_bad]
    have h4 := h3.setB false s.clash
    have B4 : Bes p p₂ μ (μ₂.set p₂.j (.ns (stf p₂ false s.clash))) := fun k c hk e => by
      obtain ⟨a, b⟩ := B3 k c hk e
      have q : p₂.j ≠ k := fun q => b (q ▸ by simp [SP.all])
      exact ⟨by rw [List.getElem?_set_ne q]; exact a, b⟩
    dsimp only
    generalize μ₂.set p₂.j (.ns (stf p₂ false s.clash)) = μ₃ at h4 B4
    refine xs_assign (ev_tup (evl_nil ⟨_, rfl, by simp, ?_⟩))
    refine as_attr ?_ (by kernel_rfl!) (by kernel_rfl!)
    walk_at "e"
    refine ⟨p₂.i, p₂.j, _, rfl, h4.i, h4.j, by simp, ?_⟩
    rw [setF_clash]
    have h5 := h4.setB false []
    have B5 : Bes p p₂ μ (μ₃.set p₂.j (.ns (stf p₂ false []))) := fun k c hk e => by
      obtain ⟨a, b⟩ := B4 k c hk e
      have q : p₂.j ≠ k := fun q => b (q ▸ by simp [SP.all])
      exact ⟨by rw [List.getElem?_set_ne q]; exact a, b⟩
    refine xs_nil (hp _ p₂ doms tr hRt ltr (hi3.trans hi1) h5 B5)
end
section
variable {w : World} {h₀ : Heap} {mb : Str → Option Value} {n : Nat} {S : Sc} {ρ : Rho} {μ : Mem} {P : V → Mem → Prop} {p : SP} {s : SD} {pos : Pos} {e : Expr} {rest : List Stmt} {nx cn : Rho → Mem → Prop} {rt : V → Mem → Prop}
theorem at_app (M l : List Cell) (k : Nat) : (M ++ l)[M.length + k]? = l[k]? := by
  rw [List.getElem?_append_right (Nat.le_add_right _ _), Nat.add_sub_cancel_left]
theorem set_at (M l : List Cell) (k : Nat) (c : Cell) : (M ++ l).set (M.length + k) c = M ++ l.set k c := by
  rw [List.set_append_right _ _ (Nat.le_add_right _ _), Nat.add_sub_cancel_left]
theorem as_self {M l : List Cell} {fs fs' : List (Str × V)} {attr : Str} {v : V} {p1 p2 : Pos} {PA : Rho → Mem → Prop} (hj : l[0]? = some (.ns fs)) (hi : l[1]? = some (.inst M.length)) (hfs : setF fs attr v = fs') (hlen : fs.length ≤ 1000) (hρ : ρ.lookup ("self" : Str) = some (.own (M.length + 1)))
    (hf : nsIn (cx w h₀ mb).K (cx w h₀ mb).N attr = some none) (hB : typeLookup (.type "object") attr = pure none) (k : PA ρ (M ++ l.set 0 (.ns fs'))) : As (cx w h₀ mb) n S (.Attribute (.Name "self" p1) attr p2) v ρ (M ++ l) PA := by
  refine as_attr (ev_var hρ ⟨M.length + 1, M.length, fs, rfl, ?_, ?_, hlen, ?_⟩) hf hB
  · rw [at_app]; exact hi
  · have := at_app M l 0
    rw [Nat.add_zero] at this
    rw [this]; exact hj
  · have := set_at M l 0 (.ns (setF fs attr v))
    rw [Nat.add_zero] at this
    rw [this, hfs]; exact k
theorem init_nil {M l : List Cell} {fs fs' : List (Str × V)} {attr : Str} {p1 p2 p3 p4 : Pos} (hj : l[0]? = some (.ns fs)) (hi : l[1]? = some (.inst M.length)) (hfs : setF fs attr (.own (M.length + l.length)) = fs') (hlen : fs.length ≤ 1000) (hρ : ρ.lookup ("self" : Str) = some (.own (M.length + 1)))
    (hf : nsIn (cx w h₀ mb).K (cx w h₀ mb).N attr = some none) (hB : typeLookup (.type "object") attr = pure none) (k : Exs (cx w h₀ mb) n S rest ρ (M ++ (l ++ [Cell.lst []]).set 0 (.ns fs')) (Po nx cn rt)) :
    Exs (cx w h₀ mb) n S (.Assign [.Attribute (.Name "self" p1) attr p2] (.List [] p3) p4 :: rest) ρ (M ++ l) (Po nx cn rt) := by
  refine xs_assign (ev_nil_own ?_)
  rw [List.append_assoc, List.length_append]
  exact as_self (by rw [List.getElem?_append_left (List.getElem?_eq_some_iff.mp hj).1]; exact hj) (by rw [List.getElem?_append_left (List.getElem?_eq_some_iff.mp hi).1]; exact hi) hfs hlen hρ hf hB k
theorem init_dct {M l : List Cell} {fs fs' : List (Str × V)} {attr : Str} {p1 p2 p3 p4 : Pos} (hj : l[0]? = some (.ns fs)) (hi : l[1]? = some (.inst M.length)) (hfs : setF fs attr (.own (M.length + l.length)) = fs') (hlen : fs.length ≤ 1000) (hρ : ρ.lookup ("self" : Str) = some (.own (M.length + 1)))
    (hf : nsIn (cx w h₀ mb).K (cx w h₀ mb).N attr = some none) (hB : typeLookup (.type "object") attr = pure none) (k : Exs (cx w h₀ mb) n S rest ρ (M ++ (l ++ [Cell.dct []]).set 0 (.ns fs')) (Po nx cn rt)) :
    Exs (cx w h₀ mb) n S (.Assign [.Attribute (.Name "self" p1) attr p2] (.Dict [] [] p3) p4 :: rest) ρ (M ++ l) (Po nx cn rt) := by
  refine xs_assign (ev_dct_own ?_)
  rw [List.append_assoc, List.length_append]
  exact as_self (by rw [List.getElem?_append_left (List.getElem?_eq_some_iff.mp hj).1]; exact hj) (by rw [List.getElem?_append_left (List.getElem?_eq_some_iff.mp hi).1]; exact hi) hfs hlen hρ hf hB k
noncomputable abbrev newP (L : Nat) : SP := ⟨L + 1, L, L + 2, L + 3, L + 4, L + 5, L + 6⟩
theorem fn_init {M : Mem} (hp : P (.d .none) (M ++ [.ns (stf (newP M.length) false []), .inst M.length, .lst [], .lst [], .lst [], .lst [], .dct []])) : Fc (cx w h₀ mb) (n+1) 125 [.own (M.length + 1)] (M ++ [.ns []] ++ [.inst M.length]) P := by
  refine fn_callP ["self"] rfl (by kernel_rfl!) (by kernel_rfl!) (by walk_at "def") rfl ?_
  rw [List.append_assoc]
  refine init_nil (fs' := [("domains", .own (M.length + 2))]) rfl rfl (by kernel_rfl!) (Nat.le_of_ble_eq_true rfl) rfl (by kernel_rfl!) (by kernel_rfl!) ?_
  refine init_nil (fs' := [("domains", .own (M.length + 2)), ("firsts", .own (M.length + 3))]) rfl rfl (by kernel_rfl!) (Nat.le_of_ble_eq_true rfl) rfl (by kernel_rfl!) (by kernel_rfl!) ?_
  refine init_nil (fs' := [("domains", .own (M.length + 2)), ("firsts", .own (M.length + 3)), ("trail", .own (M.length + 4))]) rfl rfl (by kernel_rfl!) (Nat.le_of_ble_eq_true rfl) rfl (by kernel_rfl!) (by kernel_rfl!) ?_
  refine init_nil (fs' := [("domains", .own (M.length + 2)), ("firsts", .own (M.length + 3)), ("trail", .own (M.length + 4)), ("marks", .own (M.length + 5))]) rfl rfl (by kernel_rfl!) (Nat.le_of_ble_eq_true rfl) rfl (by kernel_rfl!) (by kernel_rfl!) ?_
  refine init_dct (fs' := [("domains", .own (M.length + 2)), ("firsts", .own (M.length + 3)), ("trail", .own (M.length + 4)), ("marks", .own (M.length + 5)), ("news", .own (M.length + 6))]) rfl rfl (by kernel_rfl!) (Nat.le_of_ble_eq_true rfl) rfl (by kernel_rfl!) (by kernel_rfl!) ?_
  refine xs_assign ?_
  walk_at "e"
  walk_at "e"
  refine ⟨1, rfl, as_self (fs' := [("domains", .own (M.length + 2)), ("firsts", .own (M.length + 3)), ("trail", .own (M.length + 4)), ("marks", .own (M.length + 5)), ("news", .own (M.length + 6)), ("speaker", .d (.int (-1)))]) rfl rfl (by kernel_rfl!) (Nat.le_of_ble_eq_true rfl) rfl (by kernel_rfl!) (by kernel_rfl!) ?_⟩
  refine xs_assign ?_
  walk_at "e"
  refine as_self (fs' := [("domains", .own (M.length + 2)), ("firsts", .own (M.length + 3)), ("trail", .own (M.length + 4)), ("marks", .own (M.length + 5)), ("news", .own (M.length + 6)), ("speaker", .d (.int (-1))), ("is_failed", .d (.bool false))]) rfl rfl (by kernel_rfl!) (Nat.le_of_ble_eq_true rfl) rfl (by kernel_rfl!) (by kernel_rfl!) ?_
  refine xs_assign (ev_tup (evl_nil ⟨_, rfl, by simp, ?_⟩))
  refine as_self (fs' := [("domains", .own (M.length + 2)), ("firsts", .own (M.length + 3)), ("trail", .own (M.length + 4)), ("marks", .own (M.length + 5)), ("news", .own (M.length + 6)), ("speaker", .d (.int (-1))), ("is_failed", .d (.bool false)), ("clash", .d (.tup []))]) rfl rfl (by kernel_rfl!) (Nat.le_of_ble_eq_true rfl) rfl (by kernel_rfl!) (by kernel_rfl!) ?_
  exact xs_nil hp
noncomputable abbrev newS : SD := ⟨[], [], [], [], [], false, []⟩
theorem sa_new (M : Mem) : SA (M ++ [.ns (stf (newP M.length) false []), .inst M.length, .lst [], .lst [], .lst [], .lst [], .dct []]) (newP M.length) newS := by
  have z := at_app M [.ns (stf (newP M.length) false []), .inst M.length, .lst [], .lst [], .lst [], .lst [], .dct []]
  refine ⟨z 1, z 0, z 2, z 3, z 4, z 5, z 6, ?_, ?_, ?_, ?_, ?_, ?_⟩ <;> (show M.length + _ ≠ M.length + _; omega)
theorem ev_store {p' : Pos} (hx : S.sc.names.lookup ("Store" : Str) = some .globalImplicit) (hp : ∀ μ', SA μ' (newP μ.length) newS → μ <+: μ' → μ'.length = μ.length + 7 → P (.own (newP μ.length).i) μ') : Ev (cx w h₀ mb) (n+2) S (.Call (.Name "Store" p') [] [] pos) ρ μ P :=
  ev_make (fI := 125) hx (by kernel_rfl!) (by kernel_rfl!) (by kernel_rfl!) (by kernel_rfl!) (by kernel_rfl!) (fn_init ⟨rfl, hp _ (sa_new μ) ⟨_, rfl⟩ (by simp)⟩)
noncomputable def valsOf (d : List (Int × Int)) : List Int := d.flatMap fun q => (List.range (q.2 + 1 - q.1).toNat).map fun (i : Nat) => q.1 + (i : Int)
end
section
variable {w : World} {h₀ : Heap} {mb : Str → Option Value} {n : Nat} {S : Sc} {ρ : Rho} {μ : Mem} {P : V → Mem → Prop} {p : SP} {s : SD} {pos : Pos} {e : Expr} {rest : List Stmt} {nx cn : Rho → Mem → Prop} {rt : V → Mem → Prop}
theorem xs_ifC (C : Prop) {X : Cx} {t : Expr} {b c : List Stmt} {pos : Pos} (h : Tst X n S t ρ μ fun v μ₁ => (v = true ↔ C) ∧ μ₁ = μ) (ht : C → Exs X n S b ρ μ (Po (fun ρ' μ' => Exs X n S rest ρ' μ' (Po nx cn rt)) cn rt)) (hf : ¬ C → Exs X n S c ρ μ (Po (fun ρ' μ' => Exs X n S rest ρ' μ' (Po nx cn rt)) cn rt)) :
    Exs X n S (.If t b c pos :: rest) ρ μ (Po nx cn rt) :=
  xs_if (h.mono fun v μ₁ ⟨k, e⟩ => by subst e; exact ⟨fun w => ht (k.mp w), fun w => hf fun q => by rw [k.mpr q] at w; cases w⟩)
structure DomB (d : List (Int × Int)) : Prop where
  le : d.length ≤ 10
  bd : ∀ q ∈ d, -1000 ≤ q.1 ∧ q.1 ≤ 1000 ∧ -1000 ≤ q.2 ∧ q.2 ≤ 1000
theorem valsOf_len {d : List (Int × Int)} (h : ∀ q ∈ d, -1000 ≤ q.1 ∧ q.1 ≤ 1000 ∧ -1000 ≤ q.2 ∧ q.2 ≤ 1000) : (valsOf d).length ≤ d.length * 3000 := by
  induction d with
  | nil => exact Nat.le_refl _
  | cons q d ih =>
    have := ih fun q hq => h q (.tail _ hq)
    have := h q (.head _)
    have e : valsOf (q :: d) = ((List.range (q.2 + 1 - q.1).toNat).map fun (i : Nat) => q.1 + (i : Int)) ++ valsOf d := rfl
    rw [e, List.length_append, List.length_map, List.length_range, List.length_cons]
    omega
theorem valsOf_app (a b : List (Int × Int)) : valsOf (a ++ b) = valsOf a ++ valsOf b := List.flatMap_append
theorem range_snoc (a : Int) (k : Nat) : (List.range (k + 1)).map (fun (i : Nat) => a + (i : Int)) = (List.range k).map (fun (i : Nat) => a + (i : Int)) ++ [a + k] := by
  rw [List.range_succ, List.map_append]; rfl
theorem fn_now {a b c : List (Int × Int)} (h : SA μ p s) (hs : s.doms = [a, b, c]) (ha : DomB a) (hb : DomB b) (hc : DomB c) (hp : P (.d (.lst [dInts (valsOf a), dInts (valsOf b), dInts (valsOf c)])) μ) : Fc (cx w h₀ mb) (n+2) 289 [.own p.i] μ P := by
  refine fn_callP ["store_now"] rfl (by kernel_rfl!) (by kernel_rfl!) (by walk_at "def") rfl ?_
  refine xs_ret ?_
  refine ev_cmap [("store_now", .own p.i)] (List.range 3) (fun (i : Nat) => D.int (0 + (i : Int))) (fun i => (s.doms[i]?).map fun d => dInts (valsOf d)) (ckC_of (by kernel_rfl!) (all_cons rfl all_nil)) (by simp)
    (evit_range1 (.name _ _) (by kernel_rfl!) (by kernel_rfl!) (ev_int ⟨3, rfl, by decide, rfl, rfl⟩)) (fun i hi => ?_) ?_
  · have hi : i < 3 := List.mem_range.mp hi
    obtain ⟨d, hd, hD⟩ : ∃ d, s.doms[i]? = some d ∧ DomB d := by
      rw [hs]
      match i, hi with
      | 0, _ => exact ⟨a, rfl, ha⟩
      | 1, _ => exact ⟨b, rfl, hb⟩
      | 2, _ => exact ⟨c, rfl, hc⟩
    have hd' : s.doms[(0 + (i : Int)).toNat]? = some d := by rw [Int.zero_add, Int.toNat_natCast]; exact hd
    walk_at "nm"
    refine ⟨rfl, Sub'.app, tsts_nil ⟨fun _ => ?_, nofun⟩⟩
    refine ev_comp [] (fun ys ρ₁ μ₁ acc => ∃ done todo, d = done ++ todo ∧ ys = todo.map dI ∧ acc = (valsOf done).map D.int ∧ μ = μ₁) (ckC_of (by kernel_rfl!) all_nil) ?_ ?_ ?_
    · refine evit_tup (.tup _ _ _) (m_dom ?_)
      walk_at "e"
      refine ⟨p.i, _, rfl, h.inst, by kernel_rfl!, evl_cons ?_⟩
      walk_at "e"
      exact evl_nil (fn_dom h (by omega) (by omega) hd' ⟨_, rfl, [], d, rfl, rfl, rfl, rfl⟩)
    · rintro x rest ρ₁ μ₁ acc ⟨done, todo, e, ey, rfl, rfl⟩
      obtain _ | ⟨t, todo⟩ := todo
      · cases ey
      rw [List.map_cons, List.cons.injEq] at ey
      obtain ⟨rfl, rfl⟩ := ey
      have ht := hD.bd t (by rw [e]; simp)
      have ld : done.length + 1 ≤ 10 := by
        have := hD.le
        rw [e, List.length_append, List.length_cons] at this; omega
      have lv := valsOf_len (d := done) fun q hq => hD.bd q (by rw [e]; exact List.mem_append_left _ hq)
      refine As.forget (Sub'.nil) ?_
      refine as_tup rfl (asl_cons ?_)
      walk_at "nm"
      refine asl_cons ?_
      walk_at "nm"
      refine asl_nil (tsts_nil ⟨fun _ => ?_, nofun⟩)
      refine em_gen rfl (by simp) (fun ys ρ₁ μ₁ acc => ∃ k : Nat, k ≤ (t.2 + 1 - t.1).toNat ∧ ys = rangeD (t.1 + k) ((t.2 + 1 - t.1).toNat - k) ∧ acc = (valsOf done ++ (List.range k).map fun (i : Nat) => t.1 + (i : Int)).map D.int ∧ μ = μ₁) ?_ ?_ ?_
      · refine evit_range2 (.name _ _) (by kernel_rfl!) (by kernel_rfl!) ?_
        walk_at "e"
        refine ⟨_, rfl, by omega, ?_⟩
        repeat walk_at "e"
        refine bop_add ⟨_, rfl, by omega, 0, Nat.zero_le _, ?_, by simp, rfl⟩
        rw [Int.natCast_zero, Int.add_zero, Nat.sub_zero]
      · rintro x rest ρ₂ μ₂ acc ⟨k, hk, ey, rfl, rfl⟩
        obtain ⟨m, hm⟩ : ∃ m, (t.2 + 1 - t.1).toNat - k = m + 1 := by
          cases q : (t.2 + 1 - t.1).toNat - k with
          | zero => rw [q] at ey; cases ey
          | succ m => exact ⟨m, rfl⟩
        rw [hm, rangeD_succ, List.cons.injEq] at ey
        obtain ⟨rfl, rfl⟩ := ey
        refine As.forget (Sub'.nil) ?_
        walk_at "nm"
        refine tsts_nil ⟨fun _ => em_elt rfl (by rw [List.length_map, List.length_append, List.length_map, List.length_range]; omega) ?_, nofun⟩
        walk_at "e"
        refine ⟨_, rfl, k + 1, by omega, ?_, ?_, rfl⟩
        · rw [show (t.2 + 1 - t.1).toNat - (k + 1) = m by omega, show t.1 + ((k + 1 : Nat) : Int) = t.1 + k + 1 by omega]
        · rw [range_snoc]; simp only [List.map_append, List.append_assoc]; rfl
      · rintro ρ₂ μ₂ acc ⟨k, hk, ey, rfl, rfl⟩
        have hk3 : k = (t.2 + 1 - t.1).toNat := by
          cases q : (t.2 + 1 - t.1).toNat - k with
          | zero => omega
          | succ m => rw [q, rangeD_succ] at ey; cases ey
        refine ⟨done ++ [t], todo, by rw [e]; simp, rfl, ?_, rfl⟩
        rw [valsOf_app, hk3]
        simp [valsOf]
    · rintro ρ₁ μ₁ acc ⟨done, todo, e, ey, rfl, rfl⟩
      rw [List.map_eq_nil_iff.mp ey.symm, List.append_nil] at e; subst e
      exact ⟨_, rfl, by show Option.map _ s.doms[i]? = _; rw [hd]; rfl, rfl⟩
  · rw [hs]; exact hp
theorem SA.grow (h : SA μ p s) (c : Cell) : SA (μ ++ [c]) p s :=
  ⟨get_grow h.i, get_grow h.j, get_grow h.d, get_grow h.f, get_grow h.t, get_grow h.m, get_grow h.w, h.df, h.dt, h.dm, h.ft, h.fm, h.tm⟩
/-- lowest and greatest, now and at first -/
structure Ends (s : SD) (lo hi ilo ihi : Int → Int) (x : Int) : Prop where
  h0 : 0 ≤ x
  h1 : x < 1000
  now : ∃ d q r, s.doms[x.toNat]? = some d ∧ d[0]? = some q ∧ q.1 = lo x ∧ d.getLast? = some r ∧ r.2 = hi x
  ini : ∃ d q r, s.firsts[x.toNat]? = some d ∧ d[0]? = some q ∧ q.1 = ilo x ∧ d.getLast? = some r ∧ r.2 = ihi x
noncomputable def reas (lo hi ilo ihi : Int → Int) (skip : Int) : Nat → List (Int × Int) → List (Int × Sg × Int)
  | _, [] => []
  | k, (c, x) :: r => (if (k : Int) = skip then [] else if 0 < c ∧ ilo x < lo x then [(x, .ge, lo x)] else if c < 0 ∧ hi x < ihi x then [(x, .le, hi x)] else []) ++ reas lo hi ilo ihi skip (k + 1) r
theorem reas_app {lo hi ilo ihi : Int → Int} {skip : Int} (b : List (Int × Int)) : ∀ (k : Nat) (a : List (Int × Int)), reas lo hi ilo ihi skip k (a ++ b) = reas lo hi ilo ihi skip k a ++ reas lo hi ilo ihi skip (k + a.length) b
  | k, [] => rfl
  | k, (c, x) :: a => by
    rw [List.cons_append, reas, reas, reas_app b (k + 1) a, List.append_assoc, List.length_cons, show k + (a.length + 1) = k + 1 + a.length by omega]
theorem reas_len {lo hi ilo ihi : Int → Int} {skip : Int} : ∀ (k : Nat) (a : List (Int × Int)), (reas lo hi ilo ihi skip k a).length ≤ a.length
  | k, [] => Nat.le_refl _
  | k, (c, x) :: a => by
    have := reas_len (lo := lo) (hi := hi) (ilo := ilo) (ihi := ihi) (skip := skip) (k + 1) a
    rw [reas, List.length_append, List.length_cons]
    split
    · rw [List.length_nil]; omega
    · split
      · rw [List.length_singleton]; omega
      · split
        · rw [List.length_singleton]; omega
        · rw [List.length_nil]; omega
theorem fn_reasons {pairs : List (Int × Int)} {skip : Int} {lo hi ilo ihi : Int → Int} (h : SA μ p s) (hE : ∀ q ∈ pairs, Ends s lo hi ilo ihi q.2) (hn : pairs.length ≤ 1000)
    (hp : P (.d (.tup ((reas lo hi ilo ihi skip 0 pairs).map dL))) μ) : Fc (cx w h₀ mb) (n+3) 38 [.own p.i, .d (.lst (pairs.map dI)), .d (.int skip)] μ P := by
  refine Fc.tidy ?_
  refine fn_callP ["store", "rows", "skipped"] rfl (by kernel_rfl!) (by kernel_rfl!) (by walk_at "def") rfl ?_
  refine xs_assign (ev_nil_own ?_)
  walk_at "nm"
  refine xs_for _ (fun ys μ₁ => ∃ done todo, pairs = done ++ todo ∧ ys = enumD done.length (todo.map dI) ∧ μ₁ = μ ++ [.lst ((reas lo hi ilo ihi skip 0 done).map dL)]) .refl (evit_enum (by kernel_rfl!) (by kernel_rfl!) (ev_var rfl ⟨_, rfl, [], pairs, rfl, rfl, rfl⟩)) ?_ ?_
  · rintro x rest μ₁ ⟨done, todo, e, ey, rfl⟩
    obtain _ | ⟨t, todo⟩ := todo
    · cases ey
    rw [List.map_cons, enumD, List.cons.injEq] at ey
    obtain ⟨rfl, rfl⟩ := ey
    have hE := hE t (by rw [e]; simp)
    have ld : done.length + 1 ≤ 1000 := by rw [e, List.length_append, List.length_cons] at hn; omega
    have lr := reas_len (lo := lo) (hi := hi) (ilo := ilo) (ihi := ihi) (skip := skip) 0 done
    have hg := h.grow (.lst ((reas lo hi ilo ihi skip 0 done).map dL))
    obtain ⟨d, q, r, n1, n2, n3, n4, n5⟩ := hE.now
    obtain ⟨d', q', r', i1, i2, i3, i4, i5⟩ := hE.ini
    have nx : ∀ add, reas lo hi ilo ihi skip done.length [t] = add → ∃ done2 todo2, pairs = done2 ++ todo2 ∧ enumD (done.length + 1) (todo.map dI) = enumD done2.length (todo2.map dI) ∧ μ ++ [Cell.lst ((reas lo hi ilo ihi skip 0 done).map dL ++ add.map dL)] = μ ++ [.lst ((reas lo hi ilo ihi skip 0 done2).map dL)] := by
      rintro add rfl
      refine ⟨done ++ [t], todo, by rw [e]; simp, by rw [List.length_append]; rfl, ?_⟩
      rw [reas_app, List.map_append, Nat.zero_add]
    refine as_tup rfl (asl_cons ?_)
    walk_at "nm"
    refine asl_cons (as_tup rfl (asl_cons ?_))
    walk_at "nm"
    refine asl_cons ?_
    walk_at "nm"
    refine asl_nil (asl_nil (xs_if (tst_cmp ?_)))
    walk_at "e"
    walk_at "e"
    refine cop_eq (.d _) (.d _) (ok_int _) (ok_int _) ⟨_, rfl, fun hb => ?_, fun hb => ?_⟩
    · rw [eqD_int] at hb
      have hb := of_decide_eq_true hb
      refine xs_cont ⟨Sub'.app, ?_⟩
      have := nx [] (by rw [reas, if_pos hb]; rfl)
      rwa [List.map_nil, List.append_nil] at this
    rw [eqD_int] at hb
    have hb := of_decide_eq_false hb
    refine xs_nil (xs_ifC (0 < t.1 ∧ ilo t.2 < lo t.2) (tst_and (tst_cmp ?_)) (fun hC => ?_) (fun hC => ?_))
    · walk_at "e"
      walk_at "e"
      refine cop_gt ⟨_, rfl, fun hc => ?_, fun hc => ?_⟩
      · have hc := of_decide_eq_true hc
        refine tst_cmp (m_low ?_)
        walk_at "e"
        refine ⟨p.i, _, rfl, hg.inst, by kernel_rfl!, evl_cons ?_⟩
        walk_at "e"
        refine evl_nil (fn_low hg hE.h0 hE.h1 n1 n2 (ev_sub (ev_sub (m_initial ?_))))
        walk_at "e"
        refine ⟨p.i, _, rfl, hg.inst, by kernel_rfl!, evl_cons ?_⟩
        walk_at "e"
        refine evl_nil (fn_initial hg hE.h0 hE.h1 i1 ?_)
        walk_at "e"
        refine sub_tup (.d _) (.d _) (by decide) (by decide) (x := dI q') (by rw [List.getElem?_map]; show Option.map _ d'[0]? = _; rw [i2]; rfl) ?_
        walk_at "e"
        refine sub_tup (.d _) (.d _) (by decide) (by decide) rfl (cop_gt ⟨_, rfl, ?_, rfl⟩)
        rw [n3, i3, decide_eq_true_iff]
        exact ⟨fun k => ⟨hc, k⟩, fun k => k.2⟩
      · have hc := of_decide_eq_false hc
        exact ⟨⟨nofun, fun k => absurd k.1 hc⟩, rfl⟩
    · refine xs_expr (ev_append ?_)
      walk_at "e"
      refine ⟨_, _, rfl, get_app _ _, ev_tup (evl_cons ?_)⟩
      walk_at "e"
      refine evl_cons ?_
      walk_at "e"
      refine evl_cons (m_low ?_)
      walk_at "e"
      refine ⟨p.i, _, rfl, hg.inst, by kernel_rfl!, evl_cons ?_⟩
      walk_at "e"
      refine evl_nil (fn_low hg hE.h0 hE.h1 n1 n2 (evl_nil ⟨_, rfl, by simp, _, _, rfl, get_app _ _, by rw [List.length_map]; omega, ⟨_, rfl, .inl rfl⟩, xs_nil (xs_nil ⟨Sub'.app, ?_⟩)⟩))
      rw [set_app, n3]
      exact nx [(t.2, .ge, lo t.2)] (by rw [reas, if_neg hb, if_pos hC]; rfl)
    refine xs_ifC (t.1 < 0 ∧ hi t.2 < ihi t.2) (tst_and (tst_cmp ?_)) (fun hC2 => ?_) (fun hC2 => ?_)
    · walk_at "e"
      walk_at "e"
      refine cop_lt ⟨_, rfl, fun hc => ?_, fun hc => ?_⟩
      · have hc := of_decide_eq_true hc
        refine tst_cmp (m_high ?_)
        walk_at "e"
        refine ⟨p.i, _, rfl, hg.inst, by kernel_rfl!, evl_cons ?_⟩
        walk_at "e"
        refine evl_nil (fn_high hg hE.h0 hE.h1 n1 n4 (ev_sub (ev_sub (m_initial ?_))))
        walk_at "e"
        refine ⟨p.i, _, rfl, hg.inst, by kernel_rfl!, evl_cons ?_⟩
        walk_at "e"
        refine evl_nil (fn_initial hg hE.h0 hE.h1 i1 ?_)
        walk_at "e"
        walk_at "e"
        refine ⟨1, rfl, sub_tup_last (.d _) (.d _) (x := dI r') (by rw [List.getLast?_map, i4]; rfl) ?_⟩
        walk_at "e"
        refine sub_tup (.d _) (.d _) (by decide) (by decide) rfl (cop_lt ⟨_, rfl, ?_, rfl⟩)
        rw [n5, i5, decide_eq_true_iff]
        exact ⟨fun k => ⟨hc, k⟩, fun k => k.2⟩
      · have hc := of_decide_eq_false hc
        exact ⟨⟨nofun, fun k => absurd k.1 hc⟩, rfl⟩
    · refine xs_expr (ev_append ?_)
      walk_at "e"
      refine ⟨_, _, rfl, get_app _ _, ev_tup (evl_cons ?_)⟩
      walk_at "e"
      refine evl_cons ?_
      walk_at "e"
      refine evl_cons (m_high ?_)
      walk_at "e"
      refine ⟨p.i, _, rfl, hg.inst, by kernel_rfl!, evl_cons ?_⟩
      walk_at "e"
      refine evl_nil (fn_high hg hE.h0 hE.h1 n1 n4 (evl_nil ⟨_, rfl, by simp, _, _, rfl, get_app _ _, by rw [List.length_map]; omega, ⟨_, rfl, .inl rfl⟩, xs_nil (xs_nil (xs_nil ⟨Sub'.app, ?_⟩))⟩))
      rw [set_app, n5]
      exact nx [(t.2, .le, hi t.2)] (by rw [reas, if_neg hb, if_neg hC, if_pos hC2]; rfl)
    · refine xs_nil (xs_nil (xs_nil ⟨Sub'.app, ?_⟩))
      have := nx [] (by rw [reas, if_neg hb, if_neg hC, if_neg hC2]; rfl)
      rwa [List.map_nil, List.append_nil] at this
  · rintro μ₁ ⟨done, todo, e, ey, rfl⟩
    have : todo = [] := by cases todo with
      | nil => rfl
      | cons t r => cases ey
    subst this
    rw [List.append_nil] at e; subst e
    refine xs_ret (ev_tuple (by kernel_rfl!) (by kernel_rfl!) (evl_cons ?_))
    walk_at "e"
    have lr := reas_len (lo := lo) (hi := hi) (ilo := ilo) (ihi := ihi) (skip := skip) 0 pairs
    exact evl_nil (op_tuple (.lst (get_app _ _)) (by rw [List.length_map]; omega) ⟨_, rfl, ⟨_, rfl⟩, hp⟩)
end
section
variable {w : World} {h₀ : Heap} {mb : Str → Option Value} {n : Nat} {S : Sc} {ρ : Rho} {μ : Mem} {P : V → Mem → Prop} {p : SP} {s : SD} {pos : Pos} {e : Expr} {rest : List Stmt} {nx cn : Rho → Mem → Prop} {rt : V → Mem → Prop}
theorem SA.setO {k : Nat} {c : Cell} (h : SA μ p s) (hk : k ∉ p.all) : SA (μ.set k c) p s := by
  simp only [SP.all, List.mem_cons, List.not_mem_nil, or_false, not_or] at hk
  obtain ⟨k1, k2, k3, k4, k5, k6, k7⟩ := hk
  exact ⟨by rw [List.getElem?_set_ne k1]; exact h.i, by rw [List.getElem?_set_ne k2]; exact h.j, by rw [List.getElem?_set_ne k3]; exact h.d, by rw [List.getElem?_set_ne k4]; exact h.f, by rw [List.getElem?_set_ne k5]; exact h.t,
    by rw [List.getElem?_set_ne k6]; exact h.m, by rw [List.getElem?_set_ne k7]; exact h.w, h.df, h.dt, h.dm, h.ft, h.fm, h.tm⟩
noncomputable def opn (doms : List (List (Int × Int))) : List Int := (List.range 3).filterMap fun (i : Nat) => match doms[i]? with
  | some d => if fixedB d then none else some (0 + (i : Int))
  | none => none
theorem opn_mem {doms : List (List (Int × Int))} {x : Int} (h : x ∈ opn doms) : 0 ≤ x ∧ x < 3 ∧ ∃ d, doms[x.toNat]? = some d ∧ fixedB d = false := by
  obtain ⟨i, hi, e⟩ := List.mem_filterMap.mp h
  have hi := List.mem_range.mp hi
  cases q : doms[i]? with
  | none => rw [q] at e; cases e
  | some d =>
    rw [q] at e
    dsimp only at e
    split at e
    · cases e
    · cases e
      refine ⟨by omega, by omega, d, by rw [Int.zero_add, Int.toNat_natCast]; exact q, by simpa using ‹¬ fixedB d = true›⟩
noncomputable def Pick (d : List (Int × Int)) (g : Sg) (k : Int) : Prop := ∃ i, (valsOf d)[i]? = some k ∧ (if g = .le ∨ g = .ne then i + 1 < (valsOf d).length else 1 ≤ i)
theorem sg_in (g : Sg) : ([D.str "<=", D.str "!="].any fun y => eqD y (.str g.str)) = decide (g = .le ∨ g = .ne) := by cases g <;> kernel_rfl!
theorem nb_sgs : NB 1 (.tup [.str "<=", .str "!="]) := .tup _ fun y hy => by
  simp only [List.mem_cons, List.not_mem_nil, or_false] at hy
  rcases hy with rfl | rfl
  · exact nb_sg .le
  · exact nb_sg .ne
theorem fn_literal {fi : Nat} {cs : List Int} {t : Int} {a b c : List (Int × Int)} (h : SA μ p s) (hs : s.doms = [a, b, c]) (ha : DomB a) (hb : DomB b) (hc : DomB c) (hf : μ[fi]? = some (feed cs t)) (hfi : fi ∉ p.all) (ho : FeedOk cs) (h0 : 0 ≤ t) (ht : t ≤ 2 ^ 30)
    (hlen : ∀ d ∈ s.doms, fixedB d = false → 2 ≤ (valsOf d).length) (hpn : P (.d .none) μ)
    (hp : ∀ x g k d, 0 ≤ x → x < 3 → s.doms[x.toNat]? = some d → Pick d g k → P (.d (dLit x g k)) (μ.set fi (feed cs (t + 3)))) : Fc (cx w h₀ mb) (n+3) 323 [.own fi, .own p.i] μ P := by
  have hset : ∀ t, (μ.set fi (feed cs t))[fi]? = some (feed cs t) := fun t => getElem?_set_self' hf
  refine fn_callP ["feed", "store_now"] rfl (by kernel_rfl!) (by kernel_rfl!) (by walk_at "def") rfl ?_
  refine xs_cmap [("store_now", .own p.i)] (List.range 3) (fun (i : Nat) => D.int (0 + (i : Int))) (fun (i : Nat) => match s.doms[i]? with
      | some d => if fixedB d then none else some (.int (0 + (i : Int)))
      | none => none) (ckC_of (by kernel_rfl!) (all_cons rfl all_nil)) (by simp) (by walk_at "sw")
    (evit_range1 (.name _ _) (by kernel_rfl!) (by kernel_rfl!) (ev_int ⟨3, rfl, by decide, rfl, rfl⟩)) (fun i hi => ?_) ?_
  · have hi : i < 3 := List.mem_range.mp hi
    obtain ⟨d, hd, hD⟩ : ∃ d, s.doms[i]? = some d ∧ DomB d := by
      rw [hs]
      match i, hi with
      | 0, _ => exact ⟨a, rfl, ha⟩
      | 1, _ => exact ⟨b, rfl, hb⟩
      | 2, _ => exact ⟨c, rfl, hc⟩
    have hd' : s.doms[(0 + (i : Int)).toNat]? = some d := by rw [Int.zero_add, Int.toNat_natCast]; exact hd
    walk_at "nm"
    refine ⟨rfl, Sub'.app, tsts_one (tst_not (tst_of_ev (m_is_fixed ?_)))⟩
    walk_at "e"
    refine ⟨p.i, _, rfl, h.inst, by kernel_rfl!, evl_cons ?_⟩
    walk_at "e"
    have := hD.le
    refine evl_nil (fn_is_fixed h (by omega) (by omega) hd' (by omega) ⟨_, rfl, fun hb => ?_, fun hb => ?_⟩)
    · walk_at "e"
      refine ⟨_, rfl, ?_, rfl⟩
      dsimp only
      rw [hd]
      dsimp only
      rw [if_neg (by simpa using hb)]
    · refine ⟨?_, rfl⟩
      dsimp only
      rw [hd]
      dsimp only
      rw [if_pos (by simpa using hb)]
  have eo : ((List.range 3).filterMap fun (i : Nat) => match s.doms[i]? with
      | some d => if fixedB d then none else some (D.int (0 + (i : Int)))
      | none => none) = (opn s.doms).map D.int := by
    unfold opn
    rw [List.map_filterMap]
    congr; funext i
    cases s.doms[i]? with
    | none => rfl
    | some d => dsimp only; split <;> rfl
  rw [eo]
  walk_at "nm"
  refine xs_if (tst_cmp ?_)
  walk_at "e"
  refine ev_lst (evl_nil ⟨_, rfl, by simp, cop_eq (.d _) (.d _) (nb_ints _).ok nb_nil.ok ⟨_, rfl, fun hq => ?_, fun hq => ?_⟩⟩)
  · refine xs_ret ?_
    walk_at "e"
    exact hpn
  have hq : opn s.doms ≠ [] := of_decide_eq_false ((eqD_ints (opn s.doms) []).symm.trans hq)
  have lo : 0 < (opn s.doms).length := List.length_pos_iff.mpr hq
  have lo3 : (opn s.doms).length ≤ 3 := Nat.le_trans (List.length_filterMap_le _ _) (by simp)
  refine xs_nil (xs_assign ?_)
  repeat walk_at "e"
  refine c_law_draw (evl_cons ?_)
  walk_at "e"
  refine evl_cons (ev_len (by kernel_rfl!) (by kernel_rfl!) (evl_cons ?_))
  walk_at "e"
  refine evl_nil (op_len_lst (.d _) (by rw [List.length_map]; omega) (evl_nil (fn_draw hf ho h0 (by omega) (by rw [List.length_map]; omega) fun r r0 r1 => ?_)))
  rw [List.length_map] at r1
  refine sub_lst (.d _) (.d _) r0 (by omega) (x := .int ((opn s.doms)[r.toNat]'(by omega))) (by rw [List.getElem?_map, List.getElem?_eq_getElem (by omega)]; rfl) ?_
  obtain ⟨x0, x3, d, hd, hfx⟩ := opn_mem (List.getElem_mem (l := opn s.doms) (n := r.toNat) (by omega))
  generalize (opn s.doms)[r.toNat]'(by omega) = x at x0 x3 hd
  have hl2 := hlen d (List.mem_of_getElem? hd) hfx
  obtain ⟨hdx, hDd⟩ : [dInts (valsOf a), dInts (valsOf b), dInts (valsOf c)][x.toNat]? = some (dInts (valsOf d)) ∧ DomB d := by
    have : x.toNat < 3 := by omega
    rw [hs] at hd
    match q : x.toNat, this with
    | 0, _ => rw [q] at hd; cases hd; exact ⟨rfl, ha⟩
    | 1, _ => rw [q] at hd; cases hd; exact ⟨rfl, hb⟩
    | 2, _ => rw [q] at hd; cases hd; exact ⟨rfl, hc⟩
  have lv := valsOf_len hDd.bd
  have ld := hDd.le
  walk_at "nm"
  have h1 := h.setO (c := feed cs (t + 1)) hfi
  refine xs_assign (ev_sub (c_law_now (evl_cons ?_)))
  walk_at "e"
  refine evl_nil (fn_now h1 hs ha hb hc ?_)
  walk_at "e"
  refine sub_lst (.d _) (.d _) x0 (by omega) hdx ?_
  walk_at "nm"
  refine xs_assign (ev_sub (ev_tup (evl_cons ?_)))
  walk_at "e"
  refine evl_cons ?_
  walk_at "e"
  refine evl_cons ?_
  walk_at "e"
  refine evl_cons ?_
  walk_at "e"
  refine evl_nil ⟨_, rfl, by simp, c_law_draw (evl_cons ?_)⟩
  walk_at "e"
  refine evl_cons ?_
  walk_at "e"
  refine evl_nil (fn_draw (hset _) ho (by omega) (by omega) (by decide) fun r2 r20 r21 => ?_)
  rw [List.set_set]
  obtain ⟨g, hg⟩ : ∃ g : Sg, ([D.str "<=", D.str ">=", D.str "=", D.str "!="] : List D)[r2.toNat]? = some (.str g.str) := by
    have : r2.toNat < 4 := by omega
    match r2.toNat, this with
    | 0, _ => exact ⟨.le, rfl⟩
    | 1, _ => exact ⟨.ge, rfl⟩
    | 2, _ => exact ⟨.eq, rfl⟩
    | 3, _ => exact ⟨.ne, rfl⟩
  refine sub_tup (.d _) (.d _) r20 (by omega) hg ?_
  walk_at "nm"
  refine xs_assign (ev_if (tst_cmp ?_))
  walk_at "e"
  refine ev_tup (evl_cons ?_)
  walk_at "e"
  refine evl_cons ?_
  walk_at "e"
  have e3 : t + 1 + 1 + 1 = t + 3 := by omega
  have lvm : ((valsOf d).map D.int).length = (valsOf d).length := List.length_map ..
  refine evl_nil ⟨_, rfl, by simp, cop_int (.d _) (.d _) (ok_sg _) nb_sgs.ok ⟨_, rfl, fun hq => ?_, fun hq => ?_⟩⟩
  · have hq : g = .le ∨ g = .ne := of_decide_eq_true ((sg_in g).symm.trans hq)
    refine c_law_draw (evl_cons ?_)
    walk_at "e"
    refine evl_cons (ev_bin (ev_len (by kernel_rfl!) (by kernel_rfl!) (evl_cons ?_)))
    walk_at "e"
    refine evl_nil (op_len_lst (.d _) (by rw [List.length_map]; omega) ?_)
    walk_at "e"
    rw [lvm]
    refine bop_sub (evl_nil (fn_draw (hset _) ho (by omega) (by omega) (by omega) fun r3 r30 r31 => ?_))
    rw [List.set_set, e3]
    walk_at "nm"
    refine xs_ret (ev_tup (evl_cons ?_))
    walk_at "e"
    refine evl_cons ?_
    walk_at "e"
    refine evl_cons ?_
    repeat walk_at "e"
    have hk : (valsOf d)[r3.toNat]? = some ((valsOf d)[r3.toNat]'(by omega)) := List.getElem?_eq_getElem _
    refine sub_lst (.d _) (.d _) r30 (by omega) (x := .int ((valsOf d)[r3.toNat]'(by omega))) (by rw [List.getElem?_map, hk]; rfl) (evl_nil ⟨_, rfl, by simp, ?_⟩)
    exact hp x g _ d x0 x3 hd ⟨r3.toNat, hk, by rw [if_pos hq]; omega⟩
  · have hq : ¬ (g = .le ∨ g = .ne) := of_decide_eq_false ((sg_in g).symm.trans hq)
    refine ev_bin ?_
    walk_at "e"
    refine c_law_draw (evl_cons ?_)
    walk_at "e"
    refine evl_cons (ev_bin (ev_len (by kernel_rfl!) (by kernel_rfl!) (evl_cons ?_)))
    walk_at "e"
    refine evl_nil (op_len_lst (.d _) (by rw [List.length_map]; omega) ?_)
    walk_at "e"
    rw [lvm]
    refine bop_sub (evl_nil (fn_draw (hset _) ho (by omega) (by omega) (by omega) fun r3 r30 r31 => ?_))
    rw [List.set_set, e3]
    refine bop_add ?_
    walk_at "nm"
    refine xs_ret (ev_tup (evl_cons ?_))
    walk_at "e"
    refine evl_cons ?_
    walk_at "e"
    refine evl_cons ?_
    repeat walk_at "e"
    have hk : (valsOf d)[(1 + r3).toNat]? = some ((valsOf d)[(1 + r3).toNat]'(by omega)) := List.getElem?_eq_getElem _
    refine sub_lst (.d _) (.d _) (by omega) (by omega) (x := .int ((valsOf d)[(1 + r3).toNat]'(by omega))) (by rw [List.getElem?_map, hk]; rfl) (evl_nil ⟨_, rfl, by simp, ?_⟩)
    exact hp x g _ d x0 x3 hd ⟨(1 + r3).toNat, hk, by rw [if_neg hq]; omega⟩
end
section
variable {w : World} {h₀ : Heap} {mb : Str → Option Value} {n : Nat} {S : Sc} {ρ : Rho} {μ : Mem} {P : V → Mem → Prop} {p : SP} {s : SD} {pos : Pos} {e : Expr} {rest : List Stmt} {nx cn : Rho → Mem → Prop} {rt : V → Mem → Prop}
noncomputable def enumP : Nat → List (Int × Int) → List (Nat × (Int × Int))
  | _, [] => []
  | k, q :: r => (k, q) :: enumP (k + 1) r
noncomputable abbrev emE (q : Nat × (Int × Int)) : D := .tup [.int q.1, dI q.2]
theorem enumD_map : ∀ (k : Nat) (l : List (Int × Int)), enumD k (l.map dI) = (enumP k l).map emE
  | _, [] => rfl
  | k, q :: r => by rw [List.map_cons, enumD, enumD_map (k + 1) r, enumP, List.map_cons]
theorem enumP_len : ∀ (k : Nat) (l : List (Int × Int)), (enumP k l).length = l.length
  | _, [] => rfl
  | k, q :: r => by rw [enumP, List.length_cons, enumP_len, List.length_cons]
/-- the pairs but for one place -/
noncomputable def oth (place : Int) : Nat → List (Int × Int) → List (Int × Int)
  | _, [] => []
  | k, q :: r => (if (k : Int) ≠ place then [q] else []) ++ oth place (k + 1) r
theorem oth_enum (place : Int) : ∀ (k : Nat) (l : List (Int × Int)), ((enumP k l).filterMap fun q => if (q.1 : Int) ≠ place then some (dI q.2) else none) = (oth place k l).map dI
  | _, [] => rfl
  | k, q :: r => by
    rw [enumP, oth, List.filterMap_cons, oth_enum place (k + 1) r]
    by_cases h : (k : Int) ≠ place
    · simp only [if_pos h]; rfl
    · simp only [if_neg h]; rfl
theorem oth_sub {place : Int} {q : Int × Int} : ∀ {k : Nat} {l : List (Int × Int)}, q ∈ oth place k l → q ∈ l
  | _, [], h => h
  | k, a :: r, h => by
    rw [oth] at h
    rcases List.mem_append.mp h with h | h
    · split at h
      · rw [List.mem_singleton.mp h]; exact .head _
      · cases h
    · exact .tail _ (oth_sub h)
theorem oth_len {place : Int} : ∀ (k : Nat) (l : List (Int × Int)), (oth place k l).length ≤ l.length
  | _, [] => Nat.le_refl _
  | k, a :: r => by
    have := oth_len (place := place) (k + 1) r
    rw [oth, List.length_append, List.length_cons]
    split
    · rw [List.length_singleton]; omega
    · rw [List.length_nil]; omega
noncomputable def get3 (L : List (List Int)) (x : Int) : List Int := L.getD x.toNat []
noncomputable def lowF (N : List (List Int)) (O : List (Int × Int)) : Int := (O.map fun q => minL ((get3 N q.2).map fun v => q.1 * v)).sum
noncomputable def sumAt (O : List (Int × Int)) (pt : List Int) : Int := (O.map fun q => q.1 * pt.getD q.2.toNat 0).sum
noncomputable abbrev LitT := Int × Sg × Int
theorem okBools (bs : List Bool) : (D.lst (bs.map D.bool)).ok := by
  refine Bool.and_eq_true_iff.mpr ⟨?_, decide_eq_true ?_⟩
  · rw [D.py, PyData.canLay0]
    refine lay_all fun x hx => ?_
    obtain ⟨b, _, rfl⟩ := List.mem_map.mp hx
    simp [D.py, PyData.canLay0]
  · rw [D.py, PyData.depth]
    have : PyData.depthAll (D.pys (bs.map D.bool)) ≤ 0 := depth_all fun x hx => by
      obtain ⟨b, _, rfl⟩ := List.mem_map.mp hx
      simp [D.py, PyData.depth]
    omega
theorem any_false (bs : List Bool) : ((bs.map D.bool).any fun y => eqD y (.bool false)) = bs.any (fun b => !b) := by
  rw [List.any_map]
  congr; funext b
  show eqD (.bool b) (.bool false) = _
  rw [eqD_bool]; cases b <;> rfl
theorem any_int (l : List Int) (x : Int) : ((l.map D.int).any fun y => eqD y (.int x)) = decide (x ∈ l) := by
  rw [List.any_map, Bool.eq_iff_iff, List.any_eq_true, decide_eq_true_iff]
  constructor
  · rintro ⟨y, hy, k⟩
    have k : eqD (.int y) (.int x) = true := k
    rw [eqD_int] at k
    rw [← of_decide_eq_true k]; exact hy
  · intro h
    refine ⟨x, h, ?_⟩
    show eqD (.int x) (.int x) = true
    rw [eqD_int]; exact decide_eq_true rfl
structure Facts (R N : List (List Int)) (P : List (List Int)) (O : List (Int × Int)) (T : List LitT) : Prop where
  f1 : ∀ l ∈ T, l.1 ∈ O.map (·.2)
  f2 : ∀ l ∈ T, (∀ v ∈ get3 N l.1, says l.2.1 l.2.2 v = true) ∧ ∃ v ∈ get3 R l.1, says l.2.1 l.2.2 v = false
  f3 : 0 < (kept P (P.map (sumAt O)) T).length ∧ minL (kept P (P.map (sumAt O)) T) = lowF N O
  f4 : ∀ l ∈ T, 0 < (kept P (P.map (sumAt O)) (T.filter (fun o => o ≠ l))).length ∧ minL (kept P (P.map (sumAt O)) (T.filter (fun o => o ≠ l))) < lowF N O
theorem get3_at {L : List (List Int)} {x : Int} (h0 : 0 ≤ x) (h : x < L.length) : (L.map dInts)[x.toNat]? = some (dInts (get3 L x)) := by
  have : x.toNat < L.length := by omega
  rw [List.getElem?_map, List.getElem?_eq_getElem this]
  unfold get3
  rw [List.getD_eq_getElem?_getD, List.getElem?_eq_getElem this]; rfl
theorem fn_told {a b c : List (Int × Int)} {r0 r1 r2 : List Int} {pairs : List (Int × Int)} {es : List (Int × D)} {lo hi ilo ihi : Int → Int} (h : SA μ p s) (hs : s.doms = [a, b, c]) (ha : DomB a) (hb : DomB b) (hc : DomB c)
    (hE : ∀ q ∈ pairs, Ends s lo hi ilo ihi q.2) (hx : ∀ q ∈ pairs, 0 ≤ q.2 ∧ q.2 < 3 ∧ -(2 ^ 60) < q.1 ∧ q.1 < 2 ^ 60) (hpl : pairs.length ≤ 100)
    (hN : ∀ v ∈ [valsOf a, valsOf b, valsOf c], v ≠ [] ∧ ∀ i ∈ v, -1000 ≤ i ∧ i ≤ 1000) (hr0 : r0.length ≤ 3) (hr1 : r1.length ≤ 3) (hr2 : r2.length ≤ 3)
    (hes : ∀ place : Int, -1 ≤ place → place < pairs.length → getK es place = some (dInts ((pts r0 r1 r2).map (sumAt (oth place 0 pairs)))))
    (hF : ∀ place : Int, -1 ≤ place → place < pairs.length → Facts [r0, r1, r2] [valsOf a, valsOf b, valsOf c] (pts r0 r1 r2) (oth place 0 pairs) (reas lo hi ilo ihi place 0 pairs))
    (hp : P (.d (.bool true)) μ) : Fc (cx w h₀ mb) (n+4) 318 [.own p.i, .d (.lst [dInts r0, dInts r1, dInts r2]), .d (.lst (pairs.map dI)), .d (.lst ((pts r0 r1 r2).map dP)), .d (.dct es)] μ P := by
  refine fn_callP ["store_now", "rows", "pairs", "points", "table"] rfl (by kernel_rfl!) (by kernel_rfl!) (by walk_at "def") rfl ?_
  refine xs_assign (c_law_now (evl_cons ?_))
  walk_at "e"
  refine evl_nil (fn_now h hs ha hb hc ?_)
  walk_at "nm"
  have plen : (pts r0 r1 r2).length ≤ 27 := by
    rw [pts_len]
    calc _ ≤ 3 * (3 * 3) := Nat.mul_le_mul hr0 (Nat.mul_le_mul hr1 hr2)
      _ = 27 := rfl
  have pin : ∀ q ∈ pts r0 r1 r2, q.length = 3 := by
    intro q hq
    unfold pts at hq
    simp only [List.mem_flatMap, List.mem_map] at hq
    obtain ⟨_, _, _, _, _, _, rfl⟩ := hq
    rfl
  refine xs_for _ (fun ys μ₁ => ∃ k : Nat, k ≤ pairs.length + 1 ∧ ys = rangeD (-1 + k) (pairs.length + 1 - k) ∧ μ = μ₁) .refl (evit_range2 (.name _ _) (by kernel_rfl!) (by kernel_rfl!) ?_) ?_ ?_
  · walk_at "e"
    walk_at "e"
    refine ⟨1, rfl, -1, rfl, by decide, ev_len (by kernel_rfl!) (by kernel_rfl!) (evl_cons ?_)⟩
    walk_at "e"
    refine evl_nil (op_len_lst (.d _) (by rw [List.length_map]; omega) ⟨_, rfl, by rw [List.length_map]; omega, 0, by omega, ?_, rfl⟩)
    rw [List.length_map, show ((pairs.length : Int) - -1).toNat = pairs.length + 1 - 0 by omega]; rfl
  · rintro x rest μ₁ ⟨k, hk, ey, rfl⟩
    obtain ⟨m, hm⟩ : ∃ m, pairs.length + 1 - k = m + 1 := by
      cases q : pairs.length + 1 - k with
      | zero => rw [q] at ey; cases ey
      | succ m => exact ⟨m, rfl⟩
    rw [hm, rangeD_succ, List.cons.injEq] at ey
    obtain ⟨rfl, rfl⟩ := ey
    have hFp := hF (-1 + k) (by omega) (by omega)
    have hep := hes (-1 + k) (by omega) (by omega)
    have nxt : ∃ k' : Nat, k' ≤ pairs.length + 1 ∧ rangeD (-1 + (k : Int) + 1) m = rangeD (-1 + (k' : Int)) (pairs.length + 1 - k') ∧ μ = μ := ⟨k + 1, by omega, by rw [show pairs.length + 1 - (k + 1) = m by omega, show -1 + ((k + 1 : Nat) : Int) = -1 + k + 1 by omega], rfl⟩
    have hO : ∀ q ∈ oth (-1 + k) 0 pairs, 0 ≤ q.2 ∧ q.2 < 3 ∧ -(2 ^ 60) < q.1 ∧ q.1 < 2 ^ 60 := fun q hq => hx q (oth_sub hq)
    have lO := oth_len (place := -1 + k) 0 pairs
    have lT := reas_len (lo := lo) (hi := hi) (ilo := ilo) (ihi := ihi) (skip := -1 + k) 0 pairs
    walk_at "nm"
    refine xs_assign (ev_list (by kernel_rfl!) (by kernel_rfl!) (evl_cons (c_least_reasons (evl_cons ?_))))
    walk_at "e"
    refine evl_cons ?_
    walk_at "e"
    refine evl_cons ?_
    walk_at "e"
    refine evl_nil (fn_reasons h hE (by omega) (evl_nil (op_list_tup (.d _) (by rw [List.length_map]; omega) ?_)))
    generalize reas lo hi ilo ihi (-1 + k) 0 pairs = T at hFp lT
    walk_at "nm"
    refine xs_cmap [("place", .d (.int (-1 + k)))] (enumP 0 pairs) emE (fun q => if (q.1 : Int) ≠ -1 + k then some (dI q.2) else none) (ckC_of (by kernel_rfl!) (all_cons rfl all_nil)) (by rw [enumP_len]; omega) (by walk_at "sw")
      (evit_enum (by kernel_rfl!) (by kernel_rfl!) (ev_var rfl ⟨_, rfl, enumD_map 0 pairs, rfl⟩)) (fun q hq => ?_) ?_
    · refine as_tup rfl (asl_cons ?_)
      walk_at "nm"
      refine asl_cons ?_
      walk_at "nm"
      refine asl_nil ⟨rfl, Sub'.app, tsts_one (tst_cmp ?_)⟩
      walk_at "e"
      walk_at "e"
      refine cop_ne (.d _) (.d _) (ok_int _) (ok_int _) ⟨_, rfl, fun hb => ?_, fun hb => ?_⟩
      · rw [eqD_int] at hb
        walk_at "e"
        exact ⟨_, rfl, if_pos (by simpa using hb), rfl⟩
      · rw [eqD_int] at hb
        exact ⟨if_neg (by simpa using hb), rfl⟩
    rw [oth_enum]
    generalize oth (-1 + k) 0 pairs = O at hFp hep hO lO
    walk_at "nm"
    have hNx : ∀ x : Int, 0 ≤ x → x < 3 → get3 [valsOf a, valsOf b, valsOf c] x ≠ [] ∧ ∀ i ∈ get3 [valsOf a, valsOf b, valsOf c] x, -1000 ≤ i ∧ i ≤ 1000 := fun x h0 h3 => by
      have lt : x.toNat < [valsOf a, valsOf b, valsOf c].length := by simp; omega
      refine hN _ ?_
      unfold get3
      rw [List.getD_eq_getElem?_getD, List.getElem?_eq_getElem lt]
      exact List.getElem_mem lt
    have lNx : ∀ x : Int, 0 ≤ x → x < 3 → (get3 [valsOf a, valsOf b, valsOf c] x).length ≤ 50000 := fun x h0 h3 => by
      have ea := valsOf_len ha.bd
      have eb := valsOf_len hb.bd
      have ec := valsOf_len hc.bd
      have := ha.le
      have := hb.le
      have := hc.le
      have : x.toNat < 3 := by omega
      unfold get3
      match x.toNat, this with
      | 0, _ => show (valsOf a).length ≤ _; omega
      | 1, _ => show (valsOf b).length ≤ _; omega
      | 2, _ => show (valsOf c).length ≤ _; omega
    have lRx : ∀ x : Int, 0 ≤ x → x < 3 → (get3 [r0, r1, r2] x).length ≤ 50000 := fun x h0 h3 => by
      have : x.toNat < 3 := by omega
      unfold get3
      match x.toNat, this with
      | 0, _ => show r0.length ≤ _; omega
      | 1, _ => show r1.length ≤ _; omega
      | 2, _ => show r2.length ≤ _; omega
    refine xs_assign (ev_sum (by kernel_rfl!) (by kernel_rfl!) (evl_cons ?_))
    refine ev_cmap [("now", .d (.lst [dInts (valsOf a), dInts (valsOf b), dInts (valsOf c)]))] O dI (fun q => some (.int (minL ((get3 [valsOf a, valsOf b, valsOf c] q.2).map fun v => q.1 * v)))) (ckC_of (by kernel_rfl!) (all_cons rfl all_nil)) (by omega)
      (evit_lst (.tup _ _ _) (ev_var rfl ⟨_, rfl, rfl, rfl⟩)) (fun q hq => ?_) ?_
    · obtain ⟨q0, q3, _, _⟩ := hO q hq
      refine as_tup rfl (asl_cons ?_)
      walk_at "nm"
      refine asl_cons ?_
      walk_at "nm"
      refine asl_nil ⟨rfl, Sub'.app, tsts_nil ⟨fun _ => ?_, nofun⟩⟩
      refine ev_min (by kernel_rfl!) (by kernel_rfl!) (evl_cons ?_)
      refine ev_cmap [("number", .d (.int q.1))] (get3 [valsOf a, valsOf b, valsOf c] q.2) D.int (fun v => some (.int (q.1 * v))) (ckC_of (by kernel_rfl!) (all_cons rfl all_nil)) (Nat.le_trans (lNx _ q0 q3) (by decide)) (evit_lst (.name _ _) ?_) (fun v hv => ?_) ?_
      · repeat walk_at "e"
        exact sub_lst (.d _) (.d _) q0 (by omega) (get3_at (L := [valsOf a, valsOf b, valsOf c]) q0 q3) ⟨_, rfl, rfl, rfl⟩
      · walk_at "nm"
        refine ⟨rfl, Sub'.app, tsts_nil ⟨fun _ => c_law_often (evl_cons ?_), nofun⟩⟩
        walk_at "e"
        refine evl_cons ?_
        walk_at "e"
        exact evl_nil (fn_often ((hNx _ q0 q3).2 v hv) ⟨_, rfl, rfl, rfl⟩)
      · have e : (get3 [valsOf a, valsOf b, valsOf c] q.2).filterMap (fun v => some (D.int (q.1 * v))) = ((get3 [valsOf a, valsOf b, valsOf c] q.2).map fun v => q.1 * v).map D.int := by
          rw [List.map_map, ← List.filterMap_eq_map]; rfl
        rw [e]
        refine evl_nil (op_min (.d _) ?_ ⟨_, rfl, rfl, rfl⟩)
        rw [List.length_map]
        exact List.length_pos_iff.mpr (hNx _ q0 q3).1
    have e : (O.filterMap fun q => some (D.int (minL ((get3 [valsOf a, valsOf b, valsOf c] q.2).map fun v => q.1 * v)))) = (O.map fun q => minL ((get3 [valsOf a, valsOf b, valsOf c] q.2).map fun v => q.1 * v)).map D.int := by
      rw [List.map_map, ← List.filterMap_eq_map]; rfl
    rw [e]
    refine evl_nil (op_sum (.d _) ?_)
    have hT : ∀ l ∈ T, 0 ≤ l.1 ∧ l.1 < 3 := fun l hl => by
      obtain ⟨q, hq, e⟩ := List.mem_map.mp (hFp.f1 l hl)
      obtain ⟨a, b, _⟩ := hO q hq
      rw [← e]; exact ⟨a, b⟩
    walk_at "nm"
    refine xs_for _ (fun ys μ₁ => ∃ todo, (∀ l ∈ todo, l ∈ T) ∧ ys = todo.map dL ∧ μ = μ₁) .refl (evit_lst (.name _ _) (ev_var rfl ⟨_, rfl, T, fun _ h => h, rfl, rfl⟩)) ?_ ?_
    · rintro x rest μ₁ ⟨todo, hto, ey, rfl⟩
      obtain _ | ⟨t, todo⟩ := todo
      · cases ey
      rw [List.map_cons, List.cons.injEq] at ey
      obtain ⟨rfl, rfl⟩ := ey
      have ht := hto t (.head _)
      obtain ⟨t0, t3⟩ := hT t ht
      obtain ⟨w1, v2, w2, w3⟩ := hFp.f2 t ht
      walk_at "nm"
      refine xs_if (tst_cmp ?_)
      repeat walk_at "e"
      refine sub_tup (.d _) (.d _) (by decide) (by decide) rfl ?_
      refine ev_cmap [] O dI (fun q => some (.int q.2)) (ckC_of (by kernel_rfl!) all_nil) (by omega) (evit_lst (.tup _ _ _) (ev_var rfl ⟨_, rfl, rfl, rfl⟩)) (fun q hq => ?_) ?_
      · refine as_tup rfl (asl_cons ?_)
        walk_at "nm"
        refine asl_cons ?_
        walk_at "nm"
        refine asl_nil ⟨rfl, Sub'.nil, tsts_nil ⟨fun _ => ?_, nofun⟩⟩
        walk_at "e"
        exact ⟨_, rfl, rfl, rfl⟩
      have e : (O.filterMap fun q => some (D.int q.2)) = (O.map (·.2)).map D.int := by
        rw [List.map_map, ← List.filterMap_eq_map]; rfl
      rw [e]
      refine cop_nin (.d _) (.d _) (ok_int _) (nb_ints _).ok ⟨_, rfl, fun hb => ?_, fun _ => ?_⟩
      · rw [any_int, decide_eq_true (hFp.f1 t ht)] at hb; cases hb
      refine xs_nil (xs_assign ?_ (hw := by walk_at "sw"))
      refine ev_cmap [("literal", .d (dL t))] [[r0, r1, r2], [valsOf a, valsOf b, valsOf c]] (fun L => .lst (L.map dInts)) (fun L => some (.lst (((get3 L t.1).map fun v => says t.2.1 t.2.2 v).map D.bool))) (ckC_of (by kernel_rfl!) (all_cons rfl all_nil)) (by simp)
        (evit_tup (.name _ _) (ev_tup (evl_cons ?_))) (fun L hL => ?_) ?_
      · walk_at "e"
        refine evl_cons ?_
        walk_at "e"
        exact evl_nil ⟨_, rfl, by simp, _, rfl, rfl, rfl⟩
      · have hL2 : t.1 < L.length ∧ (get3 L t.1).length ≤ 50000 := by
          simp only [List.mem_cons, List.not_mem_nil, or_false] at hL
          rcases hL with rfl | rfl
          · exact ⟨t3, lRx _ t0 t3⟩
          · exact ⟨t3, lNx _ t0 t3⟩
        walk_at "nm"
        refine ⟨rfl, Sub'.app, tsts_nil ⟨fun _ => ?_, nofun⟩⟩
        refine ev_cmap [("literal", .d (dL t))] (get3 L t.1) D.int (fun v => some (.bool (says t.2.1 t.2.2 v))) (ckC_of (by kernel_rfl!) (all_cons rfl all_nil)) (Nat.le_trans hL2.2 (by decide)) (evit_lst (.name _ _) ?_) (fun v hv => ?_) ?_
        · repeat walk_at "e"
          refine sub_tup (.d _) (.d _) (by decide) (by decide) rfl ?_
          exact sub_lst (.d _) (.d _) t0 (by omega) (get3_at t0 hL2.1) ⟨_, rfl, rfl, rfl⟩
        · walk_at "nm"
          refine ⟨rfl, Sub'.app, tsts_nil ⟨fun _ => c_law_says (evl_cons ?_), nofun⟩⟩
          walk_at "e"
          refine evl_cons ?_
          walk_at "e"
          exact evl_nil (fn_says ⟨_, rfl, rfl, rfl⟩)
        · refine ⟨_, rfl, ?_, rfl⟩
          show some (D.lst (List.map D.bool (List.map (fun v => says t.2.1 t.2.2 v) (get3 L t.1)))) = _
          rw [List.map_map, ← List.filterMap_eq_map]; rfl
      refine as_tup_lst rfl (asl_cons ?_)
      walk_at "nm"
      refine asl_cons ?_
      walk_at "nm"
      refine asl_nil (xs_if (tst_or (tst_cmp ?_)))
      walk_at "e"
      walk_at "e"
      refine cop_in (.d _) (.d _) (ok_bool _) (okBools _) ⟨_, rfl, fun _ => ?_, fun hb => ?_⟩
      · refine tst_cmp ?_
        walk_at "e"
        walk_at "e"
        refine cop_nin (.d _) (.d _) (ok_bool _) (okBools _) ⟨_, rfl, fun hb => ?_, fun _ => ?_⟩
        · rw [any_false, Bool.not_eq_true', List.any_eq_false] at hb
          exact absurd (by rw [w3]; rfl) (hb _ (List.mem_map_of_mem w2))
        · exact xs_nil (xs_nil ⟨Sub'.app, todo, fun l hl => hto l (.tail _ hl), rfl, rfl⟩)
      · rw [any_false, List.any_eq_true] at hb
        obtain ⟨b', hb', k'⟩ := hb
        obtain ⟨v, hv, rfl⟩ := List.mem_map.mp hb'
        rw [w1 v hv] at k'; cases k'
    rintro μ₁ ⟨todo, _, _, rfl⟩
    refine xs_if (tst_cmp (c_law_lowest (evl_cons ?_)))
    walk_at "e"
    refine evl_cons ?_
    repeat walk_at "e"
    refine sub_dct (.d _) (.d _) hep (evl_cons ?_)
    walk_at "e"
    refine evl_nil (fn_lowest (fun l hl => ⟨(hT l hl).1, fun q hq => by have := hT l hl; rw [pin q hq]; omega⟩) (fun q hq => by rw [pin q hq]; omega) (by omega) (by omega) hFp.f3.1 ?_)
    walk_at "e"
    refine cop_ne (.d _) (.d _) (ok_int _) (ok_int _) ⟨_, rfl, fun hb => ?_, fun _ => ?_⟩
    · rw [eqD_int, hFp.f3.2] at hb
      simp [lowF] at hb
    refine xs_nil ?_
    refine xs_for _ (fun ys μ₁ => ∃ todo, (∀ l ∈ todo, l ∈ T) ∧ ys = todo.map dL ∧ μ = μ₁) .refl (evit_lst (.name _ _) (ev_var rfl ⟨_, rfl, T, fun _ h => h, rfl, rfl⟩)) ?_ ?_
    · rintro x rest μ₁ ⟨todo, hto, ey, rfl⟩
      obtain _ | ⟨t, todo⟩ := todo
      · cases ey
      rw [List.map_cons, List.cons.injEq] at ey
      obtain ⟨rfl, rfl⟩ := ey
      have ht := hto t (.head _)
      obtain ⟨g1, g2⟩ := hFp.f4 t ht
      walk_at "nm"
      refine xs_if (tst_cmp (c_law_lowest (evl_cons ?_)))
      walk_at "e"
      refine evl_cons ?_
      repeat walk_at "e"
      refine sub_dct (.d _) (.d _) hep (evl_cons ?_)
      refine ev_cmap [("literal", .d (dL t))] T dL (fun l => if l ≠ t then some (dL l) else none) (ckC_of (by kernel_rfl!) (all_cons rfl all_nil)) (by omega) (evit_lst (.name _ _) (ev_var rfl ⟨_, rfl, rfl, rfl⟩)) (fun l hl => ?_) ?_
      · have el : eqD (dL l) (dL t) = decide (l = t) := by
          rw [eqD_lit]
          obtain ⟨l1, l2, l3⟩ := l
          obtain ⟨t1, t2, t3⟩ := t
          simp
        walk_at "nm"
        refine ⟨rfl, Sub'.app, tsts_one (tst_cmp ?_)⟩
        walk_at "e"
        walk_at "e"
        refine cop_ne (.d _) (.d _) (nb_lit _ _ _).ok (nb_lit _ _ _).ok ⟨_, rfl, fun hb => ?_, fun hb => ?_⟩
        · rw [el] at hb
          walk_at "e"
          exact ⟨_, rfl, if_pos (by simpa using hb), rfl⟩
        · rw [el] at hb
          exact ⟨if_neg (by simpa using hb), rfl⟩
      have ef : (T.filterMap fun l => if l ≠ t then some (dL l) else none) = (T.filter (fun o => o ≠ t)).map dL := by
        rw [← List.filterMap_eq_filter, List.map_filterMap]
        congr; funext l
        by_cases q : l ≠ t
        · simp [q, Option.guard]
        · simp [q, Option.guard]
      rw [ef]
      have lf := List.length_filter_le (fun o => decide (o ≠ t)) T
      refine evl_nil (fn_lowest (fun l hl => ?_) (fun q hq => by rw [pin q hq]; omega) (by omega) (by omega) g1 ?_)
      · have hl := (List.mem_filter.mp hl).1
        exact ⟨(hT l hl).1, fun q hq => by have := hT l hl; rw [pin q hq]; omega⟩
      walk_at "e"
      refine cop_ge ⟨_, rfl, fun hb => ?_, fun _ => ?_⟩
      · exact absurd (of_decide_eq_true hb) (Int.not_le.mpr g2)
      · exact xs_nil (xs_nil ⟨Sub'.app, todo, fun l hl => hto l (.tail _ hl), rfl, rfl⟩)
    rintro μ₁ ⟨todo, _, _, rfl⟩
    exact xs_nil ⟨Sub'.app, nxt⟩
  · rintro μ₁ ⟨k, hk, ey, rfl⟩
    refine xs_ret ?_
    walk_at "e"
    exact hp
end
/-- v lies in d -/
noncomputable def inD (v : Int) (d : List (Int × Int)) : Prop := ∃ q ∈ d, q.1 ≤ v ∧ v ≤ q.2
theorem mem_vals {v : Int} {d : List (Int × Int)} : v ∈ valsOf d ↔ inD v d := by
  unfold valsOf inD
  rw [List.mem_flatMap]
  constructor
  · rintro ⟨q, hq, h⟩
    obtain ⟨i, hi, rfl⟩ := List.mem_map.mp h
    have := List.mem_range.mp hi
    exact ⟨q, hq, by omega, by omega⟩
  · rintro ⟨q, hq, h1, h2⟩
    refine ⟨q, hq, List.mem_map.mpr ⟨(v - q.1).toNat, List.mem_range.mpr (by omega), by omega⟩⟩
structure IV (d : List (Int × Int)) : Prop where
  le : ∀ q ∈ d, q.1 ≤ q.2
  pw : d.Pairwise fun p q => p.2 < q.1
theorem sorted_range (a : Int) (n : Nat) : ((List.range n).map fun (i : Nat) => a + (i : Int)).Pairwise (· < ·) := by
  rw [List.pairwise_map]
  exact List.Pairwise.imp (fun h => by omega) List.pairwise_lt_range
theorem IV.vals {d : List (Int × Int)} (h : IV d) : (valsOf d).Pairwise (· < ·) := by
  induction d with
  | nil => exact .nil
  | cons q d ih =>
    have e : valsOf (q :: d) = ((List.range (q.2 + 1 - q.1).toNat).map fun (i : Nat) => q.1 + (i : Int)) ++ valsOf d := rfl
    have pw := List.pairwise_cons.mp h.pw
    rw [e, List.pairwise_append]
    refine ⟨sorted_range _ _, ih ⟨fun p hp => h.le p (.tail _ hp), pw.2⟩, fun a ha b hb => ?_⟩
    obtain ⟨i, hi, rfl⟩ := List.mem_map.mp ha
    have := List.mem_range.mp hi
    obtain ⟨r, hr, h1, h2⟩ := mem_vals.mp hb
    have := pw.1 r hr
    omega
theorem sorted_sub : ∀ {r l : List Int}, l.Pairwise (· < ·) → r.Pairwise (· < ·) → (∀ v ∈ l, v ∈ r) → l.Sublist r
  | [], l, _, _, h => by
    cases l with
    | nil => exact .slnil
    | cons a l => exact nomatch h a (.head _)
  | a :: r, [], _, _, _ => List.nil_sublist _
  | a :: r, b :: l, hl, hr, h => by
    have hl' := List.pairwise_cons.mp hl
    have hr' := List.pairwise_cons.mp hr
    rcases List.mem_cons.mp (h b (.head _)) with e | hb
    · subst e
      refine .cons₂ _ (sorted_sub hl'.2 hr'.2 fun v hv => ?_)
      rcases List.mem_cons.mp (h v (.tail _ hv)) with e | k
      · have := hl'.1 v hv; omega
      · exact k
    · refine .cons _ (sorted_sub hl hr'.2 fun v hv => ?_)
      rcases List.mem_cons.mp (h v hv) with e | k
      · exfalso
        have h1 := hr'.1 b hb
        rcases List.mem_cons.mp hv with e2 | hv
        · omega
        · have := hl'.1 v hv; omega
      · exact k
/-- a domain of a row -/
structure Dv (r : List Int) (d : List (Int × Int)) : Prop where
  ne : d ≠ []
  iv : IV d
  sub : ∀ v, inD v d → v ∈ r
theorem Dv.len {r : List Int} {d : List (Int × Int)} (hr : r.Pairwise (· < ·)) (h : Dv r d) : d.length ≤ r.length := by
  have e : (d.map (·.1)).length = d.length := List.length_map ..
  rw [← e]
  refine (sorted_sub ?_ hr fun v hv => ?_).length_le
  · rw [List.pairwise_map]
    have : d.Pairwise fun p q => p ∈ d ∧ p.2 < q.1 := by
      have := h.iv.pw
      exact List.Pairwise.imp_of_mem (fun ha _ k => ⟨ha, k⟩) this
    exact this.imp fun {a b} k => by have := h.iv.le a k.1; omega
  · obtain ⟨q, hq, rfl⟩ := List.mem_map.mp hv
    exact h.sub _ ⟨q, hq, Int.le_refl _, h.iv.le q hq⟩
theorem upTo_mem {d : List (Int × Int)} {k : Int} {p : Int × Int} : p ∈ upTo d k ↔ ∃ q ∈ d, q.1 ≤ k ∧ p = (q.1, if k < q.2 then k else q.2) := by
  unfold upTo
  rw [List.mem_filterMap]
  constructor
  · rintro ⟨q, hq, e⟩
    split at e
    · cases e; exact ⟨q, hq, by assumption, rfl⟩
    · cases e
  · rintro ⟨q, hq, h, rfl⟩
    exact ⟨q, hq, if_pos h⟩
theorem fromOn_mem {d : List (Int × Int)} {k : Int} {p : Int × Int} : p ∈ fromOn d k ↔ ∃ q ∈ d, k ≤ q.2 ∧ p = (if q.1 < k then k else q.1, q.2) := by
  unfold fromOn
  rw [List.mem_filterMap]
  constructor
  · rintro ⟨q, hq, e⟩
    split at e
    · cases e; exact ⟨q, hq, by assumption, rfl⟩
    · cases e
  · rintro ⟨q, hq, h, rfl⟩
    exact ⟨q, hq, if_pos h⟩
theorem upTo_iv {d : List (Int × Int)} {k : Int} (h : IV d) : IV (upTo d k) := by
  refine ⟨fun p hp => ?_, ?_⟩
  · obtain ⟨q, hq, h1, rfl⟩ := upTo_mem.mp hp
    have := h.le q hq
    show q.1 ≤ if k < q.2 then k else q.2
    split <;> omega
  · unfold upTo
    rw [List.pairwise_filterMap]
    refine h.pw.imp fun {a b} hab p hp q hq => ?_
    split at hp
    · split at hq
      · cases hp; cases hq
        show (if k < a.2 then k else a.2) < b.1
        split <;> omega
      · cases hq
    · cases hp
theorem fromOn_iv {d : List (Int × Int)} {k : Int} (h : IV d) : IV (fromOn d k) := by
  refine ⟨fun p hp => ?_, ?_⟩
  · obtain ⟨q, hq, h1, rfl⟩ := fromOn_mem.mp hp
    have := h.le q hq
    show (if q.1 < k then k else q.1) ≤ q.2
    split <;> omega
  · unfold fromOn
    rw [List.pairwise_filterMap]
    refine h.pw.imp fun {a b} hab p hp q hq => ?_
    split at hp
    · split at hq
      · cases hp; cases hq
        show a.2 < (if b.1 < k then k else b.1)
        split <;> omega
      · cases hq
    · cases hp
theorem upTo_in {d : List (Int × Int)} {k v : Int} (h : inD v (upTo d k)) : inD v d ∧ v ≤ k := by
  obtain ⟨p, hp, h1, h2⟩ := h
  obtain ⟨q, hq, h3, rfl⟩ := upTo_mem.mp hp
  have h2 : v ≤ if k < q.2 then k else q.2 := h2
  have h1 : q.1 ≤ v := h1
  split at h2
  · exact ⟨⟨q, hq, h1, by omega⟩, h2⟩
  · exact ⟨⟨q, hq, h1, h2⟩, by omega⟩
theorem fromOn_in {d : List (Int × Int)} {k v : Int} (h : inD v (fromOn d k)) : inD v d ∧ k ≤ v := by
  obtain ⟨p, hp, h1, h2⟩ := h
  obtain ⟨q, hq, h3, rfl⟩ := fromOn_mem.mp hp
  have h1 : (if q.1 < k then k else q.1) ≤ v := h1
  have h2 : v ≤ q.2 := h2
  split at h1
  · exact ⟨⟨q, hq, by omega, h2⟩, h1⟩
  · exact ⟨⟨q, hq, h1, h2⟩, by omega⟩
theorem meet_one {k : Int} : ∀ {d : List (Int × Int)}, IV d → inD k d → meetL d [(k, k)] = [(k, k)]
  | [], _, h => by obtain ⟨q, hq, _⟩ := h; cases hq
  | p :: d, hv, h => by
    rw [meetL, meetL_nil]
    have hp := hv.le p (.head _)
    have pw := List.pairwise_cons.mp hv.pw
    by_cases q : p.2 < k
    · have : inD k d := by
        obtain ⟨r, hr, h1, h2⟩ := h
        rcases List.mem_cons.mp hr with rfl | hr
        · omega
        · exact ⟨r, hr, h1, h2⟩
      have ih := meet_one (d := d) ⟨fun x hx => hv.le x (.tail _ hx), pw.2⟩ this
      rw [if_neg, if_pos q, ih]; rfl
      show ¬ (if p.1 < k then k else p.1) ≤ (if k < p.2 then k else p.2)
      split <;> split <;> omega
    · have : p.1 ≤ k := by
        obtain ⟨r, hr, h1, h2⟩ := h
        rcases List.mem_cons.mp hr with rfl | hr
        · exact h1
        · have := pw.1 r hr; omega
      rw [if_pos, if_neg q]
      · show [((if p.1 < k then k else p.1 : Int), (if k < p.2 then k else p.2 : Int))] ++ [] = _
        rw [List.append_nil]
        have e1 : (if p.1 < k then k else p.1) = k := by split <;> omega
        have e2 : (if k < p.2 then k else p.2) = k := by split <;> omega
        rw [e1, e2]
      · show (if p.1 < k then k else p.1) ≤ (if k < p.2 then k else p.2)
        split <;> split <;> omega
theorem strike_dv {r : List Int} {d : List (Int × Int)} {g : Sg} {k : Int} (h : Dv r d) (hp : Pick d g k) : Dv r (strike g k d) := by
  obtain ⟨i, hi, hc⟩ := hp
  have hk : inD k d := mem_vals.mp (List.mem_of_getElem? hi)
  cases g with
  | le =>
    refine ⟨?_, upTo_iv h.iv, fun v hv => h.sub v (upTo_in hv).1⟩
    obtain ⟨q, hq, h1, h2⟩ := hk
    exact List.ne_nil_of_mem (upTo_mem.mpr ⟨q, hq, h1, rfl⟩)
  | ge =>
    refine ⟨?_, fromOn_iv h.iv, fun v hv => h.sub v (fromOn_in hv).1⟩
    obtain ⟨q, hq, h1, h2⟩ := hk
    exact List.ne_nil_of_mem (fromOn_mem.mpr ⟨q, hq, h2, rfl⟩)
  | eq =>
    show Dv r (meetL d [(k, k)])
    rw [meet_one h.iv hk]
    refine ⟨by simp, ⟨fun q hq => by rw [List.mem_singleton.mp hq]; exact Int.le_refl _, List.pairwise_singleton _ _⟩, fun v hv => ?_⟩
    obtain ⟨q, hq, h1, h2⟩ := hv
    rw [List.mem_singleton.mp hq] at h1 h2
    have : v = k := by have h1 : k ≤ v := h1; have h2 : v ≤ k := h2; omega
    rw [this]; exact h.sub k hk
  | ne =>
    show Dv r (upTo d (k - 1) ++ fromOn d (k + 1))
    rw [if_pos (.inr rfl)] at hc
    have u := upTo_iv (k := k - 1) h.iv
    have f := fromOn_iv (k := k + 1) h.iv
    refine ⟨?_, ⟨fun q hq => ?_, ?_⟩, fun v hv => ?_⟩
    · have hs := h.iv.vals
      have hi1 := List.getElem?_eq_some_iff.mp hi
      obtain ⟨lt, e⟩ := hi1
      have := List.pairwise_iff_getElem.mp hs i (i + 1) lt hc (Nat.lt_succ_self i)
      rw [e] at this
      obtain ⟨q, hq, h1, h2⟩ := mem_vals.mp (List.getElem_mem hc)
      exact List.append_ne_nil_of_right_ne_nil _ (List.ne_nil_of_mem (fromOn_mem.mpr ⟨q, hq, by omega, rfl⟩))
    · rcases List.mem_append.mp hq with hq | hq
      · exact u.le q hq
      · exact f.le q hq
    · rw [List.pairwise_append]
      refine ⟨u.pw, f.pw, fun a ha b hb => ?_⟩
      have h1 := (upTo_in (v := a.2) ⟨a, ha, u.le a ha, Int.le_refl _⟩).2
      have h2 := (fromOn_in (v := b.1) ⟨b, hb, Int.le_refl _, f.le b hb⟩).2
      omega
    · obtain ⟨q, hq, h1, h2⟩ := hv
      rcases List.mem_append.mp hq with hq | hq
      · exact h.sub v (upTo_in ⟨q, hq, h1, h2⟩).1
      · exact h.sub v (fromOn_in ⟨q, hq, h1, h2⟩).1
/-- the domain of a row -/
theorem domStep_inv {acc : List (Int × Int)} {done : List Int} {t : Int} (h : IV acc) (hm : ∀ v, inD v acc ↔ v ∈ done) (ht : ∀ v ∈ done, v < t) : IV (domStep acc t) ∧ ∀ v, inD v (domStep acc t) ↔ v ∈ done ++ [t] := by
  have top : ∀ q ∈ acc, q.2 < t := fun q hq => ht _ ((hm _).mp ⟨q, hq, h.le q hq, Int.le_refl _⟩)
  have plain : IV (acc ++ [(t, t)]) ∧ ∀ v, inD v (acc ++ [(t, t)]) ↔ v ∈ done ++ [t] := by
    refine ⟨⟨fun q hq => ?_, ?_⟩, fun v => ?_⟩
    · rcases List.mem_append.mp hq with hq | hq
      · exact h.le q hq
      · rw [List.mem_singleton.mp hq]; exact Int.le_refl _
    · rw [List.pairwise_append]
      exact ⟨h.pw, List.pairwise_singleton _ _, fun a ha b hb => by rw [List.mem_singleton.mp hb]; exact top a ha⟩
    · rw [List.mem_append, List.mem_singleton, ← hm]
      constructor
      · rintro ⟨q, hq, h1, h2⟩
        rcases List.mem_append.mp hq with hq | hq
        · exact .inl ⟨q, hq, h1, h2⟩
        · rw [List.mem_singleton.mp hq] at h1 h2
          exact .inr (by have h1 : t ≤ v := h1; have h2 : v ≤ t := h2; omega)
      · rintro (⟨q, hq, h1, h2⟩ | rfl)
        · exact ⟨q, List.mem_append_left _ hq, h1, h2⟩
        · exact ⟨(v, v), List.mem_append_right _ (.head _), Int.le_refl _, Int.le_refl _⟩
  unfold domStep
  split
  · rename_i p hp
    split
    · rename_i hc
      have e := snoc_of hp
      have hp' : p ∈ acc := by rw [e]; simp
      have lp := h.le p hp'
      have pw := h.pw
      rw [e, List.pairwise_append] at pw
      refine ⟨⟨fun q hq => ?_, ?_⟩, fun v => ?_⟩
      · rcases List.mem_append.mp hq with hq | hq
        · exact h.le q (by rw [e]; exact List.mem_append_left _ hq)
        · rw [List.mem_singleton.mp hq]; show p.1 ≤ t; omega
      · rw [List.pairwise_append]
        exact ⟨pw.1, List.pairwise_singleton _ _, fun a ha b hb => by rw [List.mem_singleton.mp hb]; exact pw.2.2 a ha p (.head _)⟩
      · rw [List.mem_append, List.mem_singleton, ← hm]
        constructor
        · rintro ⟨q, hq, h1, h2⟩
          rcases List.mem_append.mp hq with hq | hq
          · exact .inl ⟨q, by rw [e]; exact List.mem_append_left _ hq, h1, h2⟩
          · rw [List.mem_singleton.mp hq] at h1 h2
            have h1 : p.1 ≤ v := h1
            have h2 : v ≤ t := h2
            by_cases w : v = t
            · exact .inr w
            · exact .inl ⟨p, hp', h1, by omega⟩
        · rintro (⟨q, hq, h1, h2⟩ | rfl)
          · rw [e] at hq
            rcases List.mem_append.mp hq with hq | hq
            · exact ⟨q, List.mem_append_left _ hq, h1, h2⟩
            · rw [List.mem_singleton.mp hq] at h1 h2
              exact ⟨(p.1, t), List.mem_append_right _ (.head _), h1, by show v ≤ t; omega⟩
          · exact ⟨(p.1, v), List.mem_append_right _ (.head _), by show p.1 ≤ v; omega, Int.le_refl _⟩
    · exact plain
  · exact plain
theorem domF_inv {r : List Int} (hr : r.Pairwise (· < ·)) : IV (domF r) ∧ ∀ v, inD v (domF r) ↔ v ∈ r := by
  have key : ∀ (todo done : List Int) (acc : List (Int × Int)), (done ++ todo).Pairwise (· < ·) → IV acc → (∀ v, inD v acc ↔ v ∈ done) → IV (todo.foldl domStep acc) ∧ ∀ v, inD v (todo.foldl domStep acc) ↔ v ∈ done ++ todo := by
    intro todo
    induction todo with
    | nil => intro done acc _ h hm; rw [List.append_nil]; exact ⟨h, hm⟩
    | cons t todo ih =>
      intro done acc hp h hm
      have pa := List.pairwise_append.mp hp
      obtain ⟨h1, h2⟩ := domStep_inv h hm fun v hv => pa.2.2 v hv t (.head _)
      rw [List.foldl_cons, show done ++ t :: todo = (done ++ [t]) ++ todo by simp]
      exact ih (done ++ [t]) _ (by simpa using hp) h1 h2
  exact key r [] [] hr ⟨(fun _ h => nomatch h), List.Pairwise.nil⟩ fun v => ⟨(fun ⟨q, hq, _⟩ => nomatch hq), (fun h => nomatch h)⟩
theorem domF_dv {r : List Int} (h : RowOk r) : Dv r (domF r) := by
  obtain ⟨h1, h2⟩ := domF_inv h.lt
  refine ⟨?_, h1, fun v hv => (h2 v).mp hv⟩
  obtain ⟨v, hv⟩ := List.exists_mem_of_ne_nil _ h.ne
  obtain ⟨q, hq, _⟩ := (h2 v).mpr hv
  exact List.ne_nil_of_mem hq
/-- the ends -/
noncomputable def loD (d : List (Int × Int)) : Int := (d[0]?.map (·.1)).getD 0
noncomputable def hiD (d : List (Int × Int)) : Int := (d.getLast?.map (·.2)).getD 0
theorem ends_of {d : List (Int × Int)} (hn : d ≠ []) (h : IV d) : (∃ q r, d[0]? = some q ∧ q.1 = loD d ∧ d.getLast? = some r ∧ r.2 = hiD d) ∧ inD (loD d) d ∧ inD (hiD d) d ∧ ∀ v, inD v d → loD d ≤ v ∧ v ≤ hiD d := by
  obtain ⟨q, d', rfl⟩ := List.exists_cons_of_ne_nil hn
  have e1 : loD (q :: d') = q.1 := rfl
  have e0 : (q :: d').getLast? = some ((q :: d').getLast hn) := List.getLast?_eq_some_getLast hn
  have e2 : hiD (q :: d') = ((q :: d').getLast hn).2 := by unfold hiD; rw [e0]; rfl
  have hm := List.getLast_mem hn
  have pw := List.pairwise_cons.mp h.pw
  refine ⟨⟨q, _, rfl, e1.symm, e0, e2.symm⟩, ?_, ?_, fun v hv => ?_⟩
  · rw [e1]; exact ⟨q, .head _, Int.le_refl _, h.le q (.head _)⟩
  · rw [e2]; exact ⟨_, hm, h.le _ hm, Int.le_refl _⟩
  · obtain ⟨r, hr, h1, h2⟩ := hv
    rw [e1, e2]
    constructor
    · rcases List.mem_cons.mp hr with rfl | hr
      · exact h1
      · have := pw.1 r hr
        have := h.le q (.head _)
        omega
    · have es := snoc_of e0
      rw [es] at hr
      rcases List.mem_append.mp hr with hr | hr
      · have pw2 := h.pw
        rw [es, List.pairwise_append] at pw2
        have := pw2.2.2 r hr _ (.head _)
        have := h.le _ hm
        omega
      · rw [List.mem_singleton.mp hr] at h2; exact h2
theorem two_vals {d : List (Int × Int)} (hn : d ≠ []) (h : IV d) (hf : fixedB d = false) : 2 ≤ (valsOf d).length := by
  match d, hn with
  | [q], _ =>
    have : q.1 ≠ q.2 := fun e => by
      have : fixedB [q] = true := decide_eq_true e
      rw [this] at hf; cases hf
    have := h.le q (.head _)
    show 2 ≤ (((List.range (q.2 + 1 - q.1).toNat).map fun (i : Nat) => q.1 + (i : Int)) ++ []).length
    rw [List.append_nil, List.length_map, List.length_range]; omega
  | q :: p :: d, _ =>
    have h1 := h.le q (.head _)
    have h2 := h.le p (.tail _ (.head _))
    show 2 ≤ (((List.range (q.2 + 1 - q.1).toNat).map fun (i : Nat) => q.1 + (i : Int)) ++ (((List.range (p.2 + 1 - p.1).toNat).map fun (i : Nat) => p.1 + (i : Int)) ++ valsOf d)).length
    rw [List.length_append, List.length_append, List.length_map, List.length_range, List.length_map, List.length_range]; omega
theorem minL_le_mem : ∀ {l : List Int}, l ≠ [] → minL l ∈ l ∧ ∀ v ∈ l, minL l ≤ v := by
  intro l hn
  obtain ⟨i, l, rfl⟩ := List.exists_cons_of_ne_nil hn
  have key : ∀ (l : List Int) (a : Int), (l.foldl (fun a b => if b < a then b else a) a ∈ a :: l) ∧ ∀ v ∈ a :: l, l.foldl (fun a b => if b < a then b else a) a ≤ v := by
    intro l
    induction l with
    | nil => intro a; exact ⟨.head _, fun v hv => by rw [List.mem_singleton.mp hv]; exact Int.le_refl _⟩
    | cons b l ih =>
      intro a
      rw [List.foldl_cons]
      obtain ⟨h1, h2⟩ := ih (if b < a then b else a)
      constructor
      · rcases List.mem_cons.mp h1 with h1 | h1
        · rw [h1]; split
          · exact .tail _ (.head _)
          · exact .head _
        · exact .tail _ (.tail _ h1)
      · intro v hv
        have h0 := h2 _ (.head _)
        rcases List.mem_cons.mp hv with rfl | hv
        · refine Int.le_trans h0 ?_
          split <;> omega
        · rcases List.mem_cons.mp hv with rfl | hv
          · refine Int.le_trans h0 ?_
            split <;> omega
          · exact h2 v (.tail _ hv)
  exact key l i
theorem minL_eq {l : List Int} {m : Int} (hm : m ∈ l) (hl : ∀ v ∈ l, m ≤ v) : minL l = m := by
  obtain ⟨h1, h2⟩ := minL_le_mem (List.ne_nil_of_mem hm)
  exact Int.le_antisymm (h2 m hm) (hl _ h1)
theorem mul_le_pos {c a b : Int} (hc : 0 < c) (h : a ≤ b) : c * a ≤ c * b := Int.mul_le_mul_of_nonneg_left h (Int.le_of_lt hc)
theorem mul_le_neg {c a b : Int} (hc : c < 0) (h : a ≤ b) : c * b ≤ c * a := by
  have := mul_le_pos (c := -c) (by omega) h
  rw [Int.neg_mul, Int.neg_mul] at this; omega
theorem mul_lt_pos {c a b : Int} (hc : 0 < c) (h : a < b) : c * a < c * b := Int.mul_lt_mul_of_pos_left h hc
theorem mul_lt_neg {c a b : Int} (hc : c < 0) (h : a < b) : c * b < c * a := by
  have := mul_lt_pos (c := -c) (by omega) h
  rw [Int.neg_mul, Int.neg_mul] at this; omega
theorem sum_le {α : Type} {f g : α → Int} : ∀ {l : List α}, (∀ a ∈ l, f a ≤ g a) → (l.map f).sum ≤ (l.map g).sum
  | [], _ => Int.le_refl _
  | a :: l, h => by
    rw [List.map_cons, List.map_cons, List.sum_cons, List.sum_cons]
    have := h a (.head _)
    have := sum_le (l := l) fun b hb => h b (.tail _ hb)
    omega
theorem sum_lt {α : Type} {f g : α → Int} {x : α} : ∀ {l : List α}, (∀ a ∈ l, f a ≤ g a) → x ∈ l → f x < g x → (l.map f).sum < (l.map g).sum
  | a :: l, h, hx, hlt => by
    rw [List.map_cons, List.map_cons, List.sum_cons, List.sum_cons]
    have h1 := h a (.head _)
    have h2 := sum_le (l := l) fun b hb => h b (.tail _ hb)
    rcases List.mem_cons.mp hx with rfl | hx
    · omega
    · have := sum_lt (l := l) (fun b hb => h b (.tail _ hb)) hx hlt
      omega
theorem kept_eq (P : List (List Int)) (f : List Int → Int) (T : List LitT) : kept P (P.map f) T = P.filterMap fun q => if T.all (fun l => holdsAt l q) then some (f q) else none := by
  unfold kept
  induction P with
  | nil => rfl
  | cons p P ih =>
    rw [List.map_cons, List.zip_cons_cons, List.filterMap_cons, List.filterMap_cons, ih]
theorem kept_mem {P : List (List Int)} {f : List Int → Int} {T : List LitT} {v : Int} : v ∈ kept P (P.map f) T ↔ ∃ q ∈ P, (∀ l ∈ T, holdsAt l q = true) ∧ f q = v := by
  rw [kept_eq, List.mem_filterMap]
  constructor
  · rintro ⟨q, hq, e⟩
    split at e
    · rename_i h
      cases e
      exact ⟨q, hq, List.all_eq_true.mp h, rfl⟩
    · cases e
  · rintro ⟨q, hq, h, rfl⟩
    exact ⟨q, hq, if_pos (List.all_eq_true.mpr h)⟩
theorem pts_mem {r0 r1 r2 : List Int} {q : List Int} : q ∈ pts r0 r1 r2 ↔ ∃ a ∈ r0, ∃ b ∈ r1, ∃ c ∈ r2, q = [a, b, c] := by
  unfold pts
  simp only [List.mem_flatMap, List.mem_map]
  constructor
  · rintro ⟨a, ha, b, hb, c, hc, rfl⟩; exact ⟨a, ha, b, hb, c, hc, rfl⟩
  · rintro ⟨a, ha, b, hb, c, hc, rfl⟩; exact ⟨a, ha, b, hb, c, hc, rfl⟩
theorem cases3 {x : Int} (h0 : 0 ≤ x) (h3 : x < 3) : x = 0 ∨ x = 1 ∨ x = 2 := by omega
/-- a point by its coordinates -/
theorem pt_of {r0 r1 r2 : List Int} (f : Int → Int) (h : ∀ x, 0 ≤ x → x < 3 → f x ∈ get3 [r0, r1, r2] x) : [f 0, f 1, f 2] ∈ pts r0 r1 r2 ∧ ∀ x : Int, 0 ≤ x → x < 3 → [f 0, f 1, f 2].getD x.toNat 0 = f x := by
  refine ⟨pts_mem.mpr ⟨f 0, h 0 (by decide) (by decide), f 1, h 1 (by decide) (by decide), f 2, h 2 (by decide) (by decide), rfl⟩, fun x h0 h3 => ?_⟩
  rcases cases3 h0 h3 with rfl | rfl | rfl <;> rfl
theorem pt_in {r0 r1 r2 q : List Int} (h : q ∈ pts r0 r1 r2) {x : Int} (h0 : 0 ≤ x) (h3 : x < 3) : q.getD x.toNat 0 ∈ get3 [r0, r1, r2] x := by
  obtain ⟨a, ha, b, hb, c, hc, rfl⟩ := pts_mem.mp h
  rcases cases3 h0 h3 with rfl | rfl | rfl
  · exact ha
  · exact hb
  · exact hc
noncomputable def reasO (lo hi ilo ihi : Int → Int) (O : List (Int × Int)) : List LitT := O.flatMap fun q => if 0 < q.1 ∧ ilo q.2 < lo q.2 then [(q.2, .ge, lo q.2)] else if q.1 < 0 ∧ hi q.2 < ihi q.2 then [(q.2, .le, hi q.2)] else []
theorem reas_oth {lo hi ilo ihi : Int → Int} {skip : Int} : ∀ (k : Nat) (l : List (Int × Int)), reas lo hi ilo ihi skip k l = reasO lo hi ilo ihi (oth skip k l)
  | _, [] => rfl
  | k, (c, x) :: r => by
    rw [reas, oth, reas_oth (k + 1) r]
    unfold reasO
    rw [List.flatMap_append]
    congr 1
    by_cases h : (k : Int) = skip
    · rw [if_pos h, if_neg (by simpa using h)]; rfl
    · rw [if_neg h, if_pos h, List.flatMap_cons, List.flatMap_nil, List.append_nil]
theorem reasO_mem {lo hi ilo ihi : Int → Int} {O : List (Int × Int)} {l : LitT} (h : l ∈ reasO lo hi ilo ihi O) : ∃ q ∈ O, (0 < q.1 ∧ ilo q.2 < lo q.2 ∧ l = (q.2, .ge, lo q.2)) ∨ (q.1 < 0 ∧ hi q.2 < ihi q.2 ∧ l = (q.2, .le, hi q.2)) := by
  obtain ⟨q, hq, e⟩ := List.mem_flatMap.mp h
  refine ⟨q, hq, ?_⟩
  split at e
  · rename_i c; exact .inl ⟨c.1, c.2, List.mem_singleton.mp e⟩
  · split at e
    · rename_i c; exact .inr ⟨c.1, c.2, List.mem_singleton.mp e⟩
    · cases e
theorem reasO_ge {lo hi ilo ihi : Int → Int} {O : List (Int × Int)} {q : Int × Int} (hq : q ∈ O) (h1 : 0 < q.1) (h2 : ilo q.2 < lo q.2) : (q.2, Sg.ge, lo q.2) ∈ reasO lo hi ilo ihi O :=
  List.mem_flatMap.mpr ⟨q, hq, by rw [if_pos ⟨h1, h2⟩]; exact .head _⟩
theorem reasO_le {lo hi ilo ihi : Int → Int} {O : List (Int × Int)} {q : Int × Int} (hq : q ∈ O) (h1 : q.1 < 0) (h2 : hi q.2 < ihi q.2) : (q.2, Sg.le, hi q.2) ∈ reasO lo hi ilo ihi O :=
  List.mem_flatMap.mpr ⟨q, hq, by rw [if_neg (fun k => by omega), if_pos ⟨h1, h2⟩]; exact .head _⟩
theorem same_key : ∀ {O : List (Int × Int)} {p q : Int × Int}, (O.map (·.2)).Nodup → p ∈ O → q ∈ O → p.2 = q.2 → p = q
  | a :: O, p, q, nd, hp, hq, e => by
    rw [List.map_cons, List.nodup_cons] at nd
    rcases List.mem_cons.mp hp with e1 | hp2
    · rcases List.mem_cons.mp hq with e2 | hq2
      · rw [e1, e2]
      · exact absurd (List.mem_map.mpr ⟨q, hq2, by rw [← e, e1]⟩ : a.2 ∈ O.map (·.2)) nd.1
    · rcases List.mem_cons.mp hq with e2 | hq2
      · exact absurd (List.mem_map.mpr ⟨p, hp2, by rw [e, e2]⟩ : a.2 ∈ O.map (·.2)) nd.1
      · exact same_key nd.2 hp2 hq2 e
theorem facts {r0 r1 r2 : List Int} {N : List (List Int)} {O : List (Int × Int)} {lo hi ilo ihi : Int → Int}
    (hx : ∀ q ∈ O, 0 ≤ q.2 ∧ q.2 < 3 ∧ q.1 ≠ 0) (nd : (O.map (·.2)).Nodup)
    (hn : ∀ x : Int, 0 ≤ x → x < 3 → lo x ∈ get3 N x ∧ hi x ∈ get3 N x ∧ ∀ v ∈ get3 N x, lo x ≤ v ∧ v ≤ hi x ∧ v ∈ get3 [r0, r1, r2] x)
    (hr : ∀ x : Int, 0 ≤ x → x < 3 → ilo x ∈ get3 [r0, r1, r2] x ∧ ihi x ∈ get3 [r0, r1, r2] x ∧ ∀ v ∈ get3 [r0, r1, r2] x, ilo x ≤ v ∧ v ≤ ihi x) :
    Facts [r0, r1, r2] N (pts r0 r1 r2) O (reasO lo hi ilo ihi O) := by
  -- the lowest value of a pair
  have hmin : ∀ q ∈ O, minL ((get3 N q.2).map fun v => q.1 * v) = q.1 * (if 0 < q.1 then lo q.2 else hi q.2) := by
    intro q hq
    obtain ⟨h0, h3, hc⟩ := hx q hq
    obtain ⟨n1, n2, n3⟩ := hn q.2 h0 h3
    refine minL_eq ?_ fun v hv => ?_
    · split
      · exact List.mem_map.mpr ⟨_, n1, rfl⟩
      · exact List.mem_map.mpr ⟨_, n2, rfl⟩
    · obtain ⟨u, hu, rfl⟩ := List.mem_map.mp hv
      obtain ⟨u1, u2, _⟩ := n3 u hu
      split
      · rename_i c; exact mul_le_pos c u1
      · rename_i c; exact mul_le_neg (by omega) u2
  have hlow : lowF N O = (O.map fun q => q.1 * (if 0 < q.1 then lo q.2 else hi q.2)).sum := by
    unfold lowF
    rw [List.map_congr_left hmin]
  -- the best point
  obtain ⟨best, hbest, hbx⟩ : ∃ f : Int → Int, (∀ x, 0 ≤ x → x < 3 → (f x = lo x ∨ f x = hi x)) ∧ ∀ q ∈ O, f q.2 = if 0 < q.1 then lo q.2 else hi q.2 := by
    refine ⟨fun x => match O.find? (fun q => q.2 = x) with
      | some q => if 0 < q.1 then lo x else hi x
      | none => lo x, fun x _ _ => ?_, fun q hq => ?_⟩
    · dsimp only
      split
      · split
        · exact .inl rfl
        · exact .inr rfl
      · exact .inl rfl
    · dsimp only
      cases e : O.find? (fun p => p.2 = q.2) with
      | none =>
        have := List.find?_eq_none.mp e q hq
        simp at this
      | some p =>
        have h1 := List.find?_some e
        have h1 : p.2 = q.2 := by simpa using h1
        rw [same_key nd (List.mem_of_find?_eq_some e) hq h1]
  have hbR : ∀ x, 0 ≤ x → x < 3 → best x ∈ get3 [r0, r1, r2] x := fun x h0 h3 => by
    obtain ⟨n1, n2, n3⟩ := hn x h0 h3
    rcases hbest x h0 h3 with e | e <;> rw [e]
    · exact (n3 _ n1).2.2
    · exact (n3 _ n2).2.2
  obtain ⟨bp1, bp2⟩ := pt_of best hbR
  -- any point that keeps what is told is as high
  have hge : ∀ q ∈ pts r0 r1 r2, (∀ l ∈ reasO lo hi ilo ihi O, holdsAt l q = true) → (O.map fun q => q.1 * (if 0 < q.1 then lo q.2 else hi q.2)).sum ≤ sumAt O q := by
    intro pt hpt hk
    unfold sumAt
    refine sum_le fun q hq => ?_
    obtain ⟨h0, h3, hc⟩ := hx q hq
    obtain ⟨n1, n2, n3⟩ := hn q.2 h0 h3
    obtain ⟨i1, i2, i3⟩ := hr q.2 h0 h3
    have hv := pt_in hpt h0 h3
    obtain ⟨v1, v2⟩ := i3 _ hv
    split
    · rename_i c
      refine mul_le_pos c ?_
      by_cases w : ilo q.2 < lo q.2
      · exact of_decide_eq_true (hk _ (reasO_ge hq c w))
      · omega
    · rename_i c
      refine mul_le_neg (by omega) ?_
      by_cases w : hi q.2 < ihi q.2
      · exact of_decide_eq_true (hk _ (reasO_le hq (by omega) w))
      · omega
  have hbk : ∀ l ∈ reasO lo hi ilo ihi O, holdsAt l [best 0, best 1, best 2] = true := by
    intro l hl
    obtain ⟨q, hq, ⟨c, _, rfl⟩ | ⟨c, _, rfl⟩⟩ := reasO_mem hl
    · obtain ⟨h0, h3, _⟩ := hx q hq
      show decide (lo q.2 ≤ [best 0, best 1, best 2].getD q.2.toNat 0) = true
      rw [bp2 _ h0 h3, hbx q hq, if_pos c]; exact decide_eq_true (Int.le_refl _)
    · obtain ⟨h0, h3, _⟩ := hx q hq
      show decide ([best 0, best 1, best 2].getD q.2.toNat 0 ≤ hi q.2) = true
      rw [bp2 _ h0 h3, hbx q hq, if_neg (by omega)]; exact decide_eq_true (Int.le_refl _)
  have hbs : sumAt O [best 0, best 1, best 2] = (O.map fun q => q.1 * (if 0 < q.1 then lo q.2 else hi q.2)).sum := by
    unfold sumAt
    congr 1
    refine List.map_congr_left fun q hq => ?_
    obtain ⟨h0, h3, _⟩ := hx q hq
    rw [bp2 _ h0 h3, hbx q hq]
  refine ⟨fun l hl => ?_, fun l hl => ?_, ?_, fun l hl => ?_⟩
  · obtain ⟨q, hq, ⟨_, _, rfl⟩ | ⟨_, _, rfl⟩⟩ := reasO_mem hl
    · exact List.mem_map_of_mem hq
    · exact List.mem_map_of_mem hq
  · obtain ⟨q, hq, ⟨c, d, rfl⟩ | ⟨c, d, rfl⟩⟩ := reasO_mem hl
    · obtain ⟨h0, h3, _⟩ := hx q hq
      obtain ⟨n1, n2, n3⟩ := hn q.2 h0 h3
      obtain ⟨i1, i2, i3⟩ := hr q.2 h0 h3
      exact ⟨fun v hv => decide_eq_true (n3 v hv).1, ilo q.2, i1, decide_eq_false (by show ¬ lo q.2 ≤ ilo q.2; omega)⟩
    · obtain ⟨h0, h3, _⟩ := hx q hq
      obtain ⟨n1, n2, n3⟩ := hn q.2 h0 h3
      obtain ⟨i1, i2, i3⟩ := hr q.2 h0 h3
      exact ⟨fun v hv => decide_eq_true (n3 v hv).2.1, ihi q.2, i2, decide_eq_false (by show ¬ ihi q.2 ≤ hi q.2; omega)⟩
  · have hm : (O.map fun q => q.1 * (if 0 < q.1 then lo q.2 else hi q.2)).sum ∈ kept (pts r0 r1 r2) ((pts r0 r1 r2).map (sumAt O)) (reasO lo hi ilo ihi O) := kept_mem.mpr ⟨_, bp1, hbk, hbs⟩
    refine ⟨List.length_pos_of_mem hm, ?_⟩
    rw [hlow]
    refine minL_eq hm fun v hv => ?_
    obtain ⟨q, hq, hk, rfl⟩ := kept_mem.mp hv
    exact hge q hq hk
  · -- without one of them some point is lower
    obtain ⟨q, hq, hl'⟩ := reasO_mem hl
    obtain ⟨h0, h3, hc⟩ := hx q hq
    obtain ⟨n1, n2, n3⟩ := hn q.2 h0 h3
    obtain ⟨i1, i2, i3⟩ := hr q.2 h0 h3
    have fin : ∀ (u : Int), u ∈ get3 [r0, r1, r2] q.2 → q.1 * u < q.1 * (if 0 < q.1 then lo q.2 else hi q.2) → l.1 = q.2 → (∀ l' ∈ reasO lo hi ilo ihi O, l'.1 = q.2 → l' = l) →
        0 < (kept (pts r0 r1 r2) ((pts r0 r1 r2).map (sumAt O)) ((reasO lo hi ilo ihi O).filter (fun o => o ≠ l))).length ∧ minL (kept (pts r0 r1 r2) ((pts r0 r1 r2).map (sumAt O)) ((reasO lo hi ilo ihi O).filter (fun o => o ≠ l))) < lowF N O := by
      intro u hu hlt hl1 huniq
      obtain ⟨p1, p2⟩ := pt_of (r0 := r0) (r1 := r1) (r2 := r2) (fun x => if x = q.2 then u else best x) fun x x0 x3 => by
        split
        · rename_i e; rw [e]; exact hu
        · exact hbR x x0 x3
      have hm := kept_mem (f := sumAt O) (T := (reasO lo hi ilo ihi O).filter (fun o => o ≠ l)).mpr ⟨_, p1, fun l' hl' => ?_, rfl⟩
      · refine ⟨List.length_pos_of_mem hm, Int.lt_of_le_of_lt ((minL_le_mem (List.ne_nil_of_mem hm)).2 _ hm) ?_⟩
        rw [hlow]
        unfold sumAt
        refine sum_lt (x := q) (fun a ha => ?_) hq ?_
        · obtain ⟨a0, a3, _⟩ := hx a ha
          rw [p2 _ a0 a3]
          by_cases e : a.2 = q.2
          · rw [same_key nd ha hq e, if_pos rfl]; exact Int.le_of_lt hlt
          · rw [if_neg e, hbx a ha]; exact Int.le_refl _
        · rw [p2 _ h0 h3, if_pos rfl]; exact hlt
      · obtain ⟨hl1', hne⟩ := List.mem_filter.mp hl'
        have hne : l' ≠ l := by simpa using hne
        obtain ⟨a, ha, hcase⟩ := reasO_mem hl1'
        have e1 : l'.1 = a.2 := by rcases hcase with ⟨_, _, rfl⟩ | ⟨_, _, rfl⟩ <;> rfl
        have ane : a.2 ≠ q.2 := fun e => hne (huniq l' hl1' (e1.trans e))
        obtain ⟨a0, a3, _⟩ := hx a ha
        have hb := hbk l' hl1'
        unfold holdsAt at hb ⊢
        rw [e1, bp2 _ a0 a3] at hb
        rw [e1, p2 _ a0 a3, if_neg ane]; exact hb
    rcases hl' with ⟨c, d, rfl⟩ | ⟨c, d, rfl⟩
    · refine fin (ilo q.2) i1 ?_ rfl fun l' hl' e => ?_
      · rw [if_pos c]; exact mul_lt_pos c d
      · obtain ⟨a, ha, ⟨c2, d2, rfl⟩ | ⟨c2, d2, rfl⟩⟩ := reasO_mem hl'
        · have e : a.2 = q.2 := e
          rw [e]
        · have e : a.2 = q.2 := e
          rw [same_key nd ha hq e] at c2; omega
    · refine fin (ihi q.2) i2 ?_ rfl fun l' hl' e => ?_
      · rw [if_neg (by omega)]; exact mul_lt_neg c d
      · obtain ⟨a, ha, ⟨c2, d2, rfl⟩ | ⟨c2, d2, rfl⟩⟩ := reasO_mem hl'
        · have e : a.2 = q.2 := e
          rw [same_key nd ha hq e] at c2; omega
        · have e : a.2 = q.2 := e
          rw [e]
theorem oth_sublist {place : Int} : ∀ (k : Nat) (l : List (Int × Int)), (oth place k l).Sublist l
  | _, [] => .slnil
  | k, q :: r => by
    rw [oth]
    split
    · exact (oth_sublist (k + 1) r).cons₂ q
    · exact (oth_sublist (k + 1) r).cons q
/-- the pairs -/
structure KeysOk (B : Int) (es : List (Int × Int)) : Prop where
  nd : (es.map (·.1)).Nodup
  bd : ∀ p ∈ es, 0 ≤ p.1 ∧ p.1 < 3 ∧ -B ≤ p.2 ∧ p.2 ≤ B
theorem getI_bd {B : Int} {es : List (Int × Int)} (h : KeysOk B es) (hB : 0 ≤ B) (k : Int) : -B ≤ getI es k ∧ getI es k ≤ B := by
  unfold getI
  split
  · rename_i p e
    have := h.bd p (List.mem_of_find?_eq_some e)
    exact this.2.2
  · omega
theorem addUp_ok {B : Int} {es : List (Int × Int)} (h : KeysOk B es) (hB : 0 ≤ B) {p : Int × Int} (h1 : 0 ≤ p.2 ∧ p.2 < 3) (h2 : -3 ≤ p.1 ∧ p.1 ≤ 3) : KeysOk (B + 3) (addUp es p) := by
  have g := getI_bd h hB p.2
  unfold addUp putI
  split
  · refine ⟨?_, fun q hq => ?_⟩
    · rw [List.map_map]
      have : ((fun x : Int × Int => x.1) ∘ fun q : Int × Int => if q.1 = p.2 then (q.1, getI es p.2 + p.1) else q) = fun q => q.1 := by
        funext q
        show (if q.1 = p.2 then (q.1, getI es p.2 + p.1) else q).1 = q.1
        split <;> rfl
      rw [this]; exact h.nd
    · obtain ⟨r, hr, rfl⟩ := List.mem_map.mp hq
      have := h.bd r hr
      split
      · exact ⟨this.1, this.2.1, by show -(B + 3) ≤ getI es p.2 + p.1; omega, by show getI es p.2 + p.1 ≤ B + 3; omega⟩
      · exact ⟨this.1, this.2.1, by omega, by omega⟩
  · rename_i hn
    refine ⟨?_, fun q hq => ?_⟩
    · rw [List.map_append, List.nodup_append]
      refine ⟨h.nd, List.nodup_cons.mpr ⟨List.not_mem_nil, List.nodup_nil⟩, fun a ha b hb e => ?_⟩
      rw [List.mem_singleton.mp hb] at e
      obtain ⟨r, hr, e2⟩ := List.mem_map.mp ha
      refine hn (List.any_eq_true.mpr ⟨r, hr, decide_eq_true ?_⟩)
      rw [e2, e]
    · rcases List.mem_append.mp hq with hq | hq
      · have := h.bd q hq
        exact ⟨this.1, this.2.1, by omega, by omega⟩
      · rw [List.mem_singleton.mp hq]
        exact ⟨h1.1, h1.2, by show -(B + 3) ≤ getI es p.2 + p.1; omega, by show getI es p.2 + p.1 ≤ B + 3; omega⟩
theorem sumsOf_ok {cs xs : List Int} (hc : ∀ c ∈ cs, -3 ≤ c ∧ c ≤ 3) (hx : ∀ x ∈ xs, 0 ≤ x ∧ x < 3) (hn : cs.length ≤ 100) : ∃ B, B ≤ 300 ∧ KeysOk B (sumsOf cs xs) := by
  have key : ∀ (l : List (Int × Int)) (es : List (Int × Int)) (B : Int), 0 ≤ B → KeysOk B es → (∀ p ∈ l, (0 ≤ p.2 ∧ p.2 < 3) ∧ -3 ≤ p.1 ∧ p.1 ≤ 3) → KeysOk (B + 3 * l.length) (l.foldl addUp es) := by
    intro l
    induction l with
    | nil => intro es B _ h _; simpa using h
    | cons p l ih =>
      intro es B hB h hp
      have := ih (addUp es p) (B + 3) (by omega) (addUp_ok h hB (hp p (.head _)).1 (hp p (.head _)).2) fun q hq => hp q (.tail _ hq)
      rw [List.foldl_cons, List.length_cons]
      rw [show B + 3 * ((l.length + 1 : Nat) : Int) = B + 3 + 3 * (l.length : Int) by omega]
      exact this
  refine ⟨0 + 3 * ((cs.zip xs).length : Int), ?_, key (cs.zip xs) [] 0 (by decide) ⟨List.nodup_nil, fun _ h => nomatch h⟩ fun p hp => ?_⟩
  · rw [List.length_zip]; omega
  · obtain ⟨a, b⟩ := List.of_mem_zip hp
    exact ⟨hx _ b, hc _ a⟩
structure PairsOk (pairs : List (Int × Int)) : Prop where
  nd : (pairs.map (·.2)).Nodup
  bd : ∀ q ∈ pairs, 0 ≤ q.2 ∧ q.2 < 3 ∧ q.1 ≠ 0 ∧ -300 ≤ q.1 ∧ q.1 ≤ 300
  le : pairs.length ≤ 3
theorem filterMap_keys {g : Int → Int} : ∀ (es : List (Int × Int)), ((es.filterMap fun p => if g p.1 ≠ 0 then some (g p.1, p.1) else none).map (·.2)).Sublist (es.map (·.1))
  | [] => .slnil
  | p :: es => by
    rw [List.filterMap_cons]
    by_cases h : g p.1 ≠ 0
    · rw [if_pos h]; exact (filterMap_keys es).cons₂ p.1
    · rw [if_neg h]; exact (filterMap_keys es).cons p.1
theorem nodup_len : ∀ {l m : List Int}, l.Nodup → (∀ x ∈ l, x ∈ m) → l.length ≤ m.length
  | [], _, _, _ => Nat.zero_le _
  | a :: l, m, nd, h => by
    rw [List.nodup_cons] at nd
    have hm := h a (.head _)
    have := nodup_len (l := l) (m := m.erase a) nd.2 fun x hx => (List.mem_erase_of_ne (fun e => nd.1 (by rw [← e]; exact hx))).mpr (h x (.tail _ hx))
    rw [List.length_erase_of_mem hm] at this
    have := List.length_pos_of_mem hm
    rw [List.length_cons]; omega
theorem nodup3 {l : List Int} (nd : l.Nodup) (h : ∀ x ∈ l, 0 ≤ x ∧ x < 3) : l.length ≤ 3 := by
  have : l.length ≤ [0, 1, 2].length := by
    refine nodup_len (m := [0, 1, 2]) nd fun x hx => ?_
    obtain ⟨a, b⟩ := h x hx
    rcases cases3 a b with rfl | rfl | rfl <;> decide
  exact this
theorem rowsF_ok {cs xs : List Int} (hc : ∀ c ∈ cs, -3 ≤ c ∧ c ≤ 3) (hx : ∀ x ∈ xs, 0 ≤ x ∧ x < 3) (hn : cs.length ≤ 100) : PairsOk (rowsF cs xs) := by
  obtain ⟨B, hB, hk⟩ := sumsOf_ok hc hx hn
  have hs := filterMap_keys (g := getI (sumsOf cs xs)) (sumsOf cs xs)
  have nd : ((rowsF cs xs).map (·.2)).Nodup := hs.nodup hk.nd
  have hb : ∀ q ∈ rowsF cs xs, 0 ≤ q.2 ∧ q.2 < 3 ∧ q.1 ≠ 0 ∧ -300 ≤ q.1 ∧ q.1 ≤ 300 := by
    intro q hq
    unfold rowsF at hq
    obtain ⟨p, hp, e⟩ := List.mem_filterMap.mp hq
    split at e
    · rename_i h
      cases e
      have h1 := hk.bd p hp
      have h2 := getI_bd hk (by omega) p.1
      exact ⟨h1.1, h1.2.1, h, by show -300 ≤ getI _ _; omega, by show getI _ _ ≤ 300; omega⟩
    · cases e
  refine ⟨nd, hb, ?_⟩
  have := nodup3 nd fun x hx => by
    obtain ⟨q, hq, rfl⟩ := List.mem_map.mp hx
    have := hb q hq
    exact ⟨this.1, this.2.1⟩
  rwa [List.length_map] at this
section
variable {w : World} {h₀ : Heap} {mb : Str → Option Value} {n : Nat} {S : Sc} {ρ : Rho} {μ : Mem} {P : V → Mem → Prop} {p : SP} {s : SD} {pos : Pos} {e : Expr} {rest : List Stmt} {nx cn : Rho → Mem → Prop} {rt : V → Mem → Prop}
theorem xs_comp {X : Cx} (ρ₀ : Rho) {elt target iter : Expr} {ifs : List Expr} {gs : List Comprehension} {scope : Scope} {pos spos py : Pos} {y : Str} (I : List D → Rho → Mem → List D → Prop) (C : CompOk scope S ρ ρ₀)
    (hsw : ∀ env, env.scope = S.sc → swapsWith (.ListComp elt (⟨target, iter, ifs, 0⟩ :: gs) scope pos) (some (.Name y py)) spos.line env = pure true)
    (hi : EvIt X n S iter target ρ μ fun xs μ₁ => I xs ρ₀ μ₁ [])
    (turn : ∀ x rest ρ₁ μ₁ acc₁, I (x :: rest) ρ₁ μ₁ acc₁ → As X n (S.sub scope) target (.d x) ρ₁ μ₁ fun ρ₂ μ₂ => Tsts X n (S.sub scope) ifs ρ₂ μ₂ fun b μ₃ => (b = true → Em X n (S.sub scope) ⟨elt, ⟨target, iter, ifs, 0⟩ :: gs, scope, pos⟩ 1 ρ₂ μ₃ acc₁ fun ρ₄ μ₄ acc₄ => I rest ρ₄ μ₄ acc₄) ∧ (b = false → I rest ρ₂ μ₃ acc₁))
    (fin : ∀ ρ₁ μ₁ acc₁, I [] ρ₁ μ₁ acc₁ → As X n S (.Name y py) (.d (.lst acc₁)) ρ μ₁ fun ρ' μ' => Exs X n S rest ρ' μ' (Po nx cn rt)) (ha : ∀ g ∈ gs, g.is_async = 0 := by simp)
    (hs : ∀ env x, foldedSetIterable iter env x = pure x := by intros; rfl) : Exs X n S (.Assign [.Name y py] (.ListComp elt (⟨target, iter, ifs, 0⟩ :: gs) scope pos) spos :: rest) ρ μ (Po nx cn rt) :=
  xs_st (ex_comp ρ₀ I C hsw hi turn fin ha hs)
/-- the script: a list whose object is not known to the last -/
theorem op_len_scr {X : Cx} {P : V → Mem → Prop} {ds : List D} (hn : ds.length < 2 ^ 40) (hp : P (.d (.int ds.length)) μ) : Op X n (fun vals => call (.builtin "len") vals) [.d (.scr ds)] μ P := by
  intro A s Z Or K ra vals Q E hA T r g
  obtain ⟨_, rfl, r1⟩ := r.one_inv
  cases r1 with
  | scr z hc hd q =>
    rename_i a o vs m
    have l := q.length
    have hL : s.heap.IsList a vs.toArray := ⟨o, T.z _ _ z, hc, m, hd⟩
    refine call_len_list hL (by rw [List.size_toArray]; omega) ?_
    rw [List.size_toArray, l]
    exact g.here T hp (.int _ _)
theorem ev_slice_scr {X : Cx} {P : V → Mem → Prop} {value e : Expr} {p pos : Pos} (hv : Ev X n S value ρ μ fun o μ₁ => Ev X n S e ρ μ₁ fun i μ₂ => ∃ ds k, o = .d (.scr ds) ∧ i = .d (.int k) ∧ 0 ≤ k ∧ ds.length ≤ 100000 ∧ P (.d (.lst (ds.take k.toNat))) μ₂) : Ev X n S (.Subscript value (.Slice none (some e) none p) pos) ρ μ P := by
  intro A env s Z Of Or K ra Q E hA hs T g
  refine Subscript_ ?_
  refine hv A env s Z Of Or K ra _ E hA hs T fun h₁ tk₁ Z₁ Or₁ ra₁ va a μ₁ p₁ z₁ pr₁ T₁ r₁ => wpAny_Slice ?_
  rw [evalPart_none, evalPart_some]
  refine wpAny_pure ?_
  refine p₁ A env _ Z₁ Of Or₁ K ra₁ _ E hA hs T₁ fun h₂ tk₂ Z₂ Or₂ ra₂ vb b μ₂ p₂ z₂ pr₂ T₂ r₂ => wpAny_pure ?_
  obtain ⟨ds, k, rfl, rfl, h0, hn, hp⟩ := p₂
  obtain ⟨t, rfl⟩ := RepD.int_inv r₂
  have r₁ := r₁.mono z₂ pr₂
  cases r₁ with
  | scr z hc hd q =>
    rename_i l o vs m
    have hL : ∀ {hh : Heap}, (∀ b o, h₂.get? b = some o → hh.get? b = some o) → hh.IsList l vs.toArray := fun k => ⟨o, k _ _ (T₂.bs.z _ _ z), hc, m, hd⟩
    have T₃ := T₂.grow (h' := h₂.push { cls := .type "slice", data := .fields #[.none, .int k t, .none] }) fun _ _ e => Heap.get?_push_of_some _ e
    have lk := q.length
    refine tail_any (o := .ref l) (i := .ref h₂.objs.size) (ops := [.ref h₂.objs.size, .ref l]) (Heap.IsList.typeIs (s := { s with heap := h₂.push { cls := .type "slice", data := .fields #[.none, .int k t, .none] }, toks := tk₂ }) (hL fun _ _ e => Heap.get?_push_of_some _ e)) slot_list_getitem.lookup
      (wpAny_getItem_list_slice (hL fun _ _ e => Heap.get?_push_of_some _ e) (Heap.IsSliceOf.new ..) .none (.int k t) .none (by simp) ?_ (by rw [List.size_toArray, sizeLine_eq]; omega)) (by with_unfolding_all rfl)
    have ek : k = ((k.toNat : Nat) : Int) := (Int.toNat_of_nonneg h0).symm
    have ep : slicePick vs.toArray none (some k) none = (vs.take k.toNat).toArray := by
      have := slicePick_upto' vs.toArray k.toNat
      rw [← ek] at this; exact this
    rw [ep]
    exact g _ tk₂ _ Or₂ ra₂ _ _ μ₂ hp (z₁.trans (z₂.trans addZ_le)) (pr₁.trans pr₂) (T₃.push (lstObj (vs.take k.toNat))) (.lst addZ_new ((q.take _).mono addZ_le))
theorem getK_cons {k j : Int} {v : D} {es : List (Int × D)} : getK ((k, v) :: es) j = if k = j then some v else getK es j := by
  unfold getK
  rw [List.find?_cons]
  by_cases h : k = j
  · rw [if_pos h]; simp [h]
  · rw [if_neg h]; simp [h]
theorem getK_put {es : List (Int × D)} {k j : Int} {v : D} : getK (putK es k v) j = if j = k then some v else getK es j := by
  have key : ∀ es : List (Int × D), getK (es.map fun kv => if kv.1 = k then (kv.1, v) else kv) j = if j = k then (if es.any (fun kv => kv.1 = k) then some v else none) else getK es j := by
    intro es
    induction es with
    | nil => simp [getK]
    | cons a es ih =>
      obtain ⟨a, u⟩ := a
      rw [List.map_cons, List.any_cons]
      by_cases h : a = k
      · subst h
        simp only [if_true]
        rw [getK_cons, getK_cons, ih]
        by_cases q : j = a
        · subst q; simp
        · have q' : ¬ a = j := fun e => q e.symm
          simp only [if_neg q, if_neg q']
      · simp only [if_neg h]
        rw [getK_cons, getK_cons, ih]
        by_cases q : j = k
        · subst q
          rw [if_neg h, if_pos rfl, if_pos rfl]
          rw [decide_eq_false h, Bool.false_or]
        · by_cases q2 : a = j
          · simp [q, q2]
          · simp [q, q2]
  unfold putK
  split
  · rename_i h
    rw [key, if_pos h]
  · rename_i h
    have h : es.any (fun kv => decide (kv.1 = k)) = false := Bool.eq_false_iff.mpr h
    by_cases q : j = k
    · subst q
      rw [if_pos rfl]
      unfold getK
      rw [List.find?_append]
      have : es.find? (fun kv => decide (kv.1 = j)) = none := by
        rw [List.find?_eq_none]
        intro x hx
        have := List.any_eq_false.mp h x hx
        exact this
      rw [this]; simp
    · rw [if_neg q]
      unfold getK
      rw [List.find?_append]
      have : [(k, v)].find? (fun kv => decide (kv.1 = j)) = none := by
        rw [List.find?_cons]
        simp [show ¬ k = j from fun e => q e.symm]
      rw [this]; simp
theorem putK_len (es : List (Int × D)) (k : Int) (v : D) : (putK es k v).length ≤ es.length + 1 := by
  unfold putK
  split
  · rw [List.length_map]; omega
  · rw [List.length_append]; exact Nat.le_refl _
/-- all that the told-right call asks -/
theorem dv_bd {r : List Int} {d : List (Int × Int)} (hr : RowOk r) (h : Dv r d) : DomB d ∧ valsOf d ≠ [] ∧ ∀ i ∈ valsOf d, -1000 ≤ i ∧ i ≤ 1000 := by
  have hl := h.len hr.lt
  have := hr.le
  refine ⟨⟨by omega, fun q hq => ?_⟩, ?_, fun i hi => ?_⟩
  · have l := h.iv.le q hq
    have b1 := hr.bd q.1 (h.sub _ ⟨q, hq, Int.le_refl _, l⟩)
    have b2 := hr.bd q.2 (h.sub _ ⟨q, hq, l, Int.le_refl _⟩)
    omega
  · obtain ⟨_, h1, _⟩ := ends_of h.ne h.iv
    exact List.ne_nil_of_mem (mem_vals.mpr h1)
  · have := hr.bd i (h.sub i (mem_vals.mp hi)); omega
theorem told_of {a b c : List (Int × Int)} {r0 r1 r2 : List Int} {pairs : List (Int × Int)} {es : List (Int × D)} (h : SA μ p s) (hs : s.doms = [a, b, c]) (hf : s.firsts = [domF r0, domF r1, domF r2]) (ho0 : RowOk r0) (ho1 : RowOk r1) (ho2 : RowOk r2)
    (ha : Dv r0 a) (hb : Dv r1 b) (hc : Dv r2 c) (hpa : PairsOk pairs)
    (hes : ∀ place : Int, -1 ≤ place → place < pairs.length → getK es place = some (dInts ((pts r0 r1 r2).map (sumAt (oth place 0 pairs)))))
    (hp : P (.d (.bool true)) μ) : Fc (cx w h₀ mb) (n+4) 318 [.own p.i, .d (.lst [dInts r0, dInts r1, dInts r2]), .d (.lst (pairs.map dI)), .d (.lst ((pts r0 r1 r2).map dP)), .d (.dct es)] μ P := by
  obtain ⟨A1, A2, A3⟩ := dv_bd ho0 ha
  obtain ⟨B1, B2, B3⟩ := dv_bd ho1 hb
  obtain ⟨C1, C2, C3⟩ := dv_bd ho2 hc
  have dvx : ∀ x : Int, 0 ≤ x → x < 3 → ∃ r d, RowOk r ∧ Dv r d ∧ get3 [r0, r1, r2] x = r ∧ get3 [valsOf a, valsOf b, valsOf c] x = valsOf d ∧ s.doms[x.toNat]? = some d ∧ s.doms.getD x.toNat [] = d ∧ s.firsts[x.toNat]? = some (domF r) ∧ s.firsts.getD x.toNat [] = domF r := by
    intro x h0 h3
    rw [hs, hf]
    rcases cases3 h0 h3 with rfl | rfl | rfl
    · exact ⟨r0, a, ho0, ha, rfl, rfl, rfl, rfl, rfl, rfl⟩
    · exact ⟨r1, b, ho1, hb, rfl, rfl, rfl, rfl, rfl, rfl⟩
    · exact ⟨r2, c, ho2, hc, rfl, rfl, rfl, rfl, rfl, rfl⟩
  refine fn_told (lo := fun x => loD (s.doms.getD x.toNat [])) (hi := fun x => hiD (s.doms.getD x.toNat [])) (ilo := fun x => loD (s.firsts.getD x.toNat [])) (ihi := fun x => hiD (s.firsts.getD x.toNat [])) h hs A1 B1 C1 (fun q hq => ?_) (fun q hq => ?_) (Nat.le_trans hpa.le (by decide)) (fun v hv => ?_) ho0.le ho1.le ho2.le hes (fun place hp1 hp2 => ?_) hp
  · obtain ⟨q0, q3, _⟩ := hpa.bd q hq
    obtain ⟨r, d, hr, hd, e1, e2, e3, e4, e5, e6⟩ := dvx q.2 q0 q3
    obtain ⟨⟨x, y, x1, x2, x3, x4⟩, _⟩ := ends_of hd.ne hd.iv
    have hdf := domF_dv hr
    obtain ⟨⟨x', y', y1, y2, y3, y4⟩, _⟩ := ends_of hdf.ne hdf.iv
    exact ⟨q0, by omega, ⟨d, x, y, e3, x1, by rw [e4]; exact x2, x3, by rw [e4]; exact x4⟩, ⟨domF r, x', y', e5, y1, by rw [e6]; exact y2, y3, by rw [e6]; exact y4⟩⟩
  · obtain ⟨q0, q3, _, q4, q5⟩ := hpa.bd q hq
    exact ⟨q0, q3, by omega, by omega⟩
  · simp only [List.mem_cons, List.not_mem_nil, or_false] at hv
    rcases hv with rfl | rfl | rfl
    · exact ⟨A2, A3⟩
    · exact ⟨B2, B3⟩
    · exact ⟨C2, C3⟩
  · rw [reas_oth]
    refine facts (fun q hq => ?_) ?_ (fun x h0 h3 => ?_) fun x h0 h3 => ?_
    · obtain ⟨q0, q3, q1, _⟩ := hpa.bd q (oth_sub hq)
      exact ⟨q0, q3, q1⟩
    · exact ((oth_sublist 0 pairs).map (·.2)).nodup hpa.nd
    · obtain ⟨r, d, hr, hd, e1, e2, e3, e4, e5, e6⟩ := dvx x h0 h3
      obtain ⟨_, x1, x2, x3⟩ := ends_of hd.ne hd.iv
      rw [e2, e1, e4]
      refine ⟨mem_vals.mpr x1, mem_vals.mpr x2, fun v hv => ?_⟩
      have hv := mem_vals.mp hv
      exact ⟨(x3 v hv).1, (x3 v hv).2, hd.sub v hv⟩
    · obtain ⟨r, d, hr, hd, e1, e2, e3, e4, e5, e6⟩ := dvx x h0 h3
      have hdf := domF_dv hr
      obtain ⟨_, x1, x2, x3⟩ := ends_of hdf.ne hdf.iv
      obtain ⟨_, hm⟩ := domF_inv hr.lt
      rw [e1, e6]
      exact ⟨(hm _).mp x1, (hm _).mp x2, fun v hv => x3 v ((hm v).mpr hv)⟩
end
section
variable {w : World} {h₀ : Heap} {mb : Str → Option Value} {n : Nat} {S : Sc} {ρ : Rho} {μ : Mem} {P : V → Mem → Prop} {p : SP} {s : SD} {pos : Pos} {e : Expr} {rest : List Stmt} {nx cn : Rho → Mem → Prop} {rt : V → Mem → Prop}
noncomputable def cellsOf (ns : List Int) : List Int := (ns.take 40).map (fun c => (if c < 0 then -c else c).fmod 1000003) ++ List.replicate (if ns.length = 0 then 1 else 0) 5
theorem cells_ok (ns : List Int) : FeedOk (cellsOf ns) := by
  refine ⟨fun h => ?_, ?_⟩
  · unfold cellsOf at h
    cases ns with
    | nil => cases h
    | cons a l => simp at h
  · unfold cellsOf
    rw [List.length_append, List.length_map, List.length_take, List.length_replicate]
    split <;> omega
theorem menu (r : Int) (h0 : 0 ≤ r) (h6 : r < 6) : ∃ c : Int, ([D.int 1, .int (-1), .int 2, .int (-2), .int 3, .int (-3)] : List D)[r.toNat]? = some (.int c) ∧ -3 ≤ c ∧ c ≤ 3 := by
  have : r.toNat < 6 := by omega
  match r.toNat, this with
  | 0, _ => exact ⟨1, rfl, by decide, by decide⟩
  | 1, _ => exact ⟨-1, rfl, by decide, by decide⟩
  | 2, _ => exact ⟨2, rfl, by decide, by decide⟩
  | 3, _ => exact ⟨-2, rfl, by decide, by decide⟩
  | 4, _ => exact ⟨3, rfl, by decide, by decide⟩
  | 5, _ => exact ⟨-3, rfl, by decide, by decide⟩
theorem cells_eq (ns : List Int) : D.lst (((ns.take 40).filterMap fun c => some (D.int ((if c < 0 then -c else c).fmod 1000003))) ++ (List.replicate (if decide ((ns.length : Int) = 0) = true then (1 : Int) else 0).toNat [D.int 5]).flatten) = dInts (cellsOf ns) := by
  have e : (if decide ((ns.length : Int) = 0) = true then (1 : Int) else 0).toNat = if ns.length = 0 then 1 else 0 := by
    by_cases h : ns.length = 0
    · rw [if_pos h, if_pos (by rw [h]; rfl)]; rfl
    · rw [if_neg h, if_neg (by simpa using h)]; rfl
  rw [e, flat_one]
  unfold cellsOf dInts
  rw [List.map_append]
  refine congrArg D.lst (congrArg (· ++ _) ?_)
  rw [List.map_map, ← List.filterMap_eq_map]; rfl
theorem memEq {X : Cx} {μ' : Mem} {st : List Stmt} {Q : Fl → Rho → Mem → Prop} (e : μ = μ') (h : Exs X n S st ρ μ' Q) : Exs X n S st ρ μ Q := by subst e; exact h
theorem xs_ifCut {X : Cx} {t : Expr} {b c : List Stmt} {pos : Pos} (J : Rho → Mem → Prop) (h : Tst X n S t ρ μ fun v μ₁ => (v = true → Exs X n S b ρ μ₁ (Po J cn rt)) ∧ (v = false → Exs X n S c ρ μ₁ (Po J cn rt))) (k : ∀ ρ' μ', J ρ' μ' → Exs X n S rest ρ' μ' (Po nx cn rt)) :
    Exs X n S (.If t b c pos :: rest) ρ μ (Po nx cn rt) :=
  xs_if (h.mono fun v μ₁ q => ⟨fun w => (q.1 w).mono fun f ρ' μ' p => by cases f <;> first | exact p | exact k _ _ p, fun w => (q.2 w).mono fun f ρ' μ' p => by cases f <;> first | exact p | exact k _ _ p⟩)
theorem xs_ifM {X : Cx} {t : Expr} {b c : List Stmt} {pos : Pos} (A B : Mem → Prop) (J : Rho → Mem → Prop) (h : Tst X n S t ρ μ fun v μ₁ => (v = true → A μ₁) ∧ (v = false → B μ₁)) (hb : ∀ μ₁, A μ₁ → Exs X n S b ρ μ₁ (Po J cn rt)) (hc : ∀ μ₁, B μ₁ → Exs X n S c ρ μ₁ (Po J cn rt)) (k : ∀ ρ' μ', J ρ' μ' → Exs X n S rest ρ' μ' (Po nx cn rt)) :
    Exs X n S (.If t b c pos :: rest) ρ μ (Po nx cn rt) :=
  xs_ifCut J (h.mono fun v μ₁ q => ⟨fun w => hb _ (q.1 w), fun w => hc _ (q.2 w)⟩) k
theorem ev_menu {X : Cx} {P : V → Mem → Prop} {k k1 k2 k3 k4 k5 k6 : Nat} {q q1 q2 q3 q4 q5 q6 q7 q8 q9 : Pos} (hp : P (.d (.tup [.int 1, .int (-1), .int 2, .int (-2), .int 3, .int (-3)])) μ) :
    Ev X n S (.Tuple [.Constant (.int 1) k1 q1, .UnaryOp .USub (.Constant (.int 1) k2 q2) q3, .Constant (.int 2) k3 q4, .UnaryOp .USub (.Constant (.int 2) k4 q5) q6, .Constant (.int 3) k5 q7, .UnaryOp .USub (.Constant (.int 3) k6 q8) q9] k q) ρ μ P :=
  ev_tup (evl_cons (ev_int (evl_cons (ev_neg (ev_int ⟨1, rfl, evl_cons (ev_int (evl_cons (ev_neg (ev_int ⟨2, rfl, evl_cons (ev_int (evl_cons (ev_neg (ev_int ⟨3, rfl, evl_nil ⟨_, rfl, by simp, hp⟩⟩))))⟩))))⟩)))))
noncomputable def RR (r0 r1 r2 : List Int) (doms : List (List (Int × Int))) (tr : List (Int × List (Int × Int) × D)) : Prop :=
  (∃ a b c, doms = [a, b, c] ∧ Dv r0 a ∧ Dv r1 b ∧ Dv r2 c) ∧ ∀ e ∈ tr, 0 ≤ e.1 ∧ e.1 < 3 ∧ Dv (get3 [r0, r1, r2] e.1) e.2.1
theorem RR.at {r0 r1 r2 : List Int} {doms : List (List (Int × Int))} {tr : List (Int × List (Int × Int) × D)} (h : RR r0 r1 r2 doms tr) {x : Int} {d : List (Int × Int)} (h0 : 0 ≤ x) (h3 : x < 3) (hd : doms[x.toNat]? = some d) : Dv (get3 [r0, r1, r2] x) d := by
  obtain ⟨⟨a, b, c, rfl, ha, hb, hc⟩, _⟩ := h
  rcases cases3 h0 h3 with rfl | rfl | rfl <;> cases hd
  · exact ha
  · exact hb
  · exact hc
theorem RR.set {r0 r1 r2 : List Int} {doms : List (List (Int × Int))} {tr tr' : List (Int × List (Int × Int) × D)} (h : RR r0 r1 r2 doms tr) {x : Int} {d : List (Int × Int)} (h0 : 0 ≤ x) (h3 : x < 3) (hd : Dv (get3 [r0, r1, r2] x) d) (ht : ∀ e ∈ tr', e ∈ tr ∨ (0 ≤ e.1 ∧ e.1 < 3 ∧ Dv (get3 [r0, r1, r2] e.1) e.2.1)) : RR r0 r1 r2 (doms.set x.toNat d) tr' := by
  obtain ⟨⟨a, b, c, rfl, ha, hb, hc⟩, k⟩ := h
  refine ⟨?_, fun e he => (ht e he).elim (k e) id⟩
  rcases cases3 h0 h3 with rfl | rfl | rfl
  · exact ⟨d, b, c, rfl, hd, hb, hc⟩
  · exact ⟨a, d, c, rfl, ha, hd, hc⟩
  · exact ⟨a, b, d, rfl, ha, hb, hd⟩
theorem RR.step {r0 r1 r2 : List Int} {doms : List (List (Int × Int))} {tr : List (Int × List (Int × Int) × D)} {e : Int × List (Int × Int) × D} (h : RR r0 r1 r2 doms (tr ++ [e])) : 0 ≤ e.1 ∧ e.1 < 1000 ∧ e.1.toNat < doms.length ∧ RR r0 r1 r2 (doms.set e.1.toNat e.2.1) tr := by
  obtain ⟨e0, e3, ed⟩ := h.2 e (by simp)
  refine ⟨e0, by omega, ?_, h.set e0 e3 ed fun x hx => .inl (List.mem_append_left _ hx)⟩
  obtain ⟨⟨a, b, c, rfl, _⟩, _⟩ := h
  show e.1.toNat < 3
  omega
/-- between the laps -/
noncomputable def LS (r0 r1 r2 cs : List Int) (k : Nat) (m : Mem) : Prop :=
  ∃ p doms tr ms nw t, p.i = 3 ∧ SA m p ⟨doms, [domF r0, domF r1, domF r2], tr, ms, nw, false, []⟩ ∧ m[0]? = some (feed cs t) ∧ 0 ∉ p.all ∧ 0 ≤ t ∧ t ≤ 100 + 10 * (k : Int) ∧ RR r0 r1 r2 doms tr ∧ tr.length ≤ k ∧ ms.length ≤ k ∧ (∀ m ∈ ms, 0 ≤ m) ∧ nw.length ≤ k
noncomputable abbrev lawB (r0 r1 r2 : List Int) (pairs : List (Int × Int)) (st tab : V) : Rho := [("feed", .own 0), ("rows", .d (.lst [dInts r0, dInts r1, dInts r2])), ("store_now", st), ("pairs", .d (.lst (pairs.map dI))), ("points", .d (.lst ((pts r0 r1 r2).map dP))), ("table", tab)]
noncomputable abbrev lawI (r0 r1 r2 : List Int) (pairs : List (Int × Int)) (m : Mem) : List D → Mem → Prop := fun ys m' => ∃ (k : Nat) (es : List (Int × D)), k ≤ pairs.length + 1 ∧ ys = rangeD (-1 + k) (pairs.length + 1 - k) ∧ (∀ place : Int, -1 ≤ place → place < -1 + k → getK es place = some (dInts ((pts r0 r1 r2).map (sumAt (oth place 0 pairs))))) ∧ es.length ≤ k ∧ m ++ [.dct es] = m'
noncomputable abbrev lawD (r0 r1 r2 cs : List Int) (t : Int) : List D → Mem → Prop := fun ys m => ∃ done todo, [r0, r1, r2] = done ++ todo ∧ ys = todo.map dInts ∧ SA m (newP 2) ⟨done.map domF, done.map domF, [], [], [], false, []⟩ ∧ m[0]? = some (feed cs t)
noncomputable abbrev lawL (r0 r1 r2 cs : List Int) : List D → Mem → Prop := fun ys m' => ∃ k : Nat, k ≤ 3 ∧ ys = rangeD (0 + k) (3 - k) ∧ LS r0 r1 r2 cs k m'
noncomputable abbrev lawC (cs : List Int) : List D → Rho → Mem → List D → Prop := fun ys ρ₁ μ₁ acc => ∃ (k : Nat) (cl : List Int), k ≤ 3 ∧ ys = rangeD (0 + k) (3 - k) ∧ cl.length = k ∧ (∀ c ∈ cl, -3 ≤ c ∧ c ≤ 3) ∧ acc = cl.map D.int ∧ Sub' [("feed", .own 0)] ρ₁ ∧ [feed cs (12 + k), .dead] = μ₁
theorem fn_law {ns : List Int} (hn : ns.length ≤ 63) (hp : ∀ μ', P (.d (.bool true)) μ') : Fc (cx w h₀ mb) (n+6) 328 [.d (.scr (ns.map D.int))] [] P := by
  refine fn_callP ["script"] rfl (by kernel_rfl!) (by kernel_rfl!) (by walk_at "def") rfl ?_
  refine xs_assign (ev_sd_own (a := "cells") (b := "spot") (by decide) (ev_str ⟨rfl, ev_bin ?_⟩))
  refine ev_cmap [] (ns.take 40) D.int (fun c => some (.int ((if c < 0 then -c else c).fmod 1000003))) (ckC_of (by kernel_rfl!) all_nil) (by rw [List.length_take]; omega) (evit_lst (.name _ _) (ev_slice_scr (ev_var rfl (ev_int ⟨_, _, rfl, rfl, by decide, by rw [List.length_map]; omega, _, rfl, ?_, rfl⟩)))) (fun c _ => ?_) ?_
  · rw [List.map_take]; rfl
  · walk_at "nm"
    refine ⟨rfl, Sub'.nil, tsts_nil ⟨fun _ => ev_bin (ev_abs (by kernel_rfl!) (by kernel_rfl!) (evl_cons ?_)), nofun⟩⟩
    walk_at "e"
    refine evl_nil (op_abs ?_)
    walk_at "e"
    exact bop_mod (by decide) ⟨_, rfl, rfl, rfl⟩
  refine ev_bin (ev_lst (evl_cons ?_))
  walk_at "e"
  refine evl_nil ⟨_, rfl, by simp, ev_intc (by kernel_rfl!) (by kernel_rfl!) (evl_cons (ev_cmp (ev_len (by kernel_rfl!) (by kernel_rfl!) (evl_cons ?_))))⟩
  walk_at "e"
  refine evl_nil (op_len_scr (by rw [List.length_map]; omega) ?_)
  walk_at "e"
  refine cop_eq (.d _) (.d _) (ok_int _) (ok_int _) (evl_nil (op_int_bool ?_))
  rw [eqD_int, List.length_map]
  refine bop_mull (by split <;> decide) (by decide) (bop_addl ?_ ?_)
  · rw [flat_one, List.length_map, List.length_replicate]
    have := List.length_filterMap_le (fun c => some (D.int ((if c < 0 then -c else c).fmod 1000003))) (ns.take 40)
    rw [List.length_take] at this
    split <;> (dsimp only [Int.toNat]; omega)
  rw [cells_eq]
  have ho := cells_ok ns
  generalize cellsOf ns = cs at ho
  refine ⟨_, rfl, ev_str ⟨rfl, ?_⟩⟩
  walk_at "e"
  refine ⟨_, rfl, ?_⟩
  walk_at "nm"
  refine memEq (μ' := [feed cs 0]) rfl ?_
  refine xs_swap ["rows", "scope"] (by walk_at "sw") (by kernel_rfl!) (evl_cons (c_law_rows (evl_cons ?_)))
  walk_at "e"
  refine evl_nil (fn_rows (s := 0) rfl ho (by decide) (by decide) fun r0 r1 r2 h0 h1 h2 => evl_cons (ev_lst (evl_cons ?_)))
  walk_at "e"
  refine evl_cons ?_
  walk_at "e"
  refine evl_cons ?_
  walk_at "e"
  refine evl_nil ⟨_, rfl, by simp, evl_nil ⟨_, rfl, by simp, .cons (by walk_at "put") (.cons (by walk_at "put") .nil), ?_⟩⟩
  refine memEq (μ' := [feed cs 12, .dead]) rfl ?_
  refine xs_comp [("feed", .own 0)] (lawC cs) (ckC_of (by kernel_rfl!) (all_cons rfl all_nil)) (by walk_at "sw") ?_ ?_ ?_
  · exact evit_range1 (.name _ _) (by kernel_rfl!) (by kernel_rfl!) (ev_int ⟨3, rfl, by decide, 0, [], by decide, rfl, rfl, fun _ h => (nomatch h), rfl, .refl, rfl⟩)
  · rintro x rest ρ₁ μ₁ acc ⟨k, cl, hk, ey, hl, hcl, rfl, sb, rfl⟩
    obtain ⟨m, hm⟩ : ∃ m, 3 - k = m + 1 := by
      cases q : 3 - k with
      | zero => rw [q] at ey; cases ey
      | succ m => exact ⟨m, rfl⟩
    rw [hm, rangeD_succ, List.cons.injEq] at ey
    obtain ⟨rfl, rfl⟩ := ey
    refine As.forget sb ?_
    walk_at "nm"
    refine tsts_nil ⟨fun _ => em_elt rfl (by rw [List.length_map]; omega) (ev_sub (ev_menu (c_law_draw (evl_cons ?_)))), nofun⟩
    walk_at "e"
    refine evl_cons ?_
    walk_at "e"
    refine evl_nil (fn_draw (s := 12 + k) rfl ho (by omega) (by omega) (by decide) fun r q0 q1 => ?_)
    obtain ⟨c, hc, c1, c2⟩ := menu r q0 q1
    refine sub_tup (.d _) (.d _) q0 (by omega) hc ⟨_, rfl, k + 1, cl ++ [c], by omega, ?_, by rw [List.length_append, hl]; rfl, fun d hd => ?_, by rw [List.map_append]; rfl, Sub'.app, ?_⟩
    · rw [show 3 - (k + 1) = m by omega, show (0 : Int) + ((k + 1 : Nat) : Int) = 0 + k + 1 by omega]
    · rcases List.mem_append.mp hd with hd | hd
      · exact hcl d hd
      · rw [List.mem_singleton.mp hd]; exact ⟨c1, c2⟩
    · show [feed cs (12 + ((k + 1 : Nat) : Int)), .dead] = [feed cs (12 + k + 1), .dead]
      rw [show (12 : Int) + ((k + 1 : Nat) : Int) = 12 + k + 1 by omega]
  rintro ρ₁ μ₁ acc ⟨k, cl, hk, ey, hl, hcl, rfl, _, rfl⟩
  have hk3 : k = 3 := by
    cases q : 3 - k with
    | zero => omega
    | succ m => rw [q, rangeD_succ] at ey; cases ey
  subst hk3
  walk_at "nm"
  refine memEq (μ' := [feed cs 15, .dead]) rfl ?_
  refine xs_ifCut (fun ρ' m => ∃ t cl sl, 0 ≤ t ∧ t ≤ 18 ∧ List.length cl ≤ 4 ∧ (∀ c ∈ cl, -3 ≤ c ∧ c ≤ 3) ∧ (∀ x ∈ sl, 0 ≤ x ∧ x < 3) ∧ Sub' [("feed", .own 0), ("rows", .d (.lst [dInts r0, dInts r1, dInts r2])), ("scope", .d (dInts sl)), ("coefs", .d (dInts cl))] ρ' ∧ [feed cs t, .dead] = m) (tst_cmp (c_law_draw (evl_cons ?_))) ?_
  · walk_at "e"
    refine evl_cons ?_
    walk_at "e"
    refine evl_nil (fn_draw (s := 15) rfl ho (by decide) (by decide) (by decide) fun r _ _ => ?_)
    walk_at "e"
    have sl0 : ∀ x ∈ ([0, 1, 2] : List Int), 0 ≤ x ∧ x < 3 := by decide
    refine cop_eq (.d _) (.d _) (ok_int _) (ok_int _) ⟨_, rfl, fun _ => ?_, fun _ => ?_⟩
    · refine xs_swap ["scope", "coefs"] (by walk_at "sw") (by kernel_rfl!) (evl_cons (ev_bin ?_))
      walk_at "e"
      refine ev_lst (evl_cons (c_law_draw (evl_cons ?_)))
      walk_at "e"
      refine evl_cons ?_
      walk_at "e"
      refine evl_nil (fn_draw (s := 15 + 1) rfl ho (by decide) (by decide) (by decide) fun x x0 x3 => evl_nil ⟨_, rfl, by simp, ?_⟩)
      refine bop_addl (by simp) (evl_cons (ev_bin ?_))
      walk_at "e"
      refine ev_lst (evl_cons (ev_sub (ev_menu (c_law_draw (evl_cons ?_)))))
      walk_at "e"
      refine evl_cons ?_
      walk_at "e"
      refine evl_nil (fn_draw (s := 15 + 1 + 1) rfl ho (by decide) (by decide) (by decide) fun r q0 q1 => ?_)
      obtain ⟨c, hc, c1, c2⟩ := menu r q0 q1
      refine sub_tup (.d _) (.d _) q0 (by omega) hc (evl_nil ⟨_, rfl, by simp, bop_addl (by rw [List.length_map, hl]; simp) (evl_nil ⟨_, rfl, by simp, .cons (by walk_at "put") (.cons (by walk_at "put") .nil), ?_⟩)⟩)
      refine xs_nil ⟨18, cl ++ [c], [0, 1, 2] ++ [x], by decide, by decide, by rw [List.length_append, hl]; simp, fun d hd => ?_, fun d hd => ?_, ?_, rfl⟩
      · rcases List.mem_append.mp hd with hd | hd
        · exact hcl d hd
        · rw [List.mem_singleton.mp hd]; exact ⟨c1, c2⟩
      · rcases List.mem_append.mp hd with hd | hd
        · exact sl0 d hd
        · rw [List.mem_singleton.mp hd]; exact ⟨x0, x3⟩
      · refine .cons rfl (.cons rfl (.cons rfl (.cons ?_ .nil)))
        rw [show dInts (cl ++ [c]) = D.lst (cl.map D.int ++ [D.int c]) by unfold dInts; rw [List.map_append]; rfl]
        rfl
    · exact xs_nil ⟨16, cl, [0, 1, 2], by decide, by decide, by omega, hcl, sl0, .cons rfl (.cons rfl (.cons rfl (.cons rfl .nil))), rfl⟩
  clear hl hcl ey
  clear cl
  rintro ρ' m ⟨t, cl, sl, ht0, ht, hcn, hcl, hsl, sb, rfl⟩
  refine xs_forget _ sb ?_
  refine xs_assign (ev_store (by kernel_rfl!) fun μ₁ hSA hpre _ => ?_)
  have hfd : μ₁[0]? = some (feed cs t) := by
    obtain ⟨tl, rfl⟩ := hpre; rfl
  have hSA : SA μ₁ (newP 2) newS := hSA
  walk_at "nm"
  refine xs_for _ (lawD r0 r1 r2 cs t) .refl (evit_lst (.name _ _) (ev_var rfl ⟨_, rfl, [], [r0, r1, r2], rfl, rfl, hSA, hfd⟩)) ?_ ?_
  · rintro x rest m ⟨done, todo, e, ey, h1', h2'⟩
    obtain _ | ⟨r, todo⟩ := todo
    · cases ey
    rw [List.map_cons, List.cons.injEq] at ey
    obtain ⟨rfl, rfl⟩ := ey
    have hr : RowOk r := by
      have : r ∈ [r0, r1, r2] := by rw [e]; simp
      simp only [List.mem_cons, List.not_mem_nil, or_false] at this
      rcases this with rfl | rfl | rfl
      · exact h0
      · exact h1
      · exact h2
    have ld : done.length ≤ 3 := by
      have := congrArg List.length e
      simp only [List.length_cons, List.length_nil, List.length_append] at this; omega
    walk_at "nm"
    refine xs_expr (m_new_var ?_)
    walk_at "e"
    refine ⟨(newP 2).i, _, rfl, h1'.inst, by kernel_rfl!, evl_cons (c_law_domain (evl_cons ?_))⟩
    walk_at "e"
    refine evl_nil (fn_domain (by have := hr.le; omega) (evl_nil (fn_new_var h1' (domF_dv hr).ne (by rw [List.length_map]; omega) (by rw [List.length_map]; omega) fun μ' h3 o3 i => ?_)))
    refine ⟨⟨_, rfl, .inr (.inl ⟨i, rfl⟩)⟩, xs_nil ⟨Sub'.app, done ++ [r], todo, by rw [e]; simp, rfl, ?_, o3 0 _ (by decide) h2'⟩⟩
    rw [List.map_append]; exact h3
  rintro m ⟨done, todo, e, ey, h1', h2'⟩
  rw [List.map_eq_nil_iff.mp ey.symm, List.append_nil] at e
  subst e
  clear hSA hfd hpre
  rename_i hh1 hh2
  clear hh1 hh2
  clear ey
  have hpk := rowsF_ok hcl hsl (by omega)
  refine xs_swap ["pairs", "points", "table"] (by walk_at "sw") (by kernel_rfl!) (evl_cons (c_rows_of (evl_cons ?_)))
  walk_at "e"
  refine evl_cons ?_
  walk_at "e"
  refine evl_nil (fn_rows_of (by omega) (evl_cons (c_law_points (evl_cons ?_))))
  walk_at "e"
  refine evl_nil (fn_points h0.le h1.le h2.le (evl_cons (ev_dct_own (evl_nil ⟨_, rfl, by simp, .cons (by walk_at "put") (.cons (by walk_at "put") (.cons (by walk_at "put") .nil)), ?_⟩))))
  generalize rowsF cl sl = pairs at hpk
  refine xs_forget (lawB r0 r1 r2 pairs (.own 3) (.own m.length)) (.cons rfl (.cons rfl (.cons rfl (.cons rfl (.cons rfl (.cons rfl .nil)))))) ?_
  have plen : (pts r0 r1 r2).length ≤ 27 := by
    rw [pts_len]
    calc _ ≤ 3 * (3 * 3) := Nat.mul_le_mul h0.le (Nat.mul_le_mul h1.le h2.le)
      _ = 27 := rfl
  have hpl := hpk.le
  have pin : ∀ q ∈ pts r0 r1 r2, q.length = 3 ∧ ∀ x : Int, 0 ≤ x → x < 3 → -1000 ≤ q.getD x.toNat 0 ∧ q.getD x.toNat 0 ≤ 1000 := by
    intro q hq
    refine ⟨?_, fun x x0 x3 => ?_⟩
    · obtain ⟨_, _, _, _, _, _, rfl⟩ := pts_mem.mp hq; rfl
    · have := pt_in hq x0 x3
      have : -100 ≤ q.getD x.toNat 0 ∧ q.getD x.toNat 0 ≤ 100 := by
        rcases cases3 x0 x3 with rfl | rfl | rfl
        · exact h0.bd _ this
        · exact h1.bd _ this
        · exact h2.bd _ this
      omega
  refine xs_for _ (lawI r0 r1 r2 pairs m) .refl (evit_range2 (.name _ _) (by kernel_rfl!) (by kernel_rfl!) ?_) ?_ ?_
  · walk_at "e"
    walk_at "e"
    refine ⟨1, rfl, -1, rfl, by decide, ev_len (by kernel_rfl!) (by kernel_rfl!) (evl_cons ?_)⟩
    walk_at "e"
    refine evl_nil (op_len_lst (.d _) (by rw [List.length_map]; omega) ⟨_, rfl, by rw [List.length_map]; omega, 0, [], by omega, ?_, fun place p1 p2 => by omega, by simp, rfl⟩)
    rw [List.length_map, show ((pairs.length : Int) - -1).toNat = pairs.length + 1 - 0 by omega]; rfl
  · rintro x rest μ₁ ⟨k, es, hk, ey, hes, hesl, rfl⟩
    obtain ⟨l, hm⟩ : ∃ l, pairs.length + 1 - k = l + 1 := by
      cases q : pairs.length + 1 - k with
      | zero => rw [q] at ey; cases ey
      | succ l => exact ⟨l, rfl⟩
    rw [hm, rangeD_succ, List.cons.injEq] at ey
    obtain ⟨rfl, rfl⟩ := ey
    have hO : ∀ q ∈ oth (-1 + k) 0 pairs, 0 ≤ q.2 ∧ q.2 < 3 ∧ -300 ≤ q.1 ∧ q.1 ≤ 300 := fun q hq => by
      have := hpk.bd q (oth_sub hq); omega
    have lO := oth_len (place := -1 + k) 0 pairs
    have nxt : ∀ es', es' = putK es (-1 + k) (dInts ((pts r0 r1 r2).map (sumAt (oth (-1 + k) 0 pairs)))) → lawI r0 r1 r2 pairs m (rangeD (-1 + (k : Int) + 1) l) (m ++ [.dct es']) := by
      rintro es' rfl
      refine ⟨k + 1, _, by omega, by rw [show pairs.length + 1 - (k + 1) = l by omega, show -1 + ((k + 1 : Nat) : Int) = -1 + k + 1 by omega], fun place p1 p2 => ?_, ?_, rfl⟩
      · rw [getK_put]
        split
        · rename_i e; rw [e]
        · exact hes place p1 (by omega)
      · have := putK_len es (-1 + (k : Int)) (dInts ((pts r0 r1 r2).map (sumAt (oth (-1 + k) 0 pairs))))
        omega
    walk_at "nm"
    refine xs_assign (ev_cmap [("place", .d (.int (-1 + k)))] (enumP 0 pairs) emE (fun q => if (q.1 : Int) ≠ -1 + k then some (dI q.2) else none) (ckC_of (by kernel_rfl!) (all_cons rfl all_nil)) (by rw [enumP_len]; omega)
      (evit_enum (by kernel_rfl!) (by kernel_rfl!) (ev_var rfl ⟨_, rfl, enumD_map 0 pairs, rfl⟩)) (fun q hq => ?_) ?_) (hs := by walk_at "sw")
    · refine as_tup rfl (asl_cons ?_)
      walk_at "nm"
      refine asl_cons ?_
      walk_at "nm"
      refine asl_nil ⟨rfl, Sub'.app, tsts_one (tst_cmp ?_)⟩
      walk_at "e"
      walk_at "e"
      refine cop_ne (.d _) (.d _) (ok_int _) (ok_int _) ⟨_, rfl, fun hb => ?_, fun hb => ?_⟩
      · rw [eqD_int] at hb
        walk_at "e"
        exact ⟨_, rfl, if_pos (by simpa using hb), rfl⟩
      · rw [eqD_int] at hb
        exact ⟨if_neg (by simpa using hb), rfl⟩
    rw [oth_enum]
    generalize oth (-1 + k) 0 pairs = O at hO lO nxt
    walk_at "nm"
    refine xs_assign (ev_cmap [("others", .d (.lst (O.map dI)))] (pts r0 r1 r2) dP (fun pt => some (.int (sumAt O pt))) (ckC_of (by kernel_rfl!) (all_cons rfl all_nil)) (by omega) (evit_lst (.name _ _) (ev_var rfl ⟨_, rfl, rfl, rfl⟩)) (fun pt hpt => ?_) ?_) (hs := by walk_at "sw")
    · obtain ⟨pt3, ptb⟩ := pin pt hpt
      walk_at "nm"
      refine ⟨rfl, Sub'.app, tsts_nil ⟨fun _ => c_sum_at (evl_cons ?_), nofun⟩⟩
      refine ev_cmap [] O dI (fun q => some (.int q.1)) (ckC_of (by kernel_rfl!) all_nil) (by omega) (evit_lst (.tup _ _ _) (ev_var rfl ⟨_, rfl, rfl, rfl⟩)) (fun q hq => ?_) (evl_cons ?_)
      · refine as_tup rfl (asl_cons ?_)
        walk_at "nm"
        refine asl_cons ?_
        walk_at "nm"
        refine asl_nil ⟨rfl, Sub'.nil, tsts_nil ⟨fun _ => ?_, nofun⟩⟩
        walk_at "e"
        exact ⟨_, rfl, rfl, rfl⟩
      refine ev_cmap [("one", .d (dP pt))] O dI (fun q => some (.int (pt.getD q.2.toNat 0))) (ckC_of (by kernel_rfl!) (all_cons rfl all_nil)) (by omega) (evit_lst (.tup _ _ _) (ev_var rfl ⟨_, rfl, rfl, rfl⟩)) (fun q hq => ?_) (evl_nil ?_)
      · obtain ⟨q0, q3, _⟩ := hO q hq
        refine as_tup rfl (asl_cons ?_)
        walk_at "nm"
        refine asl_cons ?_
        walk_at "nm"
        refine asl_nil ⟨rfl, Sub'.app, tsts_nil ⟨fun _ => ?_, nofun⟩⟩
        repeat walk_at "e"
        refine sub_tup (.d _) (.d _) q0 (by omega) (x := .int (pt.getD q.2.toNat 0)) ?_ ⟨_, rfl, rfl, rfl⟩
        rw [List.getElem?_map, List.getD_eq_getElem?_getD, List.getElem?_eq_getElem (by omega)]; rfl
      rw [show (O.filterMap fun q => some (D.int q.1)) = (O.map (·.1)).map D.int by rw [List.map_map, ← List.filterMap_eq_map]; rfl]
      rw [show (O.filterMap fun q => some (D.int (pt.getD q.2.toNat 0))) = (O.map fun q => pt.getD q.2.toNat 0).map D.int by rw [List.map_map, ← List.filterMap_eq_map]; rfl]
      refine fn_sum_at (fun c hc => ?_) (by rw [List.length_map]; omega) ⟨_, rfl, ?_, rfl⟩
      · obtain ⟨q, hq, rfl⟩ := List.mem_map.mp hc
        have := hO q hq; omega
      · rw [List.zip_map', List.map_map]; rfl
    rw [show ((pts r0 r1 r2).filterMap fun pt => some (D.int (sumAt O pt))) = ((pts r0 r1 r2).map (sumAt O)).map D.int by rw [List.map_map, ← List.filterMap_eq_map]; rfl]
    refine as_sub_dct ?_
    walk_at "e"
    walk_at "e"
    refine ⟨_, _, _, rfl, rfl, by omega, get_app _ _, ?_⟩
    rw [set_app]
    have hg : getK (putK es (-1 + k) (dInts ((pts r0 r1 r2).map (sumAt O)))) (-1 + k) = some (dInts ((pts r0 r1 r2).map (sumAt O))) := by rw [getK_put, if_pos rfl]
    refine xs_if (tst_cmp ?_)
    repeat walk_at "e"
    refine sub_dct (.dct (get_app _ _)) (.d _) hg ?_
    refine ev_cmap [("others", .d (.lst (O.map dI)))] (pts r0 r1 r2) dP (fun pt => some (.int (sumAt O pt))) (ckC_of (by kernel_rfl!) (all_cons rfl all_nil)) (by omega) (evit_lst (.name _ _) (ev_var rfl ⟨_, rfl, rfl, rfl⟩)) (fun pt hpt => ?_) ?_
    · obtain ⟨pt3, ptb⟩ := pin pt hpt
      walk_at "nm"
      refine ⟨rfl, Sub'.app, tsts_nil ⟨fun _ => ev_sum (by kernel_rfl!) (by kernel_rfl!) (evl_cons ?_), nofun⟩⟩
      refine ev_cmap [("one", .d (dP pt))] O dI (fun q => some (.int (q.1 * pt.getD q.2.toNat 0))) (ckC_of (by kernel_rfl!) (all_cons rfl all_nil)) (by omega) (evit_lst (.tup _ _ _) (ev_var rfl ⟨_, rfl, rfl, rfl⟩)) (fun q hq => ?_) (evl_nil ?_)
      · obtain ⟨q0, q3, _⟩ := hO q hq
        refine as_tup rfl (asl_cons ?_)
        walk_at "nm"
        refine asl_cons ?_
        walk_at "nm"
        refine asl_nil ⟨rfl, Sub'.app, tsts_nil ⟨fun _ => c_law_often (evl_cons ?_), nofun⟩⟩
        walk_at "e"
        refine evl_cons ?_
        repeat walk_at "e"
        refine sub_tup (.d _) (.d _) q0 (by omega) (x := .int (pt.getD q.2.toNat 0)) ?_ (evl_nil (fn_often (ptb _ q0 q3) ⟨_, rfl, rfl, rfl⟩))
        rw [List.getElem?_map, List.getD_eq_getElem?_getD, List.getElem?_eq_getElem (by omega)]; rfl
      rw [show (O.filterMap fun q => some (D.int (q.1 * pt.getD q.2.toNat 0))) = (O.map fun q => q.1 * pt.getD q.2.toNat 0).map D.int by rw [List.map_map, ← List.filterMap_eq_map]; rfl]
      exact op_sum (.d _) ⟨_, rfl, rfl, rfl⟩
    rw [show ((pts r0 r1 r2).filterMap fun pt => some (D.int (sumAt O pt))) = ((pts r0 r1 r2).map (sumAt O)).map D.int by rw [List.map_map, ← List.filterMap_eq_map]; rfl]
    refine cop_ne (.d _) (.d _) (nb_ints _).ok (nb_ints _).ok ⟨_, rfl, fun hb => ?_, fun _ => ?_⟩
    · have := eqD_ints ((pts r0 r1 r2).map (sumAt O)) ((pts r0 r1 r2).map (sumAt O))
      rw [decide_eq_true rfl] at this
      have hb : (!eqD (dInts ((pts r0 r1 r2).map (sumAt O))) (dInts ((pts r0 r1 r2).map (sumAt O)))) = true := hb
      rw [this] at hb; cases hb
    · exact xs_nil (xs_nil ⟨Sub'.app, nxt _ rfl⟩)
  rintro μ₁ ⟨k, es, hk, ey, hes, hesl, rfl⟩
  have hkk : k = pairs.length + 1 := by
    cases q : pairs.length + 1 - k with
    | zero => omega
    | succ m => rw [q, rangeD_succ] at ey; cases ey
  subst hkk
  have hes : ∀ place : Int, -1 ≤ place → place < pairs.length → getK es place = some (dInts ((pts r0 r1 r2).map (sumAt (oth place 0 pairs)))) := fun place p1 p2 => hes place p1 (by omega)
  refine xs_still_d "table" rfl (get_app _ _) (by walk_at "put") ?_
  rw [set_app]
  have d0 := domF_dv h0
  have d1 := domF_dv h1
  have d2 := domF_dv h2
  have hSA := h1'.grow .dead
  refine xs_ifC False (tst_not (tst_of_ev (c_law_is_told_right (evl_cons ?_)))) (fun h => h.elim) (fun _ => xs_nil ?_)
  · walk_at "e"
    refine evl_cons ?_
    walk_at "e"
    refine evl_cons ?_
    walk_at "e"
    refine evl_cons ?_
    walk_at "e"
    refine evl_cons ?_
    walk_at "e"
    exact evl_nil (told_of (p := newP 2) hSA rfl rfl h0 h1 h2 d0 d1 d2 hpk hes ⟨_, rfl, by simp, rfl⟩)
  have hrow : ∀ x : Int, 0 ≤ x → x < 3 → RowOk (get3 [r0, r1, r2] x) := fun x x0 x3 => by
    rcases cases3 x0 x3 with rfl | rfl | rfl
    · exact h0
    · exact h1
    · exact h2
  have hfs : ∀ d ∈ [domF r0, domF r1, domF r2], d ≠ [] := fun d hd => by
    simp only [List.mem_cons, List.not_mem_nil, or_false] at hd
    rcases hd with rfl | rfl | rfl
    · exact d0.ne
    · exact d1.ne
    · exact d2.ne
  refine xs_for _ (lawL r0 r1 r2 cs) .refl (evit_range1 (.name _ _) (by kernel_rfl!) (by kernel_rfl!) (ev_int ⟨3, rfl, by decide, 0, by decide, rfl, newP 2, _, [], [], [], t, rfl, hSA, get_grow h2', by decide, ht0, by omega, ⟨⟨_, _, _, rfl, d0, d1, d2⟩, (fun _ h => nomatch h)⟩, Nat.le_refl _, Nat.le_refl _, (fun _ h => nomatch h), Nat.le_refl _⟩)) ?_ ?_
  · rintro x rest μ₁ ⟨k, hk, ey, ⟨pi, pj, pd, pf, pt, pm, pw⟩, doms, tr, ms, nw, t, hpi, h3, hf3, h0p, t0, t1, hRR, ltr, lms, hms, lnw⟩
    obtain ⟨l, hm⟩ : ∃ l, 3 - k = l + 1 := by
      cases q : 3 - k with
      | zero => rw [q] at ey; cases ey
      | succ l => exact ⟨l, rfl⟩
    rw [hm, rangeD_succ, List.cons.injEq] at ey
    obtain ⟨rfl, rfl⟩ := ey
    have hpi : pi = 3 := hpi
    subst hpi
    generalize hpp : (⟨3, pj, pd, pf, pt, pm, pw⟩ : SP) = p at h3 h0p
    have hpi : p.i = 3 := by rw [← hpp]
    walk_at "nm"
    refine xs_forget (lawB r0 r1 r2 pairs (.own p.i) (.d (.dct es))) (by rw [hpi]; exact .cons rfl (.cons rfl (.cons rfl (.cons rfl (.cons rfl (.cons rfl .nil)))))) ?_
    refine xs_ifM (fun m => 0 < ms.length ∧ ∃ t, 0 ≤ t ∧ t ≤ 101 + 10 * (k : Int) ∧ SA m p ⟨doms, [domF r0, domF r1, domF r2], tr, ms, nw, false, []⟩ ∧ m[0]? = some (feed cs t)) (fun m => ∃ t, 0 ≤ t ∧ t ≤ 101 + 10 * (k : Int) ∧ SA m p ⟨doms, [domF r0, domF r1, domF r2], tr, ms, nw, false, []⟩ ∧ m[0]? = some (feed cs t))
      (fun ρ' m => Sub' (lawB r0 r1 r2 pairs (.own 3) (.d (.dct es))) ρ' ∧ LS r0 r1 r2 cs (k + 1) m) (tst_and (tst_cmp (m_depth ?_))) ?_ ?_ ?_
    · walk_at "e"
      refine ⟨p.i, _, rfl, h3.inst, by kernel_rfl!, fn_depth h3 (Nat.le_trans lms (by omega)) ?_⟩
      walk_at "e"
      refine cop_gt ⟨_, rfl, fun hb => ?_, fun _ => ⟨nofun, fun _ => ⟨t, t0, by omega, h3, hf3⟩⟩⟩
      have hb : 0 < ms.length := by have := of_decide_eq_true hb; dsimp only at this; omega
      refine tst_cmp (c_law_draw (evl_cons ?_))
      walk_at "e"
      refine evl_cons ?_
      walk_at "e"
      refine evl_nil (fn_draw hf3 ho t0 (by omega) (by decide) fun r _ _ => ?_)
      walk_at "e"
      have h4 := h3.setO (c := feed cs (t + 1)) h0p
      have hf4 : (μ₁.set 0 (feed cs (t + 1)))[0]? = some (feed cs (t + 1)) := getElem?_set_self' hf3
      exact cop_eq (.d _) (.d _) (ok_int _) (ok_int _) ⟨_, rfl, fun _ => ⟨hb, t + 1, by omega, by omega, h4, hf4⟩, fun _ => ⟨t + 1, by omega, by omega, h4, hf4⟩⟩
    · rintro m2 ⟨hb, t, t0, t1, h4, hf4⟩
      obtain ⟨ms', mk, rfl⟩ : ∃ ms' mk, ms = ms' ++ [mk] := by
        have : ms ≠ [] := List.length_pos_iff.mp hb
        exact ⟨ms.dropLast, ms.getLast this, (List.dropLast_concat_getLast this).symm⟩
      rw [List.length_append, List.length_singleton] at lms
      refine xs_expr (m_pop ?_)
      walk_at "e"
      refine ⟨p.i, _, rfl, h4.inst, by kernel_rfl!, evl_cons ?_⟩
      walk_at "e"
      refine evl_nil (fn_pop (RR r0 r1 r2) h4 rfl (hms mk (by simp)) (by omega) hfs (Nat.le_of_ble_eq_true rfl) hRR (Nat.le_trans ltr (by omega)) (fun _ _ _ h => h.step) fun μ' p' doms' tr' hR' ltr' hpi' h5 B5 => ⟨⟨_, rfl, .inl rfl⟩, xs_nil ⟨?_, ?_⟩⟩)
      · rw [hpi]; exact Sub'.refl
      · obtain ⟨b1, b2⟩ := B5 0 _ h0p hf4
        exact ⟨p', doms', tr', ms', [], t, hpi'.trans hpi, h5, b1, b2, t0, by omega, hR', Nat.le_trans ltr' (Nat.le_succ_of_le ltr), by omega, fun m hm => hms m (by simp [hm]), Nat.zero_le _⟩
    · rintro m2 ⟨t, t0, t1, h4, hf4⟩
      obtain ⟨⟨a, b, c, rfl, da, db, dc⟩, hRt⟩ := id hRR
      refine xs_assign (c_law_literal (evl_cons ?_))
      walk_at "e"
      refine evl_cons ?_
      walk_at "e"
      refine evl_nil (fn_literal h4 rfl (dv_bd h0 da).1 (dv_bd h1 db).1 (dv_bd h2 dc).1 hf4 h0p ho t0 (by omega) (fun d hd hfx => ?_) ?_ fun x g kk d x0 x3 hd hpick => ?_)
      · simp only [List.mem_cons, List.not_mem_nil, or_false] at hd
        rcases hd with rfl | rfl | rfl
        · exact two_vals da.ne da.iv hfx
        · exact two_vals db.ne db.iv hfx
        · exact two_vals dc.ne dc.iv hfx
      · walk_at "nm"
        refine xs_if (tst_cmp ?_)
        walk_at "e"
        walk_at "e"
        refine cop_isnone ⟨_, rfl, fun _ => ?_, nofun⟩
        refine xs_ret ?_
        walk_at "e"
        exact hp _
      have hf5 : (m2.set 0 (feed cs (t + 3)))[0]? = some (feed cs (t + 3)) := getElem?_set_self' hf4
      have h5 := h4.setO (c := feed cs (t + 3)) h0p
      generalize m2.set 0 (feed cs (t + 3)) = m3 at h5 hf5
      have dd := hRR.at x0 x3 hd
      have ds := strike_dv dd hpick
      have hDd := (dv_bd (hrow x x0 x3) dd).1
      have ldd := hDd.le
      walk_at "nm"
      refine xs_if (tst_cmp ?_)
      walk_at "e"
      walk_at "e"
      refine cop_isnone ⟨_, rfl, nofun, fun _ => xs_nil ?_⟩
      refine xs_expr (m_push ?_)
      walk_at "e"
      refine ⟨p.i, _, rfl, h5.inst, by kernel_rfl!, fn_push h5 (Nat.le_trans lms (by omega)) (Nat.le_trans ltr (by omega)) fun m4 h6 o6 => ⟨⟨_, rfl, .inl rfl⟩, ?_⟩⟩
      have hf6 := o6 0 _ h0p hf5
      have hms' : ∀ m ∈ ms ++ [(tr.length : Int)], 0 ≤ m := fun m hm => by
        rcases List.mem_append.mp hm with hm | hm
        · exact hms m hm
        · rw [List.mem_singleton.mp hm]; omega
      have lms' : (ms ++ [(tr.length : Int)]).length ≤ k + 1 := by rw [List.length_append, List.length_singleton]; omega
      refine xs_if (tst_not (tst_of_ev (m_decide ?_)))
      walk_at "e"
      refine ⟨p.i, _, rfl, h6.inst, by kernel_rfl!, evl_cons ?_⟩
      walk_at "e"
      refine evl_nil (fn_decide h6 x0 (by omega) hd (by omega) ds.ne (Nat.le_trans ltr (by omega)) (Nat.le_trans lnw (by omega)) (fun _ => ?_) fun m5 nw' lnw' h7 o7 => ?_)
      · refine ⟨_, rfl, nofun, fun _ => xs_nil (xs_nil ⟨?_, ?_⟩)⟩
        · rw [hpi]; exact Sub'.app
        · exact ⟨p, _, tr, _, nw, t + 3, hpi, h6, hf6, h0p, by omega, by omega, hRR, by omega, lms', hms', by omega⟩
      · refine ⟨_, rfl, nofun, fun _ => xs_nil (xs_nil ⟨?_, ?_⟩)⟩
        · rw [hpi]; exact Sub'.app
        · refine ⟨p, _, _, _, nw', t + 3, hpi, h7, o7 0 _ h0p hf6, h0p, by omega, by omega, hRR.set x0 x3 ds fun e he => ?_, by rw [List.length_append]; exact Nat.succ_le_succ ltr, lms', hms', Nat.le_trans lnw' (Nat.succ_le_succ lnw)⟩
          rcases List.mem_append.mp he with he | he
          · exact .inl he
          · rw [List.mem_singleton.mp he]; exact .inr ⟨x0, x3, dd⟩
    · rintro ρ' m2 ⟨sb', hLS⟩
      refine xs_forget _ sb' ?_
      obtain ⟨p', doms', tr', ms', nw', t', hpi', h4, hf4, h0p', t0', t1', hRR', l1, l2, l3, l4⟩ := id hLS
      obtain ⟨⟨a, b, c, rfl, da, db, dc⟩, hRt⟩ := id hRR'
      refine xs_ifC False (tst_not (tst_of_ev (c_law_is_told_right (evl_cons ?_)))) (fun h => h.elim) (fun _ => xs_nil (xs_nil ⟨Sub'.app, k + 1, by omega, ?_, hLS⟩))
      · walk_at "e"
        rw [← hpi']
        refine evl_cons ?_
        walk_at "e"
        refine evl_cons ?_
        walk_at "e"
        refine evl_cons ?_
        walk_at "e"
        refine evl_cons ?_
        walk_at "e"
        exact evl_nil (told_of (p := p') h4 rfl rfl h0 h1 h2 da db dc hpk hes ⟨_, rfl, by simp, rfl⟩)
      · rw [show 3 - (k + 1) = l by omega, show (0 : Int) + ((k + 1 : Nat) : Int) = 0 + k + 1 by omega]
  rintro μ₁ _
  refine xs_ret ?_
  walk_at "e"
  exact hp _
end
theorem ns_of {K : Frag} {h : Heap} {a : Addr} {mN : Str → Option Value} {n : Str} (hk : K.In h) (hN : h.Ns a mN) (e : nsIn K a n = some none) : mN n = none := by
  obtain ⟨o, es, ep, ho, hd, hs, hf⟩ := hN
  unfold nsIn at e
  cases q : K.lookup a with
  | none => rw [q] at e; cases e
  | some o' =>
    have := hk a o' q
    rw [ho] at this
    cases this
    obtain ⟨c, d, da, sl⟩ := o
    dsimp only at hd
    subst hd
    rw [q] at e
    dsimp only at e
    rw [← hf]
    unfold nsFind findBy
    rw [← Array.find?_toList]
    cases w : es.toList.find? (fun x => x.key.isStr n) with
    | some en => rw [w] at e; cases e
    | none => rfl
theorem cx_ok {w : World} {h₀ : Heap} {mg mb : Str → Option Value} (hk : (frag w.params).In h₀) (hl : h₀.NoLimit) (hb : h₀.Ns builtinsNs mb) (hbb : ∀ x : Str, x ≠ "__name__" → mb x = bootBuiltins x) (hg : h₀.Ns mainGlobals mg) : (cx w h₀ mb).Ok := by
  have hN : ∃ mN, h₀.Ns 260 mN := by
    obtain ⟨o, es, ep, e1, e2, e3⟩ : ∃ o es ep, (frag w.params).lookup 260 = some o ∧ o.data = .dict es ep ∧ (es.toList.all fun e => match e.key with | .str _ _ => true | _ => false) = true := ⟨_, _, _, rfl, rfl, by kernel_rfl!⟩
    refine ⟨nsFind es, o, es, ep, hk _ _ e1, e2, fun e he => ?_, fun _ => rfl⟩
    have := List.all_eq_true.mp e3 e (Array.mem_toList_iff.mpr he)
    cases q : e.key with
    | str n t => exact ⟨n, t, rfl⟩
    | _ => rw [q] at this; cases this
  obtain ⟨mN, hN⟩ := hN
  refine ⟨hk, hl, hb, hbb, ⟨mg, hg⟩, ⟨_, _, _, _, _, _, _, _, _, _, _, _, _, rfl⟩, fun name e => ⟨mN, hN, ns_of hk hN e, ns_of hk hN (by kernel_rfl!)⟩, by kernel_rfl!, by kernel_rfl!, by kernel_rfl!⟩
theorem ints_rep {X : Cx} {Z : Fz} {vs : List Value} {ns : List Int} (h : IntsAre vs ns) : RepAll X Z vs (ns.map D.int) := by
  induction h with
  | nil => exact .nil
  | cons n t _ ih => exact .cons (.int n t) ih
theorem law_runs {w : World} {s : Shared} {mg mb : Str → Option Value} {l : Addr} {vs : List Value} {ns : List Int} {Q : Value → Shared → Prop} {E : Value → Shared → Prop}
    (hk : (frag w.params).In s.heap) (hl : s.heap.NoLimit) (hb : s.heap.Ns builtinsNs mb) (hbb : ∀ x : Str, x ≠ "__name__" → mb x = bootBuiltins x) (hg : s.heap.Ns mainGlobals mg)
    (hL : s.heap.IsList l vs.toArray) (hI : IntsAre vs ns) (hn : ns.length ≤ 63)
    (q : ∀ h' tk, (∀ b o, s.heap.get? b = some o → h'.get? b = some o) → Q (.bool true) { s with heap := h', toks := tk }) : wpAny (model PySem.Challenge.rw_nz0014_01.row.prog w) callerA (call (.ref 328) [.ref l]) Q E s := by
  have ok := cx_ok hk hl hb hbb hg
  have B : Bs (cx w s.heap mb) (fun a o => s.heap.get? a = some o) Own.no Own.no [] [] s.heap :=
    ⟨ok, fun _ _ h => h, fun _ _ h => h, fun _ _ h => (nomatch h), fun _ _ h => (nomatch h), fun _ _ _ => ⟨rfl, rfl⟩, fun _ _ _ => rfl, rfl, List.nodup_nil, fun _ h => (nomatch h), fun _ _ h => (nomatch h), fun _ _ h => (nomatch h), fun _ h => (nomatch h)⟩
  have hA : AOK callerA 6 := ⟨rfl, by decide, by decide⟩
  obtain ⟨o, ho, hc, m, hd⟩ := hL
  exact (fn_law (w := w) (h₀ := s.heap) (mb := mb) (n := 0) (ns := ns) (P := fun v _ => v = .d (.bool true)) hn fun _ => rfl).fn callerA s _ _ _ [] [.ref l] Q E hA B (.cons (.scr ho hc hd (ints_rep hI)) .nil) fun h' tk Z' Or' ra' val v μ' p z pr B' rv => by
    subst p
    cases rv
    exact q h' tk fun b o e => B'.z b o (B'.base b o e)
end Mine
theorem PySem.Challenge.cw_nz0014_01_holds : PySem.Challenge.rw_nz0014_01.Holds :=
  Mine.head (by
    intro w s₀ s₁ mg mb G Y fa o pm cd doc dV kV ho hd hcd hD hmg hg args vals as hpre hlay hrd hwl hlo
    have KX := kIn_of Y
    refine Ground.open G ?_
    intro T B D TE TW
    wrow_args hpre hlay hrd hwl hlo
    have hfa : fa = 328 := by
      have e := (mg_of (n := "law") (v := .ref 328) KX T.g (by kernel_rfl!)).symm.trans hmg
      injection e with e
      injection e with e
      exact e.symm
    subst hfa
    refine Mine.law_runs KX T.nolimit T.b T.builtins T.g (by assumption) (by assumption) (by omega) fun h' tk hk => ?_
    refine GoodW.toG ⟨.inl ⟨.bool true, .bool true, [], rfl, raisesW_false (by wrow_none_raised), .bool true, ?_, unshared_nil⟩, hk, rfl, hg⟩
    kernel_rfl!)
