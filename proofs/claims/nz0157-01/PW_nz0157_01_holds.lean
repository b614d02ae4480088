import PyProof.Rows.All
import Wide.All
import OpenK.AllK
import Wide.FinOn
import PySem.Challenge.RW_nz0157_01
open PySem PySem.W PyProof.Rows
set_option Elab.async false
set_option linter.all false
set_option maxRecDepth 1000000
set_option maxHeartbeats 8000000
set_option genSizeOf false
set_option compiler.extract_closed false
namespace Nz
abbrev PW : Program := PySem.Challenge.pw_nz0157_01
/-- a tree as far as it is opened, and over it the objects that are known -/
noncomputable def hzRoot : BT → Obj
  | .nil => default
  | .node v _ _ => v
noncomputable def hzSon (b : Bool) : BT → BT
  | .nil => .nil
  | .node _ l r => cond b l r
noncomputable def hzTree : Nat → BT → BT
  | 0, t => t
  | d + 1, t => .node (hzRoot t) (hzTree d (hzSon true t)) (hzTree d (hzSon false t))
noncomputable def hzOvl (K : Frag) (T : BT) : BT := K.foldl (fun t p => t.set p.1 fun _ => p.2) (hzTree 10 T)
noncomputable def HzLike (t T : BT) : Prop := ∀ i, (∀ o, T.get i = some o → t.get i = some o) ∧ (T.get i = none → (t.get i).getD default = default)
theorem hzTree_like : ∀ (d : Nat) (T : BT), HzLike (hzTree d T) T
  | 0, T, i => ⟨fun _ h => h, fun h => congrArg (fun x : Option Obj => x.getD default) h⟩
  | d + 1, .nil, i => ⟨fun _ h => (nomatch h), fun _ => by
      unfold hzTree
      rw [BT.get_node]
      by_cases a : i = 0
      · rw [if_pos a]; rfl
      · rw [if_neg a]
        by_cases b : i % 2 = 1
        · rw [if_pos b]; exact (hzTree_like d .nil _).2 rfl
        · rw [if_neg b]; exact (hzTree_like d .nil _).2 rfl⟩
  | d + 1, .node v l r, i => by
      unfold hzTree
      rw [BT.get_node, BT.get_node]
      by_cases a : i = 0
      · rw [if_pos a, if_pos a]; exact ⟨fun _ h => h, fun h => (nomatch h)⟩
      · rw [if_neg a, if_neg a]
        by_cases b : i % 2 = 1
        · rw [if_pos b, if_pos b]; exact hzTree_like d l _
        · rw [if_neg b, if_neg b]; exact hzTree_like d r _
theorem hzOvl_like {T : BT} : ∀ {K : Frag} {t : BT}, HzLike t T → K.map (fun p => T.get p.1) = K.map (fun p => some p.2) → HzLike (K.foldl (fun t p => t.set p.1 fun _ => p.2) t) T
  | [], _, h, _ => h
  | p :: K, t, h, e => hzOvl_like (K := K) (fun i => by
      have e1 : T.get p.1 = some p.2 := (List.cons.inj e).1
      rw [BT.get_set]
      by_cases q : i = p.1
      · rw [if_pos q, q, e1, (h p.1).1 _ e1]; exact ⟨fun _ h => h, fun h => (nomatch h)⟩
      · rw [if_neg q]; exact h i) (List.cons.inj e).2
theorem hzOvl_same {T : BT} {n : Nat} {life : Life} {K : Frag} (e : K.map (fun p => T.get p.1) = K.map (fun p => some p.2)) : absHeap (hzOvl K T) n life = absHeap T n life := by
  have g := hzOvl_like (hzTree_like 10 T) e
  unfold absHeap BT.list
  refine congrArg (fun l => Heap.mk (List.toArray l) life) (List.map_congr_left fun i _ => ?_)
  cases q : T.get i with
  | none => exact (g i).2 q
  | some o => exact congrArg (fun x : Option Obj => x.getD default) ((g i).1 o q)
noncomputable def hzEnv : Env := { scope := PW.main.scope, locals := mainNs, globals := mainNs, cells := [], code := .ref 13, frame := some 14 }
noncomputable def hzCd : Code := .body (behindTheImports PW) hzEnv
abbrev hzFr : List Frame := [topFrame ⟨0, 0, 0, 0⟩]
abbrev hzAnn : Option Value := some (.ref 6)
noncomputable abbrev hzS (P : Params) (K : Frag) (n k : Nat) (os : OsState) (T : BT) : SharedT := ⟨hzOvl K T, n, (boot_heap P).life, #[], boot_drawn, k, os⟩
/-- a run of some statements over what is known, by the library's quick twins -/
noncomputable abbrev hzGo (w : World) (N : Nat) (K : Frag) (n k : Nat) (os : OsState) (T : BT) (l : List Stmt) (q : Pos) :=
  Fast.tw10110043849684766642 Fast.tw14364793385576792824 PW w 11 hzAnn 1 N (hzS w.params K n k os T) ⟨(Fast.tw12563942051412417395 l hzEnv).wrap doneF deadEnd id id, hzCd, q, hzFr⟩
noncomputable def hzT : Option (Flow × SharedT × Code × Pos) → BT
  | some (_, s, _) => s.tree
  | none => .nil
/-- it ends behind them, and what is known there -/
noncomputable abbrev HzTo (P : Params) (K : Frag) (n k : Nat) (os : OsState) (q : Pos) (r : Option (Flow × SharedT × Code × Pos)) (T : BT) : Prop :=
  r = some (.next, ⟨T, n, (boot_heap P).life, #[], boot_drawn, k, os⟩, hzCd, q) ∧ K.map (fun p => T.get p.1) = K.map fun p => some p.2
theorem hzStep {w : World} {os : OsState} {N N' n n' k k' : Nat} {K K' : Frag} {l rest : List Stmt} {q q' : Pos} {T T' : BT} {s : Shared} (h : HzTo w.params K' n' k' os q' (hzGo w N K n k os T l q) T')
    (e : topRun treeTable PW w 11 hzAnn N' (hzS w.params K' n' k' os T').abs (restOf rest hzEnv hzCd q' hzFr) = some s) : topRun treeTable PW w 11 hzAnn (N + N') (hzS w.params K n k os T).abs (restOf (l ++ rest) hzEnv hzCd q hzFr) = some s := by
  obtain ⟨a, b⟩ := h
  delta hzGo at a
  rw [← Fast.te10110043849684766642, ← Fast.te14364793385576792824, ← Fast.te12563942051412417395] at a
  exact piece_app (segRun_of a) ((congrArg (fun h => topRun treeTable PW w 11 hzAnn N' ⟨h, #[], boot_drawn, k', os⟩ (restOf rest hzEnv hzCd q' hzFr)) (hzOvl_same b)).symm.trans e)
noncomputable abbrev HzFact (w : World) (os : OsState) (N : Nat) (K : Frag) (n k : Nat) (l : List Stmt) (q : Pos) (K' : Frag) (n' k' : Nat) (q' : Pos) : Prop := ∀ T, HzTo w.params K' n' k' os q' (hzGo w N K n k os T l q) (hzT (hzGo w N K n k os T l q))
theorem hzPiece {w : World} {os : OsState} {N N' n n' k k' : Nat} {K K' : Frag} {l rest : List Stmt} {q q' : Pos} {r : Shared → Prop} (h : HzFact w os N K n k l q K' n' k' q')
    (g : ∀ T, ∃ s, topRun treeTable PW w 11 hzAnn N' (hzS w.params K' n' k' os T).abs (restOf rest hzEnv hzCd q' hzFr) = some s ∧ r s) (T : BT) :
    ∃ s, topRun treeTable PW w 11 hzAnn (N + N') (hzS w.params K n k os T).abs (restOf (l ++ rest) hzEnv hzCd q hzFr) = some s ∧ r s :=
  let ⟨s, e, hs⟩ := g _
  ⟨s, hzStep (h T) e, hs⟩
noncomputable def loose0 : List Str := (PW.main.scope.names.map (·.1)).filter fun x => !(x == "law")
noncomputable def q0 : Program := { PW with main := { PW.main with body := PW.main.body.drop 67 } }
/-- the statements of the text, by their places -/
noncomputable def stAt (i : Nat) : Option Stmt := PW.main.body[i]?
noncomputable def inCls (i j : Nat) : Option Stmt := match stAt i with
  | some (.ClassDef _ _ _ b _ _ _ _ _ _ _) => b[j]?
  | _ => none
/-- a def of the text, as an object -/
noncomputable def fnO (s : Option Stmt) (q m : Str) (t : Tok) (c : Addr) : Obj := match s with
  | some (.FunctionDef n a b _ _ _ sc _ _ _) => { cls := .type "function", data := .func { name := n, qualname := q, params := a, body := .stmts b, scope := sc, globals := 3, closure := [], defaults := .none, kwdefaults := .none, pyModule := .str m t, code := .ref c } }
  | _ => default
noncomputable def en (P : Params) (k : Str) (t : Tok) (v : Value) : DictEntry := { hash := PyData.keyHash P k, key := .str k t, val := v }
/-- what stands behind the text's top, as far as the proof reads it -/
noncomputable def K0 (P : Params) : Frag := [
  (3, { cls := .type "dict", data := .dict #[en P "__name__" 165 (.str "law_nz0157_01" 1127), en P "__doc__" 166 .none, en P "__package__" 167 .none, en P "__loader__" 168 (.builtin "__main__.__loader__#opaque"), en P "__spec__" 169 .none, en P "__annotations__" 170 (.ref 6), en P "__builtins__" 171 (.ref 4), en P "__file__" 173 (.str "/claim/cut.py" 172), en P "__cached__" 174 .none, en P "_wall" 193 (.ref 21), en P "SmtError" 233 (.ref 47), en P "SyntaxFault" 268 (.ref 76), en P "ModelFault" 291 (.ref 95), en P "mask_of" 300 (.ref 104), en P "signed_of" 308 (.ref 111), en P "one_value" 317 (.ref 118), en P "divided_value" 326 (.ref 125), en P "rest_value" 334 (.ref 132), en P "shifted_value" 344 (.ref 139), en P "two_value" 354 (.ref 146), en P "ask_value" 364 (.ref 153), en P "extract_value" 373 (.ref 160), en P "concat_value" 382 (.ref 167), en P "sign_extended" 391 (.ref 174), en P "bit_value" 399 (.ref 181), en P "carry_value" 410 (.ref 188), en P "below_value" 419 (.ref 195), en P "BOOL" 421 (.int 0 420), en P "INT" 423 (.int 1 422), en P "REAL" 425 (.int 2 424), en P "BV_SAME" 436 (.ref 196), en P "BV_ASK" 441 (.ref 197), en P "Bank" 725 (.ref 410), en P "gcd_of" 735 (.ref 421), en P "ratio" 744 (.ref 428), en P "add" 752 (.ref 435), en P "mul" 760 (.ref 442), en P "compare" 770 (.ref 449), en P "sort_text" 780 (.ref 456), en P "element_text" 790 (.ref 463), en P "DIGITS" 792 (.str "0123456789" 791), en P "LETTERS" 794 (.str "abcdefghijklmnopqrstuvwxyzABCDEFGHIJKLMNOPQRSTUVWXYZ" 793), en P "MARKS" 796 (.str "~!@$%^&*_-+=<>.?/" 795), en P "SIMPLE" 799 (.str "abcdefghijklmnopqrstuvwxyzABCDEFGHIJKLMNOPQRSTUVWXYZ0123456789~!@$%^&*_-+=<>.?/" 798), en P "RESERVED" 813 (.ref 464), en P "is_simple" 821 (.ref 471), en P "symbol_text" 828 (.ref 478), en P "NOUGHT" 833 (.ref 479), en P "plain_value" 841 (.ref 486), en P "Model" 947 (.ref 559), en P "bits_worked_out" 960 (.ref 570), en P "number_worked_out" 970 (.ref 577), en P "bits_asked" 982 (.ref 584), en P "connected" 990 (.ref 591), en P "worked_out" 996 (.ref 596), en P "evaluate" 1005 (.ref 603), en P "evaluate_all" 1011 (.ref 608), en P "ModelMaker" 1108 (.ref 674), en P "elements_texts" 1126 (.ref 685), en P "_law_draw" 1137 (.ref 692), en P "_law_any" 1145 (.ref 699), en P "_law_value" 1153 (.ref 706), en P "_law_plain" 1160 (.ref 713), en P "_law_else" 1168 (.ref 720), en P "_law_met" 1181 (.ref 727), en P "_law_declared" 1187 (.ref 732), en P "_law_are_elements" 1197 (.ref 739), en P "_law_is_called" 1203 (.ref 744), en P "_law_deed" 1209 (.ref 749), en P "_law_most" 1215 (.ref 754), en P "law" 1221 (.ref 759)] 71 }),
  (210, { cls := .type "code", data := .fields #[.str "__init__" 454, .str "Bank.__init__" 455, .str "/claim/cut.py" 456, .int 92 0, .int 1 0, .int 0 0, .int 0 0, .int 3 0, .ref 205, .bool true, .int 181 0, .ref 206, .none, .ref 207, .ref 208, .ref 209, .int 458 0, .int 92 0, .str "/claim/cut.py" 459] }),
  (211, fnO (inCls 25 0) "Bank.__init__" "minismt.terms" 292 210),
  (217, { cls := .type "code", data := .fields #[.str "sort_name" 461, .str "Bank.sort_name" 462, .str "/claim/cut.py" 463, .int 107 0, .int 2 0, .int 0 0, .int 0 0, .int 3 0, .ref 212, .bool true, .int 181 0, .ref 213, .none, .ref 214, .ref 215, .ref 216, .int 466 0, .int 107 0, .str "/claim/cut.py" 467] }),
  (218, fnO (inCls 25 1) "Bank.sort_name" "minismt.terms" 292 217),
  (224, { cls := .type "code", data := .fields #[.str "declare_sort" 469, .str "Bank.declare_sort" 470, .str "/claim/cut.py" 471, .int 110 0, .int 2 0, .int 0 0, .int 0 0, .int 3 0, .ref 219, .bool true, .int 181 0, .ref 220, .none, .ref 221, .ref 222, .ref 223, .int 474 0, .int 110 0, .str "/claim/cut.py" 475] }),
  (225, fnO (inCls 25 2) "Bank.declare_sort" "minismt.terms" 292 224),
  (231, { cls := .type "code", data := .fields #[.str "width_of" 477, .str "Bank.width_of" 478, .str "/claim/cut.py" 479, .int 115 0, .int 2 0, .int 0 0, .int 0 0, .int 3 0, .ref 226, .bool true, .int 181 0, .ref 227, .none, .ref 228, .ref 229, .ref 230, .int 482 0, .int 115 0, .str "/claim/cut.py" 483] }),
  (232, fnO (inCls 25 3) "Bank.width_of" "minismt.terms" 292 231),
  (238, { cls := .type "code", data := .fields #[.str "is_number_sort" 485, .str "Bank.is_number_sort" 486, .str "/claim/cut.py" 487, .int 118 0, .int 2 0, .int 0 0, .int 0 0, .int 3 0, .ref 233, .bool true, .int 181 0, .ref 234, .none, .ref 235, .ref 236, .ref 237, .int 490 0, .int 118 0, .str "/claim/cut.py" 491] }),
  (239, fnO (inCls 25 4) "Bank.is_number_sort" "minismt.terms" 292 238),
  (245, { cls := .type "code", data := .fields #[.str "is_free_sort" 493, .str "Bank.is_free_sort" 494, .str "/claim/cut.py" 495, .int 121 0, .int 2 0, .int 0 0, .int 0 0, .int 3 0, .ref 240, .bool true, .int 181 0, .ref 241, .none, .ref 242, .ref 243, .ref 244, .int 498 0, .int 121 0, .str "/claim/cut.py" 499] }),
  (246, fnO (inCls 25 5) "Bank.is_free_sort" "minismt.terms" 292 245),
  (252, { cls := .type "code", data := .fields #[.str "declare_fun" 501, .str "Bank.declare_fun" 502, .str "/claim/cut.py" 503, .int 124 0, .int 4 0, .int 0 0, .int 0 0, .int 3 0, .ref 247, .bool true, .int 181 0, .ref 248, .none, .ref 249, .ref 250, .ref 251, .int 508 0, .int 124 0, .str "/claim/cut.py" 509] }),
  (253, fnO (inCls 25 6) "Bank.declare_fun" "minismt.terms" 292 252),
  (287, { cls := .type "code", data := .fields #[.str "fun_result" 546, .str "Bank.fun_result" 547, .str "/claim/cut.py" 548, .int 142 0, .int 2 0, .int 0 0, .int 0 0, .int 3 0, .ref 282, .bool true, .int 181 0, .ref 283, .none, .ref 284, .ref 285, .ref 286, .int 551 0, .int 142 0, .str "/claim/cut.py" 552] }),
  (288, fnO (inCls 25 11) "Bank.fun_result" "minismt.terms" 292 287),
  (343, { cls := .type "code", data := .fields #[.str "make" 608, .str "Bank.make" 609, .str "/claim/cut.py" 610, .int 166 0, .int 5 0, .int 0 0, .int 0 0, .int 3 0, .ref 338, .bool true, .int 181 0, .ref 339, .none, .ref 340, .ref 341, .ref 342, .int 618 0, .int 166 0, .str "/claim/cut.py" 619] }),
  (344, fnO (inCls 25 19) "Bank.make" "minismt.terms" 292 343),
  (409, { cls := .type "dict", data := .dict #[en P "__module__" 449 (.str "minismt.terms" 292), en P "__firstlineno__" 453 (.int 90 452), en P "__init__" 460 (.ref 211), en P "sort_name" 468 (.ref 218), en P "declare_sort" 476 (.ref 225), en P "width_of" 484 (.ref 232), en P "is_number_sort" 492 (.ref 239), en P "is_free_sort" 500 (.ref 246), en P "declare_fun" 510 (.ref 253), en P "fresh_fun" 520 (.ref 260), en P "fresh_const" 529 (.ref 267), en P "fun_name" 537 (.ref 274), en P "fun_arg_sorts" 545 (.ref 281), en P "fun_result" 553 (.ref 288), en P "fun_count" 560 (.ref 295), en P "op" 568 (.ref 302), en P "args" 576 (.ref 309), en P "sort" 584 (.ref 316), en P "data" 592 (.ref 323), en P "width" 600 (.ref 330), en P "size" 607 (.ref 337), en P "make" 620 (.ref 344), en P "find_made" 631 (.ref 351), en P "is_value" 639 (.ref 358), en P "want" 649 (.ref 365), en P "want_all" 659 (.ref 372), en P "true_term" 666 (.ref 379), en P "false_term" 673 (.ref 386), en P "bool_term" 681 (.ref 393), en P "parts" 689 (.ref 400), en P "parts_of_all" 704 (.ref 407), en P "__static_attributes__" 718 (.ref 408), en P "__dict__" 720 (.ref 411), en P "__weakref__" 722 (.ref 412), en P "__doc__" 723 .none] 4 }),
  (410, { cls := .type "type", data := .cls { name := "Bank", bases := [.type "object"], mro := [.ref 410, .type "object"], ns := 409, qualname := "Bank" }, slots := #[none, none, some (.str "Bank" 442), some (.str "Bank" 450), some (.builtin "object.__new__"), some (.bool true)] }),
  (455, { cls := .type "code", data := .fields #[.str "sort_text" 773, .str "sort_text" 774, .str "/claim/cut.py" 775, .int 244 0, .int 2 0, .int 0 0, .int 0 0, .int 3 0, .ref 450, .bool true, .int 181 0, .ref 451, .none, .ref 452, .ref 453, .ref 454, .int 778 0, .int 244 0, .str "/claim/cut.py" 779] }),
  (456, fnO (stAt 33) "sort_text" "minismt.texts" 771 455),
  (462, { cls := .type "code", data := .fields #[.str "element_text" 781, .str "element_text" 782, .str "/claim/cut.py" 783, .int 248 0, .int 3 0, .int 0 0, .int 0 0, .int 3 0, .ref 457, .bool true, .int 181 0, .ref 458, .none, .ref 459, .ref 460, .ref 461, .int 788 0, .int 248 0, .str "/claim/cut.py" 789] }),
  (463, fnO (stAt 34) "element_text" "minismt.texts" 771 462),
  (464, { cls := .type "tuple", data := .seq #[.str "!" 800, .str "_" 801, .str "as" 802, .str "BINARY" 803, .str "DECIMAL" 804, .str "exists" 805, .str "forall" 806, .str "HEXADECIMAL" 807, .str "let" 808, .str "match" 809, .str "NUMERAL" 810, .str "par" 811, .str "STRING" 812] }),
  (470, { cls := .type "code", data := .fields #[.str "is_simple" 814, .str "is_simple" 815, .str "/claim/cut.py" 816, .int 258 0, .int 1 0, .int 0 0, .int 0 0, .int 3 0, .ref 465, .bool true, .int 181 0, .ref 466, .none, .ref 467, .ref 468, .ref 469, .int 819 0, .int 258 0, .str "/claim/cut.py" 820] }),
  (471, fnO (stAt 40) "is_simple" "minismt.texts" 771 470),
  (477, { cls := .type "code", data := .fields #[.str "symbol_text" 822, .str "symbol_text" 823, .str "/claim/cut.py" 824, .int 265 0, .int 1 0, .int 0 0, .int 0 0, .int 3 0, .ref 472, .bool true, .int 181 0, .ref 473, .none, .ref 474, .ref 475, .ref 476, .int 826 0, .int 265 0, .str "/claim/cut.py" 827] }),
  (478, fnO (stAt 41) "symbol_text" "minismt.texts" 771 477),
  (479, { cls := .type "tuple", data := .seq #[.int 0 831, .int 1 832] }),
  (485, { cls := .type "code", data := .fields #[.str "plain_value" 834, .str "plain_value" 835, .str "/claim/cut.py" 836, .int 275 0, .int 2 0, .int 0 0, .int 0 0, .int 3 0, .ref 480, .bool true, .int 181 0, .ref 481, .none, .ref 482, .ref 483, .ref 484, .int 839 0, .int 275 0, .str "/claim/cut.py" 840] }),
  (486, fnO (stAt 44) "plain_value" "minismt.models" 829 485),
  (499, { cls := .type "code", data := .fields #[.str "__init__" 854, .str "Model.__init__" 855, .str "/claim/cut.py" 856, .int 285 0, .int 2 0, .int 0 0, .int 0 0, .int 3 0, .ref 494, .bool true, .int 181 0, .ref 495, .none, .ref 496, .ref 497, .ref 498, .int 859 0, .int 285 0, .str "/claim/cut.py" 860] }),
  (500, fnO (inCls 45 0) "Model.__init__" "minismt.models" 829 499),
  (506, { cls := .type "code", data := .fields #[.str "set_row" 862, .str "Model.set_row" 863, .str "/claim/cut.py" 864, .int 290 0, .int 4 0, .int 0 0, .int 0 0, .int 3 0, .ref 501, .bool true, .int 181 0, .ref 502, .none, .ref 503, .ref 504, .ref 505, .int 870 0, .int 290 0, .str "/claim/cut.py" 871] }),
  (507, fnO (inCls 45 1) "Model.set_row" "minismt.models" 829 506),
  (520, { cls := .type "code", data := .fields #[.str "rows" 882, .str "Model.rows" 883, .str "/claim/cut.py" 884, .int 298 0, .int 2 0, .int 0 0, .int 0 0, .int 3 0, .ref 515, .bool true, .int 181 0, .ref 516, .none, .ref 517, .ref 518, .ref 519, .int 887 0, .int 298 0, .str "/claim/cut.py" 888] }),
  (521, fnO (inCls 45 3) "Model.rows" "minismt.models" 829 520),
  (527, { cls := .type "code", data := .fields #[.str "set_other" 890, .str "Model.set_other" 891, .str "/claim/cut.py" 892, .int 301 0, .int 3 0, .int 0 0, .int 0 0, .int 3 0, .ref 522, .bool true, .int 181 0, .ref 523, .none, .ref 524, .ref 525, .ref 526, .int 896 0, .int 301 0, .str "/claim/cut.py" 897] }),
  (528, fnO (inCls 45 4) "Model.set_other" "minismt.models" 829 527),
  (534, { cls := .type "code", data := .fields #[.str "other" 899, .str "Model.other" 900, .str "/claim/cut.py" 901, .int 304 0, .int 2 0, .int 0 0, .int 0 0, .int 3 0, .ref 529, .bool true, .int 181 0, .ref 530, .none, .ref 531, .ref 532, .ref 533, .int 904 0, .int 304 0, .str "/claim/cut.py" 905] }),
  (535, fnO (inCls 45 5) "Model.other" "minismt.models" 829 534),
  (541, { cls := .type "code", data := .fields #[.str "call" 907, .str "Model.call" 908, .str "/claim/cut.py" 909, .int 309 0, .int 3 0, .int 0 0, .int 0 0, .int 3 0, .ref 536, .bool true, .int 181 0, .ref 537, .none, .ref 538, .ref 539, .ref 540, .int 913 0, .int 309 0, .str "/claim/cut.py" 914] }),
  (542, fnO (inCls 45 6) "Model.call" "minismt.models" 829 541),
  (555, { cls := .type "code", data := .fields #[.str "elements" 924, .str "Model.elements" 925, .str "/claim/cut.py" 926, .int 315 0, .int 2 0, .int 0 0, .int 0 0, .int 3 0, .ref 550, .bool true, .int 181 0, .ref 551, .none, .ref 552, .ref 553, .ref 554, .int 934 0, .int 315 0, .str "/claim/cut.py" 935] }),
  (556, fnO (inCls 45 8) "Model.elements" "minismt.models" 829 555),
  (558, { cls := .type "dict", data := .dict #[en P "__module__" 849 (.str "minismt.models" 829), en P "__firstlineno__" 853 (.int 283 852), en P "__init__" 861 (.ref 500), en P "set_row" 872 (.ref 507), en P "has_row" 881 (.ref 514), en P "rows" 889 (.ref 521), en P "set_other" 898 (.ref 528), en P "other" 906 (.ref 535), en P "call" 915 (.ref 542), en P "value" 923 (.ref 549), en P "elements" 936 (.ref 556), en P "__static_attributes__" 940 (.ref 557), en P "__dict__" 942 (.ref 560), en P "__weakref__" 944 (.ref 561), en P "__doc__" 945 .none] 4 }),
  (559, { cls := .type "type", data := .cls { name := "Model", bases := [.type "object"], mro := [.ref 559, .type "object"], ns := 558, qualname := "Model" }, slots := #[none, none, some (.str "Model" 842), some (.str "Model" 850), some (.builtin "object.__new__"), some (.bool true)] }),
  (621, { cls := .type "code", data := .fields #[.str "__init__" 1024, .str "ModelMaker.__init__" 1025, .str "/claim/cut.py" 1026, .int 406 0, .int 3 0, .int 0 0, .int 0 0, .int 3 0, .ref 616, .bool true, .int 181 0, .ref 617, .none, .ref 618, .ref 619, .ref 620, .int 1030 0, .int 406 0, .str "/claim/cut.py" 1031] }),
  (622, fnO (inCls 53 0) "ModelMaker.__init__" "minismt.models" 829 621),
  (663, { cls := .type "code", data := .fields #[.str "choose_others" 1073, .str "ModelMaker.choose_others" 1074, .str "/claim/cut.py" 1075, .int 430 0, .int 1 0, .int 0 0, .int 0 0, .int 3 0, .ref 658, .bool true, .int 181 0, .ref 659, .none, .ref 660, .ref 661, .ref 662, .int 1083 0, .int 430 0, .str "/claim/cut.py" 1084] }),
  (664, fnO (inCls 53 6) "ModelMaker.choose_others" "minismt.models" 829 663),
  (673, { cls := .type "dict", data := .dict #[en P "__module__" 1019 (.str "minismt.models" 829), en P "__firstlineno__" 1023 (.int 404 1022), en P "__init__" 1032 (.ref 622), en P "told_by_theory" 1040 (.ref 629), en P "note_classes" 1048 (.ref 636), en P "fresh_value" 1056 (.ref 643), en P "value_of_call" 1064 (.ref 650), en P "note" 1072 (.ref 657), en P "choose_others" 1085 (.ref 664), en P "made" 1093 (.ref 671), en P "__static_attributes__" 1101 (.ref 672), en P "__dict__" 1103 (.ref 675), en P "__weakref__" 1105 (.ref 676), en P "__doc__" 1106 .none] 4 }),
  (674, { cls := .type "type", data := .cls { name := "ModelMaker", bases := [.type "object"], mro := [.ref 674, .type "object"], ns := 673, qualname := "ModelMaker" }, slots := #[none, none, some (.str "ModelMaker" 1012), some (.str "ModelMaker" 1020), some (.builtin "object.__new__"), some (.bool true)] }),
  (684, { cls := .type "code", data := .fields #[.str "elements_texts" 1109, .str "elements_texts" 1110, .str "/claim/cut.py" 1111, .int 443 0, .int 3 0, .int 0 0, .int 0 0, .int 3 0, .ref 679, .bool true, .int 181 0, .ref 680, .none, .ref 681, .ref 682, .ref 683, .int 1124 0, .int 443 0, .str "/claim/cut.py" 1125] }),
  (685, fnO (stAt 54) "elements_texts" "minismt.models" 829 684),
  (691, { cls := .type "code", data := .fields #[.str "_law_draw" 1129, .str "_law_draw" 1130, .str "/claim/cut.py" 1131, .int 455 0, .int 2 0, .int 0 0, .int 0 0, .int 3 0, .ref 686, .bool true, .int 181 0, .ref 687, .none, .ref 688, .ref 689, .ref 690, .int 1135 0, .int 455 0, .str "/claim/cut.py" 1136] }),
  (692, fnO (stAt 56) "_law_draw" "law_nz0157_01" 1127 691),
  (698, { cls := .type "code", data := .fields #[.str "_law_any" 1138, .str "_law_any" 1139, .str "/claim/cut.py" 1140, .int 461 0, .int 2 0, .int 0 0, .int 0 0, .int 3 0, .ref 693, .bool true, .int 181 0, .ref 694, .none, .ref 695, .ref 696, .ref 697, .int 1143 0, .int 461 0, .str "/claim/cut.py" 1144] }),
  (699, fnO (stAt 57) "_law_any" "law_nz0157_01" 1127 698),
  (705, { cls := .type "code", data := .fields #[.str "_law_value" 1146, .str "_law_value" 1147, .str "/claim/cut.py" 1148, .int 463 0, .int 2 0, .int 0 0, .int 0 0, .int 3 0, .ref 700, .bool true, .int 181 0, .ref 701, .none, .ref 702, .ref 703, .ref 704, .int 1151 0, .int 463 0, .str "/claim/cut.py" 1152] }),
  (706, fnO (stAt 58) "_law_value" "law_nz0157_01" 1127 705),
  (712, { cls := .type "code", data := .fields #[.str "_law_plain" 1154, .str "_law_plain" 1155, .str "/claim/cut.py" 1156, .int 467 0, .int 1 0, .int 0 0, .int 0 0, .int 3 0, .ref 707, .bool true, .int 181 0, .ref 708, .none, .ref 709, .ref 710, .ref 711, .int 1158 0, .int 467 0, .str "/claim/cut.py" 1159] }),
  (713, fnO (stAt 59) "_law_plain" "law_nz0157_01" 1127 712),
  (719, { cls := .type "code", data := .fields #[.str "_law_else" 1161, .str "_law_else" 1162, .str "/claim/cut.py" 1163, .int 471 0, .int 2 0, .int 0 0, .int 0 0, .int 3 0, .ref 714, .bool true, .int 181 0, .ref 715, .none, .ref 716, .ref 717, .ref 718, .int 1166 0, .int 471 0, .str "/claim/cut.py" 1167] }),
  (720, fnO (stAt 60) "_law_else" "law_nz0157_01" 1127 719),
  (726, { cls := .type "code", data := .fields #[.str "_law_met" 1169, .str "_law_met" 1170, .str "/claim/cut.py" 1171, .int 473 0, .int 2 0, .int 0 0, .int 0 0, .int 3 0, .ref 721, .bool true, .int 181 0, .ref 722, .none, .ref 723, .ref 724, .ref 725, .int 1179 0, .int 473 0, .str "/claim/cut.py" 1180] }),
  (727, fnO (stAt 61) "_law_met" "law_nz0157_01" 1127 726),
  (731, { cls := .type "code", data := .fields #[.str "_law_declared" 1182, .str "_law_declared" 1183, .str "/claim/cut.py" 1184, .int 481 0, .int 1 0, .int 0 0, .int 0 0, .int 3 0, .ref 728, .bool true, .int 181 0, .ref 729, .none, .none, .none, .ref 730, .int 1185 0, .int 481 0, .str "/claim/cut.py" 1186] }),
  (732, fnO (stAt 62) "_law_declared" "law_nz0157_01" 1127 731),
  (738, { cls := .type "code", data := .fields #[.str "_law_are_elements" 1188, .str "_law_are_elements" 1189, .str "/claim/cut.py" 1190, .int 489 0, .int 2 0, .int 0 0, .int 0 0, .int 3 0, .ref 733, .bool true, .int 181 0, .ref 734, .none, .ref 735, .ref 736, .ref 737, .int 1195 0, .int 489 0, .str "/claim/cut.py" 1196] }),
  (739, fnO (stAt 63) "_law_are_elements" "law_nz0157_01" 1127 738),
  (743, { cls := .type "code", data := .fields #[.str "_law_is_called" 1198, .str "_law_is_called" 1199, .str "/claim/cut.py" 1200, .int 494 0, .int 4 0, .int 0 0, .int 0 0, .int 3 0, .ref 740, .bool true, .int 181 0, .ref 741, .none, .none, .none, .ref 742, .int 1201 0, .int 494 0, .str "/claim/cut.py" 1202] }),
  (744, fnO (stAt 64) "_law_is_called" "law_nz0157_01" 1127 743),
  (748, { cls := .type "code", data := .fields #[.str "_law_deed" 1204, .str "_law_deed" 1205, .str "/claim/cut.py" 1206, .int 501 0, .int 3 0, .int 0 0, .int 0 0, .int 3 0, .ref 745, .bool true, .int 181 0, .ref 746, .none, .none, .none, .ref 747, .int 1207 0, .int 501 0, .str "/claim/cut.py" 1208] }),
  (749, fnO (stAt 65) "_law_deed" "law_nz0157_01" 1127 748),
  (753, { cls := .type "code", data := .fields #[.str "_law_most" 1210, .str "_law_most" 1211, .str "/claim/cut.py" 1212, .int 514 0, .int 1 0, .int 0 0, .int 0 0, .int 3 0, .ref 750, .bool true, .int 181 0, .ref 751, .none, .none, .none, .ref 752, .int 1213 0, .int 514 0, .str "/claim/cut.py" 1214] }),
  (754, fnO (stAt 66) "_law_most" "law_nz0157_01" 1127 753),
  (758, { cls := .type "code", data := .fields #[.str "law" 1216, .str "law" 1217, .str "/claim/cut.py" 1218, .int 518 0, .int 1 0, .int 0 0, .int 0 0, .int 3 0, .ref 755, .bool true, .int 181 0, .ref 756, .none, .none, .none, .ref 757, .int 1219 0, .int 518 0, .str "/claim/cut.py" 1220] }),
  (759, fnO (stAt 67) "law" "law_nz0157_01" 1127 758)]
/-- what stands behind some of the statements: the names' dict with so many names, the hzLines of so many defs, so many of the objects of K0 -/
noncomputable def hzNs (P : Params) (m : Str) (t : Tok) (c : Nat) : Obj := match K0 P with
  | (_, { cls := x, dict := d, data := .dict es _, slots := y }) :: _ => { cls := x, dict := d, data := .dict (en P "__name__" 165 (.str m t) :: es.toList.tail.take c).toArray (c + 1), slots := y }
  | _ => default
noncomputable def hzLines : List (Nat × Nat) := [(1, 20),(5, 28),(13, 57),(21, 84),(26, 103),(28, 110),(30, 117),(36, 124),(38, 131),(40, 138),(44, 145),(64, 152),(72, 159),(74, 166),(76, 173),(78, 180),(80, 187),(83, 194),(90, 203),(220, 420),(225, 427),(232, 434),(236, 441),(240, 448),(244, 455),(248, 462),(258, 470),(265, 477),(275, 485),(283, 492),(323, 569),(342, 576),(347, 583),(358, 590),(370, 595),(393, 602),(395, 607),(404, 614),(443, 684),(455, 691),(461, 698),(463, 705),(467, 712),(471, 719),(473, 726),(481, 731),(489, 738),(494, 743),(501, 748),(514, 753),(518, 758)]
noncomputable def hzLine (c : Nat) : Obj := { cls := .none, data := .fields ((hzLines.take c).flatMap fun x => [.int x.1 0, .int 0 0, .ref x.2]).toArray }
noncomputable def hzCode : Obj := { cls := .type "code", data := .fields #[.str "<module>" 182, .str "<module>" 183, .str "/claim/cut.py" 184, .int 1 0, .int 0 0, .int 0 0, .int 0 0, .int 0 0, .ref 11, .bool false, .int 181 0, .ref 12, .none, .none, .none, .none, .int 185 0, .int 1 0, .str "/claim/cut.py" 186] }
noncomputable def hzSub (P : Params) : Obj := { cls := .none, data := .dict #[en P "type.__subclasses__.Exception.0" 230 (.int 47 0), en P "type.__subclasses__.Exception.n" 231 (.int 1 0)] 2 }
noncomputable def hzBoot (P : Params) (x y : Obj) (e : Nat) (r : Frag) : Frag := (0, boot_o_0 P) :: (1, boot_o_1 P) :: (2, x) :: (3, y) :: (4, boot_o_4 P) :: (5, boot_o_5 P) :: (6, boot_o_6 P) :: (7, boot_o_7 P) :: (8, boot_o_8 P) :: (9, boot_o_9 P) :: (10, boot_o_10 P) :: (12, hzLine e) :: (13, hzCode) :: r
noncomputable abbrev hzKc (P : Params) (m : Str) (t : Tok) (c e b : Nat) : Frag := hzBoot P (hzSub P) (hzNs P m t c) e ((K0 P).tail.take b)
noncomputable abbrev hzKa (P : Params) : Frag := hzBoot P (boot_o_2 P) (boot_o_3 P) 0 []
noncomputable abbrev hzK1 (P : Params) : Frag := hzKc P "minismt.errors" 194 12 4 0
noncomputable abbrev hzK2 (P : Params) : Frag := hzKc P "minismt.terms" 292 31 18 0
noncomputable abbrev hzK3 (P : Params) : Frag := hzKc P "minismt.terms" 292 32 19 20
noncomputable abbrev hzK4 (P : Params) : Frag := hzKc P "minismt.models" 829 48 29 32
noncomputable abbrev hzK5 (P : Params) : Frag := hzKc P "minismt.models" 829 56 37 48
noncomputable abbrev hzK6 (P : Params) : Frag := (756, { cls := .none, data := .fields #[] }) :: hzKc P "law_nz0157_01" 1127 70 51 80
noncomputable def hzSl (a b : Nat) : List Stmt := (PW.main.body.drop a).take b
noncomputable def as0 : List Addr := [3, 210, 211, 217, 218, 224, 225, 231, 232, 238, 239, 245, 246, 252, 253, 287, 288, 343, 344, 409, 410, 455, 456, 462, 463, 464, 470, 471, 477, 478, 479, 485, 486, 499, 500, 506, 507, 520, 521, 527, 528, 534, 535, 541, 542, 555, 556, 558, 559, 621, 622, 663, 664, 673, 674, 684, 685, 691, 692, 698, 699, 705, 706, 712, 713, 719, 720, 726, 727, 731, 732, 738, 739, 743, 744, 748, 749, 753, 754, 758, 759]
theorem as0_eq : ∀ P, as0 = (K0 P).map (·.1) := fun P => by kernel_rfl
theorem hzRun1 (w : World) (os : OsState) : HzFact w os 850 (hzKa w.params) 15 187 (hzSl 0 5) ⟨0, 0, 0, 0⟩ (hzK1 w.params) 98 292 ⟨21, 0, 24, 36⟩ := fun T => ⟨by kernel_rfl, by kernel_rfl⟩
theorem hzRun2 (w : World) (os : OsState) : HzFact w os 505 (hzK1 w.params) 98 292 (hzSl 5 20) ⟨21, 0, 24, 36⟩ (hzK2 w.params) 198 442 ⟨89, 0, 89, 6⟩ := fun T => ⟨by kernel_rfl, by kernel_rfl⟩
theorem hzRun3 (w : World) (os : OsState) : HzFact w os 1150 (hzK2 w.params) 198 442 (hzSl 25 1) ⟨89, 0, 89, 6⟩ (hzK3 w.params) 415 726 ⟨90, 0, 218, 20⟩ := fun T => ⟨by kernel_rfl, by kernel_rfl⟩
theorem hzRun4 (w : World) (os : OsState) : HzFact w os 420 (hzK3 w.params) 415 726 (hzSl 26 19) ⟨90, 0, 218, 20⟩ (hzK4 w.params) 487 842 ⟨275, 0, 282, 25⟩ := fun T => ⟨by kernel_rfl, by kernel_rfl⟩
theorem hzRun5 (w : World) (os : OsState) : HzFact w os 706 (hzK4 w.params) 487 842 (hzSl 45 8) ⟨275, 0, 282, 25⟩ (hzK5 w.params) 609 1012 ⟨395, 0, 403, 35⟩ := fun T => ⟨by kernel_rfl, by kernel_rfl⟩
theorem hzRun6 (w : World) (os : OsState) : HzFact w os 855 (hzK5 w.params) 609 1012 (hzSl 53 15) ⟨395, 0, 403, 35⟩ (hzK6 w.params) 760 1222 ⟨518, 0, 548, 43⟩ := fun T => ⟨by kernel_rfl, by kernel_rfl⟩
noncomputable abbrev hzLast (P : Params) (os : OsState) (T : BT) : Shared := (hzS P (hzK6 P) 760 1222 os T).abs
theorem hzSeenA (P : Params) (os : OsState) (T : BT) : (staticsOk (importedModules PW.main.body) (boot_heap P) (hzLast P os T).heap && namesBound PW (hzLast P os T).heap && gensDone (hzLast P os T) && laidKept (boot_heap P) (hzLast P os T).heap) = true := by kernel_rfl
theorem hzSeenB (P : Params) (os : OsState) (T : BT) : Fast.tw4187177175401517315 q0 loose0 (importedModules PW.main.body) (fun _ => true) true (hzLast P os T) = openGood q0 loose0 := by kernel_rfl
theorem hzSeenC (P : Params) (os : OsState) (T : BT) : as0.map (hzLast P os T).heap.get? = (K0 P).map fun p => some p.2 := by kernel_rfl
noncomputable def hzF (P : Params) : BT := ((boot_heap P).objs.toList ++ [{ cls := .type "tuple", data := .seq #[] }, hzLine 0, hzCode, { cls := .type "frame", slots := #[some (.ref 13), some (.ref 3), some (.ref 3), none, some (.str "__main__" 164), none, some (.ref 0)] }]).zipIdx.foldl (fun t x => t.ins x.2 x.1) .nil
theorem hzPre (w : World) (os : OsState) : topGo treeTable PW w 11 hzAnn 12 ⟨boot_heap w.params, #[], boot_drawn, boot_toks, os⟩ (topStub PW) = some ((hzS w.params (hzKa w.params) 15 187 os (hzF w.params)).abs, ⟨denote treeTable hzCd, hzCd, ⟨0, 0, 0, 0⟩, hzFr⟩) := by kernel_rfl
theorem hzBlk (w : World) (s : Shared) : segRun treeTable PW w 11 hzAnn 1 1 s (blockOf (behindTheImports PW) hzEnv hzCd ⟨0, 0, 0, 0⟩ hzFr) = some (.next, s, hzCd, ⟨0, 0, 0, 0⟩) := by kernel_rfl
theorem hzFin (w : World) (s : Shared) (q : Pos) : topRun treeTable PW w 11 hzAnn 2 s ⟨doneF .next, hzCd, q, hzFr⟩ = some s := by
  obtain ⟨h, g, d, k, os⟩ := s
  kernel_rfl
theorem hzBody : behindTheImports PW = hzSl 0 5 ++ (hzSl 5 20 ++ (hzSl 25 1 ++ (hzSl 26 19 ++ (hzSl 45 8 ++ (hzSl 53 15 ++ []))))) := by kernel_rfl
theorem hzJoin {w : World} {N : Nat} {s s' : Shared} {l : List Stmt} {q : Pos} (h : behindTheImports PW = l) (e : topRun treeTable PW w 11 hzAnn N s (restOf l hzEnv hzCd q hzFr) = some s') : topRun treeTable PW w 11 hzAnn N s (restOf (behindTheImports PW) hzEnv hzCd q hzFr) = some s' := by
  rw [h]; exact e
theorem hzRan (w : World) (os : OsState) : ∃ s, topRun treeTable PW w 11 hzAnn 4600 ⟨boot_heap w.params, #[], boot_drawn, boot_toks, os⟩ (topStub PW) = some s ∧ ∃ T, hzLast w.params os T = s := by
  have e : ∀ T, ∃ s, topRun treeTable PW w 11 hzAnn 2 (hzLast w.params os T) (restOf [] hzEnv hzCd ⟨518, 0, 548, 43⟩ hzFr) = some s ∧ ∃ T, hzLast w.params os T = s := fun T => ⟨_, piece_nil (hzFin w _ _), T, rfl⟩
  replace e := hzPiece (hzRun6 w os) e
  replace e := hzPiece (hzRun5 w os) e
  replace e := hzPiece (hzRun4 w os) e
  replace e := hzPiece (hzRun3 w os) e
  replace e := hzPiece (hzRun2 w os) e
  replace e := hzPiece (hzRun1 w os) e
  obtain ⟨s, e, h⟩ := e (hzF w.params)
  replace e := go_top (hzPre w os) (piece_block (hzBlk w _) (hzJoin hzBody e))
  exact ⟨s, topRun_mono 99 _ _ _ _ e, h⟩
theorem hzSize (P : Params) : ((boot_heap P).isNs mainGlobals && (#[] : Array GenState).size == 0, (boot_heap P).objs.size, (boot_heap P).nsMap mainGlobals "__annotations__") = (true, 11, some (.ref 6)) := by kernel_rfl
theorem left0 : LeftO PW q0 loose0 (fun _ => true) (fun s => as0.map s.heap.get?) (fun w => (K0 w.params).map fun p => some p.2) 4600 := fun w => by
  obtain ⟨⟨h, gs, d, k, os⟩, e, e'⟩ := Option.map_eq_some_iff.mp (boot_open (p := PW) (N := 4600) (by kernel_rfl) (by decide) (fun s => by kernel_rfl) w)
  simp only [Prod.mk.injEq] at e'
  obtain ⟨rfl, rfl, rfl, rfl⟩ := e'
  obtain ⟨s, r, T, rfl⟩ := hzRan w os
  have sz := hzSize w.params
  simp only [Prod.mk.injEq] at sz
  obtain ⟨z1, z2, z3⟩ := sz
  have t : topFrom treeTable PW w 4600 ⟨boot_heap w.params, #[], boot_drawn, boot_toks, os⟩ = some (hzLast w.params os T) := by
    unfold topFrom
    dsimp only
    rw [z1, z2, z3, r]
    dsimp only [Option.bind]
    rw [hzSeenA]
  have l := hzSeenB w.params os T
  rw [← Fast.te4187177175401517315] at l
  unfold openEnds
  rw [e, Option.bind_some, t, Option.map_some, l]
  exact congrArg (fun x => some (openGood q0 loose0, x)) (hzSeenC _ _ _)
abbrev RW : OpenLaw := PySem.Challenge.rw_nz0157_01
theorem hzBare1 : (["vars", "dir", "locals"] : List Str).filter (readsOut PW PW.main.body) = [] := by
  have a : readsOut PW PW.main.body "vars" = false := by rw [Fast.te13343964577679436407]; decide +kernel
  have b : readsOut PW PW.main.body "dir" = false := by rw [Fast.te13343964577679436407]; decide +kernel
  have c : readsOut PW PW.main.body "locals" = false := by rw [Fast.te13343964577679436407]; decide +kernel
  rw [List.filter_cons_of_neg (by rw [a]; decide), List.filter_cons_of_neg (by rw [b]; decide), List.filter_cons_of_neg (by rw [c]; decide), List.filter_nil]
theorem hzOpen1 : looksOpen PW = true := by
  delta looksOpen
  rw [hzBare1, Fast.te11788848310118352699, Fast.te12862048085361865435, Fast.te8377067652309620493, Fast.te8326940854005059898, Fast.te17119622794617984870]
  refine look_both (look_both (look_both (look_both (look_both ?_ ?_) ?_) ?_) ?_) ?_ <;> decide +kernel
theorem hzPart1 : RW.row.partSaid = true := by
  delta OpenRow.partSaid
  iterate 13 (refine look_both ?_ (by kernel_rfl))
  exact hzOpen1
theorem said : RW.wellSaid = true := by
  delta OpenLaw.wellSaid
  rw [Fast.te8326940854005059898, Fast.te17119622794617984870, Fast.te8179353310426384613, Fast.te16286561074155671207, Fast.named_eq, Fast.te6984425678791042302]
  refine look_both (look_both (look_both (look_both (look_both (look_both (look_both (look_both (look_both (look_both (look_both (look_both (look_both (look_both (look_both (look_both (look_both (look_both (look_both (look_both hzPart1 ?_) ?_) ?_) ?_) ?_) ?_) ?_) ?_) ?_) ?_) ?_) ?_) ?_) ?_) ?_) ?_) ?_) ?_) ?_) ?_ <;> decide +kernel
theorem hzBody1 : PW.main.body = hzSl 0 25 ++ (hzSl 25 1 ++ hzSl 26 42) := by kernel_rfl
theorem hzHoldsQ : TablesWhole.holds = ⟨fun sc n _ => Fast.tw15985051520779696433 sc n, fun _ _ _ ok => ok, fun _ => true, true, false, fun a b => a && b⟩ := by
  rw [← Fast.te15985051520779696433]; rfl
theorem hzWss (cx : TablesWhole.Ctx) (top sc : Scope) : ∀ {a b : List Stmt}, TablesWhole.wSs TablesWhole.holds top cx sc a = true → TablesWhole.wSs TablesWhole.holds top cx sc b = true → TablesWhole.wSs TablesWhole.holds top cx sc (a ++ b) = true
  | [], _, _, h => h
  | s :: a, b, g, h => by
    have g : (TablesWhole.wS TablesWhole.holds top cx sc s && TablesWhole.wSs TablesWhole.holds top cx sc a) = true := g
    show (TablesWhole.wS TablesWhole.holds top cx sc s && TablesWhole.wSs TablesWhole.holds top cx sc (a ++ b)) = true
    exact look_both (Bool.and_eq_true_iff.mp g).1 (hzWss cx top sc (Bool.and_eq_true_iff.mp g).2 h)
theorem hzTold : TablesWhole.wSs TablesWhole.gather PW.main.scope ⟨PW.main.scope, [], [], [], none⟩ PW.main.scope PW.main.body = [] := by
  rw [Fast.te16421684217811934046, Fast.te12652042256554560961]
  kernel_rfl
theorem hzModTab {m : Module} {t : List Str} (ht : TablesWhole.wSs TablesWhole.gather m.scope ⟨m.scope, [], [], [], none⟩ m.scope m.body = t) (a : TablesWhole.noTwice m.scope = true)
    (b : TablesWhole.wSs TablesWhole.holds m.scope ⟨m.scope, [], t, [], none⟩ m.scope m.body = true) : TablesWhole.wModule TablesWhole.holds m = true := by
  subst ht
  exact look_both (a := true) rfl (look_both a (look_both b rfl))
theorem hzProgTab {p : Program} (h : TablesWhole.wModule TablesWhole.holds p.main = true) (a : p.modules = []) (b : p.parses = []) (c : p.harvested = []) : p.tablesWhole = true := by
  delta Program.tablesWhole TablesWhole.wProgram
  rw [a, b, c]
  exact look_both h rfl
theorem hzTwApp {cx : TablesWhole.Ctx} (a : TablesWhole.wSs TablesWhole.holds PW.main.scope cx PW.main.scope (hzSl 0 25) = true) (b : TablesWhole.wSs TablesWhole.holds PW.main.scope cx PW.main.scope (hzSl 25 1) = true) (c : TablesWhole.wSs TablesWhole.holds PW.main.scope cx PW.main.scope (hzSl 26 42) = true) : TablesWhole.wSs TablesWhole.holds PW.main.scope cx PW.main.scope PW.main.body = true := hzBody1 ▸ hzWss _ _ _ a (hzWss _ _ _ b c)
theorem hzTw : TablesWhole.wSs TablesWhole.holds PW.main.scope ⟨PW.main.scope, [], [], [], none⟩ PW.main.scope PW.main.body = true := by
  refine hzTwApp ?_ ?_ ?_ <;> (rw [hzHoldsQ, Fast.te16421684217811934046]; decide +kernel)
theorem hzWhole : PW.tablesWhole = true := hzProgTab (hzModTab hzTold (by rw [Fast.te8331962902438777018]; decide +kernel) hzTw) rfl rfl rfl
theorem wit : RW.row.toRowW.promised := ⟨[WData.list []], by kernel_rfl, by kernel_rfl⟩
theorem oks : (chainsOk q0 && opensWell RW.row.prog && (frees RW.row.toRowW && RW.row.within.isEmpty)) = true := by kernel_rfl
theorem prog_eq : RW.row.toRowW.prog = PW := rfl
theorem left1 : LeftO RW.row.toRowW.prog q0 loose0 (fun _ => true) (fun s => as0.map s.heap.get?) (fun w => (K0 w.params).map fun p => some p.2) 4600 :=
  prog_eq.symm ▸ left0
theorem bare : RW.row.prog.bare := ⟨rfl, rfl, rfl, rfl, rfl, hzWhole⟩
theorem hd (call : ∀ d kwd, d.name = ("law" : Str) → WalkO q0 loose0 (fun _ _ => True) (fun w h => (K0 w.params).In h) RW.row.toRowW d kwd fun f vs => PySem.call f vs) : RW.Holds :=
  holds_law said fun k1 => holds_open (r := RW.row) (q := q0) (loose := loose0) (Xt := fun _ => true) (Yf := fun s => as0.map s.heap.get?) (Ya := fun w => (K0 w.params).map fun p => some p.2) (N := 4600) (XP := fun _ _ => True) (YP := fun w h => (K0 w.params).In h) left1 (fun w s e => InK.of as0_eq w s e) (fun w h h' x k => InK.keeps w h h' x k) (fun _ _ => trivial) (fun _ _ _ _ _ => trivial)
    (by rfl) (by rfl) (by rfl) (fun s _ => recFacts_of rfl) (by rfl) k1 oks bare wit (call _ _ rfl)
set_option maxRecDepth 100000
/-- values as trees: tuples are seen through, all else that lies on the heap is a name (an address) -/
inductive V where
  | none
  | bool (b : Bool)
  | int (i : Int)
  | str (s : Str)
  | tup (l : List V)
  | ref (a : Addr)
  | raw (v : Value)

mutual
noncomputable def VIs (h : Heap) : V → Value → Prop
  | .none, u => u = .none
  | .bool b, u => u = .bool b
  | .int i, u => ∃ t, u = .int i t
  | .str s, u => ∃ t, u = .str s t
  | .tup l, u => ∃ a n vs, u = .ref a ∧ h.get? a = some ⟨.type "tuple", none, .seq vs n, #[]⟩ ∧ VAll h l vs.toList
  | .ref a, u => u = .ref a
  | .raw r, u => u = r
noncomputable def VAll (h : Heap) : List V → List Value → Prop
  | [], us => us = []
  | x :: l, us => ∃ u r, us = u :: r ∧ VIs h x u ∧ VAll h l r
end

abbrev tupO (vs : Array Value) (n : Nat) : Obj := ⟨.type "tuple", none, .seq vs n, #[]⟩
/-- every tuple of h stands in h' as it is -/
noncomputable def TupLe (h h' : Heap) : Prop := ∀ a vs n, h.get? a = some (tupO vs n) → h'.get? a = some (tupO vs n)
theorem TupLe.refl (h : Heap) : TupLe h h := fun _ _ _ e => e
theorem TupLe.trans {h₁ h₂ h₃ : Heap} (x : TupLe h₁ h₂) (y : TupLe h₂ h₃) : TupLe h₁ h₃ := fun a o n e => y a o n (x a o n e)
theorem TupLe.of_keeps {h h' : Heap} (k : ∀ b o, h.get? b = some o → h'.get? b = some o) : TupLe h h' := fun a o n e => k a _ e
theorem TupLe.of_sameBut {h h' : Heap} {a : Addr} {o : Obj} (e : h.get? a = some o) (hc : ∀ vs n, o ≠ tupO vs n) (s : Heap.SameBut a h h') : TupLe h h' := fun b vs n eb => by
  by_cases q : b = a
  · subst q; rw [e] at eb; exact absurd (Option.some.inj eb) (hc vs n)
  · exact (s.2 b q).trans eb

mutual
theorem VIs.mono {h h' : Heap} (k : TupLe h h') : ∀ {v : V} {u : Value}, VIs h v u → VIs h' v u
  | .none, _, x => by simpa only [VIs] using x
  | .bool _, _, x => by simpa only [VIs] using x
  | .int _, _, x => by simpa only [VIs] using x
  | .str _, _, x => by simpa only [VIs] using x
  | .ref _, _, x => by simpa only [VIs] using x
  | .raw _, _, x => by simpa only [VIs] using x
  | .tup l, _, x => by
    simp only [VIs] at x ⊢
    obtain ⟨a, n, vs, e, g, y⟩ := x
    exact ⟨a, n, vs, e, k _ _ _ g, VAll.mono k y⟩
theorem VAll.mono {h h' : Heap} (k : TupLe h h') : ∀ {l : List V} {us : List Value}, VAll h l us → VAll h' l us
  | [], _, x => by simpa only [VAll] using x
  | v :: l, _, x => by
    simp only [VAll] at x ⊢
    obtain ⟨u, r, e, y, z⟩ := x
    exact ⟨u, r, e, VIs.mono k y, VAll.mono k z⟩
end

theorem VAll.nil {h : Heap} : VAll h [] [] := by simp only [VAll]
theorem VAll.cons {h : Heap} {v : V} {l : List V} {u : Value} {us : List Value} (x : VIs h v u) (y : VAll h l us) : VAll h (v :: l) (u :: us) := by
  simp only [VAll]; exact ⟨u, us, rfl, x, y⟩
theorem VAll.nil_inv {h : Heap} {us : List Value} (x : VAll h [] us) : us = [] := by simpa only [VAll] using x
theorem VAll.cons_inv {h : Heap} {v : V} {l : List V} {us : List Value} (x : VAll h (v :: l) us) : ∃ u r, us = u :: r ∧ VIs h v u ∧ VAll h l r := by simpa only [VAll] using x
theorem VAll.length {h : Heap} : ∀ {l : List V} {us : List Value}, VAll h l us → us.length = l.length
  | [], _, x => by rw [x.nil_inv]; rfl
  | _ :: l, _, x => by obtain ⟨u, r, rfl, _, z⟩ := x.cons_inv; simp [z.length]
theorem VAll.append {h : Heap} : ∀ {l l' : List V} {us us' : List Value}, VAll h l us → VAll h l' us' → VAll h (l ++ l') (us ++ us')
  | [], _, _, _, x, y => by rw [x.nil_inv]; exact y
  | _ :: l, _, _, _, x, y => by obtain ⟨u, r, rfl, a, z⟩ := x.cons_inv; exact .cons a (z.append y)
theorem VAll.get {h : Heap} : ∀ {l : List V} {us : List Value} {i : Nat} {v : V}, VAll h l us → l[i]? = some v → ∃ u, us[i]? = some u ∧ VIs h v u
  | [], _, _, _, _, e => by simp at e
  | w :: l, _, 0, v, x, e => by obtain ⟨u, r, rfl, a, z⟩ := x.cons_inv; simp at e; subst e; exact ⟨u, rfl, a⟩
  | w :: l, _, i + 1, v, x, e => by obtain ⟨u, r, rfl, a, z⟩ := x.cons_inv; simp at e; simpa using z.get e
theorem vis_none {h : Heap} : VIs h .none .none := by simp only [VIs]
theorem vis_bool {h : Heap} {b : Bool} : VIs h (.bool b) (.bool b) := by simp only [VIs]
theorem vis_int {h : Heap} {i : Int} {t : Tok} : VIs h (.int i) (.int i t) := by simp only [VIs]; exact ⟨t, rfl⟩
theorem vis_str {h : Heap} {s : Str} {t : Tok} : VIs h (.str s) (.str s t) := by simp only [VIs]; exact ⟨t, rfl⟩
theorem vis_ref {h : Heap} {a : Addr} : VIs h (.ref a) (.ref a) := by simp only [VIs]
theorem vis_raw {h : Heap} {r : Value} : VIs h (.raw r) r := by simp only [VIs]
theorem vis_tup {h : Heap} {l : List V} {a : Addr} {n : Nat} {vs : Array Value} (g : h.get? a = some ⟨.type "tuple", none, .seq vs n, #[]⟩) (x : VAll h l vs.toList) : VIs h (.tup l) (.ref a) := by
  simp only [VIs]; exact ⟨a, n, vs, rfl, g, x⟩
theorem VIs.none_inv {h : Heap} {u : Value} (x : VIs h .none u) : u = .none := by simpa only [VIs] using x
theorem VIs.bool_inv {h : Heap} {b : Bool} {u : Value} (x : VIs h (.bool b) u) : u = .bool b := by simpa only [VIs] using x
theorem VIs.int_inv {h : Heap} {i : Int} {u : Value} (x : VIs h (.int i) u) : ∃ t, u = .int i t := by simpa only [VIs] using x
theorem VIs.str_inv {h : Heap} {s : Str} {u : Value} (x : VIs h (.str s) u) : ∃ t, u = .str s t := by simpa only [VIs] using x
theorem VIs.ref_inv {h : Heap} {a : Addr} {u : Value} (x : VIs h (.ref a) u) : u = .ref a := by simpa only [VIs] using x
theorem VIs.raw_inv {h : Heap} {r u : Value} (x : VIs h (.raw r) u) : u = r := by simpa only [VIs] using x
theorem VIs.tup_inv {h : Heap} {l : List V} {u : Value} (x : VIs h (.tup l) u) : ∃ a n vs, u = .ref a ∧ h.get? a = some ⟨.type "tuple", none, .seq vs n, #[]⟩ ∧ VAll h l vs.toList := by simpa only [VIs] using x

/-- shapes of keys and of compared data -/
inductive Sh where
  | bool | int | str
  | tup (l : List Sh)

mutual
noncomputable def V.has : Sh → V → Prop
  | .bool, v => ∃ b, v = .bool b
  | .int, v => ∃ i, v = .int i
  | .str, v => ∃ s, v = .str s ∧ PyData.strOk s = true
  | .tup l, v => ∃ vs, v = .tup vs ∧ V.hasAll l vs
noncomputable def V.hasAll : List Sh → List V → Prop
  | [], vs => vs = []
  | s :: l, vs => ∃ v r, vs = v :: r ∧ V.has s v ∧ V.hasAll l r
end

/-- the kinds of a dict's keys -/
inductive DK where
  | int | str | bool
  | tup (l : List Sh)
noncomputable def DK.sh : DK → Sh
  | .int => .int | .str => .str | .bool => .bool | .tup l => .tup l

noncomputable def hashB (b : Bool) : Int := if b then 1 else 0
mutual
noncomputable def hashV (w : World) : V → Int
  | .int i => hashInt i
  | .str s => hashStr w s
  | .bool b => hashB b
  | .tup l => reduceHash (Builtin.Tuple.tupleHashOf (hashL w l))
  | _ => 0
noncomputable def hashL (w : World) : List V → List Int
  | [] => []
  | x :: l => hashV w x :: hashL w l
end

noncomputable def EntsAre (w : World) (h : Heap) : List (V × V) → List DictEntry → Prop
  | [], es => es = []
  | x :: l, es => ∃ e r, es = e :: r ∧ e.hash = hashV w x.1 ∧ VIs h x.1 e.key ∧ VIs h x.2 e.val ∧ EntsAre w h l r
theorem EntsAre.mono {w : World} {h h' : Heap} (k : TupLe h h') : ∀ {l : List (V × V)} {es : List DictEntry}, EntsAre w h l es → EntsAre w h' l es
  | [], _, x => x
  | _ :: _, _, ⟨e, r, a, b, c, d, y⟩ => ⟨e, r, a, b, c.mono k, d.mono k, y.mono k⟩
theorem EntsAre.length {w : World} {h : Heap} : ∀ {l : List (V × V)} {es : List DictEntry}, EntsAre w h l es → es.length = l.length
  | [], _, x => by simp only [EntsAre] at x; subst x; rfl
  | _ :: _, _, ⟨e, r, a, _, _, _, y⟩ => by subst a; simp [y.length]

/-- what may be changed -/
inductive Cell where
  | list (l : List V)
  | dict (k : DK) (l : List (V × V))
  | inst (C dx : Addr)
  | obj (o : Obj)

noncomputable def CellIs (w : World) (h : Heap) : Cell → Obj → Prop
  | .list l, o => ∃ vs n, o = ⟨.type "list", none, .seq vs n, #[]⟩ ∧ VAll h l vs.toList
  | .dict k l, o => ∃ es n, o = ⟨.type "dict", none, .dict es n, #[]⟩ ∧ EntsAre w h l es.toList ∧ (∀ x ∈ l, V.has k.sh x.1) ∧ (l.map (·.1)).Nodup
  | .inst C dx, o => o = instObj C dx
  | .obj o', o => o = o' ∧ ∀ vs n, o' ≠ tupO vs n
theorem CellIs.mono {w : World} {h h' : Heap} (k : TupLe h h') {c : Cell} {o : Obj} (x : CellIs w h c o) : CellIs w h' c o := by
  cases c with
  | list l => obtain ⟨vs, n, e, y⟩ := x; exact ⟨vs, n, e, y.mono k⟩
  | dict kk l => obtain ⟨es, n, e, y, z⟩ := x; exact ⟨es, n, e, y.mono k, z⟩
  | inst C dx => exact x
  | obj o' => exact x
theorem CellIs.notTup {w : World} {h : Heap} {c : Cell} {o : Obj} (x : CellIs w h c o) : ∀ vs n, o ≠ tupO vs n := by
  intro vs' n' e
  cases c with
  | list l => obtain ⟨vs, n, rfl, y⟩ := x; exact absurd (congrArg Obj.data e) (fun q => absurd (congrArg Obj.cls e) (by show Value.type "list" ≠ Value.type "tuple"; decide))
  | dict kk l => obtain ⟨es, n, rfl, y⟩ := x; exact absurd (congrArg Obj.cls e) (by show Value.type "dict" ≠ Value.type "tuple"; decide)
  | inst C dx => cases x; exact absurd (congrArg Obj.cls e) (fun q => nomatch q)
  | obj o' => rw [x.1] at e; exact x.2 _ _ e

abbrev Store := Addr → Option Cell
noncomputable def upd (σ : Store) (a : Addr) (c : Cell) : Store := fun b => if b = a then some c else σ b
theorem upd_same {σ : Store} {a : Addr} {c : Cell} : upd σ a c a = some c := if_pos rfl
theorem upd_ne {σ : Store} {a b : Addr} {c : Cell} (h : b ≠ a) : upd σ a c b = σ b := if_neg h

abbrev Loc := Str → Option V
noncomputable def set (m : Loc) (x : Str) (v : V) : Loc := fun y => if y = x then some v else m y

abbrev P : Program := PySem.Challenge.rw_nz0157_01.row.prog
noncomputable abbrev KK (w : World) : Frag := K0 w.params

/-- the heap's part: what the store knows -/
structure Hp (w : World) (σ : Store) (s : Shared) : Prop where
  cells : ∀ a c, σ a = some c → ∃ o, s.heap.get? a = some o ∧ CellIs w s.heap c o
  lo : ∀ a c, σ a = some c → sysModules < a
  gens : s.gens = #[]

/-- the ground: what stands since before the call -/
structure Gd (w : World) (h₀ : Heap) : Prop where
  X : (KK w).In h₀
  mg : ∃ mg, h₀.Ns mainGlobals mg
  mb : ∃ mb, h₀.Ns builtinsNs mb ∧ ∀ x v, bootBuiltins x = some v → x ≠ "__name__" → mb x = some v
  lim : h₀.NoLimit

/-- one activation -/
structure Cx where
  h₀ : Heap
  base : Addr → Option Obj
  env : Env
  os : OsState

noncomputable def Cx.Ok (C : Cx) : Prop := ∀ b o, C.h₀.get? b = some o → C.base b = some o

structure Rel (w : World) (C : Cx) (m : Loc) (σ : Store) (s : Shared) : Prop where
  hp : Hp w σ s
  lo : sysModules < C.env.locals
  os : s.os = C.os
  keep : ∀ b o, C.base b = some o → s.heap.get? b = some o
  ns : ∃ mv, s.heap.Ns C.env.locals mv ∧ ∀ x v, m x = some v → C.env.cells.lookup x = none → ∃ u, mv x = some u ∧ VIs s.heap v u
  cl : ∀ x c, C.env.cells.lookup x = some c → ∃ u, s.heap.IsCell c u ∧ ∀ v, m x = some v → ∃ u', u = some u' ∧ VIs s.heap v u'
  apart : ∀ a c, σ a = some c → C.base a = none ∧ a ≠ C.env.locals ∧ ∀ x c', C.env.cells.lookup x = some c' → a ≠ c'

/-- a smaller knowledge is a knowledge -/
noncomputable def StLe (σ σ' : Store) : Prop := ∀ a c, σ a = some c → σ' a = some c
noncomputable def LoLe (m m' : Loc) : Prop := ∀ x v, m x = some v → m' x = some v
theorem StLe.refl (σ : Store) : StLe σ σ := fun _ _ e => e
theorem StLe.trans {a b c : Store} (x : StLe a b) (y : StLe b c) : StLe a c := fun i v e => y _ _ (x i v e)
theorem LoLe.refl (m : Loc) : LoLe m m := fun _ _ e => e
theorem LoLe.set {m₀ m : Loc} {x : Str} {v : V} (h : LoLe m₀ m) (e : m₀ x = none) : LoLe m₀ (set m x v) := fun y u q => by
  show (if y = x then some v else m y) = some u
  by_cases hy : y = x
  · subst hy; rw [e] at q; cases q
  · rw [if_neg hy]; exact h y u q

theorem Hp.le {w : World} {σ σ' : Store} {s : Shared} (x : Hp w σ' s) (k : StLe σ σ') : Hp w σ s := ⟨fun a c e => x.cells a c (k a c e), fun a c e => x.lo a c (k a c e), x.gens⟩
theorem Rel.le {w : World} {C : Cx} {m m' : Loc} {σ σ' : Store} {s : Shared} (x : Rel w C m' σ' s) (km : LoLe m m') (k : StLe σ σ') : Rel w C m σ s :=
  ⟨x.hp.le k, x.lo, x.os, x.keep, let ⟨mv, a, b⟩ := x.ns; ⟨mv, a, fun y v e q => b y v (km y v e) q⟩, fun y c e => let ⟨u, a, b⟩ := x.cl y c e; ⟨u, a, fun v q => b v (km y v q)⟩, fun a c e => x.apart a c (k a c e)⟩

theorem Heap.Ns_at {h h' : Heap} {a : Addr} {m : Str → Option Value} (x : h.Ns a m) (k : ∀ o, h.get? a = some o → h'.get? a = some o) : h'.Ns a m :=
  let ⟨o, es, ep, e, r⟩ := x; ⟨o, es, ep, k _ e, r⟩

/-- nothing but tokens moved -/
theorem Rel.toks {w : World} {C : Cx} {m : Loc} {σ : Store} {s : Shared} (x : Rel w C m σ s) (t : Nat) : Rel w C m σ { s with toks := t } := ⟨⟨x.hp.cells, x.hp.lo, x.hp.gens⟩, x.lo, x.os, x.keep, x.ns, x.cl, x.apart⟩

/-- the heap has grown (nothing that stood has changed) -/
theorem Rel.grow {w : World} {C : Cx} {m : Loc} {σ : Store} {s : Shared} {h' : Heap} {t : Nat} (x : Rel w C m σ s) (k : ∀ b o, s.heap.get? b = some o → h'.get? b = some o) : Rel w C m σ { s with heap := h', toks := t } := by
  have tl := TupLe.of_keeps k
  refine ⟨⟨fun a c e => ?_, x.hp.lo, x.hp.gens⟩, x.lo, x.os, fun b o e => k _ _ (x.keep b o e), ?_, ?_, x.apart⟩
  · obtain ⟨o, g, y⟩ := x.hp.cells a c e; exact ⟨o, k _ _ g, y.mono tl⟩
  · obtain ⟨mv, a, b⟩ := x.ns; exact ⟨mv, a.keeps k, fun y v e q => let ⟨u, p, r⟩ := b y v e q; ⟨u, p, r.mono tl⟩⟩
  · intro y c e; obtain ⟨u, a, b⟩ := x.cl y c e; exact ⟨u, a.keeps k, fun v q => let ⟨u', p, r⟩ := b v q; ⟨u', p, r.mono tl⟩⟩

/-- an object of the store has changed -/
theorem Rel.change {w : World} {C : Cx} {m : Loc} {σ : Store} {s : Shared} {h' : Heap} {t : Nat} {a : Addr} {c c' : Cell} {o' : Obj} (x : Rel w C m σ s) (ha : σ a = some c) (sb : Heap.SameBut a s.heap h') (g' : h'.get? a = some o') (k' : CellIs w h' c' o') :
    TupLe s.heap h' ∧ Rel w C m (upd σ a c') { s with heap := h', toks := t } := by
  obtain ⟨o, g, y⟩ := x.hp.cells a c ha
  obtain ⟨hb, hL, hcl⟩ := x.apart a c ha
  have tl : TupLe s.heap h' := TupLe.of_sameBut g y.notTup sb
  refine ⟨tl, ⟨⟨fun b d e => ?_, fun b d e => ?_, x.hp.gens⟩, x.lo, x.os, fun b ob e => ?_, ?_, ?_, fun b d e => ?_⟩⟩
  · by_cases q : b = a
    · subst q; rw [upd_same] at e; cases e; exact ⟨o', g', k'⟩
    · rw [upd_ne q] at e; obtain ⟨ob, gb, yb⟩ := x.hp.cells b d e; exact ⟨ob, (sb.2 b q).trans gb, yb.mono tl⟩
  · by_cases q : b = a
    · subst q; exact x.hp.lo b c ha
    · rw [upd_ne q] at e; exact x.hp.lo b d e
  · have q : b ≠ a := fun q => by rw [q, hb] at e; cases e
    exact (sb.2 b q).trans (x.keep b ob e)
  · obtain ⟨mv, p, q⟩ := x.ns
    exact ⟨mv, p.sameBut sb (Ne.symm hL), fun y v e r => let ⟨u, p', r'⟩ := q y v e r; ⟨u, p', r'.mono tl⟩⟩
  · intro y cc e
    obtain ⟨u, p, q⟩ := x.cl y cc e
    exact ⟨u, p.sameBut sb (Ne.symm (hcl y cc e)), fun v r => let ⟨u', p', r'⟩ := q v r; ⟨u', p', r'.mono tl⟩⟩
  · by_cases q : b = a
    · subst q; exact ⟨hb, hL, hcl⟩
    · rw [upd_ne q] at e; exact x.apart b d e

/-- a new object of the store's -/
theorem Rel.new {w : World} {C : Cx} {m : Loc} {σ : Store} {s : Shared} {h' : Heap} {t : Nat} {a : Addr} {c : Cell} {o : Obj} (x : Rel w C m σ s) (k : ∀ b o, s.heap.get? b = some o → h'.get? b = some o) (fr : s.heap.get? a = none) (hlo : sysModules < a) (g : h'.get? a = some o) (kc : CellIs w h' c o) :
    Rel w C m (upd σ a c) { s with heap := h', toks := t } := by
  have y := x.grow (t := t) k
  refine ⟨⟨fun b d e => ?_, fun b d e => ?_, y.hp.gens⟩, y.lo, y.os, y.keep, y.ns, y.cl, fun b d e => ?_⟩
  · by_cases q : b = a
    · subst q; rw [upd_same] at e; cases e; exact ⟨o, g, kc⟩
    · rw [upd_ne q] at e; exact y.hp.cells b d e
  · by_cases q : b = a
    · subst q; exact hlo
    · rw [upd_ne q] at e; exact x.hp.lo b d e
  · by_cases q : b = a
    · subst q
      refine ⟨?_, ?_, fun n cc e' => ?_⟩
      · cases hb : C.base b with
        | none => rfl
        | some ob => rw [x.keep b ob hb] at fr; cases fr
      · rintro rfl
        obtain ⟨mv, ⟨oL, _, _, gL, _⟩, _⟩ := x.ns
        rw [gL] at fr; cases fr
      · rintro rfl
        obtain ⟨u, ⟨oc, gc, _⟩, _⟩ := x.cl n b e'
        rw [gc] at fr; cases fr
    · rw [upd_ne q] at e; exact x.apart b d e

theorem fresh_size (h : Heap) : h.get? h.objs.size = none := by
  cases e : h.get? h.objs.size with
  | none => rfl
  | some o => exact absurd (Heap.lt_size e) (Nat.lt_irrefl _)
theorem Rel.top {w : World} {C : Cx} {m : Loc} {σ : Store} {s : Shared} (x : Rel w C m σ s) : sysModules < s.heap.objs.size := by
  obtain ⟨mv, n, _⟩ := x.ns; exact Nat.lt_trans x.lo n.lt
theorem Hp.notMods {w : World} {σ : Store} {s : Shared} (x : Hp w σ s) {a : Addr} {c : Cell} (e : σ a = some c) : (a == sysModules) = false := by
  have := x.lo a c e
  exact beq_eq_false_iff_ne.mpr (Nat.ne_of_gt this)
/-- a new object of the store's, laid at the heap's end -/
theorem Rel.push {w : World} {C : Cx} {m : Loc} {σ : Store} {s : Shared} {t : Nat} {c : Cell} {o : Obj} (x : Rel w C m σ s) (kc : ∀ h', TupLe s.heap h' → CellIs w h' c o) (hf : o.isFreed = false) :
    TupLe s.heap (s.heap.push o) ∧ Rel w C m (upd σ s.heap.objs.size c) { s with heap := s.heap.push o, toks := t } := by
  have k : ∀ b ob, s.heap.get? b = some ob → (s.heap.push o).get? b = some ob := fun b ob e => Heap.get?_push_of_some o e
  exact ⟨.of_keeps k, x.new k (fresh_size _) x.top (Heap.get?_push_size _ hf) (kc _ (.of_keeps k))⟩
theorem fresh_of {σ : Store} {w : World} {s : Shared} {a : Addr} (x : Hp w σ s) (fr : s.heap.get? a = none) : σ a = none := by
  cases e : σ a with
  | none => rfl
  | some c => obtain ⟨o, g, _⟩ := x.cells a c e; rw [g] at fr; cases fr
noncomputable def No : Value → Shared → Prop := fun _ _ => False
/-- what holds behind a tree -/
noncomputable def Po (w : World) (C : Cx) (m : Loc) {α β : Type} (R : Heap → β → α → Prop) (h : Heap) (K : β → Store → Prop) (u : α) (s' : Shared) : Prop :=
  TupLe h s'.heap ∧ ∃ v σ', R s'.heap v u ∧ Rel w C m σ' s' ∧ K v σ'
theorem Po.up {w : World} {C : Cx} {m : Loc} {α β : Type} {R : Heap → β → α → Prop} {h h' : Heap} {K : β → Store → Prop} {u : α} {s' : Shared} (x : Po w C m R h' K u s') (k : TupLe h h') : Po w C m R h K u s' := ⟨k.trans x.1, x.2⟩

noncomputable def Gn (w : World) (C : Cx) (A : Around) {α β : Type} (R : Heap → β → α → Prop) (t : Sem α) (m : Loc) (σ : Store) (K : β → Store → Prop) : Prop :=
  ∀ s, Rel w C m σ s → wpAny (model P w) A t (Po w C m R s.heap K) No s
noncomputable def RB (_ : Heap) (b c : Bool) : Prop := c = b
abbrev Ev (w : World) (C : Cx) (A : Around) (t : Sem Value) (m : Loc) (σ : Store) (K : V → Store → Prop) : Prop := Gn w C A VIs t m σ K
abbrev Evs (w : World) (C : Cx) (A : Around) (t : Sem (List Value)) (m : Loc) (σ : Store) (K : List V → Store → Prop) : Prop := Gn w C A VAll t m σ K
abbrev Tr (w : World) (C : Cx) (A : Around) (t : Sem Bool) (m : Loc) (σ : Store) (K : Bool → Store → Prop) : Prop := Gn w C A RB t m σ K
noncomputable def Op1 (w : World) (C : Cx) (A : Around) {α β : Type} (R : Heap → β → α → Prop) (f : Value → Sem α) (v : V) (m : Loc) (σ : Store) (K : β → Store → Prop) : Prop :=
  ∀ s u, Rel w C m σ s → VIs s.heap v u → wpAny (model P w) A (f u) (Po w C m R s.heap K) No s
noncomputable def Op2 (w : World) (C : Cx) (A : Around) (f : Value → Value → Sem Value) (v₁ v₂ : V) (m : Loc) (σ : Store) (K : V → Store → Prop) : Prop :=
  ∀ s u₁ u₂, Rel w C m σ s → VIs s.heap v₁ u₁ → VIs s.heap v₂ u₂ → wpAny (model P w) A (f u₁ u₂) (Po w C m VIs s.heap K) No s

section
variable {w : World} {C : Cx} {A : Around} {m : Loc} {σ : Store}

theorem Gn.use {α β : Type} {R : Heap → β → α → Prop} {t : Sem α} {K : β → Store → Prop} {s : Shared} {Q : α → Shared → Prop} (h : Gn w C A R t m σ K) (r : Rel w C m σ s)
    (k : ∀ u s₁ v σ₁, TupLe s.heap s₁.heap → R s₁.heap v u → Rel w C m σ₁ s₁ → K v σ₁ → Q u s₁) : wpAny (model P w) A t Q No s :=
  wpAny_mono (h s r) (fun u s₁ ⟨a, v, σ₁, b, c, d⟩ => k u s₁ v σ₁ a b c d) (fun _ _ x => x.elim)
theorem Gn.mono {α β : Type} {R : Heap → β → α → Prop} {t : Sem α} {K K' : β → Store → Prop} (h : Gn w C A R t m σ K) (k : ∀ v σ', K v σ' → K' v σ') : Gn w C A R t m σ K' := fun s r =>
  wpAny_mono (h s r) (fun u s₁ ⟨a, v, σ₁, b, c, d⟩ => ⟨a, v, σ₁, b, c, k v σ₁ d⟩) (fun _ _ x => x)
theorem Po.here {α β : Type} {R : Heap → β → α → Prop} {s : Shared} {K : β → Store → Prop} {v : β} {u : α} {t : Nat} (r : Rel w C m σ s) (x : R s.heap v u) (k : K v σ) : Po w C m R s.heap K u { s with toks := t } :=
  ⟨.refl _, v, σ, x, r.toks t, k⟩
theorem Po.now {α β : Type} {R : Heap → β → α → Prop} {s : Shared} {K : β → Store → Prop} {v : β} {u : α} (r : Rel w C m σ s) (x : R s.heap v u) (k : K v σ) : Po w C m R s.heap K u s :=
  ⟨.refl _, v, σ, x, r, k⟩
theorem post_up {α β : Type} {R : Heap → β → α → Prop} {t : Sem α} {h h' : Heap} {K : β → Store → Prop} {s : Shared} (x : wpAny (model P w) A t (Po w C m R h' K) No s) (k : TupLe h h') : wpAny (model P w) A t (Po w C m R h K) No s :=
  wpAny_mono x (fun _ _ p => p.up k) (fun _ _ e => e)

variable {K : V → Store → Prop}

/-! names -/
theorem ev_local {x : Str} {pos : Pos} {v : V} (hk : C.env.scope.kind = .function) (hl : C.env.kindOf x = some .local) (hc : C.env.cells.lookup x = none) (hm : m x = some v) (h : K v σ) (hd : (x == ("__debug__" : Str)) = false) :
    Ev w C A (eval (.Name x pos) C.env) m σ K := fun s r => by
  obtain ⟨mv, n, q⟩ := r.ns
  obtain ⟨u, e, y⟩ := q x v hm hc
  exact wpAny_Name (wpAny_loadName_local hk hl n e (.now r y h)) hd
theorem ev_cell {x : Str} {pos : Pos} {v : V} {c : Addr} (hk : C.env.scope.kind = .function) (hl : C.env.kindOf x = some .cell) (hc : C.env.cells.lookup x = some c) (hm : m x = some v) (h : K v σ) (hd : (x == ("__debug__" : Str)) = false) :
    Ev w C A (eval (.Name x pos) C.env) m σ K := fun s r => by
  obtain ⟨u, n, q⟩ := r.cl x c hc
  obtain ⟨u', rfl, y⟩ := q v hm
  exact wpAny_Name (wpAny_loadName_cell hk hl hc n (.now r y h)) hd
theorem ev_glob {x : Str} {pos : Pos} {u : Value} {v : V} (hk : C.env.scope.kind = .function) (hl : C.env.kindOf x = some .globalImplicit) (hg : C.env.globals = mainGlobals) (ok : C.Ok) (G : Gd w C.h₀)
    (hn : nsIn (KK w) mainGlobals x = some (some u)) (hv : ∀ h, (KK w).In h → VIs h v u) (h : K v σ) (hd : (x == ("__debug__" : Str)) = false) :
    Ev w C A (eval (.Name x pos) C.env) m σ K := fun s r => by
  have k : ∀ b o, C.h₀.get? b = some o → s.heap.get? b = some o := fun b o e => r.keep b o (ok b o e)
  obtain ⟨mg, n⟩ := G.mg
  exact Calls.Name_function_global hk hl (Calls.loadGlobal_global (env := C.env) (mg := mg) (by rw [hg]; exact n.keeps k) (mg_of G.X n hn) (.now r (hv _ (G.X.keeps k)) h)) hd
theorem ev_built {x : Str} {pos : Pos} {u : Value} (hk : C.env.scope.kind = .function) (hl : C.env.kindOf x = some .globalImplicit) (hg : C.env.globals = mainGlobals) (hb : C.env.builtins = builtinsNs) (ok : C.Ok) (G : Gd w C.h₀)
    (hn : nsIn (KK w) mainGlobals x = some none) (hv : bootBuiltins x = some u) (hx : x ≠ "__name__") (h : K (.raw u) σ) (hd : (x == ("__debug__" : Str)) = false) :
    Ev w C A (eval (.Name x pos) C.env) m σ K := fun s r => by
  have k : ∀ b o, C.h₀.get? b = some o → s.heap.get? b = some o := fun b o e => r.keep b o (ok b o e)
  obtain ⟨mg, n⟩ := G.mg
  obtain ⟨mb, n', q⟩ := G.mb
  exact Calls.Name_function_global hk hl (Calls.loadGlobal_builtin (env := C.env) (mg := mg) (mb := mb) (by rw [hg]; exact n.keeps k) (mg_none_of G.X n hn) (by rw [hb]; exact n'.keeps k) (q x u hv hx) (.now r vis_raw h)) hd

/-! constants -/
theorem ev_int {i : Int} {k : Nat} {pos : Pos} {env : Env} (h : K (.int i) σ) : Ev w C A (eval (.Constant (.int i) k pos) env) m σ K := fun s r => wpAny_Constant_int (.here r vis_int h)
theorem ev_str {x : Str} {k : Nat} {pos : Pos} {env : Env} (h : K (.str x) σ) : Ev w C A (eval (.Constant (.str x) k pos) env) m σ K := fun s r => Calls.Constant_str (.here r vis_str h)
theorem ev_bool {b : Bool} {k : Nat} {pos : Pos} {env : Env} (h : K (.bool b) σ) : Ev w C A (eval (.Constant (.bool b) k pos) env) m σ K := fun s r => wpAny_Constant_bool (.now r vis_bool h)
theorem ev_none {k : Nat} {pos : Pos} {env : Env} (h : K .none σ) : Ev w C A (eval (.Constant .none k pos) env) m σ K := fun s r => wpAny_Constant_none (.now r vis_none h)

/-! two operands -/
theorem ev_bin {l r : PySem.Expr} {op : Operator} {pos : Pos} {env : Env} (h : Ev w C A (eval l env) m σ (fun v₁ σ₁ => Ev w C A (eval r env) m σ₁ (fun v₂ σ₂ => Op2 w C A (binaryOp op) v₁ v₂ m σ₂ K))) :
    Ev w C A (eval (.BinOp l op r pos) env) m σ K := fun s rel =>
  wpAny_BinOp (h.use rel fun u₁ s₁ v₁ σ₁ t₁ x₁ r₁ k₁ => k₁.use r₁ fun u₂ s₂ v₂ σ₂ t₂ x₂ r₂ k₂ => post_up (k₂ s₂ u₁ u₂ r₂ (x₁.mono t₂) x₂) (t₁.trans t₂))
theorem ev_cmp {l r : PySem.Expr} {op : CmpOp} {pos : Pos} {env : Env} (h : Ev w C A (eval l env) m σ (fun v₁ σ₁ => Ev w C A (eval r env) m σ₁ (fun v₂ σ₂ => Op2 w C A (compareOp op) v₁ v₂ m σ₂ K)))
    (hm : behindInMarks op r = false) : Ev w C A (eval (.Compare l [op] [r] pos) env) m σ K := fun s rel =>
  wpAny_Compare1 (h.use rel fun u₁ s₁ v₁ σ₁ t₁ x₁ r₁ k₁ => k₁.use r₁ fun u₂ s₂ v₂ σ₂ t₂ x₂ r₂ k₂ => post_up (k₂ s₂ u₁ u₂ r₂ (x₁.mono t₂) x₂) (t₁.trans t₂)) hm
theorem tr_cmp {l r : PySem.Expr} {op : CmpOp} {pos : Pos} {env : Env} {whole : Sem Value} {K : Bool → Store → Prop}
    (h : Ev w C A (eval l env) m σ (fun v₁ σ₁ => Ev w C A (eval r env) m σ₁ (fun v₂ σ₂ => Op2 w C A (compareOp op) v₁ v₂ m σ₂ (fun v σ₃ => ∃ b, v = .bool b ∧ K b σ₃))))
    (hm : behindInMarks op r = false) : Tr w C A (isTrue (.Compare l [op] [r] pos) env whole) m σ K := fun s rel =>
  wpAny_isTrue_Compare1 (h.use rel fun u₁ s₁ v₁ σ₁ t₁ x₁ r₁ k₁ => k₁.use r₁ fun u₂ s₂ v₂ σ₂ t₂ x₂ r₂ k₂ =>
    wpAny_mono (k₂ s₂ u₁ u₂ r₂ (x₁.mono t₂) x₂) (fun u s₃ ⟨t₃, v, σ₃, x₃, r₃, b, e, k⟩ => by subst e; rw [x₃.bool_inv]; exact wpAny_truthy_bool ⟨(t₁.trans t₂).trans t₃, b, σ₃, rfl, r₃, k⟩) (fun _ _ e => e)) hm

theorem op_add {a b : Int} (h : K (.int (a + b)) σ) : Op2 w C A (binaryOp .Add) (.int a) (.int b) m σ K := fun s u₁ u₂ r x y => by
  obtain ⟨t, rfl⟩ := x.int_inv; obtain ⟨t', rfl⟩ := y.int_inv; exact add_int (.here r vis_int h)
theorem op_sub {a b : Int} (h : K (.int (a - b)) σ) : Op2 w C A (binaryOp .Sub) (.int a) (.int b) m σ K := fun s u₁ u₂ r x y => by
  obtain ⟨t, rfl⟩ := x.int_inv; obtain ⟨t', rfl⟩ := y.int_inv; exact sub_int (.here r vis_int h)
theorem op_mul {a b : Int} (h : K (.int (a * b)) σ) (hm : IntMulOk a b) : Op2 w C A (binaryOp .Mult) (.int a) (.int b) m σ K := fun s u₁ u₂ r x y => by
  obtain ⟨t, rfl⟩ := x.int_inv; obtain ⟨t', rfl⟩ := y.int_inv; exact mul_int (.here r vis_int h) hm
theorem op_mod {a b : Int} (hb : b ≠ 0) (h : K (.int (a.fmod b)) σ) : Op2 w C A (binaryOp .Mod) (.int a) (.int b) m σ K := fun s u₁ u₂ r x y => by
  obtain ⟨t, rfl⟩ := x.int_inv; obtain ⟨t', rfl⟩ := y.int_inv; exact mod_int hb (.here r vis_int h)
theorem op_fdiv {a b : Int} (hb : b ≠ 0) (hp : Builtin.divisionGoesByPylong a b = false) (h : K (.int (a.fdiv b)) σ) : Op2 w C A (binaryOp .FloorDiv) (.int a) (.int b) m σ K := fun s u₁ u₂ r x y => by
  obtain ⟨t, rfl⟩ := x.int_inv; obtain ⟨t', rfl⟩ := y.int_inv; exact floordiv_int hb (.here r vis_int h) (.inl hp)
theorem op_adds {a b : Str} (h : K (.str (a ++ b)) σ) (hz : a.length + b.length ≤ sizeLine) : Op2 w C A (binaryOp .Add) (.str a) (.str b) m σ K := fun s u₁ u₂ r x y => by
  obtain ⟨t, rfl⟩ := x.str_inv; obtain ⟨t', rfl⟩ := y.str_inv; exact add_str (fun t' tk => .here r vis_str h) hz
theorem op_le {a b : Int} (h : K (.bool (decide (a ≤ b))) σ) : Op2 w C A (compareOp .LtE) (.int a) (.int b) m σ K := fun s u₁ u₂ r x y => by
  obtain ⟨t, rfl⟩ := x.int_inv; obtain ⟨t', rfl⟩ := y.int_inv; exact le_int (.now r vis_bool h)
theorem op_gt {a b : Int} (h : K (.bool (decide (b < a))) σ) : Op2 w C A (compareOp .Gt) (.int a) (.int b) m σ K := fun s u₁ u₂ r x y => by
  obtain ⟨t, rfl⟩ := x.int_inv; obtain ⟨t', rfl⟩ := y.int_inv; exact gt_int (.now r vis_bool h)
theorem op_eqi {a b : Int} (h : K (.bool (a == b)) σ) : Op2 w C A (compareOp .Eq) (.int a) (.int b) m σ K := fun s u₁ u₂ r x y => by
  obtain ⟨t, rfl⟩ := x.int_inv; obtain ⟨t', rfl⟩ := y.int_inv; exact eq_int (.now r vis_bool h)
theorem op_eqs {a b : Str} (h : K (.bool (a == b)) σ) : Op2 w C A (compareOp .Eq) (.str a) (.str b) m σ K := fun s u₁ u₂ r x y => by
  obtain ⟨t, rfl⟩ := x.str_inv; obtain ⟨t', rfl⟩ := y.str_inv; exact PyProof.Rows.eq_str (.now r vis_bool h)
theorem op_neb {a b : Bool} (h : K (.bool (a != b)) σ) : Op2 w C A (compareOp .NotEq) (.bool a) (.bool b) m σ K := fun s u₁ u₂ r x y => by
  rw [x.bool_inv, y.bool_inv]; exact ne_bool (.now r vis_bool h)
theorem op_eqis {a : Int} {b : Str} (h : K (.bool false) σ) : Op2 w C A (compareOp .Eq) (.int a) (.str b) m σ K := fun s u₁ u₂ r x y => by
  obtain ⟨t, rfl⟩ := x.int_inv; obtain ⟨t', rfl⟩ := y.str_inv; exact EqMixed.eq_int_str (.now r vis_bool h)

/-! tests -/
theorem tr_val {e : PySem.Expr} {env : Env} {whole : Sem Value} {K : Bool → Store → Prop} (h : Ev w C A whole m σ (fun v σ₁ => Op1 w C A RB truthy v m σ₁ K))
    (he : isTrue e env whole = (do let v ← whole; standAt e.pos; holding [v] (truthy v))) : Tr w C A (isTrue e env whole) m σ K := fun s r =>
  wpAny_isTrue_value (h.use r fun u₁ s₁ v₁ σ₁ t₁ x₁ r₁ k₁ => post_up (k₁ s₁ u₁ r₁ x₁) t₁) he
theorem op_true {b : Bool} {K : Bool → Store → Prop} (h : K b σ) : Op1 w C A RB truthy (.bool b) m σ K := fun s u r x => by
  rw [x.bool_inv]; exact wpAny_truthy_bool (.now r rfl h)
theorem tr_not {x : PySem.Expr} {pos : Pos} {env : Env} {whole : Sem Value} {K : Bool → Store → Prop} (h : Tr w C A (isTrue x env (eval x env)) m σ (fun b σ₁ => K (!b) σ₁)) :
    Tr w C A (isTrue (.UnaryOp .Not x pos) env whole) m σ K := fun s r =>
  wpAny_isTrue_Not (h.use r fun u₁ s₁ v₁ σ₁ t₁ x₁ r₁ k₁ => ⟨t₁, !v₁, σ₁, by rw [show u₁ = v₁ from x₁]; rfl, r₁, k₁⟩)
theorem tr_bool {op : BoolOp} {values : List PySem.Expr} {pos : Pos} {env : Env} {whole : Sem Value} {K : Bool → Store → Prop} (h : Tr w C A (allTrue op values env) m σ K) :
    Tr w C A (isTrue (.BoolOp op values pos) env whole) m σ K := fun s r => wpAny_isTrue_BoolOp (h s r)
theorem tr_and_nil {env : Env} {K : Bool → Store → Prop} (h : K true σ) : Tr w C A (allTrue .And [] env) m σ K := fun s r => wpAny_allTrue_And_nil (.now r rfl h)
theorem tr_or_nil {env : Env} {K : Bool → Store → Prop} (h : K false σ) : Tr w C A (allTrue .Or [] env) m σ K := fun s r => wpAny_allTrue_Or_nil (.now r rfl h)
theorem tr_and {x : PySem.Expr} {rest : List PySem.Expr} {env : Env} {K : Bool → Store → Prop}
    (h : Tr w C A (isTrue x env (eval x env)) m σ (fun b σ₁ => (b = true → Tr w C A (allTrue .And rest env) m σ₁ K) ∧ (b = false → K false σ₁))) : Tr w C A (allTrue .And (x :: rest) env) m σ K := fun s r =>
  wpAny_allTrue_And_cons (h.use r fun u₁ s₁ v₁ σ₁ t₁ x₁ r₁ k₁ => by
    cases (show u₁ = v₁ from x₁)
    cases u₁ with
    | true => exact post_up (k₁.1 rfl s₁ r₁) t₁
    | false => exact ⟨t₁, false, σ₁, rfl, r₁, k₁.2 rfl⟩)
theorem tr_or {x : PySem.Expr} {rest : List PySem.Expr} {env : Env} {K : Bool → Store → Prop}
    (h : Tr w C A (isTrue x env (eval x env)) m σ (fun b σ₁ => (b = true → K true σ₁) ∧ (b = false → Tr w C A (allTrue .Or rest env) m σ₁ K))) : Tr w C A (allTrue .Or (x :: rest) env) m σ K := fun s r =>
  wpAny_allTrue_Or_cons (h.use r fun u₁ s₁ v₁ σ₁ t₁ x₁ r₁ k₁ => by
    cases (show u₁ = v₁ from x₁)
    cases u₁ with
    | false => exact post_up (k₁.2 rfl s₁ r₁) t₁
    | true => exact ⟨t₁, true, σ₁, rfl, r₁, k₁.1 rfl⟩)
theorem ev_if {test body orelse : PySem.Expr} {pos : Pos} {env : Env}
    (h : Tr w C A (isTrue test env (eval test env)) m σ (fun b σ₁ => (b = true → Ev w C A (eval body env) m σ₁ K) ∧ (b = false → Ev w C A (eval orelse env) m σ₁ K))) :
    Ev w C A (eval (.IfExp test body orelse pos) env) m σ K := fun s r =>
  wpAny_IfExp (h.use r fun u₁ s₁ v₁ σ₁ t₁ x₁ r₁ k₁ => by
    cases (show u₁ = v₁ from x₁)
    cases u₁ with
    | true => exact post_up (k₁.1 rfl s₁ r₁) t₁
    | false => exact post_up (k₁.2 rfl s₁ r₁) t₁)
/-- «a and b», «a or b» as values: both bools -/
theorem ev_and {x y : PySem.Expr} {pos : Pos} {env : Env} (h : Ev w C A (eval x env) m σ (fun v σ₁ => ∃ b, v = .bool b ∧ (b = true → Ev w C A (eval y env) m σ₁ K) ∧ (b = false → K (.bool false) σ₁))) :
    Ev w C A (eval (.BoolOp .And [x, y] pos) env) m σ K := fun s r =>
  wpAny_And2 (h.use r fun u₁ s₁ v₁ σ₁ t₁ x₁ r₁ ⟨b, e, k₁, k₂⟩ => by
    subst e; rw [x₁.bool_inv]; refine wpAny_truthy_bool ?_
    cases b with
    | true => exact post_up (k₁ rfl s₁ r₁) t₁
    | false => exact ⟨t₁, _, σ₁, vis_bool, r₁, k₂ rfl⟩)
theorem ev_or {x y : PySem.Expr} {pos : Pos} {env : Env} (h : Ev w C A (eval x env) m σ (fun v σ₁ => ∃ b, v = .bool b ∧ (b = true → K (.bool true) σ₁) ∧ (b = false → Ev w C A (eval y env) m σ₁ K))) :
    Ev w C A (eval (.BoolOp .Or [x, y] pos) env) m σ K := fun s r =>
  wpAny_Or2 (h.use r fun u₁ s₁ v₁ σ₁ t₁ x₁ r₁ ⟨b, e, k₁, k₂⟩ => by
    subst e; rw [x₁.bool_inv]; refine wpAny_truthy_bool ?_
    cases b with
    | true => exact ⟨t₁, _, σ₁, vis_bool, r₁, k₁ rfl⟩
    | false => exact post_up (k₂ rfl s₁ r₁) t₁)
end
mutual
noncomputable def V.beq : V → V → Bool
  | .none, .none => true
  | .bool a, .bool b => a == b
  | .int a, .int b => a == b
  | .str a, .str b => a == b
  | .tup a, .tup b => V.beqL a b
  | .ref a, .ref b => Nat.beq a b
  | .raw a, .raw b => a == b
  | _, _ => false
noncomputable def V.beqL : List V → List V → Bool
  | [], [] => true
  | x :: l, y :: r => V.beq x y && V.beqL l r
  | _, _ => false
end
theorem vb_bool {a b : Bool} : V.beq (.bool a) (.bool b) = (a == b) := rfl
theorem vb_int {a b : Int} : V.beq (.int a) (.int b) = (a == b) := rfl
theorem vb_str {a b : Str} : V.beq (.str a) (.str b) = (a == b) := rfl
theorem vb_tup {a b : List V} : V.beq (.tup a) (.tup b) = V.beqL a b := rfl
theorem vbL_nil : V.beqL [] [] = true := rfl
theorem vbL_cons {x y : V} {l r : List V} : V.beqL (x :: l) (y :: r) = (V.beq x y && V.beqL l r) := rfl
mutual
theorem V.beq_eq : ∀ {a b : V}, V.beq a b = true → a = b
  | .none, b, h => by cases b <;> first | rfl | exact absurd (show false = true from h) Bool.false_ne_true
  | .bool _, b, h => by cases b <;> first | exact congrArg V.bool (eq_of_beq h) | exact absurd (show false = true from h) Bool.false_ne_true
  | .int _, b, h => by cases b <;> first | exact congrArg V.int (eq_of_beq h) | exact absurd (show false = true from h) Bool.false_ne_true
  | .str _, b, h => by cases b <;> first | exact congrArg V.str (eq_of_beq h) | exact absurd (show false = true from h) Bool.false_ne_true
  | .tup l, b, h => by
    cases b with
    | tup r => exact congrArg V.tup (V.beqL_eq h)
    | _ => exact absurd (show false = true from h) Bool.false_ne_true
  | .ref _, b, h => by cases b <;> first | exact congrArg V.ref (Nat.eq_of_beq_eq_true h) | exact absurd (show false = true from h) Bool.false_ne_true
  | .raw _, b, h => by cases b <;> first | exact congrArg V.raw (eq_of_beq h) | exact absurd (show false = true from h) Bool.false_ne_true
theorem V.beqL_eq : ∀ {a b : List V}, V.beqL a b = true → a = b
  | [], b, h => by cases b <;> first | rfl | exact absurd (show false = true from h) Bool.false_ne_true
  | x :: l, b, h => by
    cases b with
    | nil => exact absurd (show false = true from h) Bool.false_ne_true
    | cons y r =>
      have h' := Bool.and_eq_true_iff.mp (show (V.beq x y && V.beqL l r) = true from h)
      rw [V.beq_eq h'.1, V.beqL_eq h'.2]
end
mutual
theorem V.beq_self : ∀ a : V, V.beq a a = true
  | .none => rfl
  | .bool a => show (a == a) = true from beq_self_eq_true a
  | .int a => show (a == a) = true from beq_self_eq_true a
  | .str a => show (a == a) = true from beq_self_eq_true a
  | .tup l => V.beqL_self l
  | .ref a => Nat.beq_refl a
  | .raw a => show (a == a) = true from beq_self_eq_true a
theorem V.beqL_self : ∀ a : List V, V.beqL a a = true
  | [] => rfl
  | x :: l => Bool.and_eq_true_iff.mpr ⟨V.beq_self x, V.beqL_self l⟩
end
theorem V.beq_iff {a b : V} : V.beq a b = true ↔ a = b := ⟨V.beq_eq, fun e => e ▸ V.beq_self a⟩
theorem V.beq_false {a b : V} : V.beq a b = false ↔ a ≠ b := by
  rw [← Bool.not_eq_true, V.beq_iff]
section
variable {w : World} {A : Around} {E : Value → Shared → Prop} {s : Shared}

theorem typeIs_tup {h : Heap} {l : List V} {u : Value} (x : VIs h (.tup l) u) (s : Shared) (e : s.heap = h) : s.TypeIs u "tuple" := by
  obtain ⟨a, n, vs, rfl, g, _⟩ := x.tup_inv
  exact ⟨_, by rw [e]; exact g, rfl⟩

theorem pyHash_bool {b : Bool} {Q : Int → Shared → Prop} (h : Q (hashB b) { s with toks := s.toks + 1 }) : wpAny (model P w) A (pyHash (.bool b)) Q E s := by
  unfold pyHash
  have hv : [Value.bool b].any Value.onHeap = false := rfl
  refine wpAny_bind ?_
  rw [cRoomFor, if_neg (by rw [hv]; exact Bool.false_ne_true)]; refine wpAny_pure ?_
  refine wpAny_bind (wpAny_specialOf (PySem.typeIs_bool s b) F.slot_bool_hash.lookup ?_)
  show wpAny _ _ (if (some (Value.builtin "int.__hash__") == some Value.none) = true then _ else _) Q E s
  rw [if_neg (by rw [beq_builtin_none]; exact Bool.false_ne_true)]
  refine wpAny_bind (wpAny_specialOf (PySem.typeIs_bool s b) F.slot_bool_hash.lookup ?_)
  show wpAny _ _ (callSpecialIfBoundUnlessNone? (.bool b) "__hash__" _ >>= _) Q E s
  refine wpAny_bind (wpAny_callSpecialIfBoundUnlessNone?_slot (PySem.typeIs_bool s b) F.slot_bool_hash
    (wpAny_call_entry F.slot_bool_hash (PySem.typeIs_bool s b) F.entry_int_hash
      (show wpAny _ _ (do ret (← mkInt (rawHash (if b then 1 else 0)))) _ _ s from wpAny_ret_mkInt ?_) (F.args_int_hash_1 _)))
  cases b <;> exact wpAny_pure h

theorem eqBool_bool {a b : Bool} {Q : Bool → Shared → Prop} (h : Q (a == b) s) : wpAny (model P w) A (eqBool (.bool a) (.bool b)) Q E s := by
  unfold eqBool
  show wpAny _ _ (if (Value.bool a == Value.bool b) = true then _ else _) Q E s
  by_cases hab : (Value.bool a == Value.bool b) = true
  · rw [if_pos hab]
    have e : a = b := by have := eq_of_beq hab; injection this
    subst e
    exact wpAny_bind (wpAny_rule (wpAny_pure (by simpa using h)))
  · rw [if_neg hab]
    exact wpAny_bind (cmpEq_bool (wpAny_truthy_bool h))
where
  cmpEq_bool {a b : Bool} {Q : Value → Shared → Prop} {s : Shared} (h : Q (.bool (a == b)) s) : wpAny (model P w) A (richCompare .Eq (.bool a) (.bool b)) Q E s := (eq_bool h : wpAny (model P w) A (compareOp .Eq (.bool a) (.bool b)) Q E s)
end

/-! hashes -/
mutual
noncomputable def drawsV : V → Nat
  | .tup l => drawsL l + 1
  | _ => 1
noncomputable def drawsL : List V → Nat
  | [] => 0
  | x :: l => drawsV x + drawsL l
end

section
variable {w : World} {A : Around} {E : Value → Shared → Prop}
theorem hasL_nil {vs : List V} (x : V.hasAll [] vs) : vs = [] := by simpa only [V.hasAll] using x
theorem hasL_cons {sh : Sh} {l : List Sh} {vs : List V} (x : V.hasAll (sh :: l) vs) : ∃ v r, vs = v :: r ∧ V.has sh v ∧ V.hasAll l r := by simpa only [V.hasAll] using x
theorem has_tup {l : List Sh} {v : V} (x : V.has (.tup l) v) : ∃ vs, v = .tup vs ∧ V.hasAll l vs := by simpa only [V.has] using x
theorem has_bool {v : V} (x : V.has .bool v) : ∃ b, v = .bool b := by simpa only [V.has] using x
theorem has_int {v : V} (x : V.has .int v) : ∃ i, v = .int i := by simpa only [V.has] using x
theorem has_str {v : V} (x : V.has .str v) : ∃ i, v = .str i ∧ PyData.strOk i = true := by simpa only [V.has] using x
theorem has_tup_of {l : List Sh} {vs : List V} (x : V.hasAll l vs) : V.has (.tup l) (.tup vs) := by simp only [V.has]; exact ⟨vs, rfl, x⟩
theorem hasL_of {sh : Sh} {l : List Sh} {v : V} {vs : List V} (x : V.has sh v) (y : V.hasAll l vs) : V.hasAll (sh :: l) (v :: vs) := by simp only [V.hasAll]; exact ⟨v, vs, rfl, x, y⟩
theorem hasL_nil_of : V.hasAll [] [] := by simp only [V.hasAll]
theorem has_bool_of {b : Bool} : V.has .bool (.bool b) := by simp only [V.has]; exact ⟨b, rfl⟩
theorem has_int_of {b : Int} : V.has .int (.int b) := by simp only [V.has]; exact ⟨b, rfl⟩
theorem has_str_of {b : Str} (h : PyData.strOk b = true) : V.has .str (.str b) := by simp only [V.has]; exact ⟨b, rfl, h⟩

mutual
noncomputable def deepS : Sh → Nat
  | .tup l => deepL l + 1
  | _ => 0
noncomputable def deepL : List Sh → Nat
  | [] => 0
  | x :: l => max (deepS x) (deepL l)
end

noncomputable def hashBody (x : Value) (b : Array Int) : Sem (ForInStep (Array Int)) := do
  let h ← pyHash x
  pure (.yield (b.push h))

mutual
theorem pyHash_V : ∀ (sh : Sh) {A : Around} {E : Value → Shared → Prop} {s : Shared} {Q : Int → Shared → Prop} (v : V) (u : Value), A.units + deepS sh < cLine → V.has sh v → VIs s.heap v u → Q (hashV w v) { s with toks := s.toks + drawsV v } → wpAny (model P w) A (pyHash u) Q E s
  | .bool, A, E, s, Q, v, u, hu, hh, x, q => by obtain ⟨b, rfl⟩ := has_bool hh; rw [x.bool_inv]; exact pyHash_bool (by simpa [hashV, drawsV] using q)
  | .int, A, E, s, Q, v, u, hu, hh, x, q => by obtain ⟨b, rfl⟩ := has_int hh; obtain ⟨t, rfl⟩ := x.int_inv; exact wpAny_pyHash_int (by simpa [hashV, drawsV] using q)
  | .str, A, E, s, Q, v, u, hu, hh, x, q => by obtain ⟨b, rfl, _⟩ := has_str hh; obtain ⟨t, rfl⟩ := x.str_inv; exact wpAny_pyHash_str (by simpa [hashV, drawsV] using q)
  | .tup l, A, E, s, Q, v, u, hu, hh, x, q => by
    obtain ⟨vs, rfl, hl⟩ := has_tup hh
    have hT := typeIs_tup x s rfl
    obtain ⟨a, n, us, rfl, g, y⟩ := x.tup_inv
    have hu' : A.units < cLine := by omega
    unfold pyHash
    first | unfold pyHashByItsType | skip
    first | refine wpAny_bind (wpAny_cRoomFor_or (.inr hu') ?_) | skip
    refine wpAny_bind (wpAny_specialOf hT F.slot_tuple_hash.lookup ?_)
    show wpAny _ _ (if (some (Value.builtin "tuple.__hash__") == some Value.none) = true then _ else _) Q E s
    rw [if_neg (by rw [beq_builtin_none]; exact Bool.false_ne_true)]
    refine wpAny_bind (wpAny_specialOf hT F.slot_tuple_hash.lookup ?_)
    show wpAny _ _ (callSpecialIfBoundUnlessNone? (.ref a) "__hash__" _ >>= _) Q E s
    refine wpAny_bind (wpAny_callSpecialIfBoundUnlessNone?_slot hT F.slot_tuple_hash (wpAny_call_entry F.slot_tuple_hash hT F.entry_tuple_hash ?_ (F.args_tuple_hash_1 _)))
    show wpAny _ _ (Builtin.Tuple.tupleItemsOf (.ref a) >>= _) _ _ s
    refine wpAny_bind (wpAny_tupleItemsOf g rfl ?_)
    refine wpAny_bind ?_
    rw [← Array.forIn_toList]
    refine hash_L l vs us.toList #[] (by simp only [Around.in1, deepS] at hu ⊢; omega) hl y ?_
    rw [show ((#[] : Array Int) ++ (hashL w vs).toArray) = (hashL w vs).toArray by simp]
    show wpAny _ _ (retInt (Builtin.Tuple.tupleHashOf (hashL w vs).toArray.toList)) _ _ _
    refine wpAny_ret_mkInt ?_
    show wpAny _ _ (if (decide (-(2 : Int) ^ 63 ≤ Builtin.Tuple.tupleHashOf (hashL w vs)) && decide (Builtin.Tuple.tupleHashOf (hashL w vs) < 2 ^ 63)) = true then _ else _) Q E _
    simp only [hashV] at q
    unfold reduceHash at q
    by_cases hr : (decide (-(2 : Int) ^ 63 ≤ Builtin.Tuple.tupleHashOf (hashL w vs)) && decide (Builtin.Tuple.tupleHashOf (hashL w vs) < 2 ^ 63)) = true
    · rw [if_pos hr]
      rw [if_pos hr] at q
      exact wpAny_pure (by simpa [drawsV, Nat.add_assoc] using q)
    · rw [if_neg hr]
      rw [if_neg hr] at q
      exact wpAny_bind (wpAny_rule (wpAny_pure (by simpa [drawsV, Nat.add_assoc] using q)))
theorem hash_L : ∀ (l : List Sh) {A : Around} {E : Value → Shared → Prop} {s : Shared} {Q : Array Int → Shared → Prop} (vs : List V) (us : List Value) (acc : Array Int), A.units + deepL l < cLine → V.hasAll l vs → VAll s.heap vs us →
    Q (acc ++ (hashL w vs).toArray) { s with toks := s.toks + drawsL vs } → wpAny (model P w) A (forIn us acc hashBody) Q E s
  | [], A, E, s, Q, vs, us, acc, hu, hh, y, q => by
    cases hasL_nil hh
    rw [y.nil_inv, List.forIn_nil]
    exact wpAny_pure (by simpa [hashL, drawsL] using q)
  | sh :: l, A, E, s, Q, vs, us, acc, hu, hh, y, q => by
    obtain ⟨v, r, rfl, h1, h2⟩ := hasL_cons hh
    obtain ⟨u, ur, rfl, x, z⟩ := y.cons_inv
    simp only [deepL] at hu
    rw [List.forIn_cons]
    refine wpAny_bind ?_
    unfold hashBody
    refine wpAny_bind (pyHash_V sh v u (by omega) h1 x (wpAny_pure ?_))
    refine hash_L l r ur _ (by omega) h2 z ?_
    have e : (acc.push (hashV w v)) ++ (hashL w r).toArray = acc ++ (hashL w (v :: r)).toArray := by simp [hashL]
    rw [e]
    simpa [drawsL, Nat.add_assoc] using q
end

/-! data without names, as the library's trees -/
mutual
noncomputable def V.py : V → PyData
  | .none => .none
  | .bool b => .bool b
  | .int i => .int i
  | .str s => .str s
  | .tup l => .tuple (V.pyL l)
  | .ref _ => .none
  | .raw _ => .none
noncomputable def V.pyL : List V → List PyData
  | [] => []
  | x :: l => V.py x :: V.pyL l
end
mutual
noncomputable def V.pure : V → Bool
  | .none => true
  | .bool _ => true
  | .int _ => true
  | .str s => PyData.strOk s
  | .tup l => V.pureL l
  | .ref _ => false
  | .raw _ => false
noncomputable def V.pureL : List V → Bool
  | [] => true
  | x :: l => V.pure x && V.pureL l
end
mutual
theorem reads_V {h : Heap} : ∀ {v : V} {u : Value}, V.pure v = true → VIs h v u → ∃ as, Reads h u (V.py v) as
  | .none, u, p, x => by rw [x.none_inv]; exact ⟨_, .none⟩
  | .bool b, u, p, x => by rw [x.bool_inv]; exact ⟨_, .bool b⟩
  | .int i, u, p, x => by obtain ⟨t, rfl⟩ := x.int_inv; exact ⟨_, .int i t⟩
  | .str i, u, p, x => by obtain ⟨t, rfl⟩ := x.str_inv; exact ⟨_, .str i t⟩
  | .tup l, u, p, x => by
    obtain ⟨a, n, vs, rfl, g, y⟩ := x.tup_inv
    rw [V.pure] at p
    obtain ⟨as, r⟩ := reads_L p y
    exact ⟨as, .tuple g rfl rfl r⟩
  | .ref _, u, p, x => by simp [V.pure] at p
  | .raw _, u, p, x => by simp [V.pure] at p
theorem reads_L {h : Heap} : ∀ {l : List V} {us : List Value}, V.pureL l = true → VAll h l us → ∃ as, ReadsAll h us (V.pyL l) as
  | [], us, p, x => by rw [x.nil_inv]; exact ⟨_, .nil⟩
  | v :: l, us, p, x => by
    obtain ⟨u, r, rfl, y, z⟩ := x.cons_inv
    rw [V.pureL, Bool.and_eq_true] at p
    obtain ⟨as, a⟩ := reads_V p.1 y
    obtain ⟨bs, b⟩ := reads_L p.2 z
    exact ⟨_, .cons a b⟩
end
mutual
theorem lay_V : ∀ {v : V}, V.pure v = true → (V.py v).canLay0 = true
  | .none, p => rfl
  | .bool b, p => rfl
  | .int i, p => rfl
  | .str i, p => by rw [V.pure] at p; rw [V.py, PyData.canLay0]; exact p
  | .tup l, p => by rw [V.pure] at p; rw [V.py, PyData.canLay0]; exact lay_L p
  | .ref _, p => by simp [V.pure] at p
  | .raw _, p => by simp [V.pure] at p
theorem lay_L : ∀ {l : List V}, V.pureL l = true → PyData.canLayAll0 (V.pyL l) = true
  | [], p => rfl
  | v :: l, p => by
    rw [V.pureL, Bool.and_eq_true] at p
    rw [V.pyL, PyData.canLayAll0, lay_V p.1, lay_L p.2]; rfl
end
noncomputable def V.eqv (a b : V) : Bool := PyData.eqv (V.py a) (V.py b)
mutual
theorem eqv_has : ∀ (sh : Sh) {a b : V}, V.has sh a → V.has sh b → V.eqv a b = V.beq a b
  | .bool, a, b, x, y => by obtain ⟨_, rfl⟩ := has_bool x; obtain ⟨_, rfl⟩ := has_bool y; simp [V.eqv, V.py, PyData.eqv, vb_bool, vb_int, vb_str]
  | .int, a, b, x, y => by obtain ⟨_, rfl⟩ := has_int x; obtain ⟨_, rfl⟩ := has_int y; simp [V.eqv, V.py, PyData.eqv, vb_bool, vb_int, vb_str]
  | .str, a, b, x, y => by obtain ⟨_, rfl, _⟩ := has_str x; obtain ⟨_, rfl, _⟩ := has_str y; simp [V.eqv, V.py, PyData.eqv, vb_bool, vb_int, vb_str]
  | .tup l, a, b, x, y => by
    obtain ⟨_, rfl, p⟩ := has_tup x; obtain ⟨_, rfl, q⟩ := has_tup y
    rw [V.eqv, V.py, V.py, PyData.eqv, vb_tup]; exact eqv_hasL l p q
theorem eqv_hasL : ∀ (l : List Sh) {a b : List V}, V.hasAll l a → V.hasAll l b → PyData.eqvAll (V.pyL a) (V.pyL b) = V.beqL a b
  | [], a, b, x, y => by cases hasL_nil x; cases hasL_nil y; rfl
  | sh :: l, a, b, x, y => by
    obtain ⟨u, r, rfl, p1, p2⟩ := hasL_cons x; obtain ⟨v, t, rfl, q1, q2⟩ := hasL_cons y
    rw [V.pyL, V.pyL, PyData.eqvAll, vbL_cons, eqv_hasL l p2 q2, ← eqv_has sh p1 q1]; rfl
end
mutual
theorem pure_has : ∀ (sh : Sh) {a : V}, V.has sh a → V.pure a = true
  | .bool, a, x => by obtain ⟨_, rfl⟩ := has_bool x; rfl
  | .int, a, x => by obtain ⟨_, rfl⟩ := has_int x; rfl
  | .str, a, x => by obtain ⟨_, rfl, h⟩ := has_str x; rw [V.pure]; exact h
  | .tup l, a, x => by obtain ⟨_, rfl, p⟩ := has_tup x; rw [V.pure]; exact pure_hasL l p
theorem pure_hasL : ∀ (l : List Sh) {a : List V}, V.hasAll l a → V.pureL a = true
  | [], a, x => by cases hasL_nil x; rfl
  | sh :: l, a, x => by
    obtain ⟨u, r, rfl, p1, p2⟩ := hasL_cons x
    rw [V.pureL, pure_has sh p1, pure_hasL l p2]; rfl
end
mutual
theorem depth_has : ∀ (sh : Sh) {a : V}, V.has sh a → (V.py a).depth = deepS sh
  | .bool, a, x => by obtain ⟨_, rfl⟩ := has_bool x; simp [V.py, PyData.depth, deepS]
  | .int, a, x => by obtain ⟨_, rfl⟩ := has_int x; simp [V.py, PyData.depth, deepS]
  | .str, a, x => by obtain ⟨_, rfl, h⟩ := has_str x; simp [V.py, PyData.depth, deepS]
  | .tup l, a, x => by obtain ⟨_, rfl, p⟩ := has_tup x; rw [V.py, PyData.depth, deepS, depth_hasL l p]
theorem depth_hasL : ∀ (l : List Sh) {a : List V}, V.hasAll l a → PyData.depthAll (V.pyL a) = deepL l
  | [], a, x => by cases hasL_nil x; rfl
  | sh :: l, a, x => by
    obtain ⟨u, r, rfl, p1, p2⟩ := hasL_cons x
    rw [V.pyL, PyData.depthAll, deepL, depth_has sh p1, depth_hasL l p2]
end
theorem eqBool_V {s : Shared} {Q : Bool → Shared → Prop} {a b : V} {u u' : Value} (sh : Sh) (hu : A.units + deepS sh < cLine) (ha : V.has sh a) (hb : V.has sh b) (x : VIs s.heap a u) (y : VIs s.heap b u') (q : Q (V.beq a b) s) :
    wpAny (model P w) A (eqBool u u') Q E s := by
  obtain ⟨as, r⟩ := reads_V (pure_has sh ha) x
  obtain ⟨bs, r'⟩ := reads_V (pure_has sh hb) y
  refine SeqAt.eqAt_reads _ _ A s u u' _ _ r r' (lay_V (pure_has sh ha)) (lay_V (pure_has sh hb)) ?_ _ _ _ _ ?_
  · rw [depth_has sh ha, depth_has sh hb]; omega
  · rw [show PyData.eqv (V.py a) (V.py b) = V.beq a b from eqv_has sh ha hb]; exact q

/-! no comparison of shaped data is heard of -/
mutual
theorem quiet_V {s : Shared} {Q : Bool → Shared → Prop} : ∀ (sh : Sh) (n : Nat) {v : V} {u : Value}, deepS sh ≤ n → V.has sh v → VIs s.heap v u → Q true s → wpAny (model P w) A (eqIsQuiet n u) Q E s
  | .bool, n, v, u, hn, hh, x, q => by obtain ⟨b, rfl⟩ := has_bool hh; rw [x.bool_inv, eqIsQuiet_byValue _ rfl]; exact wpAny_pure q
  | .int, n, v, u, hn, hh, x, q => by obtain ⟨b, rfl⟩ := has_int hh; obtain ⟨t, rfl⟩ := x.int_inv; rw [eqIsQuiet_byValue _ rfl]; exact wpAny_pure q
  | .str, n, v, u, hn, hh, x, q => by obtain ⟨b, rfl, _⟩ := has_str hh; obtain ⟨t, rfl⟩ := x.str_inv; rw [eqIsQuiet_byValue _ rfl]; exact wpAny_pure q
  | .tup l, n, v, u, hn, hh, x, q => by
    obtain ⟨vs, rfl, hl⟩ := has_tup hh
    have hT := typeIs_tup x s rfl
    obtain ⟨a, k, us, rfl, g, y⟩ := x.tup_inv
    simp only [deepS] at hn
    obtain ⟨n, rfl⟩ : ∃ k, n = k + 1 := ⟨n - 1, by omega⟩
    unfold eqIsQuiet
    refine wpAny_bind (wpAny_specialOf hT F.slot_tuple_eq.lookup ?_)
    show wpAny _ _ (isInstance (.ref a) (.type "tuple") >>= _) _ _ s
    refine wpAny_bind (wpAny_isInstance hT isSubtype_tuple_tuple ?_)
    simp only [Bool.not_true, Bool.false_eq_true, if_false]
    refine wpAny_bind (wpAny_seqItems g rfl ?_)
    refine wpAny_bind ?_
    show wpAny _ _ (forIn us _ _) _ _ s
    rw [← Array.forIn_toList]
    refine wpAny_forIn_list _ (fun rest r s' => r.1 = none ∧ s' = s ∧ ∀ u ∈ rest, ∀ Q : Bool → Shared → Prop, Q true s → wpAny (model P w) A (eqIsQuiet n u) Q E s) _ ?_ ?_ _ _ ⟨rfl, rfl, quiet_L l n (by omega) hl y⟩
    · rintro u rest ⟨r1, r2⟩ s' ⟨hr, rfl, hq⟩
      simp only at hr
      subst hr
      refine wpAny_bind (hq u List.mem_cons_self _ ?_)
      simp only [Bool.not_true, Bool.false_eq_true, if_false]
      exact wpAny_pure ⟨rfl, rfl, fun v hv => hq v (List.mem_cons_of_mem _ hv)⟩
    · rintro ⟨r1, r2⟩ s' ⟨hr, rfl, _⟩
      simp only at hr
      subst hr
      exact wpAny_pure q
theorem quiet_L {s : Shared} : ∀ (l : List Sh) (n : Nat) {vs : List V} {us : List Value}, deepL l ≤ n → V.hasAll l vs → VAll s.heap vs us → ∀ u ∈ us, ∀ Q : Bool → Shared → Prop, Q true s → wpAny (model P w) A (eqIsQuiet n u) Q E s
  | [], n, vs, us, hn, hl, y, u, hu, Q, q => by cases hasL_nil hl; rw [y.nil_inv] at hu; cases hu
  | sh :: l, n, vs, us, hn, hl, y, u, hu, Q, q => by
    obtain ⟨v, r, rfl, h1, h2⟩ := hasL_cons hl
    obtain ⟨u', ur, rfl, x, z⟩ := y.cons_inv
    simp only [deepL] at hn
    rcases List.mem_cons.mp hu with rfl | hu
    · exact quiet_V sh n (by omega) h1 x q
    · exact quiet_L l n (by omega) h2 z u hu Q q
end
end
noncomputable def alook (l : List (V × V)) (k : V) : Option V := (l.find? fun x => V.beq x.1 k).map (·.2)
noncomputable def aput (l : List (V × V)) (k v : V) : List (V × V) := if (alook l k).isSome then l.map (fun x => if V.beq x.1 k then (x.1, v) else x) else l ++ [(k, v)]
noncomputable def fidx (l : List (V × V)) (k : V) : Option Nat := l.findIdx? fun x => V.beq x.1 k

theorem beq_bool_inv {b : Bool} {v : Value} (h : (v == .bool b) = true) : v = .bool b := eq_of_beq h
noncomputable def boolKind (w : World) : KeyKind P w Bool where
  is := fun b v => v == .bool b
  hash := hashB
  inj := fun v a b ha hb => by have ha := beq_bool_inv ha; have hb := beq_bool_inv hb; subst ha; injection hb
  byValue := fun k v h => by have h := beq_bool_inv h; subst h; rfl
  pyHash := fun {A E s k v Q} hv h => by have hv := beq_bool_inv hv; subst hv; exact pyHash_bool h
  eqBool := fun {A E s a b u v Q} hu hv h => by
    have hu := beq_bool_inv hu; subst hu; have hv := beq_bool_inv hv; subst hv
    refine eqBool_bool ?_
    rw [show (a == b) = decide (a = b) from by cases a <;> cases b <;> rfl]; exact h
  «strs» := fun k x t v h => by have h := beq_bool_inv h; cases h

theorem fidx_alook {l : List (V × V)} {k : V} : (alook l k).isSome = (fidx l k).isSome := by
  unfold alook fidx
  induction l with
  | nil => rfl
  | cons x l ih => rw [List.find?_cons, List.findIdx?_cons]; cases h : V.beq x.1 k <;> simp_all
theorem fidx_some {l : List (V × V)} {k : V} {i : Nat} (h : fidx l k = some i) : ∃ v, l[i]? = some (k, v) ∧ alook l k = some v := by
  unfold alook fidx at *
  induction l generalizing i with
  | nil => cases h
  | cons x l ih =>
    rw [List.findIdx?_cons] at h
    cases hx : V.beq x.1 k with
    | true =>
      rw [hx] at h; simp only [if_true, Option.some.injEq] at h; subst h
      have := V.beq_eq hx; subst this
      exact ⟨x.2, rfl, by rw [List.find?_cons, V.beq_self]; rfl⟩
    | false =>
      rw [hx] at h; simp only [Bool.false_eq_true, if_false, Option.map_eq_some_iff] at h
      obtain ⟨j, hj, rfl⟩ := h
      obtain ⟨v, a, b⟩ := ih hj
      exact ⟨v, by simpa using a, by rw [List.find?_cons, hx]; exact b⟩
theorem fidx_none {l : List (V × V)} {k : V} (h : fidx l k = none) : alook l k = none := by
  have := @fidx_alook l k
  rw [h] at this
  cases e : alook l k with
  | none => rfl
  | some v => rw [e] at this; cases this

section
variable {w : World} {A : Around} {E : Value → Shared → Prop} {s : Shared}

theorem EntsAre.get {h : Heap} : ∀ {l : List (V × V)} {es : List DictEntry} {i : Nat} {x : V × V}, EntsAre w h l es → l[i]? = some x → ∃ e, es[i]? = some e ∧ e.hash = hashV w x.1 ∧ VIs h x.1 e.key ∧ VIs h x.2 e.val
  | [], _, _, _, _, e => by simp at e
  | _ :: _, _, 0, x, ⟨e, r, a, b, c, d, y⟩, q => by simp at q; subst q; subst a; exact ⟨e, rfl, b, c, d⟩
  | _ :: _, _, i + 1, x, ⟨e, r, a, b, c, d, y⟩, q => by simp at q; subst a; simpa using y.get q
theorem EntsAre.append {h : Heap} : ∀ {l l' : List (V × V)} {es es' : List DictEntry}, EntsAre w h l es → EntsAre w h l' es' → EntsAre w h (l ++ l') (es ++ es')
  | [], _, es, _, x, y => by simp only [EntsAre] at x; subst x; exact y
  | _ :: _, _, _, _, ⟨e, r, a, b, c, d, x⟩, y => by subst a; exact ⟨e, r ++ _, rfl, b, c, d, x.append y⟩
theorem EntsAre.modify {h : Heap} {k v : V} {u : Value} (hv : VIs h v u) : ∀ {l : List (V × V)} {es : List DictEntry} {i : Nat}, EntsAre w h l es → (l.map (·.1)).Nodup → fidx l k = some i →
    EntsAre w h (l.map fun x => if V.beq x.1 k then (x.1, v) else x) (es.modify i fun e => { e with val := u })
  | [], _, _, _, _, q => by cases q
  | x :: l, _, i, ⟨e, r, a, b, c, d, y⟩, nd, q => by
    subst a
    rw [List.map_cons, List.nodup_cons] at nd
    unfold fidx at q
    rw [List.findIdx?_cons] at q
    cases hx : V.beq x.1 k with
    | true =>
      rw [hx] at q; simp only [if_true, Option.some.injEq] at q; subst q
      rw [List.map_cons, hx, if_pos rfl, List.modify_zero_cons]
      have hk := V.beq_eq hx; subst hk
      have : l.map (fun y => if V.beq y.1 x.1 then (y.1, v) else y) = l := by
        have : ∀ y ∈ l, (if V.beq y.1 x.1 then (y.1, v) else y) = y := fun y hy => by
          have : V.beq y.1 x.1 = false := V.beq_false.mpr fun e => nd.1 (e ▸ List.mem_map_of_mem hy)
          rw [this]; rfl
        rw [List.map_congr_left this, List.map_id']
      rw [this]
      exact ⟨_, r, rfl, b, c, hv, y⟩
    | false =>
      rw [hx] at q; simp only [Bool.false_eq_true, if_false, Option.map_eq_some_iff] at q
      obtain ⟨j, hj, rfl⟩ := q
      rw [List.map_cons, hx, List.modify_succ_cons]
      exact ⟨e, _, rfl, b, c, d, y.modify hv nd.2 hj⟩

theorem findIdx_of {h : Heap} {p : DictEntry → Bool} {k : V} : ∀ {l : List (V × V)} {es : List DictEntry}, EntsAre w h l es → (∀ x ∈ l, ∀ e : DictEntry, VIs h x.1 e.key → p e = V.beq x.1 k) → es.findIdx? p = fidx l k
  | [], _, x, _ => by simp only [EntsAre] at x; subst x; rfl
  | x :: l, _, ⟨e, r, a, b, c, d, y⟩, hp => by
    subst a
    unfold fidx
    rw [List.findIdx?_cons, List.findIdx?_cons, hp x List.mem_cons_self e c, findIdx_of y fun z hz => hp z (List.mem_cons_of_mem _ hz)]
    rfl
theorem EntsAre.mem {h : Heap} : ∀ {l : List (V × V)} {es : List DictEntry}, EntsAre w h l es → ∀ e ∈ es, ∃ x ∈ l, e.hash = hashV w x.1 ∧ VIs h x.1 e.key ∧ VIs h x.2 e.val
  | [], _, x, e, he => by simp only [EntsAre] at x; subst x; cases he
  | x :: l, _, ⟨e', r, a, b, c, d, y⟩, e, he => by
    subst a
    rcases List.mem_cons.mp he with rfl | he
    · exact ⟨x, List.mem_cons_self, b, c, d⟩
    · obtain ⟨z, hz, q⟩ := y.mem e he; exact ⟨z, List.mem_cons_of_mem _ hz, q⟩

/-- keys that are told by value -/
theorem find_value {K : Type} [DecidableEq K] (knd : KeyKind P w K) (enc : K → V) {sh : Sh} (henc : ∀ v, V.has sh v → ∃ k, v = enc k) (hinj : ∀ a b, enc a = enc b → a = b)
    (hhash : ∀ k, hashV w (enc k) = knd.hash k) (his : ∀ (h : Heap) k u, VIs h (enc k) u → knd.is k u = true)
    {d : Addr} {es : Array DictEntry} {n : Nat} {l : List (V × V)} {key : V} {u : Value} {Q : Option Nat → Shared → Prop}
    (ho : s.heap.get? d = some ⟨.type "dict", none, .dict es n, #[]⟩) (he : EntsAre w s.heap l es.toList) (hs : ∀ x ∈ l, V.has sh x.1) (hk : V.has sh key) (x : VIs s.heap key u) (q : Q (fidx l key) s) :
    wpAny (model P w) A (dictFind d u (hashV w key)) Q E s := by
  obtain ⟨k, rfl⟩ := henc key hk
  rw [hhash]
  refine wpAny_dictFind_of (knd := knd) (his _ _ _ x) ho rfl (fun e hm => ?_) ?_
  · obtain ⟨y, hy, h1, h2, _⟩ := he.mem e (Array.mem_toList_iff.mpr hm)
    obtain ⟨k', e'⟩ := henc _ (hs y hy)
    rw [e'] at h1 h2
    exact ⟨k', his _ _ _ h2, by rw [h1, hhash]⟩
  · rw [show (es.findIdx? fun e => knd.is k e.key) = es.toList.findIdx? (fun e => knd.is k e.key) from by obtain ⟨l⟩ := es; simp, findIdx_of (k := enc k) he fun y hy e ye => ?_]
    · exact q
    · obtain ⟨k', e'⟩ := henc _ (hs y hy)
      rw [e'] at ye ⊢
      rw [KeyKind.is_eq_decide (his _ _ _ ye) k]
      by_cases hkk : k = k'
      · subst hkk; rw [V.beq_self]; exact decide_eq_true rfl
      · rw [decide_eq_false hkk]; exact (V.beq_false.mpr fun e => hkk (hinj _ _ e).symm).symm

/-- a tuple by its data determines it -/
theorem VIs_inj {h : Heap} : ∀ (sh : Sh) {a b : V} {u : Value}, V.has sh a → V.has sh b → VIs h a u → VIs h b u → a = b := fun sh a b u ha hb x y => by
  obtain ⟨as, r⟩ := reads_V (pure_has sh ha) x
  obtain ⟨bs, r'⟩ := reads_V (pure_has sh hb) y
  have e := SeqAt.Reads.unique _ _ _ _ _ (lay_V (pure_has sh ha)) r r'
  have := SeqAt.eqv_refl _ (lay_V (pure_has sh ha))
  have q := eqv_has sh ha hb
  unfold V.eqv at q
  rw [← e, this] at q
  exact V.beq_eq q.symm

open Classical in
noncomputable def tupKind (w : World) (l : List Sh) (hd : deepL l ≤ 7) : HeapKind P w V where
  is := fun h v a => V.has (.tup l) v ∧ VIs h v (.ref a)
  hash := hashV w
  draws := drawsV
  room := fun A => A.units + 64 < cLine
  inj := fun hx hy => VIs_inj (.tup l) hx.1 hy.1 hx.2 hy.2
  keeps := fun {h h' k a d o es ep} x ho hd hs => ⟨x.1, x.2.mono (TupLe.of_sameBut ho (fun vs n e => by subst e; cases hd) hs)⟩
  pyHash := fun hu hk h => pyHash_V (.tup l) _ _ (by simp only [deepS]; omega) hk.1 hk.2 h
  eqBool := fun {A E s x y a b Q} hu hx hy h => eqBool_V (.tup l) (by simp only [deepS]; omega) hx.1 hy.1 hx.2 hy.2 (by
    rw [show V.beq x y = decide (x = y) from by by_cases q : x = y; · rw [decide_eq_true q, q, V.beq_self]
                                                · rw [decide_eq_false q, V.beq_false.mpr q]]; exact h)
  quiet := fun hk h => quiet_V (.tup l) 8 (by simp only [deepS]; omega) hk.1 hk.2 h

open Classical in
theorem ents_heap {sh : List Sh} (hd : deepL sh ≤ 7) {h : Heap} : ∀ {l : List (V × V)} {es : List DictEntry}, EntsAre w h l es → (∀ x ∈ l, V.has (.tup sh) x.1) →
    ∃ xs : List (V × Addr × Value), es = xs.map (entryOfKey (tupKind w sh hd)) ∧ xs.map (·.1) = l.map (·.1) ∧ ∀ x ∈ xs, (tupKind w sh hd).is h x.1 x.2.1
  | [], es, x, _ => by simp only [EntsAre] at x; subst x; exact ⟨[], rfl, rfl, fun _ hx => by cases hx⟩
  | x :: l, es, ⟨e, r, a, b, c, d, y⟩, hs => by
    subst a
    obtain ⟨xs, p, q, t⟩ := ents_heap hd y fun z hz => hs z (List.mem_cons_of_mem _ hz)
    have hx := hs x List.mem_cons_self
    obtain ⟨vs, e1, _⟩ := has_tup hx
    have c' := c
    rw [e1] at c
    obtain ⟨ad, n, us, e2, _⟩ := c.tup_inv
    refine ⟨(x.1, ad, e.val) :: xs, ?_, ?_, ?_⟩
    · rw [List.map_cons, ← p]
      congr 1
      obtain ⟨eh, ek, ev⟩ := e
      simp only at b e2 ⊢
      subst e2; subst b; rfl
    · rw [List.map_cons, List.map_cons, q]
    · intro z hz
      rcases List.mem_cons.mp hz with rfl | hz
      · exact ⟨hx, by rw [← e2]; exact c'⟩
      · exact t z hz

open Classical in
theorem find_tup {sh : List Sh} (hu : A.units + 64 < cLine) (hd : deepL sh ≤ 7) {d : Addr} {es : Array DictEntry} {n : Nat} {l : List (V × V)} {key : V} {u : Value} {Q : Option Nat → Shared → Prop}
    (ho : s.heap.get? d = some ⟨.type "dict", none, .dict es n, #[]⟩) (he : EntsAre w s.heap l es.toList) (hs : ∀ x ∈ l, V.has (.tup sh) x.1) (hn : (l.map (·.1)).Nodup) (hk : V.has (.tup sh) key) (x : VIs s.heap key u) (q : Q (fidx l key) s) :
    wpAny (model P w) A (dictFind d u (hashV w key)) Q E s := by
  obtain ⟨xs, e1, e2, e3⟩ := ents_heap hd he hs
  obtain ⟨vs, ek, _⟩ := has_tup hk
  have x' := x
  rw [ek] at x
  obtain ⟨ad, _, us, eu, _⟩ := x.tup_inv
  subst eu
  have at_ : ∀ {j : Nat} {p : Addr × Value}, xs[j]? = some (key, p) → ∃ v, l[j]? = some (key, v) := fun {j p} h => by
    have : (l.map (·.1))[j]? = some key := by rw [← e2, List.getElem?_map, h]; rfl
    rw [List.getElem?_map, Option.map_eq_some_iff] at this
    obtain ⟨⟨k', v⟩, h1, rfl⟩ := this
    exact ⟨v, h1⟩
  refine wpAny_dictFind_heap (knd := tupKind w sh hd) (k := key) (xs := xs) hu ⟨hk, x'⟩ ho rfl e1 e3 (by rw [e2]; exact hn) (fun hno => ?_) fun j p hj => ?_
  · cases hf : fidx l key with
    | none => rw [hf] at q; exact q
    | some i =>
      obtain ⟨v, h1, _⟩ := fidx_some hf
      exfalso
      have : (xs.map (·.1))[i]? = some key := by rw [e2, List.getElem?_map, h1]; rfl
      rw [List.getElem?_map, Option.map_eq_some_iff] at this
      obtain ⟨⟨k', p⟩, h2, rfl⟩ := this
      exact hno i p h2
  · obtain ⟨v, hl⟩ := at_ hj
    cases hf : fidx l key with
    | none =>
      exfalso
      unfold fidx at hf
      rw [List.findIdx?_eq_none_iff] at hf
      have := hf _ (List.mem_of_getElem? hl)
      simp [V.beq_self] at this
    | some i =>
      obtain ⟨v', h1, _⟩ := fidx_some hf
      have hi : (l.map (·.1))[i]? = some key := by rw [List.getElem?_map, h1]; rfl
      have hj' : (l.map (·.1))[j]? = some key := by rw [List.getElem?_map, hl]; rfl
      have : i = j := (List.getElem?_inj (List.getElem?_eq_some_iff.mp hi).1 hn).mp (hi.trans hj'.symm)
      subst this
      rw [hf] at q; exact q

noncomputable def DK.fits : DK → Prop
  | .tup l => deepL l ≤ 7
  | _ => True

theorem find_cell (hu : A.units + 64 < cLine) {k : DK} (hf : k.fits) {d : Addr} {es : Array DictEntry} {n : Nat} {l : List (V × V)} {key : V} {u : Value} {Q : Option Nat → Shared → Prop}
    (ho : s.heap.get? d = some ⟨.type "dict", none, .dict es n, #[]⟩) (he : EntsAre w s.heap l es.toList) (hs : ∀ x ∈ l, V.has k.sh x.1) (hn : (l.map (·.1)).Nodup) (hk : V.has k.sh key) (x : VIs s.heap key u) (q : Q (fidx l key) s) :
    wpAny (model P w) A (dictFind d u (hashV w key)) Q E s := by
  cases k with
  | int => exact find_value (intKind P w) V.int (sh := .int) (fun v h => has_int h) (fun a b e => by injection e) (fun k => by simp [hashV]; rfl) (fun h k u x => by obtain ⟨t, rfl⟩ := x.int_inv; simp [intKind, Value.isInt]) ho he hs hk x q
  | str => exact find_value (PySem.strKind P w) V.str (sh := .str) (fun v h => let ⟨s, e, _⟩ := has_str h; ⟨s, e⟩) (fun a b e => by injection e) (fun k => by simp [hashV]; rfl) (fun h k u x => by obtain ⟨t, rfl⟩ := x.str_inv; simp [PySem.strKind, Value.isStrOf]) ho he hs hk x q
  | bool => exact find_value (boolKind w) V.bool (sh := .bool) (fun v h => has_bool h) (fun a b e => by injection e) (fun k => by simp [hashV]; rfl) (fun h k u x => by rw [x.bool_inv]; simp [boolKind]) ho he hs hk x q
  | tup sh => exact find_tup hu hf ho he hs hn hk x q

theorem deep_fits {k : DK} (h : k.fits) : deepS k.sh ≤ 8 := by
  cases k with
  | tup l => simp only [DK.sh, deepS]; have : deepL l ≤ 7 := h; omega
  | _ => simp [DK.sh, deepS]

/-- a look -/
theorem get_cell (hu : A.units + 64 < cLine) {k : DK} (hf : k.fits) {d : Addr} {l : List (V × V)} {key : V} {u : Value} {Q : Option Value → Shared → Prop} {o : Obj}
    (ho : s.heap.get? d = some o) (hc : CellIs w s.heap (.dict k l) o) (hk : V.has k.sh key) (x : VIs s.heap key u)
    (q : ∀ r t, (match alook l key with | some v => ∃ rv, r = some rv ∧ VIs s.heap v rv | none => r = none) → Q r { s with toks := t }) :
    wpAny (model P w) A (dictGet d u) Q E s := by
  obtain ⟨es, n, rfl, he, hs, hn⟩ := hc
  unfold dictGet
  try with_reducible refine wpAny_holding ?_
  refine wpAny_bind (pyHash_V k.sh key u (by have := deep_fits hf; omega) hk x (wpAny_bind (find_cell (s := { s with toks := s.toks + drawsV key }) hu hf ho he hs hn hk x ?_)))
  cases hi : fidx l key with
  | none => exact wpAny_pure (q none _ (by rw [fidx_none hi]))
  | some i =>
    obtain ⟨v, h1, h2⟩ := fidx_some hi
    obtain ⟨e, g1, _, _, g2⟩ := he.get h1
    refine wpAny_bind (wpAny_dictEntries (s := { s with toks := s.toks + drawsV key }) ho rfl (wpAny_pure (q _ _ ?_)))
    rw [h2]
    exact ⟨e.val, by rw [← Array.getElem?_toList, g1]; rfl, g2⟩

theorem aput_new {l : List (V × V)} {k v : V} (h : alook l k = none) : aput l k v = l ++ [(k, v)] := by simp [aput, h]
theorem aput_old {l : List (V × V)} {k v v' : V} (h : alook l k = some v') : aput l k v = l.map (fun x => if V.beq x.1 k then (x.1, v) else x) := by simp [aput, h]
theorem aput_keys {l : List (V × V)} {k v v' : V} (h : alook l k = some v') : (aput l k v).map (·.1) = l.map (·.1) := by
  rw [aput_old h, List.map_map]
  congr 1; funext x; simp only [Function.comp]; split <;> rfl
theorem aput_has {sh : Sh} {l : List (V × V)} {k v : V} (hs : ∀ x ∈ l, V.has sh x.1) (hk : V.has sh k) : ∀ x ∈ aput l k v, V.has sh x.1 := by
  intro x hx
  cases h : alook l k with
  | none =>
    rw [aput_new h] at hx
    rcases List.mem_append.mp hx with hx | hx
    · exact hs x hx
    · rw [List.mem_singleton.mp hx]; exact hk
  | some v' =>
    rw [aput_old h] at hx
    obtain ⟨y, hy, rfl⟩ := List.mem_map.mp hx
    split <;> exact hs y hy
theorem alook_mem {l : List (V × V)} {k : V} (h : alook l k = none) : k ∉ l.map (·.1) := by
  intro hm
  obtain ⟨x, hx, rfl⟩ := List.mem_map.mp hm
  unfold alook at h
  rw [Option.map_eq_none_iff, List.find?_eq_none] at h
  have := h x hx
  rw [V.beq_self] at this
  exact this rfl
theorem aput_nodup {l : List (V × V)} {k v : V} (hn : (l.map (·.1)).Nodup) : ((aput l k v).map (·.1)).Nodup := by
  cases h : alook l k with
  | none =>
    rw [aput_new h, List.map_append, List.nodup_append]
    refine ⟨hn, by simp, fun a ha b hb e => ?_⟩
    simp at hb; subst hb; subst e
    exact alook_mem h ha
  | some v' => rw [aput_keys h]; exact hn
theorem aput_length {l : List (V × V)} {k v : V} : (aput l k v).length ≤ l.length + 1 := by
  unfold aput; split <;> simp

/-- a store -/
theorem set_cell (hu : A.units + 64 < cLine) {k : DK} (hf : k.fits) {d : Addr} {l : List (V × V)} {key v : V} {u uv : Value} {Q : Unit → Shared → Prop} {o : Obj}
    (ho : s.heap.get? d = some o) (hc : CellIs w s.heap (.dict k l) o) (hk : V.has k.sh key) (x : VIs s.heap key u) (y : VIs s.heap v uv) (hz : l.length ≤ sizeLine)
    (q : ∀ h' o' t, h'.get? d = some o' → CellIs w h' (.dict k (aput l key v)) o' → Heap.SameBut d s.heap h' → Q () { s with heap := h', toks := t }) :
    wpAny (model P w) A (dictSet d u uv) Q E s := by
  have ntup := hc.notTup
  obtain ⟨es, n, rfl, he, hs, hn⟩ := hc
  have hlen : es.size = l.length := by rw [← Array.length_toList]; exact he.length
  unfold dictSet
  try with_reducible refine wpAny_holding ?_
  refine wpAny_bind (pyHash_V k.sh key u (by have := deep_fits hf; omega) hk x ?_)
  unfold dictSetHashed
  try with_reducible refine wpAny_holding ?_
  refine wpAny_bind (find_cell (s := { s with toks := s.toks + drawsV key }) hu hf ho he hs hn hk x ?_)
  cases hi : fidx l key with
  | none =>
    have ha := fidx_none hi
    have sb := Heap.SameBut.update s.heap d (Obj.mapDictKeys (·.push ⟨hashV w key, u, uv⟩))
    have tl := TupLe.of_sameBut ho ntup sb
    refine wpAny_bind (wpAny_rule (wpAny_updateDictKeys (hz := by omega) (s := { s with toks := s.toks + drawsV key }) ho rfl (q _ _ _ (Heap.get?_update_self _ ho rfl) ⟨es.push ⟨hashV w key, u, uv⟩, n + 1, rfl, ?_, aput_has hs hk, aput_nodup hn⟩ sb)))
    rw [aput_new ha, Array.toList_push]
    exact (he.mono tl).append ⟨_, [], rfl, rfl, x.mono tl, y.mono tl, rfl⟩
  | some i =>
    obtain ⟨v', h1, h2⟩ := fidx_some hi
    have sb := Heap.SameBut.update s.heap d (Obj.mapDict (·.modify i fun e => { e with val := uv }))
    have tl := TupLe.of_sameBut ho ntup sb
    refine wpAny_bind (wpAny_rule (wpAny_bind (wpAny_updateDict (s := { s with toks := s.toks + drawsV key }) ho rfl (wpAny_point (q _ _ _ (Heap.get?_update_self _ ho rfl) ⟨es.modify i fun e => { e with val := uv }, n, rfl, ?_, aput_has hs hk, aput_nodup hn⟩ sb)))))
    rw [aput_old h2]
    have := (he.mono tl).modify (y.mono tl) hn hi
    obtain ⟨el⟩ := es
    simpa using this

/-- set what is not there -/
theorem setDefault_cell (hu : A.units + 64 < cLine) {k : DK} (hf : k.fits) {d : Addr} {l : List (V × V)} {key v : V} {u uv : Value} {Q : Value → Shared → Prop} {o : Obj}
    (ho : s.heap.get? d = some o) (hc : CellIs w s.heap (.dict k l) o) (hk : V.has k.sh key) (x : VIs s.heap key u) (y : VIs s.heap v uv) (hz : l.length ≤ sizeLine)
    (hthere : ∀ v' rv t, alook l key = some v' → VIs s.heap v' rv → Q rv { s with toks := t })
    (hnew : alook l key = none → ∀ h' o' t, h'.get? d = some o' → CellIs w h' (.dict k (aput l key v)) o' → Heap.SameBut d s.heap h' → Q uv { s with heap := h', toks := t }) :
    wpAny (model P w) A (dictSetDefault d u uv) Q E s := by
  have ntup := hc.notTup
  obtain ⟨es, n, rfl, he, hs, hn⟩ := hc
  have hlen : es.size = l.length := by rw [← Array.length_toList]; exact he.length
  unfold dictSetDefault
  try with_reducible refine wpAny_holding ?_
  refine wpAny_bind (pyHash_V k.sh key u (by have := deep_fits hf; omega) hk x ?_)
  refine wpAny_bind (find_cell (s := { s with toks := s.toks + drawsV key }) hu hf ho he hs hn hk x ?_)
  cases hi : fidx l key with
  | none =>
    have ha := fidx_none hi
    have sb := Heap.SameBut.update s.heap d (Obj.mapDictKeys (·.push ⟨hashV w key, u, uv⟩))
    have tl := TupLe.of_sameBut ho ntup sb
    refine wpAny_bind (wpAny_rule (wpAny_bind (wpAny_updateDictKeys (hz := by omega) (s := { s with toks := s.toks + drawsV key }) ho rfl (wpAny_pure (hnew ha _ _ _ (Heap.get?_update_self _ ho rfl) ⟨es.push ⟨hashV w key, u, uv⟩, n + 1, rfl, ?_, aput_has hs hk, aput_nodup hn⟩ sb)))))
    rw [aput_new ha, Array.toList_push]
    exact (he.mono tl).append ⟨_, [], rfl, rfl, x.mono tl, y.mono tl, rfl⟩
  | some i =>
    obtain ⟨v', h1, h2⟩ := fidx_some hi
    obtain ⟨e, g1, _, _, g2⟩ := he.get h1
    refine wpAny_bind (wpAny_dictEntries (s := { s with toks := s.toks + drawsV key }) ho rfl ?_)
    rw [← Array.getElem?_toList, g1]
    exact wpAny_bind (wpAny_rule (wpAny_pure (hthere v' e.val _ h2 g2)))
end
structure Cx.Own (C : Cx) : Prop where
  cells : ∀ x c, C.env.cells.lookup x = some c → C.base c = none ∧ c ≠ C.env.locals
  apart : ∀ x y c, C.env.cells.lookup x = some c → C.env.cells.lookup y = some c → x = y
  loc : C.base C.env.locals = none

/-- behind a statement -/
noncomputable def Px (w : World) (C : Cx) (h : Heap) (N : Loc → Store → Prop) (R : V → Store → Prop) (f : Flow) (s' : Shared) : Prop :=
  TupLe h s'.heap ∧ match f with
    | .next => ∃ m' σ', Rel w C m' σ' s' ∧ N m' σ'
    | .ret u => ∃ v m' σ', VIs s'.heap v u ∧ Rel w C m' σ' s' ∧ R v σ'
    | _ => False
theorem Px.up {w : World} {C : Cx} {h h' : Heap} {N : Loc → Store → Prop} {R : V → Store → Prop} {f : Flow} {s' : Shared} (x : Px w C h' N R f s') (k : TupLe h h') : Px w C h N R f s' := ⟨k.trans x.1, x.2⟩
noncomputable def Ex (w : World) (C : Cx) (A : Around) (t : Sem Flow) (m : Loc) (σ : Store) (N : Loc → Store → Prop) (R : V → Store → Prop) : Prop :=
  ∀ s, Rel w C m σ s → wpAny (model P w) A t (Px w C s.heap N R) No s
/-- a store into a target -/
noncomputable def As (w : World) (C : Cx) (A : Around) (f : Value → Sem Unit) (v : V) (m : Loc) (σ : Store) (m' : Loc) : Prop :=
  ∀ s u, Rel w C m σ s → VIs s.heap v u → wpAny (model P w) A (f u) (fun _ s' => TupLe s.heap s'.heap ∧ Rel w C m' σ s') No s

section
variable {w : World} {C : Cx} {A : Around} {m : Loc} {σ : Store} {N : Loc → Store → Prop} {R : V → Store → Prop}

theorem ex_up {t : Sem Flow} {s : Shared} {h : Heap} (x : wpAny (model P w) A t (Px w C s.heap N R) No s) (k : TupLe h s.heap) : wpAny (model P w) A t (Px w C h N R) No s :=
  wpAny_mono x (fun _ _ p => p.up k) (fun _ _ e => e)
theorem Ex.mono {t : Sem Flow} {N' : Loc → Store → Prop} {R' : V → Store → Prop} (h : Ex w C A t m σ N R) (hn : ∀ m' σ', N m' σ' → N' m' σ') (hr : ∀ v σ', R v σ' → R' v σ') : Ex w C A t m σ N' R' := fun s r =>
  wpAny_mono (h s r) (fun f s' x => ⟨x.1, by
    have := x.2
    cases f with
    | next => obtain ⟨m', σ', a, b⟩ := this; exact ⟨m', σ', a, hn _ _ b⟩
    | ret u => obtain ⟨v, m', σ', a, b, c⟩ := this; exact ⟨v, m', σ', a, b, hr _ _ c⟩
    | _ => exact this⟩) (fun _ _ e => e)
theorem Ex.le {t : Sem Flow} {m' : Loc} {σ' : Store} (h : Ex w C A t m' σ' N R) (km : LoLe m' m) (ks : StLe σ' σ) : Ex w C A t m σ N R := fun s r => h s (r.le km ks)
theorem ex_nil {env : Env} (h : N m σ) : Ex w C A (execs [] env) m σ N R := fun s r => wpAny_execs_nil ⟨.refl _, m, σ, r, h⟩
theorem ex_cons {st : Stmt} {rest : List Stmt} {env : Env} (h : Ex w C A (exec st env) m σ (fun m₁ σ₁ => Ex w C A (execs rest env) m₁ σ₁ N R) R) : Ex w C A (execs (st :: rest) env) m σ N R := fun s r =>
  wpAny_execs_cons (wpAny_mono (h s r) (fun f s₁ x => by
    obtain ⟨t, x⟩ := x
    cases f with
    | next => obtain ⟨m₁, σ₁, r₁, k⟩ := x; exact ex_up (k s₁ r₁) t
    | ret u => exact ⟨t, x⟩
    | brk => exact x.elim
    | cont => exact x.elim) (fun _ _ e => e))
theorem ex_ret {e : PySem.Expr} {pos : Pos} {env : Env} (h : Ev w C A (eval e env) m σ R) : Ex w C A (exec (.Return (some e) pos) env) m σ N R := fun s r =>
  wpAny_Return_some (h.use r fun u s₁ v σ₁ t x r₁ k => ⟨t, v, m, σ₁, x, r₁, k⟩)
theorem ex_ret_none {pos : Pos} {env : Env} (h : R .none σ) : Ex w C A (exec (.Return none pos) env) m σ N R := fun s r =>
  wpAny_Return_none ⟨.refl _, .none, m, σ, vis_none, r, h⟩
theorem ex_if {test : PySem.Expr} {body orelse : List Stmt} {pos : Pos} {env : Env}
    (h : Tr w C A (isTrue test env (eval test env)) m σ (fun b σ₁ => (b = true → Ex w C A (execs body env) m σ₁ N R) ∧ (b = false → Ex w C A (execs orelse env) m σ₁ N R))) :
    Ex w C A (exec (.If test body orelse pos) env) m σ N R := fun s r =>
  wpAny_If (h.use r fun u₁ s₁ v₁ σ₁ t₁ x₁ r₁ k₁ => by
    cases (show u₁ = v₁ from x₁)
    cases u₁ with
    | true => exact ex_up (k₁.1 rfl s₁ r₁) t₁
    | false => exact ex_up (k₁.2 rfl s₁ r₁) t₁)
theorem ex_expr {e : PySem.Expr} {pos : Pos} {env : Env} (h : Ev w C A (eval e env) m σ (fun _ σ₁ => N m σ₁)) (hi : interactive env = false) (hs : swapsWith e none pos.line env = pure false) :
    Ex w C A (exec (.Expr e pos) env) m σ N R := fun s r =>
  wpAny_Expr_any (h.use r fun u s₁ v σ₁ t x r₁ k => ⟨t, m, σ₁, r₁, k⟩) hi hs

/-! stores of names -/
theorem Rel.local {s : Shared} {x : Str} {v : V} {u : Value} {h' : Heap} {mv : Str → Option Value} {t : Nat} (r : Rel w C m σ s) (hc : C.env.cells.lookup x = none) (O : C.Own) (y : VIs s.heap v u)
    (q : ∀ z, ∀ v, m z = some v → C.env.cells.lookup z = none → ∃ u, mv z = some u ∧ VIs s.heap v u)
    (hn : h'.Ns C.env.locals (fun z => if z = x then some u else mv z)) (hs : Heap.SameBut C.env.locals s.heap h') (hns : s.heap.Ns C.env.locals mv) (hnt : ∀ o, s.heap.get? C.env.locals = some o → ∀ vs n, o ≠ tupO vs n) :
    TupLe s.heap h' ∧ Rel w C (set m x v) σ { s with heap := h', toks := t } := by
  obtain ⟨oL, eL⟩ : ∃ o, s.heap.get? C.env.locals = some o := let ⟨o, _, _, e, _⟩ := hns; ⟨o, e⟩
  have tl : TupLe s.heap h' := TupLe.of_sameBut eL (hnt oL eL) hs
  refine ⟨tl, ⟨⟨fun a c e => ?_, r.hp.lo, r.hp.gens⟩, r.lo, r.os, fun b o e => ?_, ⟨_, hn, fun z w' e ec => ?_⟩, fun z c e => ?_, r.apart⟩⟩
  · obtain ⟨o, g, k⟩ := r.hp.cells a c e
    exact ⟨o, (hs.2 a (r.apart a c e).2.1).trans g, k.mono tl⟩
  · have : b ≠ C.env.locals := fun q => by rw [q, O.loc] at e; cases e
    exact (hs.2 b this).trans (r.keep b o e)
  · show ∃ u', (if z = x then some u else mv z) = some u' ∧ _
    unfold set at e
    by_cases hz : z = x
    · rw [if_pos hz] at e ⊢; cases e; exact ⟨u, rfl, y.mono tl⟩
    · rw [if_neg hz] at e ⊢
      obtain ⟨u', a, b⟩ := q z w' e ec
      exact ⟨u', a, b.mono tl⟩
  · obtain ⟨u', a, b⟩ := r.cl z c e
    refine ⟨u', a.sameBut hs (O.cells z c e).2, fun w' e' => ?_⟩
    have hz : z ≠ x := fun q => by rw [q, hc] at e; cases e
    unfold set at e'
    rw [if_neg hz] at e'
    obtain ⟨u'', p, k⟩ := b w' e'
    exact ⟨u'', p, k.mono tl⟩

theorem ns_notTup {h : Heap} {a : Addr} {mv : Str → Option Value} (x : h.Ns a mv) : ∀ o, h.get? a = some o → ∀ vs n, o ≠ tupO vs n := by
  obtain ⟨o, es, ep, e, hd, _⟩ := x
  intro o' e' vs n q
  rw [e] at e'; cases e'; subst q; cases hd

theorem st_local {x : Str} {v : V} (hk : C.env.scope.kind = .function) (hl : C.env.kindOf x = some .local) (hc : C.env.cells.lookup x = none) (O : C.Own) : As w C A (storeName C.env x) v m σ (set m x v) := fun s u r y => by
  obtain ⟨mv, n, q⟩ := r.ns
  refine wpAny_storeName_local hl n (fun h' hn hs => ?_) (by rw [hk]; rfl)
  exact r.local hc O y q hn hs n (ns_notTup n)

theorem st_cell {x : Str} {v : V} {c : Addr} (hk : C.env.scope.kind = .function) (hl : C.env.kindOf x = some .cell) (hc : C.env.cells.lookup x = some c) (O : C.Own) : As w C A (storeName C.env x) v m σ (set m x v) := fun s u r y => by
  obtain ⟨u₀, n, q⟩ := r.cl x c hc
  refine wpAny_storeName_cell hk hl hc n fun h' hn hs => ?_
  obtain ⟨oc, ec, dc⟩ := n
  have tl : TupLe s.heap h' := TupLe.of_sameBut ec (fun vs k e => by subst e; cases dc) hs
  refine ⟨tl, ⟨⟨fun a c' e => ?_, r.hp.lo, r.hp.gens⟩, r.lo, r.os, fun b o e => ?_, ?_, fun z c' e => ?_, r.apart⟩⟩
  · obtain ⟨o, g, k⟩ := r.hp.cells a c' e
    exact ⟨o, (hs.2 a ((r.apart a c' e).2.2 x c hc)).trans g, k.mono tl⟩
  · have : b ≠ c := fun q => by rw [q, (O.cells x c hc).1] at e; cases e
    exact (hs.2 b this).trans (r.keep b o e)
  · obtain ⟨mv, a, b⟩ := r.ns
    refine ⟨mv, a.sameBut hs (Ne.symm (O.cells x c hc).2), fun z w' e ec => ?_⟩
    have hz : z ≠ x := fun q => by rw [q, hc] at ec; cases ec
    unfold set at e
    rw [if_neg hz] at e
    obtain ⟨u', p, k⟩ := b z w' e ec
    exact ⟨u', p, k.mono tl⟩
  · by_cases hz : z = x
    · subst hz
      rw [hc] at e; cases e
      refine ⟨_, hn, fun w' e' => ?_⟩
      unfold set at e'
      rw [if_pos rfl] at e'; cases e'
      exact ⟨u, rfl, y.mono tl⟩
    · have hcc : c' ≠ c := fun q => hz (O.apart z x c (q ▸ e) hc)
      obtain ⟨u', a, b⟩ := r.cl z c' e
      refine ⟨u', a.sameBut hs hcc, fun w' e' => ?_⟩
      unfold set at e'
      rw [if_neg hz] at e'
      obtain ⟨u'', p, k⟩ := b w' e'
      exact ⟨u'', p, k.mono tl⟩

theorem as_name {x : Str} {pos : Pos} {v : V} {m' : Loc} {env : Env} (h : As w C A (storeName env x) v m σ m') : As w C A (assign (.Name x pos) env) v m σ m' := fun s u r y => wpAny_assign_Name (h s u r y)

theorem ex_assign {x : Str} {pos' pos : Pos} {value : PySem.Expr} {env : Env} (h : Ev w C A (eval value env) m σ (fun v σ₁ => ∃ m', As w C A (storeName env x) v m σ₁ m' ∧ N m' σ₁))
    (hs : swapsWith value (some (.Name x pos')) pos.line env = pure false) : Ex w C A (exec (.Assign [.Name x pos'] value pos) env) m σ N R := fun s r =>
  wpAny_Assign_Name (h.use r fun u s₁ v σ₁ t y r₁ ⟨m', a, k⟩ => wpAny_mono (a s₁ u r₁ y) (fun _ s₂ ⟨t₂, r₂⟩ => ⟨t.trans t₂, m', σ₁, r₂, k⟩) (fun _ _ e => e)) hs

/-! a tuple's targets -/
noncomputable def AsL (w : World) (C : Cx) (A : Around) (fs : List (Value → Sem Unit)) (vs : List V) (m : Loc) (σ : Store) (m' : Loc) : Prop :=
  ∀ s us, Rel w C m σ s → VAll s.heap vs us → wpAny (model P w) A (assignInOrder fs us) (fun _ s' => TupLe s.heap s'.heap ∧ Rel w C m' σ s') No s
theorem asL_nil : AsL w C A [] [] m σ m := fun s us r y => by rw [y.nil_inv]; exact wpAny_pure ⟨.refl _, r⟩
theorem asL_cons {f : Value → Sem Unit} {fs : List (Value → Sem Unit)} {v : V} {vs : List V} {m₁ m' : Loc} (h : As w C A f v m σ m₁) (k : AsL w C A fs vs m₁ σ m') : AsL w C A (f :: fs) (v :: vs) m σ m' := fun s us r y => by
  obtain ⟨u, ur, rfl, a, b⟩ := y.cons_inv
  exact wpAny_assignInOrder_more (wpAny_mono (h s u r a) (fun _ s₁ ⟨t, r₁⟩ => wpAny_mono (k s₁ ur r₁ (b.mono t)) (fun _ s₂ ⟨t₂, r₂⟩ => ⟨t.trans t₂, r₂⟩) (fun _ _ e => e)) (fun _ _ e => e))
theorem keeps_of_ext {h h' : Heap} (x : Heap.ExtBut h.objs.size h h') : ∀ b o, h.get? b = some o → h'.get? b = some o := fun b o e => x b o (Nat.ne_of_lt (Heap.lt_size e)) e
theorem as_tup {elts : List PySem.Expr} {k : Nat} {pos : Pos} {vs : List V} {m' : Loc} {env : Env} (hh : A.handled = none) (hn : (assignEach elts env).length = vs.length) (hstar : (assignEach elts env).findIdx? (·.1) = none)
    (h : AsL w C A ((assignEach elts env).map (·.2)) vs m σ m') : As w C A (assign (.Tuple elts k pos) env) (.tup vs) m σ m' := fun s u r y => by
  obtain ⟨a, n, us, rfl, g, z⟩ := y.tup_inv
  have hlen : us.size = vs.length := by rw [← Array.length_toList]; exact z.length
  refine wpAny_assign_Tuple hh ⟨_, g, rfl, n, rfl⟩ (by rw [hn, hlen]) hstar fun h' he => ?_
  have kk := keeps_of_ext he
  have tl := TupLe.of_keeps kk
  exact wpAny_mono (h _ us.toList (r.grow (t := s.toks) kk) (z.mono tl)) (fun _ s₂ ⟨t₂, r₂⟩ => ⟨tl.trans t₂, r₂⟩) (fun _ _ e => e)
end
/-- an iterator at I, of the objects fp, that hands out l as long as the store is as «need» says -/
structure Iter (w : World) (A : Around) (I : Addr) (fp : List Addr) (nm : Bool) (l : List V) (need : Store → Prop) (St : Nat → Heap → Prop) (Mid : Nat → Value → Heap → Prop) : Prop where
  live : ∀ i h b, St i h → b ∈ fp → ∃ o, h.get? b = some o ∧ ∀ vs n, o ≠ tupO vs n
  liveM : ∀ i u h b, Mid i u h → b ∈ fp → ∃ o, h.get? b = some o ∧ ∀ vs n, o ≠ tupO vs n
  frame : ∀ i h h', St i h → (∀ b ∈ fp, ∀ o, h.get? b = some o → h'.get? b = some o) → TupLe h h' → St i h'
  item : ∀ i (s : Shared) (σ : Store) (v : V) (Q : Option Value → Shared → Prop), l[i]? = some v → St i s.heap → need σ → Hp w σ s → (∀ b ∈ fp, σ b = none) →
    (∀ u h' tk, VIs h' v u → (∀ b o, b ∉ fp → s.heap.get? b = some o → h'.get? b = some o) → Mid i u h' → Q (some u) { s with heap := h', toks := tk }) → wpAny (model P w) A (pyNext (.ref I)) Q No s
  done : ∀ (s : Shared) (σ : Store) (Q : Option Value → Shared → Prop), St l.length s.heap → need σ → Hp w σ s → (∀ b ∈ fp, σ b = none) →
    (∀ h' tk, (∀ b o, b ∉ fp → s.heap.get? b = some o → h'.get? b = some o) → Q none { s with heap := h', toks := tk }) → wpAny (model P w) A (pyNext (.ref I)) Q No s
  self : ∀ i (s : Shared) (Q : Value → Shared → Prop) (E : Value → Shared → Prop), St i s.heap → Q (.ref I) s → wpAny (model P w) A (pyIter (.ref I)) Q E s
  mid : nm = true → ∀ i u h, Mid i u h → St (i + 1) h
  own : ∀ i elts k pos (s : Shared) (u : Value) (Q : Unit → Shared → Prop), Mid i u s.heap → (∀ h', St (i + 1) h' → (∀ b o, b ∉ fp → s.heap.get? b = some o → h'.get? b = some o) → Q () { s with heap := h' }) →
    wpAny (model P w) A (letOwnedTupleGo (.Tuple elts k pos) (.ref I) u) Q No s

section
variable {w : World} {C : Cx} {A : Around} {m m₀ : Loc} {σ : Store} {N : Loc → Store → Prop} {R : V → Store → Prop}

/-- beside the frame and the store -/
structure Off (C : Cx) (σ : Store) (b : Addr) : Prop where
  base : C.base b = none
  loc : b ≠ C.env.locals
  cells : ∀ x c, C.env.cells.lookup x = some c → b ≠ c
  st : σ b = none

/-- the frame's and the store's facts where objects beside them have changed -/
theorem Rel.others {s : Shared} {h' : Heap} {fp : List Addr} {t : Nat} (r : Rel w C m σ s) (lv : ∀ b ∈ fp, ∃ o, s.heap.get? b = some o ∧ ∀ vs n, o ≠ tupO vs n) (hs : ∀ b o, b ∉ fp → s.heap.get? b = some o → h'.get? b = some o) (hf : ∀ b ∈ fp, Off C σ b) :
    TupLe s.heap h' ∧ Rel w C m σ { s with heap := h', toks := t } := by
  have tl : TupLe s.heap h' := fun a vs n q => hs a _ (fun z => by obtain ⟨o, e, hnt⟩ := lv a z; rw [e] at q; exact absurd (Option.some.inj q) (hnt vs n)) q
  refine ⟨tl, ⟨⟨fun a c q => ?_, r.hp.lo, r.hp.gens⟩, r.lo, r.os, fun b ob q => ?_, ?_, fun z c q => ?_, r.apart⟩⟩
  · obtain ⟨oa, g, k⟩ := r.hp.cells a c q
    exact ⟨oa, hs a oa (fun z => by rw [(hf a z).st] at q; cases q) g, k.mono tl⟩
  · exact hs b ob (fun z => by rw [(hf b z).base] at q; cases q) (r.keep b ob q)
  · obtain ⟨mv, n, q⟩ := r.ns
    exact ⟨mv, Heap.Ns_at n fun o e => hs _ o (fun z => (hf _ z).loc rfl) e, fun y v e1 e2 => let ⟨u, a, b⟩ := q y v e1 e2; ⟨u, a, b.mono tl⟩⟩
  · obtain ⟨u, ⟨oc, ec, dc⟩, b⟩ := r.cl z c q
    exact ⟨u, ⟨oc, hs c oc (fun w => (hf c w).cells z c q rfl) ec, dc⟩, fun v e1 => let ⟨u', p, k⟩ := b v e1; ⟨u', p, k.mono tl⟩⟩
theorem Rel.other {s : Shared} {h' : Heap} {I : Addr} {o : Obj} {t : Nat} (r : Rel w C m σ s) (e : s.heap.get? I = some o) (hnt : ∀ vs n, o ≠ tupO vs n) (hs : Heap.ExtBut I s.heap h') (hf : Off C σ I) : TupLe s.heap h' ∧ Rel w C m σ { s with heap := h', toks := t } :=
  r.others (fp := [I]) (fun b hb => by rw [List.mem_singleton.mp hb]; exact ⟨o, e, hnt⟩) (fun b ob hb q => hs b ob (fun z => hb (by rw [z]; exact List.mem_singleton.mpr rfl)) q) (fun b hb => by rw [List.mem_singleton.mp hb]; exact hf)

theorem off_fresh {s : Shared} {a : Addr} (r : Rel w C m σ s) (h : s.heap.get? a = none) : Off C σ a := by
  refine ⟨?_, fun q => ?_, fun x c e q => ?_, ?_⟩
  · cases q : C.base a with
    | none => rfl
    | some o => rw [r.keep a o q] at h; cases h
  · obtain ⟨mv, ⟨oL, _, _, gL, _⟩, _⟩ := r.ns
    rw [← q, h] at gL; cases gL
  · obtain ⟨u, ⟨oc, gc, _⟩, _⟩ := r.cl x c e
    rw [← q, h] at gc; cases gc
  · exact fresh_of r.hp h

abbrev Cx.with (C : Cx) (base : Addr → Option Obj) : Cx := ⟨C.h₀, base, C.env, C.os⟩
open Classical in
/-- all that is not the activation's own and not the store's, held as it is -/
noncomputable def frz (C : Cx) (σ : Store) (h : Heap) : Addr → Option Obj := fun b => if (∃ x, C.env.cells.lookup x = some b) ∨ b = C.env.locals ∨ (σ b).isSome then none else h.get? b
theorem frz_some {h : Heap} {b : Addr} {o : Obj} (e : frz C σ h b = some o) : h.get? b = some o ∧ σ b = none := by
  unfold frz at e
  split at e
  · cases e
  · rename_i q
    refine ⟨e, ?_⟩
    cases z : σ b with
    | none => rfl
    | some c => exact absurd (.inr (.inr (by rw [z]; rfl))) q
theorem frz_of {h : Heap} {b : Addr} {o : Obj} (e : h.get? b = some o) (f : Off C σ b) : frz C σ h b = some o := by
  unfold frz
  rw [if_neg]; exact e
  rintro (⟨x, q⟩ | q | q)
  · exact f.cells x b q rfl
  · exact f.loc q
  · rw [f.st] at q; cases q
theorem frz_own (O : C.Own) {h : Heap} : (C.with (frz C σ h)).Own :=
  ⟨fun x c e => ⟨by show frz C σ h c = none; unfold frz; rw [if_pos (.inl ⟨x, e⟩)], (O.cells x c e).2⟩, O.apart, by show frz C σ h C.env.locals = none; unfold frz; rw [if_pos (.inr (.inl rfl))]⟩
theorem base_off (O : C.Own) {s : Shared} (r : Rel w C m σ s) {b : Addr} {o : Obj} (e : C.base b = some o) : Off ⟨C.h₀, fun _ => none, C.env, C.os⟩ σ b :=
  ⟨rfl, fun q => (by rw [q, O.loc] at e; cases e), fun x c ec q => (by rw [q, (O.cells x c ec).1] at e; cases e), by
    cases z : σ b with
    | none => rfl
    | some c => rw [(r.apart b c z).1] at e; cases e⟩
theorem frz_base (O : C.Own) {s : Shared} (r : Rel w C m σ s) {b : Addr} {o : Obj} (e : C.base b = some o) : frz C σ s.heap b = some o := by
  have f := base_off O r e
  unfold frz
  rw [if_neg]; exact r.keep b o e
  rintro (⟨x, q⟩ | q | q)
  · exact f.cells x b q rfl
  · exact f.loc q
  · rw [f.st] at q; cases q
theorem frz_ok (O : C.Own) (ok : C.Ok) {s : Shared} (r : Rel w C m σ s) : (C.with (frz C σ s.heap)).Ok := fun b o e => frz_base O r (ok b o e)
theorem Rel.freeze {s : Shared} (r : Rel w C m σ s) : Rel w (C.with (frz C σ s.heap)) m σ s :=
  ⟨r.hp, r.lo, r.os, fun b o e => (frz_some e).1, r.ns, r.cl, fun a c e => ⟨by show frz C σ s.heap a = none; unfold frz; rw [if_pos (.inr (.inr (by rw [e]; rfl)))], (r.apart a c e).2⟩⟩
theorem Rel.thaw {s s' : Shared} {σ' : Store} {m' : Loc} (O : C.Own) (r : Rel w C m σ s) (r' : Rel w (C.with (frz C σ s.heap)) m' σ' s') : Rel w C m' σ' s' ∧ ∀ b o, s.heap.get? b = some o → Off C σ b → s'.heap.get? b = some o ∧ Off C σ' b := by
  refine ⟨⟨r'.hp, r'.lo, r'.os, fun b o e => r'.keep b o (frz_base O r e), r'.ns, r'.cl, fun a c e => ⟨?_, (r'.apart a c e).2⟩⟩, fun b o e f => ⟨r'.keep b o (frz_of e f), f.base, f.loc, f.cells, ?_⟩⟩
  · cases q : C.base a with
    | none => rfl
    | some o => have := (r'.apart a c e).1; rw [show (C.with (frz C σ s.heap)).base a = frz C σ s.heap a from rfl, frz_base O r q] at this; cases this
  · cases q : σ' b with
    | none => rfl
    | some c => have := (r'.apart b c q).1; rw [show (C.with (frz C σ s.heap)).base b = frz C σ s.heap b from rfl, frz_of e f] at this; cases this

theorem noted_of {env : Env} {α : Type} {t : Sem α} {Q : α → Shared → Prop} {s : Shared} {E : Value → Shared → Prop} (h : wpAny (model P w) A t Q No s) : wpAny (model P w) A t Q E s := wpAny_mono h (fun _ _ x => x) (fun _ _ x => x.elim)

/-- an iteration's source -/
noncomputable def Si (w : World) (C : Cx) (A : Around) (t : Sem Value) (m : Loc) (σ : Store) (G : Bool → List V → (Store → Prop) → Store → Prop) : Prop :=
  ∀ s, Rel w C m σ s → ∀ Q : Value → Shared → Prop, (∀ s₁ σ₁ I fp h' tk St Mid nm l need, TupLe s.heap s₁.heap → Rel w C m σ₁ s₁ → G nm l need σ₁ → (∀ A' : Around, A'.handled = none → Iter w A' I fp nm l need St Mid) → (∀ b ∈ fp, s₁.heap.get? b = none ∧ sysModules < b) → St 0 h' →
    (∀ b o, s₁.heap.get? b = some o → h'.get? b = some o) → Q (.ref I) { s₁ with heap := h', toks := tk }) → wpAny (model P w) A t (fun x s₂ => wpAny (model P w) A (pyIter x) Q No s₂) No s
noncomputable def Src (w : World) (A : Around) (σ : Store) (v : V) (nm : Bool) (l : List V) (need : Store → Prop) : Prop :=
  ∀ (s : Shared) (u : Value) (Q : Value → Shared → Prop), Hp w σ s → VIs s.heap v u → sysModules < s.heap.objs.size →
    (∀ I fp h' tk St Mid, (∀ A' : Around, A'.handled = none → Iter w A' I fp nm l need St Mid) → (∀ b ∈ fp, s.heap.get? b = none ∧ sysModules < b) → St 0 h' → (∀ b o, s.heap.get? b = some o → h'.get? b = some o) → Q (.ref I) { s with heap := h', toks := tk }) →
    wpAny (model P w) A (pyIter u) Q No s
theorem si_of {t : Sem Value} {G : Bool → List V → (Store → Prop) → Store → Prop} (h : Ev w C A t m σ (fun v σ₁ => ∃ nm l need, Src w A σ₁ v nm l need ∧ G nm l need σ₁)) : Si w C A t m σ G := fun s r Q k =>
  h.use r fun u s₁ v σ₁ t₁ y r₁ ⟨nm, l, need, src, g⟩ => src s₁ u Q r₁.hp y r₁.top fun I fp h' tk St Mid It fr st kp => k s₁ σ₁ I fp h' tk St Mid nm l need t₁ r₁ g It fr st kp

/-- what a loop asks: an invariant -/
noncomputable def ForGo (w : World) (C : Cx) (A : Around) (target : PySem.Expr) (body : List Stmt) (m₀ : Loc) (N : Loc → Store → Prop) (R : V → Store → Prop) (nm : Bool) (l : List V) (need : Store → Prop) (σ₁ : Store) : Prop :=
  (nm = true ∨ ∃ elts k p, target = .Tuple elts k p) ∧ ∃ Inv : Nat → Store → Prop, Inv 0 σ₁ ∧ (∀ i σ, Inv i σ → need σ) ∧
    (∀ base, (C.with base).Own → (C.with base).Ok → ∀ i v σ₁, l[i]? = some v → Inv i σ₁ → ∃ m₁, As w (C.with base) A (assign target C.env) v m₀ σ₁ m₁ ∧
      Ex w (C.with base) A (execs body C.env) m₁ σ₁ (fun m₂ σ₂ => LoLe m₀ m₂ ∧ Inv (i + 1) σ₂) R) ∧
    (∀ σ₁, Inv l.length σ₁ → N m₀ σ₁)

noncomputable def ForGoM (w : World) (C : Cx) (A : Around) (target : PySem.Expr) (body : List Stmt) (m₀ : Loc) (N : Loc → Store → Prop) (R : V → Store → Prop) (nm : Bool) (l : List V) (need : Store → Prop) (σ₁ : Store) : Prop :=
  (nm = true ∨ ∃ elts k p, target = .Tuple elts k p) ∧ ∃ Inv : Nat → Loc → Store → Prop, Inv 0 m₀ σ₁ ∧ (∀ i m σ, Inv i m σ → need σ) ∧
    (∀ base, (C.with base).Own → (C.with base).Ok → ∀ i v m σ₁, l[i]? = some v → Inv i m σ₁ → ∃ m₁, As w (C.with base) A (assign target C.env) v m σ₁ m₁ ∧
      Ex w (C.with base) A (execs body C.env) m₁ σ₁ (fun m₂ σ₂ => ∃ m', LoLe m' m₂ ∧ Inv (i + 1) m' σ₂) R) ∧
    (∀ m σ₁, Inv l.length m σ₁ → N m σ₁)

theorem loop_iterM {target : PySem.Expr} {body : List Stmt} {I : Addr} {fp : List Addr} {nm : Bool} {l : List V} {need : Store → Prop} {St : Nat → Heap → Prop} {Mid : Nat → Value → Heap → Prop} {s₀ s : Shared} (It : Iter w A I fp nm l need St Mid) (O : C.Own) (ok : C.Ok)
    (hb : ∀ b ∈ fp, Off C σ b) (ht : (∃ x p, target = .Name x p) ∨ ∃ elts k p, target = .Tuple elts k p) (h : ForGoM w C A target body m₀ N R nm l need σ) (r : Rel w C m₀ σ s) (st : St 0 s.heap) (tl : TupLe s₀.heap s.heap) :
    codeAny (model P w) A (.forLoop target (.ref I) body [] C.env) (fun r s' => match r with | .ok f => Px w C s₀.heap N R f s' | .error _ => False) s := by
  obtain ⟨hnm, Inv, h0, hneed, step, fin⟩ := h
  refine codeAny_forLoop_any
    (fun k s' => ∃ i mm σ₁, i ≤ l.length ∧ k = l.length + 1 - i ∧ St i s'.heap ∧ Rel w C mm σ₁ s' ∧ (∀ b ∈ fp, Off C σ₁ b) ∧ Inv i mm σ₁ ∧ TupLe s₀.heap s'.heap) ?_ (l.length + 1)
    ⟨0, m₀, σ, Nat.zero_le _, rfl, st, r, hb, h0, tl⟩
  rintro k s' ⟨i, mm, σ₁, hi, rfl, st', r', hf, hI, tl'⟩
  by_cases hlt : i < l.length
  · refine noted_of (env := C.env) (It.item i s' σ₁ l[i] _ (by simp [hlt]) st' (hneed i mm σ₁ hI) r'.hp (fun b hb => (hf b hb).st) fun u h' tk y sb st₂ => ?_)
    obtain ⟨t₁, r₁⟩ := r'.others (t := tk) (fun b hb => It.live i _ b st' hb) sb hf
    have go : ∀ h₂, St (i + 1) h₂ → (∀ b o, b ∉ fp → h'.get? b = some o → h₂.get? b = some o) → wpAny (model P w) A (assign target C.env u) (fun _ s₂ => wpAny (model P w) A (execs body C.env) (fun f s₃ => match f with
        | .next | .cont => ∃ m, m < l.length + 1 - i ∧ ∃ i' mm σ₁, i' ≤ l.length ∧ m = l.length + 1 - i' ∧ St i' s₃.heap ∧ Rel w C mm σ₁ s₃ ∧ (∀ b ∈ fp, Off C σ₁ b) ∧ Inv i' mm σ₁ ∧ TupLe s₀.heap s₃.heap
        | .brk => Px w C s₀.heap N R .next s₃
        | .ret v => Px w C s₀.heap N R (.ret v) s₃) (notedBy (model P w) A C.env fun _ _ => False) s₂) (notedBy (model P w) A C.env fun _ _ => False) { s' with heap := h₂, toks := tk } := by
      intro h₂ st₃ kp
      obtain ⟨t₂, r₂⟩ := r₁.others (t := tk) (fun b hb => It.liveM i u _ b st₂ hb) kp hf
      obtain ⟨m₁, as, ex⟩ := step _ (frz_own (σ := σ₁) (h := h₂) O) (frz_ok O ok r₂) i l[i] mm σ₁ (by simp [hlt]) hI
      refine noted_of (env := C.env) (wpAny_mono (as _ u r₂.freeze (y.mono t₂)) (fun _ s₂ ⟨t₃, r₃⟩ => noted_of (env := C.env) (wpAny_mono (ex s₂ r₃) (fun f s₃ ⟨t₄, x⟩ => ?_) (fun _ _ x => x))) (fun _ _ x => x))
      cases f with
      | next =>
        obtain ⟨m₂, σ₂, r₄, m', lo, hI₂⟩ := x
        obtain ⟨r₅, kf⟩ := Rel.thaw O r₂ (r₄.le lo (.refl _))
        refine ⟨l.length + 1 - (i + 1), by omega, i + 1, m', σ₂, hlt, rfl, It.frame _ _ _ st₃ (fun b hb o e => (kf b o e (hf b hb)).1) (t₃.trans t₄), r₅, fun b hb => ?_, hI₂, (((tl'.trans t₁).trans t₂).trans t₃).trans t₄⟩
        obtain ⟨o, e, _⟩ := It.live _ _ b st₃ hb
        exact (kf b o e (hf b hb)).2
      | ret u' =>
        obtain ⟨v, m₂, σ₂, y₃, r₄, q⟩ := x
        exact ⟨(((tl'.trans t₁).trans t₂).trans t₃).trans t₄, v, m₂, σ₂, y₃, (Rel.thaw O r₂ r₄).1, q⟩
      | brk => exact x.elim
      | cont => exact x.elim
    rcases ht with ⟨x, p, rfl⟩ | ⟨elts, kk, p, rfl⟩
    · show wpAny _ _ (pure ()) _ _ _
      refine wpAny_pure (go h' (It.mid ?_ i u h' st₂) (fun _ _ _ e => e))
      rcases hnm with q | ⟨_, _, _, q⟩
      · exact q
      · cases q
    · exact noted_of (env := C.env) (It.own _ elts kk p _ u _ st₂ go)
  · obtain rfl : i = l.length := Nat.le_antisymm hi (Nat.not_lt.mp hlt)
    refine noted_of (env := C.env) (It.done s' σ₁ _ st' (hneed _ mm σ₁ hI) r'.hp (fun b hb => (hf b hb).st) fun h' tk sb => ?_)
    obtain ⟨t₁, r₁⟩ := r'.others (t := tk) (fun b hb => It.live _ _ b st' hb) sb hf
    exact wpAny_execs_nil ⟨tl'.trans t₁, mm, σ₁, r₁, fin mm σ₁ hI⟩

theorem ex_forM {target iter : PySem.Expr} {body : List Stmt} {pos : Pos} (hh : A.handled = none) (O : C.Own) (ok : C.Ok) (hm : LoLe m₀ m)
    (ht : (∃ x p, target = .Name x p) ∨ ∃ elts k p, target = .Tuple elts k p)
    (h : Si w C A (eval iter C.env) m σ (ForGoM w C A target body m₀ N R))
    (hs : ∀ x, foldedSetIterable iter C.env x = pure x) : Ex w C A (exec (.For target iter body [] pos) C.env) m σ N R := fun s r =>
  wpAny_For (h s r _ fun s₁ σ₁ I fp h' tk St Mid nm l need t₁ r₁ g It fr st kp => by
    refine codeAny_mono (loop_iterM (s₀ := s) (It A hh) O ok (fun b hb => off_fresh r₁ (fr b hb).1) ht g ((r₁.le hm (.refl _)).grow (t := tk) kp) st (t₁.trans (.of_keeps kp))) (fun rr s' x => ?_)
    cases rr with
    | ok f => exact x
    | error e => exact x.elim) hs

theorem forGo_M {target : PySem.Expr} {body : List Stmt} {nm : Bool} {l : List V} {need : Store → Prop} (h : ForGo w C A target body m₀ N R nm l need σ) : ForGoM w C A target body m₀ N R nm l need σ := by
  obtain ⟨a, Inv, b, c, d, e⟩ := h
  refine ⟨a, fun i m σ => m = m₀ ∧ Inv i σ, ⟨rfl, b⟩, fun i m σ h => c i σ h.2, fun base O' ok' i v m σ₁ hv hI => ?_, fun m σ₁ hI => ?_⟩
  · obtain ⟨rfl, hI⟩ := hI
    obtain ⟨m₁, as, ex⟩ := d base O' ok' i v σ₁ hv hI
    exact ⟨m₁, as, ex.mono (fun m₂ σ₂ h => ⟨_, h.1, rfl, h.2⟩) (fun _ _ x => x)⟩
  · obtain ⟨rfl, hI⟩ := hI
    exact e σ₁ hI
theorem ex_for {target iter : PySem.Expr} {body : List Stmt} {pos : Pos} (hh : A.handled = none) (O : C.Own) (ok : C.Ok) (hm : LoLe m₀ m)
    (ht : (∃ x p, target = .Name x p) ∨ ∃ elts k p, target = .Tuple elts k p)
    (h : Si w C A (eval iter C.env) m σ (ForGo w C A target body m₀ N R))
    (hs : ∀ x, foldedSetIterable iter C.env x = pure x) : Ex w C A (exec (.For target iter body [] pos) C.env) m σ N R :=
  ex_forM hh O ok hm ht (fun s r Q k => h s r Q fun s₁ σ₁ I fp h' tk St Mid nm l need t₁ r₁ g => k s₁ σ₁ I fp h' tk St Mid nm l need t₁ r₁ (forGo_M g)) hs

/-! sources -/
theorem isList_of {s : Shared} {a : Addr} {l : List V} (x : Hp w σ s) (e : σ a = some (.list l)) : ∃ vs n, s.heap.get? a = some ⟨.type "list", none, .seq vs n, #[]⟩ ∧ VAll s.heap l vs.toList := by
  obtain ⟨o, g, vs, n, rfl, y⟩ := x.cells a _ e
  exact ⟨vs, n, g, y⟩
theorem notIn1 {I b : Addr} (h : b ∉ [I]) : b ≠ I := fun q => h (List.mem_singleton.mpr q)
/-- a plain iterator's class does not own its tuples -/
theorem own_plain {elts : List PySem.Expr} {k : Nat} {pos : Pos} {s : Shared} {I : Addr} {o : Obj} {u : Value} {cn : String} {Q : Unit → Shared → Prop} (e : s.heap.get? I = some o) (hc : o.cls = .type cn)
    (hn : ["enumerate", "zip", "dict_itemiterator", "dict_reverseitemiterator", "odict_iterator", "itertools.zip_longest", "itertools.pairwise"].contains cn = false) (fs : Array Value) (hd : o.data = .fields fs) (q : Q () s) :
    wpAny (model P w) A (letOwnedTupleGo (.Tuple elts k pos) (.ref I) u) Q No s := by
  unfold letOwnedTupleGo
  cases u with
  | ref T =>
    refine wpAny_bind (wpAny_load e ?_)
    rw [hc, hd]
    refine wpAny_ite ?_
    rw [if_neg (by rw [hn, Bool.false_and]; exact Bool.false_ne_true)]
    exact wpAny_pure q
  | _ => exact wpAny_pure q

theorem src_list {a : Addr} {l : List V} (ha : σ a = some (.list l)) : Src w A σ (.ref a) true l (fun σ' => σ' a = some (.list l)) := fun s u Q hp y hlo k => by
  rw [y.ref_inv]
  obtain ⟨vs, n, g, _⟩ := isList_of hp ha
  refine wpAny_pyIter_list ⟨_, g, rfl, n, rfl⟩ (k _ [s.heap.objs.size] _ s.toks (fun i h => h.IsListIter s.heap.objs.size a i) (fun i _ h => h.IsListIter s.heap.objs.size a (i + 1)) (fun A' hh => ?_) (fun b hb => by rw [List.mem_singleton.mp hb]; exact ⟨fresh_size _, hlo⟩) ⟨_, Heap.get?_push_size _ rfl, rfl, rfl⟩ (fun b o e => Heap.get?_push_of_some _ e))
  have lv : ∀ i (h : Heap), h.IsListIter s.heap.objs.size a i → ∃ o, h.get? s.heap.objs.size = some o ∧ ∀ vs n, o ≠ tupO vs n := by
    rintro i h ⟨o, e, hc, hd⟩
    exact ⟨o, e, fun vs n q => by subst q; cases hd⟩
  refine ⟨fun i h b st hb => ?_, fun i u h b st hb => ?_, ?_, ?_, ?_, ?_, fun _ _ _ _ x => x, ?_⟩
  · rw [List.mem_singleton.mp hb]; exact lv i h st
  · rw [List.mem_singleton.mp hb]; exact lv _ h st
  · rintro i h h' ⟨o', e, hc⟩ kp _
    exact ⟨_, kp _ (List.mem_singleton.mpr rfl) _ e, hc⟩
  · intro i s' σ' v Q' hv st hn hp' hσ' q
    obtain ⟨vs', n', g', y'⟩ := isList_of hp' hn
    obtain ⟨u, hu, yu⟩ := y'.get hv
    obtain ⟨o, e, hnt⟩ := lv i _ st
    refine wpAny_pyNext_list_item st ⟨_, g', rfl, n', rfl⟩ (by rw [← Array.getElem?_toList]; exact hu) fun h' it' sb => q u h' _ (yu.mono (.of_sameBut e hnt sb)) (fun b o hb e => sb.extBut b o (notIn1 hb) e) it'
  · intro s' σ' Q' st hn hp' hσ' q
    obtain ⟨vs', n', g', y'⟩ := isList_of hp' hn
    refine wpAny_pyNext_list_end hh st ⟨_, g', rfl, n', rfl⟩ ?_ fun h' he => q h' _ fun b o hb e => he b o (notIn1 hb) e
    rw [← Array.getElem?_toList]
    exact List.getElem?_eq_none (by rw [y'.length]; exact Nat.le_refl _)
  · intro i s' Q' E st q
    exact wpAny_pyIter_listiter st q
  · rintro i elts k pos s' u Q' st q
    have st' := st
    obtain ⟨o, e, hc, hd⟩ := st
    have := q s'.heap st' (fun _ _ _ e => e)
    cases u with
    | ref T => exact wpAny_letOwnedTupleGo_listiter st' this
    | _ => exact wpAny_pure this

theorem src_tuple {l : List V} : Src w A σ (.tup l) true l (fun _ => True) := fun s u Q hp y hlo k => by
  obtain ⟨a, n, vs, rfl, g, z⟩ := y.tup_inv
  have hlt : a < s.heap.objs.size := Heap.lt_size g
  let St : Nat → Heap → Prop := fun i h => h.IsTupleIter s.heap.objs.size a i ∧ h.get? a = some (tupO vs n) ∧ VAll h l vs.toList
  refine wpAny_pyIter_tuple ⟨_, g, rfl, n, rfl⟩ (k _ [s.heap.objs.size] _ s.toks St (fun i _ h => St (i + 1) h) (fun A' hh => ?_) (fun b hb => by rw [List.mem_singleton.mp hb]; exact ⟨fresh_size _, hlo⟩)
    ⟨⟨_, Heap.get?_push_size _ rfl, rfl, rfl⟩, Heap.get?_push_of_some _ g, z.mono (.of_keeps fun b o e => Heap.get?_push_of_some _ e)⟩ (fun b o e => Heap.get?_push_of_some _ e))
  have lv : ∀ i (h : Heap), St i h → ∃ o, h.get? s.heap.objs.size = some o ∧ ∀ vs n, o ≠ tupO vs n := by
    rintro i h ⟨⟨o, e, hc, hd⟩, _⟩
    exact ⟨o, e, fun vs n q => by subst q; cases hd⟩
  refine ⟨fun i h b st hb => ?_, fun i u h b st hb => ?_, ?_, ?_, ?_, ?_, fun _ _ _ _ x => x, ?_⟩
  · rw [List.mem_singleton.mp hb]; exact lv i h st
  · rw [List.mem_singleton.mp hb]; exact lv _ h st
  · rintro i h h' ⟨⟨o', e, hc⟩, g', z'⟩ kp tl
    exact ⟨⟨_, kp _ (List.mem_singleton.mpr rfl) _ e, hc⟩, tl _ _ _ g', z'.mono tl⟩
  · rintro i s' σ' v Q' hv ⟨st, g', z'⟩ hn hp' hσ' q
    obtain ⟨u, hu, yu⟩ := z'.get hv
    refine wpAny_pyNext_tuple_item st ⟨_, g', rfl, n, rfl⟩ (by rw [← Array.getElem?_toList]; exact hu) fun h' it' sb => ?_
    obtain ⟨oI, eI, _, dI⟩ := st
    have tl : TupLe s'.heap h' := TupLe.of_sameBut eI (fun vs n q => by subst q; cases dI) sb
    exact q u h' _ (yu.mono tl) (fun b o hb e => sb.extBut b o (notIn1 hb) e) ⟨it', tl _ _ _ g', z'.mono tl⟩
  · rintro s' σ' Q' ⟨st, g', z'⟩ hn hp' hσ' q
    refine wpAny_pyNext_tuple_end hh st ⟨_, g', rfl, n, rfl⟩ ?_ fun h' he => q h' _ fun b o hb e => he b o (notIn1 hb) e
    rw [← Array.getElem?_toList]
    exact List.getElem?_eq_none (by rw [z'.length]; exact Nat.le_refl _)
  · rintro i s' Q' E ⟨st, _⟩ q
    exact wpAny_pyIter_tupleiter st q
  · rintro i elts k pos s' u Q' st q
    have st' := st
    obtain ⟨⟨o, e, hc, hd⟩, _⟩ := st
    exact own_plain e hc (by decide) _ hd (q s'.heap st' (fun _ _ _ e => e))
end
/-- room to call on, n deep -/
structure Room (n : Nat) (A : Around) : Prop where
  depth : A.depth + 2 * n < recursionLimit
  units : A.units + 8 * n + 80 < cLine
  handled : A.handled = none
theorem Room.le {n k : Nat} {A : Around} (x : Room n A) (h : k ≤ n) : Room k A := ⟨by have := x.depth; omega, by have := x.units; omega, x.handled⟩
theorem Room.deeper {n : Nat} {A : Around} {env : Env} (x : Room (n + 1) A) : Room n (A.deeper env) := ⟨by have := x.depth; show A.depth + 1 + 2 * n < _; omega, by have := x.units; show A.units + 3 + 8 * n + 80 < _; omega, x.handled⟩
theorem Room.uk {n k : Nat} {A : Around} (x : Room n A) (h : k ≤ 80) : A.units + k < cLine := by have := x.units; omega
noncomputable def OpC (w : World) (C : Cx) (A : Around) (f : Value) (vs : List V) (m : Loc) (σ : Store) (K : V → Store → Prop) : Prop :=
  ∀ s us, Rel w C m σ s → VAll s.heap vs us → wpAny (model P w) A (call f us) (Po w C m VIs s.heap K) No s
noncomputable def OpW (w : World) (C : Cx) (A : Around) (pos : Pos) (f : Value) (first : List V) (args : List PySem.Expr) (env : Env) (m : Loc) (σ : Store) (K : V → Store → Prop) : Prop :=
  ∀ s us, Rel w C m σ s → VAll s.heap first us → wpAny (model P w) A (callWith pos f us (backTo pos (starEach args env)) []) (Po w C m VIs s.heap K) No s
/-- which method a name on a value is: the function and the values ahead of the arguments -/
noncomputable def OpG (w : World) (C : Cx) (A : Around) (v : V) (name : Str) (pl : Sem Bool) (m : Loc) (σ : Store) (f : Value) : Prop :=
  ∀ (s : Shared) (u : Value) (Q : Value × List Value → Shared → Prop), Rel w C m σ s → VIs s.heap v u → Q (f, [u]) s → wpAny (model P w) A (getMethod u name pl) Q No s

section
variable {w : World} {C : Cx} {A : Around} {m m₀ : Loc} {σ : Store} {K : V → Store → Prop}

theorem evs_nil {pos : Pos} {env : Env} {K : List V → Store → Prop} (h : K [] σ) : Evs w C A (spliced (backTo pos (starEach [] env))) m σ K := fun s r => args_nil (.now r .nil h)
theorem evs_cons {e : PySem.Expr} {rest : List PySem.Expr} {pos : Pos} {env : Env} {K : List V → Store → Prop}
    (h : Ev w C A (eval e env) m σ (fun v σ₁ => Evs w C A (spliced (backTo pos (starEach rest env))) m σ₁ (fun vs σ₂ => K (v :: vs) σ₂)))
    (he : starEach (e :: rest) env = (false, eval e env) :: starEach rest env) : Evs w C A (spliced (backTo pos (starEach (e :: rest) env))) m σ K := fun s r =>
  args_cons (h.use r fun u s₁ v σ₁ t x r₁ k => k.use r₁ fun us s₂ vs σ₂ t₂ y r₂ k₂ => ⟨t.trans t₂, v :: vs, σ₂, .cons (x.mono t₂) y, r₂, k₂⟩) he

theorem ev_call {func : PySem.Expr} {args : List PySem.Expr} {pos : Pos} {env : Env} (h : Ev w C A (eval func env) m σ (fun v σ₁ => ∃ f, (∀ h u, VIs h v u → u = f) ∧ OpW w C A pos f [] args env m σ₁ K))
    (he : eval (.Call func args [] pos) env = (do callWith pos (← eval func env) [] (backTo pos (starEach args env)) (backToKw pos (keywordEach [] env)))) : Ev w C A (eval (.Call func args [] pos) env) m σ K := fun s r =>
  Call_ (h.use r fun u s₁ v σ₁ t x r₁ ⟨f, e, k⟩ => by
    rw [e _ _ x]; exact post_up (k s₁ [] r₁ .nil) t) he
theorem ev_meth {o : PySem.Expr} {name : Str} {apos pos : Pos} {args : List PySem.Expr} {env : Env} {pl : Sem Bool}
    (h : Ev w C A (eval o env) m σ (fun v σ₁ => ∃ f, OpG w C A v name pl m σ₁ f ∧ OpW w C A pos f [v] args env m σ₁ K))
    (he : eval (.Call (.Attribute o name apos) args [] pos) env = (do
      let ov ← eval o env
      standAt apos.atName
      let (f, first) ← holding [ov] (getMethod ov name pl)
      callWith pos f first (backTo pos (starEach args env)) [])) : Ev w C A (eval (.Call (.Attribute o name apos) args [] pos) env) m σ K := fun s r =>
  MethodCall_ (h.use r fun u s₁ v σ₁ t x r₁ ⟨f, g, k⟩ => g s₁ u _ r₁ x (post_up (k s₁ [u] r₁ (.cons x .nil)) t)) he

theorem opw_ref {pos : Pos} {fa : Addr} {first : List V} {e : PySem.Expr} {rest : List PySem.Expr} {env : Env} (ok : C.Ok) (G : Gd w C.h₀) (hk : keepIn (KK w) (.ref fa) = true)
    (h : Evs w C A (spliced (backTo pos (starEach (e :: rest) env))) m σ (fun vs σ₁ => OpC w C A (.ref fa) (first ++ vs) m σ₁ K))
    (he : starEach (e :: rest) env = (false, eval e env) :: starEach rest env) (hplain : (backTo pos (starEach rest env)).any (·.1) = false) : OpW w C A pos (.ref fa) first (e :: rest) env m σ K := fun s us r y =>
  callWith_K (h₀ := C.h₀) G.X hk (h.use r fun vs s₁ v σ₁ t x r₁ k => ⟨G.X.keeps fun b o q => r₁.keep b o (ok b o q), post_up (k s₁ _ r₁ ((y.mono t).append x)) t⟩) he hplain
theorem opw_ref0 {pos : Pos} {fa : Addr} {first : List V} {env : Env} (ok : C.Ok) (G : Gd w C.h₀) (hk : keepIn (KK w) (.ref fa) = true)
    (h : OpC w C A (.ref fa) first m σ K) : OpW w C A pos (.ref fa) first [] env m σ K := fun s us r y =>
  callWith_K0 (G.X.keeps fun b o q => r.keep b o (ok b o q)) hk (by rw [List.append_nil]; exact h s us r y)
theorem opw_built {pos : Pos} {id : String} {first : List V} {e : PySem.Expr} {rest : List PySem.Expr} {env : Env}
    (h : Evs w C A (spliced (backTo pos (starEach (e :: rest) env))) m σ (fun vs σ₁ => OpC w C A (.builtin id) (first ++ vs) m σ₁ K))
    (he : starEach (e :: rest) env = (false, eval e env) :: starEach rest env) (hplain : (backTo pos (starEach rest env)).any (·.1) = false) : OpW w C A pos (.builtin id) first (e :: rest) env m σ K := fun s us r y =>
  callWith_method1 (h.use r fun vs s₁ v σ₁ t x r₁ k => post_up (k s₁ _ r₁ ((y.mono t).append x)) t) he hplain
theorem opw_built0 {pos : Pos} {id : String} {first : List V} {env : Env} (h : OpC w C A (.builtin id) first m σ K) : OpW w C A pos (.builtin id) first [] env m σ K := fun s us r y =>
  callWith_method0 (h s us r y)
theorem opw_type {pos : Pos} {T : String} {e : PySem.Expr} {rest : List PySem.Expr} {env : Env}
    (h : Evs w C A (spliced (backTo pos (starEach (e :: rest) env))) m σ (fun vs σ₁ => OpC w C A (.type T) vs m σ₁ K))
    (he : starEach (e :: rest) env = (false, eval e env) :: starEach rest env) (hplain : (backTo pos (starEach rest env)).any (·.1) = false) : OpW w C A pos (.type T) [] (e :: rest) env m σ K := fun s us r y => by
  rw [y.nil_inv]
  exact PyProof.Rows.callWith_type1 (h.use r fun vs s₁ v σ₁ t x r₁ k => post_up (k s₁ _ r₁ x) t) he hplain

/-! methods of instances -/
theorem lookIn_cell {h : Heap} {l : List (V × V)} {o : Obj} {name : Str} (hc : CellIs w h (.dict .str l) o) :
    match alook l (.str name) with | some v => ∃ u, lookIn name o = some (some u) ∧ VIs h v u | none => lookIn name o = some none := by
  obtain ⟨es, n, rfl, he, hs, hn⟩ := hc
  unfold lookIn
  have key : ∀ x ∈ l, ∀ e : DictEntry, VIs h x.1 e.key → e.key.isStr name = V.beq x.1 (.str name) := fun x hx e hk => by
    obtain ⟨y, ey, _⟩ := has_str (hs x hx)
    rw [ey] at hk ⊢
    obtain ⟨t, et⟩ := hk.str_inv
    rw [et]; show (y == name) = _; rfl
  have any : es.toList.any (·.refKey) = false := by
    rw [List.any_eq_false]
    intro e hm
    obtain ⟨x, hx, _, hk, _⟩ := he.mem e hm
    obtain ⟨y, ey, _⟩ := has_str (hs x hx)
    rw [ey] at hk
    obtain ⟨t, et⟩ := hk.str_inv
    simp [DictEntry.refKey, et]
  have gen : ∀ (l : List (V × V)) (es : List DictEntry), EntsAre w h l es → (∀ x ∈ l, ∀ e : DictEntry, VIs h x.1 e.key → e.key.isStr name = V.beq x.1 (.str name)) →
      match alook l (.str name) with | some v => ∃ e, es.find? (·.key.isStr name) = some e ∧ VIs h v e.val | none => es.find? (·.key.isStr name) = none := by
    intro l
    induction l with
    | nil => intro es x _; simp only [EntsAre] at x; subst x; rfl
    | cons x l ih =>
      rintro es ⟨e, r, rfl, _, b, c, y⟩ hkey
      unfold alook
      rw [List.find?_cons, List.find?_cons, hkey x List.mem_cons_self e b]
      cases hx : V.beq x.1 (.str name) with
      | true => exact ⟨e, rfl, c⟩
      | false => exact ih r y fun z hz => hkey z (List.mem_cons_of_mem _ hz)
  have g := gen l es.toList he key
  cases ha : alook l (.str name) with
  | some v =>
    rw [ha] at g
    obtain ⟨e, q, k⟩ := g
    exact ⟨e.val, by show (match es.toList.find? (·.key.isStr name) with | some e => some (some e.val) | none => _) = _; rw [q], k⟩
  | none =>
    rw [ha] at g
    show (match es.toList.find? (·.key.isStr name) with | some e => some (some e.val) | none => if es.toList.any (·.refKey) then none else some none) = _
    simp only at g
    rw [g, any]; rfl

theorem instAt {s : Shared} {x Cl dx : Addr} {l : List (V × V)} (hp : Hp w σ s) (hx : σ x = some (.inst Cl dx)) (hd : σ dx = some (.dict .str l)) : ∃ od, InstAt s.heap x (instObj Cl dx) Cl (some od) ∧ s.heap.get? dx = some od ∧ CellIs w s.heap (.dict .str l) od := by
  obtain ⟨o, g, e⟩ := hp.cells x _ hx
  cases e
  obtain ⟨od, g', k⟩ := hp.cells dx _ hd
  exact ⟨od, ⟨g, rfl, rfl, g'⟩, g', k⟩

theorem opg_inst {x Cl dx f : Addr} {l : List (V × V)} {name : Str} {pl : Sem Bool} (ok : C.Ok) (G : Gd w C.h₀) (hx : σ x = some (.inst Cl dx)) (hd : σ dx = some (.dict .str l)) (hs : alook l (.str name) = none)
    (hga : findIn (KK w) (.ref Cl) "__getattribute__" = some (some (.builtin "object.__getattribute__"))) (hk : findIn (KK w) (.ref Cl) "__getattr__" = some none)
    (hf : findIn (KK w) (.ref Cl) name = some (some (.ref f))) (ht : typeIn (KK w) (.ref f) = some (.type "function")) : OpG w C A (.ref x) name pl m σ (.ref f) := fun s u Q r y q => by
  obtain ⟨od, I, g, k⟩ := instAt r.hp hx hd
  have := lookIn_cell (name := name) k
  rw [hs] at this
  rw [y.ref_inv] at q ⊢
  exact method_fn (G.X.keeps fun b o e => r.keep b o (ok b o e)) I hga hk hf ht (by simp only [shadowIn]; rw [this]; rfl) q

theorem opg_list {a : Addr} {l : List V} {name : Str} {id : String} {pl : Sem Bool} (ha : σ a = some (.list l)) (slot : Slot "list" name id) (hty : typeOf (.builtin id) = pure (.type "method_descriptor")) : OpG w C A (.ref a) name pl m σ (.builtin id) := fun s u Q r y q => by
  obtain ⟨vs, n, g, _⟩ := isList_of r.hp ha
  rw [y.ref_inv] at q ⊢
  exact getMethod_builtin (T := "list") ⟨_, g, rfl⟩ PySem.F.plainAttrs_list slot hty (fun b e => by cases e; exact ⟨_, g, rfl⟩) q
theorem opg_dict {a : Addr} {k : DK} {l : List (V × V)} {name : Str} {id : String} {pl : Sem Bool} (ha : σ a = some (.dict k l)) (slot : Slot "dict" name id) (hty : typeOf (.builtin id) = pure (.type "method_descriptor")) : OpG w C A (.ref a) name pl m σ (.builtin id) := fun s u Q r y q => by
  obtain ⟨o, g, es, n, rfl, _⟩ := r.hp.cells a _ ha
  rw [y.ref_inv] at q ⊢
  exact getMethod_builtin (T := "dict") ⟨_, g, rfl⟩ PySem.F.plainAttrs_dict slot hty (fun b e => by cases e; exact ⟨_, g, rfl⟩) q
theorem opg_str {x : Str} {name : Str} {id : String} {pl : Sem Bool} (slot : Slot "str" name id) (hty : typeOf (.builtin id) = pure (.type "method_descriptor")) : OpG w C A (.str x) name pl m σ (.builtin id) := fun s u Q r y q => by
  obtain ⟨t, rfl⟩ := y.str_inv
  exact getMethod_builtin (T := "str") (PySem.typeIs_str s x t) PySem.F.plainAttrs_str slot hty (fun b e => by cases e) q

/-! calls of the text's own functions -/
noncomputable def CPo (w : World) (σ : Store) (s : Shared) (K : V → Store → Prop) (u : Value) (s' : Shared) : Prop :=
  (∀ b o, s.heap.get? b = some o → σ b = none → s'.heap.get? b = some o) ∧ s'.os = s.os ∧ ∃ v σ', VIs s'.heap v u ∧ Hp w σ' s' ∧ (∀ a c, σ' a = some c → σ a = none → s.heap.get? a = none) ∧ K v σ'
noncomputable def CallW (w : World) (h₀ : Heap) (A : Around) (f : Value) (vs : List V) (σ : Store) (K : V → Store → Prop) : Prop :=
  ∀ s us, Hp w σ s → (∀ b o, h₀.get? b = some o → s.heap.get? b = some o ∧ σ b = none) → sysModules < s.heap.objs.size → VAll s.heap vs us → wpAny (model P w) A (call f us) (CPo w σ s K) No s

/-- the same of a call's code -/
noncomputable def CallC (w : World) (h₀ : Heap) (A : Around) (f : Value) (vs : List V) (σ : Store) (K : V → Store → Prop) : Prop :=
  ∀ s us, Hp w σ s → (∀ b o, h₀.get? b = some o → s.heap.get? b = some o ∧ σ b = none) → sysModules < s.heap.objs.size → VAll s.heap vs us → codeAny (model P w) A (.call f ⟨us, []⟩) (fun r s' => match r with | .ok (.ret v) => CPo w σ s K v s' | .ok _ => False | .error e => No e s') s
theorem CallC.call {h₀ : Heap} {f : Value} {vs : List V} (h : CallC w h₀ A f vs σ K) : CallW w h₀ A f vs σ K := fun s us hp hk hs y => wpAny_call (h s us hp hk hs y)

theorem CPo.tupLe {s s' : Shared} {u : Value} (hp : Hp w σ s) (x : CPo w σ s K u s') : TupLe s.heap s'.heap := fun a vs n e => x.1 a _ e (by
  cases q : σ a with
  | none => rfl
  | some c => obtain ⟨o, g, k⟩ := hp.cells a c q; rw [g] at e; exact absurd (Option.some.inj e) (k.notTup vs n))
theorem Rel.after {s s' : Shared} {σ' : Store} (r : Rel w C m σ s) (hk : ∀ b o, s.heap.get? b = some o → σ b = none → s'.heap.get? b = some o) (ho : s'.os = s.os) (tl : TupLe s.heap s'.heap) (hp : Hp w σ' s') (hn : ∀ a c, σ' a = some c → σ a = none → s.heap.get? a = none) : Rel w C m σ' s' := by
  have off : ∀ b, (∀ c, σ b = some c → False) → σ b = none := fun b h => by cases q : σ b with | none => rfl | some c => exact (h c q).elim
  refine ⟨hp, r.lo, ho.trans r.os, fun b o e => hk b o (r.keep b o e) (off b fun c q => by rw [(r.apart b c q).1] at e; cases e), ?_, fun x c e => ?_, fun a c e => ?_⟩
  · obtain ⟨mv, n, q⟩ := r.ns
    exact ⟨mv, Heap.Ns_at n fun o e => hk _ o e (off _ fun c q => (r.apart _ c q).2.1 rfl), fun y v e1 e2 => let ⟨u, p, z⟩ := q y v e1 e2; ⟨u, p, z.mono tl⟩⟩
  · obtain ⟨u, ⟨oc, ec, dc⟩, q⟩ := r.cl x c e
    exact ⟨u, ⟨oc, hk _ oc ec (off _ fun c' q => (r.apart _ c' q).2.2 x c e rfl), dc⟩, fun v e1 => let ⟨u', p, z⟩ := q v e1; ⟨u', p, z.mono tl⟩⟩
  · cases q : σ a with
    | some c' => exact r.apart a c' q
    | none =>
      have fr := hn a c e q
      refine ⟨?_, ?_, fun x c' e' => ?_⟩
      · cases p : C.base a with
        | none => rfl
        | some o => rw [r.keep a o p] at fr; cases fr
      · intro q; obtain ⟨mv, ⟨o, es, ep, g, _⟩, _⟩ := r.ns; rw [← q, fr] at g; cases g
      · intro q; obtain ⟨u, ⟨oc, ec, _⟩, _⟩ := r.cl x c' e'; rw [← q, fr] at ec; cases ec

theorem opc_fn {f : Value} {vs : List V} (ok : C.Ok) (h : CallW w C.h₀ A f vs σ K) : OpC w C A f vs m σ K := fun s us r y =>
  wpAny_mono (h s us r.hp (fun b o e => ⟨r.keep b o (ok b o e), by cases q : σ b with | none => rfl | some c => have := (r.apart b c q).1; rw [ok b o e] at this; cases this⟩) r.top y) (fun u s' x => by
    have tl := x.tupLe r.hp
    obtain ⟨a, b, v, σ', c, d, e, f⟩ := x
    exact ⟨tl, v, σ', c, r.after a b tl d e, f⟩) (fun _ _ e => e)
/-! a body entered -/
noncomputable def bindM : List (Str × V) → Loc → Loc
  | [], m => m
  | (n, v) :: r, m => bindM r (set m n v)
noncomputable def BindsOk (fd : FuncData) (names : List Str) : Prop := ∀ L : Addr, ∀ n ∈ names, (fd.scope.names.lookup n = some .local ∧ (cellsFrom (L + 1) fd.scope.names []).lookup n = none) ∨ (fd.scope.names.lookup n = some .cell ∧ ((cellsFrom (L + 1) fd.scope.names []).lookup n).isSome = true)

theorem bind_rel {h : Heap} {env : Env} : ∀ (names : List Str) (vs : List V) (us : List Value) (m : Loc) (mv cm : Str → Option Value), VAll h vs us → names.length = vs.length →
    (∀ n ∈ names, (env.kindOf n = some .local ∧ env.cells.lookup n = none) ∨ (env.kindOf n = some .cell ∧ (env.cells.lookup n).isSome = true)) →
    (∀ x v, m x = some v → (env.cells.lookup x = none → ∃ u, mv x = some u ∧ VIs h v u) ∧ (∀ c, env.cells.lookup x = some c → ∃ u, cm x = some u ∧ VIs h v u)) →
    ∀ x v, bindM (names.zip vs) m x = some v → (env.cells.lookup x = none → ∃ u, bindL env.kindOf (names.zip us) mv x = some u ∧ VIs h v u) ∧ (∀ c, env.cells.lookup x = some c → ∃ u, bindC env.kindOf (names.zip us) cm x = some u ∧ VIs h v u)
  | [], vs, us, m, mv, cm, y, hl, hk, hm => by cases vs with | nil => exact hm | cons => cases hl
  | n :: names, [], us, m, mv, cm, y, hl, hk, hm => by cases hl
  | n :: names, v :: vs, us, m, mv, cm, y, hl, hk, hm => by
    obtain ⟨u, ur, rfl, a, b⟩ := y.cons_inv
    refine bind_rel names vs ur (set m n v) (if env.kindOf n = some .local then fun y => if y = n then some u else mv y else mv) (if env.kindOf n = some .local then cm else fun y => if y = n then some u else cm y) b (by simpa using hl) (fun k hk' => hk k (List.mem_cons_of_mem _ hk')) fun x w' e => ?_
    unfold set at e
    rcases hk n List.mem_cons_self with ⟨h1, h2⟩ | ⟨h1, h2⟩
    · rw [if_pos h1, if_pos h1]
      by_cases hx : x = n
      · subst hx
        rw [if_pos rfl] at e; cases e
        exact ⟨fun _ => ⟨u, by simp, a⟩, fun c hc => by rw [h2] at hc; cases hc⟩
      · rw [if_neg hx] at e
        obtain ⟨p, q⟩ := hm x w' e
        exact ⟨fun hc => by simpa [hx] using p hc, q⟩
    · have hnl : ¬ env.kindOf n = some .local := by rw [h1]; decide
      rw [if_neg hnl, if_neg hnl]
      by_cases hx : x = n
      · subst hx
        rw [if_pos rfl] at e; cases e
        exact ⟨fun hc => (by rw [hc] at h2; cases h2), fun c _ => ⟨u, by simp, a⟩⟩
      · rw [if_neg hx] at e
        obtain ⟨p, q⟩ := hm x w' e
        exact ⟨p, fun c hc => by simpa [hx] using q c hc⟩

theorem pairwise_uniq {α : Type} [BEq α] [LawfulBEq α] : ∀ {l : List (α × Addr)}, (l.Pairwise fun x y => x.2 ≠ y.2) → ∀ {x y : α} {c : Addr}, l.lookup x = some c → l.lookup y = some c → x = y := fun {l} hp {x y c} h h' => by
  induction l with
  | nil => cases h
  | cons p l ih =>
    obtain ⟨k, a⟩ := p
    obtain ⟨h1, h2⟩ := List.pairwise_cons.mp hp
    have mem : ∀ (l : List (α × Addr)) (z : α), l.lookup z = some c → ∃ q ∈ l, q.2 = c := fun l z e => by
      induction l with
      | nil => cases e
      | cons q l ih2 =>
        obtain ⟨kq, aq⟩ := q
        rw [List.lookup_cons] at e
        cases e1 : z == kq with
        | true => rw [e1] at e; cases e; exact ⟨_, List.mem_cons_self, rfl⟩
        | false => rw [e1] at e; obtain ⟨r, hr, er⟩ := ih2 e; exact ⟨r, List.mem_cons_of_mem _ hr, er⟩
    rw [List.lookup_cons] at h h'
    cases e1 : x == k with
    | true =>
      rw [e1] at h
      cases e2 : y == k with
      | true => rw [eq_of_beq e1, eq_of_beq e2]
      | false => rw [e2] at h'; cases h; obtain ⟨q, hq, eq⟩ := mem l y h'; exact absurd eq.symm (h1 q hq)
    | false =>
      rw [e1] at h
      cases e2 : y == k with
      | true => rw [e2] at h'; cases h'; obtain ⟨q, hq, eq⟩ := mem l x h; exact absurd eq.symm (h1 q hq)
      | false => rw [e2] at h'; exact ih h2 h h'

theorem enter {h₀ : Heap} {fa : Addr} {fd : FuncData} {body : List Stmt} {names : List Str} {vs : List V} {oc : Value} {od : Option Addr} {osl : Array (Option Value)} (G : Gd w h₀) (hroom : A.depth < recursionLimit)
    (hfd : (KK w).lookup fa = some ⟨oc, od, .func fd, osl⟩) (hcd : codeIn (KK w) fd.code fd.qualname = true) (hbody : fd.body = .stmts body) (hclo : fd.closure = [])
    (hbind : ∀ us : List Value, us.length = names.length → bindArgs fd ⟨us, []⟩ = pure (names.zip us)) (hlen : names.length = vs.length) (hok : BindsOk fd names)
    (hco : fd.scope.isCoroutine = false) (hgen : fd.scope.isGenerator = false) (hk : fd.scope.kind = .function)
    (h : ∀ L base os, (Cx.mk h₀ base (callEnvC fd L fa) os).Ok → (Cx.mk h₀ base (callEnvC fd L fa) os).Own →
      Ex w ⟨h₀, base, callEnvC fd L fa, os⟩ (A.deeper (callEnvC fd L fa)) (execs body (callEnvC fd L fa)) (bindM (names.zip vs) fun _ => none) σ (fun _ σ' => K .none σ') (fun v σ' => K v σ')) :
    CallC w h₀ A (.ref fa) vs σ K := fun s us hp h0 hs y => by
  have X : (KK w).In s.heap := G.X.keeps fun b o e => (h0 b o e).1
  have hul : us.length = names.length := by rw [y.length, hlen]
  refine codeAny_call_cells (fd := fd) (binds := names.zip us) hroom (X _ _ hfd) rfl (G.lim.keeps fun b o e => (h0 b o e).1) (codeRec_of X hcd) hbody (hbind us hul) hclo (fun x hx => ?_) (fun s₁ x => ?_) hco hgen hk
  · have : x.1 ∈ names := (List.of_mem_zip (a := x.1) (b := x.2) hx).1
    rcases hok s.heap.objs.size x.1 this with ⟨a, _⟩ | b
    · exact .inl a
    · exact .inr b
  · let env := callEnvC fd s.heap.objs.size fa
    let C : Cx := ⟨h₀, fun b => if (σ b).isNone then s.heap.get? b else none, env, s.os⟩
    obtain ⟨⟨h₁, tk, e₁⟩, hns, hkeep, hfresh⟩ := x.toInCall
    have cok : C.Ok := fun b o e => by show (if (σ b).isNone then s.heap.get? b else none) = some o; rw [(h0 b o e).2]; exact (h0 b o e).1
    have tl : TupLe s.heap s₁.heap := TupLe.of_keeps hkeep
    have fr : ∀ a, s.heap.objs.size ≤ a → s.heap.get? a = none := fun a ha => by
      cases q : s.heap.get? a with
      | none => rfl
      | some o => exact absurd (Heap.lt_size q) (Nat.not_lt.mpr ha)
    have fb : ∀ a, s.heap.objs.size ≤ a → C.base a = none := fun a ha => by
      show (if (σ a).isNone then s.heap.get? a else none) = none
      rw [fr a ha]; split <;> rfl
    have hcl : ∀ z c, env.cells.lookup z = some c → s.heap.objs.size < c := fun z c e => x.above z c (mem_of_lookup e)
    have own : C.Own := ⟨fun z c e => ⟨fb c (Nat.le_of_lt (hcl z c e)), Nat.ne_of_gt (hcl z c e)⟩, fun z z' c e e' => pairwise_uniq x.apart e e', fb _ (Nat.le_refl _)⟩
    have br := bind_rel (h := s₁.heap) (env := env) names vs us (fun _ => none) (fun _ => none) (fun _ => none) (y.mono tl) hlen (fun n hn => hok s.heap.objs.size n hn) (fun z v e => by cases e)
    have rel : Rel w C (bindM (names.zip vs) fun _ => none) σ s₁ := by
      refine ⟨⟨fun a c e => ?_, hp.lo, ?_⟩, hs, by rw [e₁], fun b o e => ?_, ⟨_, hns, fun z v e ec => (br z v e).1 ec⟩, fun z c e => ⟨_, x.cell z c e, fun v ev => (br z v ev).2 c e⟩, fun a c e => ?_⟩
      · obtain ⟨o, g, k⟩ := hp.cells a c e; exact ⟨o, hkeep _ _ g, k.mono tl⟩
      · rw [e₁]; exact hp.gens
      · have e : (if (σ b).isNone then s.heap.get? b else none) = some o := e
        split at e
        · exact hkeep b o e
        · cases e
      · obtain ⟨o, g, _⟩ := hp.cells a c e
        have hlt := Heap.lt_size g
        exact ⟨by show (if (σ a).isNone then _ else none) = none; rw [e]; rfl, Nat.ne_of_lt hlt, fun z c' e' => Nat.ne_of_lt (Nat.lt_trans hlt (hcl z c' e'))⟩
    have back : ∀ {v : V} {u : Value} {m' : Loc} {σ' : Store} {s' : Shared}, TupLe s₁.heap s'.heap → VIs s'.heap v u → Rel w C m' σ' s' → K v σ' → CPo w σ s K u s' := fun {v u m' σ' s'} t yv r k => by
      refine ⟨fun b o e hb => r.keep b o (by show (if (σ b).isNone then s.heap.get? b else none) = some o; rw [hb]; exact e), r.os, v, σ', yv, r.hp, fun a c e ha => ?_, k⟩
      have := (r.apart a c e).1
      have this : (if (σ a).isNone then s.heap.get? a else none) = none := this
      rw [ha] at this; exact this
    refine wpAny_mono (h s.heap.objs.size C.base s.os cok own s₁ rel) (fun f s' ⟨t, q⟩ => ?_) (fun _ _ e => e.elim)
    cases f with
    | next => obtain ⟨m', σ', r, k⟩ := q; exact back t vis_none r k
    | ret u => obtain ⟨v, m', σ', yv, r, k⟩ := q; exact back t yv r k
    | brk => exact q.elim
    | cont => exact q.elim
end
/-- a value with items -/
noncomputable def IsSub (w : World) (σ : Store) (v : V) : Prop := ∀ s u, Hp w σ s → VIs s.heap v u → ∃ T id, s.TypeIs u T ∧ typeLookup (.type T) "__getitem__" = pure (some (.builtin id))
/-- a store of an item -/
noncomputable def SetI (w : World) (C : Cx) (A : Around) (ov iv v : V) (m : Loc) (σ : Store) (N : Store → Prop) : Prop :=
  ∀ s u₁ u₂ u₃, Rel w C m σ s → VIs s.heap ov u₁ → VIs s.heap iv u₂ → VIs s.heap v u₃ → wpAny (model P w) A (setItem u₁ u₂ u₃) (fun _ s' => TupLe s.heap s'.heap ∧ ∃ σ', Rel w C m σ' s' ∧ N σ') No s
noncomputable def SetA (w : World) (C : Cx) (A : Around) (ov : V) (name : Str) (v : V) (m : Loc) (σ : Store) (N : Store → Prop) : Prop :=
  ∀ s u₁ u₃, Rel w C m σ s → VIs s.heap ov u₁ → VIs s.heap v u₃ → wpAny (model P w) A (setAttr u₁ name u₃) (fun _ s' => TupLe s.heap s'.heap ∧ ∃ σ', Rel w C m σ' s' ∧ N σ') No s

section
variable {w : World} {C : Cx} {A : Around} {m m₀ : Loc} {σ : Store} {K : V → Store → Prop} {N : Loc → Store → Prop} {R : V → Store → Prop}

theorem sb_dict {a : Addr} {k : DK} {l : List (V × V)} (ha : σ a = some (.dict k l)) : IsSub w σ (.ref a) := fun s u hp x => by
  obtain ⟨o, g, es, n, rfl, _⟩ := hp.cells a _ ha
  rw [x.ref_inv]; exact ⟨_, _, ⟨_, g, rfl⟩, slot_dict_getitem.lookup⟩
theorem sb_list {a : Addr} {l : List V} (ha : σ a = some (.list l)) : IsSub w σ (.ref a) := fun s u hp x => by
  obtain ⟨vs, n, g, _⟩ := isList_of hp ha
  rw [x.ref_inv]; exact ⟨_, _, ⟨_, g, rfl⟩, slot_list_getitem.lookup⟩
theorem sb_tup {l : List V} : IsSub w σ (.tup l) := fun s u hp x => ⟨_, _, typeIs_tup x s rfl, PySem.F.slot_tuple_getitem.lookup⟩
theorem sb_str {x : Str} : IsSub w σ (.str x) := fun s u hp x => by
  obtain ⟨t, rfl⟩ := x.str_inv; exact ⟨_, _, PySem.typeIs_str s _ t, slot_str_getitem.lookup⟩

theorem ev_sub {value slice : PySem.Expr} {pos : Pos} {env : Env}
    (h : Ev w C A (eval value env) m σ (fun v₁ σ₁ => Ev w C A (eval slice env) m σ₁ (fun v₂ σ₂ => IsSub w σ₂ v₁ ∧ Op2 w C A getItem v₁ v₂ m σ₂ K)))
    (hs : ∀ o i, ∃ ops, subscripted slice false o i = operate ops (getItem o i)) : Ev w C A (eval (.Subscript value slice pos) env) m σ K := fun s rel =>
  Subscript_ (h.use rel fun u₁ s₁ v₁ σ₁ t₁ x₁ r₁ k₁ => k₁.use r₁ fun u₂ s₂ v₂ σ₂ t₂ x₂ r₂ ⟨sb, k₂⟩ => by
    obtain ⟨T, id, hT, hl⟩ := sb s₂ u₁ r₂.hp (x₁.mono t₂)
    obtain ⟨ops, e⟩ := hs u₁ u₂
    exact tail_any hT hl (post_up (k₂ s₂ u₁ u₂ r₂ (x₁.mono t₂) x₂) (t₁.trans t₂)) e)

theorem get_dict {a : Addr} {k : DK} {l : List (V × V)} {key v : V} (hu : A.units + 72 < cLine) (hf : k.fits) (ha : σ a = some (.dict k l)) (hk : V.has k.sh key) (hl : alook l key = some v) (h : K v σ) :
    Op2 w C A getItem (.ref a) key m σ K := fun s u₁ u₂ r x y => by
  rw [x.ref_inv]
  obtain ⟨o, g, hc⟩ := r.hp.cells a _ ha
  have hT : s.TypeIs (.ref a) "dict" := by obtain ⟨es, n, rfl, _⟩ := hc; exact ⟨_, g, rfl⟩
  unfold getItem
  try with_reducible refine wpAny_holding ?_
  refine wpAny_bind (wpAny_sequenceKey hT (by decide) ?_)
  refine wpAny_bind (wpAny_callSpecial?_slot (name := Str.ofString "__getitem__") hT slot_dict_getitem
    (wpAny_call_entry slot_dict_getitem hT entry_dict_getitem ?_ (args_dict_getitem _ _)))
  show wpAny _ _ (dictGet a u₂ >>= _) _ _ s
  refine wpAny_bind (get_cell (by show A.units + 1 + 64 < cLine; omega) hf g hc hk y fun rv t q => ?_)
  rw [hl] at q
  obtain ⟨v', rfl, yv⟩ := q
  exact wpAny_pure ⟨v', rfl, wpAny_pure (.here r yv h)⟩

theorem contains_dict {a : Addr} {k : DK} {l : List (V × V)} {key : V} {u : Value} {Q : Bool → Shared → Prop} {E : Value → Shared → Prop} {s : Shared} (hu : A.units + 72 < cLine) (hf : k.fits) (ha : σ a = some (.dict k l)) (hk : V.has k.sh key) (hp : Hp w σ s) (y : VIs s.heap key u)
    (h : ∀ t, Q (alook l key).isSome { s with toks := t }) : wpAny (model P w) A (contains (.ref a) u) Q E s := by
  obtain ⟨o, g, hc⟩ := hp.cells a _ ha
  have hT : s.TypeIs (.ref a) "dict" := by obtain ⟨es, n, rfl, _⟩ := hc; exact ⟨_, g, rfl⟩
  unfold contains
  try with_reducible refine wpAny_holding ?_
  refine wpAny_bind (wpAny_specialOf hT slot_dict_contains.lookup ?_)
  show wpAny _ _ (if (some (Value.builtin "dict.__contains__") == some Value.none) = true then _ else _) _ E s
  rw [if_neg (by rw [beq_builtin_none]; exact Bool.false_ne_true)]
  refine wpAny_bind (wpAny_callSpecialUnlessNone?_slot (name := Str.ofString "__contains__") hT slot_dict_contains
    (wpAny_call_entry slot_dict_contains hT entry_dict_contains ?_ (args_dict_contains _ _)))
  show wpAny _ _ (dictGet a u >>= _) _ _ s
  refine wpAny_bind (get_cell (by show A.units + 1 + 64 < cLine; omega) hf g hc hk y fun rv t q => ?_)
  have h := h t
  cases hl : alook l key with
  | some v =>
    rw [hl] at h q
    obtain ⟨v', rfl, yv⟩ := q
    show wpAny _ _ (ret (.bool true)) _ _ _
    exact wpAny_pure ⟨_, rfl, wpAny_truthy_bool h⟩
  | none =>
    rw [hl] at h q
    cases q
    show wpAny _ _ (Builtin.Dict.pendingKey? a u >>= _) _ _ _
    exact wpAny_bind (wpAny_pendingKey_other (hp.notMods ha) (wpAny_pure ⟨_, rfl, wpAny_truthy_bool h⟩))

theorem in_dict {a : Addr} {k : DK} {l : List (V × V)} {key : V} (hu : A.units + 72 < cLine) (hf : k.fits) (ha : σ a = some (.dict k l)) (hk : V.has k.sh key) (h : K (.bool (alook l key).isSome) σ) :
    Op2 w C A (compareOp .In) key (.ref a) m σ K := fun s u₁ u₂ r y x => by
  rw [x.ref_inv]
  show wpAny _ _ (do return Value.bool (← contains (.ref a) u₁)) _ _ s
  exact wpAny_bind (contains_dict hu hf ha hk r.hp y fun t => wpAny_pure (.here r vis_bool h))
theorem notIn_dict {a : Addr} {k : DK} {l : List (V × V)} {key : V} (hu : A.units + 72 < cLine) (hf : k.fits) (ha : σ a = some (.dict k l)) (hk : V.has k.sh key) (h : K (.bool (!(alook l key).isSome)) σ) :
    Op2 w C A (compareOp .NotIn) key (.ref a) m σ K := fun s u₁ u₂ r y x => by
  rw [x.ref_inv]
  show wpAny _ _ (do return Value.bool (!(← contains (.ref a) u₁))) _ _ s
  exact wpAny_bind (contains_dict hu hf ha hk r.hp y fun t => wpAny_pure (.here r vis_bool h))

theorem set_item {a : Addr} {k : DK} {l : List (V × V)} {key v : V} {N : Store → Prop} (hu : A.units + 72 < cLine) (hf : k.fits) (ha : σ a = some (.dict k l)) (hk : V.has k.sh key) (hz : l.length ≤ sizeLine) (h : N (upd σ a (.dict k (aput l key v)))) :
    SetI w C A (.ref a) key v m σ N := fun s u₁ u₂ u₃ r x y z => by
  rw [x.ref_inv]
  obtain ⟨o, g, hc⟩ := r.hp.cells a _ ha
  have hT : s.TypeIs (.ref a) "dict" := by obtain ⟨es, n, rfl, _⟩ := hc; exact ⟨_, g, rfl⟩
  unfold setItem
  try with_reducible refine wpAny_holding ?_
  refine wpAny_bind (wpAny_sequenceKey hT (by decide) ?_)
  refine wpAny_bind (wpAny_callSpecial?_slot (name := Str.ofString "__setitem__") hT slot_dict_setitem
    (wpAny_call_entry slot_dict_setitem hT entry_dict_setitem ?_ (args_dict_setitem _ _ _)))
  show wpAny _ _ (Builtin.Dict.notOrdered "__setitem__" ⟨[.ref a, u₂, u₃], []⟩ >>= _) _ _ s
  refine wpAny_bind (wpAny_notOrdered_dict hT ?_)
  show wpAny _ _ (dictSet a u₂ u₃ >>= _) _ _ s
  refine wpAny_bind (set_cell (by show A.units + 1 + 64 < cLine; omega) hf g hc hk y z hz fun h' o' t g' hc' sb => wpAny_pure ⟨.none, rfl, wpAny_pure ?_⟩)
  obtain ⟨tl, r'⟩ := r.change (t := t) ha sb g' hc'
  exact ⟨tl, _, r', h⟩

theorem ex_setitem {o i value : PySem.Expr} {pos' pos : Pos} {env : Env}
    (h : Ev w C A (eval value env) m σ (fun v σ₁ => Ev w C A (eval o env) m σ₁ (fun ov σ₂ => Ev w C A (eval i env) m σ₂ (fun iv σ₃ => SetI w C A ov iv v m σ₃ (fun σ₄ => N m σ₄)))))
    (hs : swapsWith value (some (.Subscript o i pos')) pos.line env = pure false) : Ex w C A (exec (.Assign [.Subscript o i pos'] value pos) env) m σ N R := fun s r =>
  wpAny_Assign_Subscript (h.use r fun u s₁ v σ₁ t y r₁ k => k.use r₁ fun u₂ s₂ v₂ σ₂ t₂ y₂ r₂ k₂ => k₂.use r₂ fun u₃ s₃ v₃ σ₃ t₃ y₃ r₃ k₃ =>
    wpAny_mono (k₃ s₃ u₂ u₃ u r₃ (y₂.mono t₃) y₃ (y.mono (t₂.trans t₃))) (fun _ s₄ ⟨t₄, σ₄, r₄, n⟩ => ⟨((t.trans t₂).trans t₃).trans t₄, m, σ₄, r₄, n⟩) (fun _ _ e => e)) hs

theorem ex_setattr {o value : PySem.Expr} {attr : Str} {pos' pos : Pos} {env : Env}
    (h : Ev w C A (eval value env) m σ (fun v σ₁ => Ev w C A (eval o env) m σ₁ (fun ov σ₂ => SetA w C A ov attr v m σ₂ (fun σ₄ => N m σ₄))))
    (hs : swapsWith value (some (.Attribute o attr pos')) pos.line env = pure false) : Ex w C A (exec (.Assign [.Attribute o attr pos'] value pos) env) m σ N R := fun s r =>
  plainObj_wpAny_Assign_Attribute (h.use r fun u s₁ v σ₁ t y r₁ k => k.use r₁ fun u₂ s₂ v₂ σ₂ t₂ y₂ r₂ k₂ =>
    wpAny_mono (k₂ s₂ u₂ u r₂ y₂ (y.mono t₂)) (fun _ s₄ ⟨t₄, σ₄, r₄, n⟩ => ⟨(t.trans t₂).trans t₄, m, σ₄, r₄, n⟩) (fun _ _ e => e)) hs

/-! attributes -/
theorem ev_attr {value : PySem.Expr} {attr : Str} {pos : Pos} {env : Env} (h : Ev w C A (eval value env) m σ (fun v σ₁ => Op1 w C A VIs (fun o => getAttr o attr true) v m σ₁ K))
    (he : eval (.Attribute value attr pos) env = (do
      let o ← eval value env
      standAt pos.atName
      let r ← holding [o] (getAttr o attr true)
      letTemporaryGo value o r
      pure r)) : Ev w C A (eval (.Attribute value attr pos) env) m σ K := fun s r =>
  Attribute_any_ (h.use r fun u₁ s₁ v₁ σ₁ t₁ x₁ r₁ k₁ => post_up (k₁ s₁ u₁ r₁ x₁) t₁) he
theorem handed_V {h : Heap} {v : V} {u : Value} (x : VIs h v u) (hv : ∀ r, v ≠ .raw r) : handedIn u = true := by
  cases v with
  | none => rw [x.none_inv]; rfl
  | bool => rw [x.bool_inv]; rfl
  | int => obtain ⟨t, rfl⟩ := x.int_inv; rfl
  | str => obtain ⟨t, rfl⟩ := x.str_inv; rfl
  | tup l => obtain ⟨a, n, vs, rfl, _⟩ := x.tup_inv; rfl
  | ref a => rw [x.ref_inv]; rfl
  | raw r => exact absurd rfl (hv r)
theorem get_attr {x Cl dx : Addr} {l : List (V × V)} {name : Str} {v : V} (ok : C.Ok) (G : Gd w C.h₀) (hx : σ x = some (.inst Cl dx)) (hd : σ dx = some (.dict .str l)) (hl : alook l (.str name) = some v) (hv : ∀ r, v ≠ .raw r)
    (hg : plainGet (KK w) Cl name = true) (hh : hasDictIn (KK w) Cl = true) (ha : findIn (KK w) (.ref Cl) name = some none) (h : K v σ) : Op1 w C A VIs (fun o => getAttr o name true) (.ref x) m σ K := fun s u r y => by
  obtain ⟨od, I, g, k⟩ := instAt r.hp hx hd
  have lk := lookIn_cell (name := name) k
  rw [hl] at lk
  obtain ⟨uv, e, yv⟩ := lk
  rw [y.ref_inv]
  exact get_value (G.X.keeps fun b o e => r.keep b o (ok b o e)) I (plainGet_of hg).1 (findObj_own hh ha rfl e) (handed_V yv hv) (.here r yv h)

theorem set_attr {x Cl dx : Addr} {l : List (V × V)} {name : Str} {v : V} {N : Store → Prop} (ok : C.Ok) (G : Gd w C.h₀) (hx : σ x = some (.inst Cl dx)) (hd : σ dx = some (.dict .str l)) (hn : PyData.strOk name = true)
    (hs : findIn (KK w) (.ref Cl) "__setattr__" = some (some (.builtin "object.__setattr__"))) (hp : plainOver (KK w) Cl = true) (ht : takerIn (KK w) Cl name = some none) (hh : hasDictIn (KK w) Cl = true) (hz : l.length ≤ 900)
    (h : N (upd σ dx (.dict .str (aput l (.str name) v)))) : SetA w C A (.ref x) name v m σ N := fun s u u₃ r y z => by
  obtain ⟨od, I, g, k⟩ := instAt r.hp hx hd
  have X : (KK w).In s.heap := G.X.keeps fun b o e => r.keep b o (ok b o e)
  rw [y.ref_inv]
  refine set_plain X I hs (osa_open (s := { s with toks := s.toks + 1 }) X I hp ht fun b => ?_)
  obtain ⟨cd, hc, hd'⟩ := any_some hh
  obtain ⟨hx', hcl, hn', -⟩ := I
  unfold instObj at hx'
  have lk := lookIn_cell (name := name) k
  have knt := k.notTup
  obtain ⟨es, n, rfl, he, hks, hnd⟩ := k
  refine wpAny_bind (wpAny_pure (wpAny_bind (wpAny_bind (wpAny_loadPart hx' (wpAny_bind ?_)))))
  refine (looks_clsIn X hc).here (s := { s with toks := s.toks + 1 }) ?_
  rw [hd']
  refine wpAny_pure (a := some dx) (wpAny_bind (wpAny_pure (wpAny_bind ?_)))
  unfold nsSet
  refine wpAny_bind (wpAny_bind (wpAny_askSetting (wpAny_pure (wpAny_bind (wpAny_mkText (wpAny_bind (wpAny_loadPart g ?_)))))))
  dsimp only
  have key : ∀ x ∈ l, ∀ e : DictEntry, VIs s.heap x.1 e.key → e.key.isStr name = V.beq x.1 (.str name) := fun x hx e hk => by
    obtain ⟨y, ey, _⟩ := has_str (hks x hx)
    rw [ey] at hk ⊢
    obtain ⟨t, et⟩ := hk.str_inv
    rw [et]; show (y == name) = _; rfl
  have any : es.toList.any (·.refKey) = false := by
    rw [List.any_eq_false]
    intro e hm
    obtain ⟨x, hx, _, hk, _⟩ := he.mem e hm
    obtain ⟨y, ey, _⟩ := has_str (hks x hx)
    rw [ey] at hk
    obtain ⟨t, et⟩ := hk.str_inv
    simp [DictEntry.refKey, et]
  have c : (!es.any (·.key.isStr name) && es.any (·.refKey)) = false := by
    rw [← Array.any_toList, ← Array.any_toList, any, Bool.and_false]
  rw [aRefKeyMayBeTheName_at, c]
  have e0 : es = es.toList.toArray := by simp
  have pn := putName_dict name (PyData.keyHash w.params name) (.str name (s.toks + 1)) u₃ es.toList n
  have sb := Heap.SameBut.update s.heap dx (Obj.putName name (PyData.keyHash w.params name) (.str name (s.toks + 1)) u₃)
  have g' : (s.heap.update dx (Obj.putName name (PyData.keyHash w.params name) (.str name (s.toks + 1)) u₃)).get? dx = some (dictOf (putL name (PyData.keyHash w.params name) (.str name (s.toks + 1)) u₃ es.toList) (putN name es.toList n)) := by
    rw [Heap.get?_update_self _ g, ← pn]
    · rw [show (⟨.type "dict", none, .dict es n, #[]⟩ : Obj) = dictOf es.toList n from by simp [dictOf], pn]; rfl
  have tl := TupLe.of_sameBut g knt sb
  have fi : es.toList.findIdx? (fun e => e.key.isStr name) = fidx l (.str name) := findIdx_of he key
  have pl := putL_find name (PyData.keyHash w.params name) (.str name (s.toks + 1)) u₃ es.toList
  have hput : EntsAre w (s.heap.update dx (Obj.putName name (PyData.keyHash w.params name) (.str name (s.toks + 1)) u₃)) (aput l (.str name) v) (putL name (PyData.keyHash w.params name) (.str name (s.toks + 1)) u₃ es.toList) := by
    rw [← pl, fi]
    cases hi : fidx l (.str name) with
    | none =>
      rw [aput_new (fidx_none hi)]
      exact (he.mono tl).append ⟨_, [], rfl, by simp only [hashV]; rfl, vis_str, z.mono tl, rfl⟩
    | some i =>
      obtain ⟨v', h1, h2⟩ := fidx_some hi
      rw [aput_old h2]
      exact (he.mono tl).modify (z.mono tl) hnd hi
  have hsz := hput.length
  refine wpAny_updatePart g ?_
  refine wpAny_bind (wpAny_lookBehind g' (pastItsLine_dict (by rw [List.size_toArray, sizeLine_eq, hsz]; have := @aput_length l (.str name) v; omega)) (wpAny_pure ?_))
  obtain ⟨tl', r'⟩ := r.change (t := s.toks + 1 + 1) hd sb g' (c' := .dict .str (aput l (.str name) v)) ⟨_, _, rfl, by simpa using hput, aput_has hks (has_str_of hn), aput_nodup hnd⟩
  exact ⟨tl', _, r', h⟩
end
/-! the library's frames from a state of ours -/
noncomputable def e0 : Heap := {}
theorem e0_none (b : Addr) : e0.get? b = none := by simp [e0, Heap.get?]
noncomputable def allNews (h : Heap) (L : Addr) : List (Addr × Obj) := (List.range h.objs.size).filterMap fun a => if a = L then none else (h.get? a).map fun o => (a, o)
theorem mem_allNews {h : Heap} {L a : Addr} {o : Obj} (e : h.get? a = some o) (hL : a ≠ L) : (a, o) ∈ allNews h L :=
  List.mem_filterMap.mpr ⟨a, List.mem_range.mpr (Heap.lt_size e), by rw [if_neg hL, e]; rfl⟩
theorem allNews_news {h : Heap} {L : Addr} : News e0 L h (allNews h L) := fun p hp => by
  obtain ⟨a, _, h2⟩ := List.mem_filterMap.mp hp
  by_cases q : a = L
  · rw [if_pos q] at h2; cases h2
  · rw [if_neg q, Option.map_eq_some_iff] at h2
    obtain ⟨o, e, rfl⟩ := h2
    exact ⟨e, q, e0_none _⟩
section
variable {w : World} {C : Cx} {A : Around} {m m₀ : Loc} {σ : Store} {K : V → Store → Prop} {N : Loc → Store → Prop} {R : V → Store → Prop}
theorem Rel.fr {s : Shared} (r : Rel w C m σ s) (O : C.Own) : ∃ mv, Fr e0 C.env.locals s.heap mv ∧ ∀ h' t pre, Fr e0 C.env.locals h' mv → News e0 C.env.locals h' (pre ++ allNews s.heap C.env.locals) →
    TupLe s.heap h' ∧ Rel w C m σ { s with heap := h', toks := t } ∧ ∀ b o, b ≠ C.env.locals → s.heap.get? b = some o → h'.get? b = some o := by
  obtain ⟨mv, n, q⟩ := r.ns
  refine ⟨mv, ⟨n, fun b o e => (by rw [e0_none] at e; cases e), Nat.zero_le _⟩, fun h' t pre F N => ?_⟩
  have kp : ∀ b o, b ≠ C.env.locals → s.heap.get? b = some o → h'.get? b = some o := fun b o hb e => (N _ (List.mem_append_right _ (mem_allNews e hb))).1
  have tl : TupLe s.heap h' := fun a vs k e => kp a _ (fun q => ns_notTup n _ (q ▸ e) _ _ rfl) e
  refine ⟨tl, ⟨⟨fun a c e => ?_, r.hp.lo, r.hp.gens⟩, r.lo, r.os, fun b o e => ?_, ⟨mv, F.ns, fun y v e1 e2 => let ⟨u, a, b⟩ := q y v e1 e2; ⟨u, a, b.mono tl⟩⟩, fun x c e => ?_, r.apart⟩, kp⟩
  · obtain ⟨o, g, k⟩ := r.hp.cells a c e
    exact ⟨o, kp _ _ (r.apart a c e).2.1 g, k.mono tl⟩
  · exact kp b o (fun q => by rw [q, O.loc] at e; cases e) (r.keep b o e)
  · obtain ⟨u, ⟨oc, ec, dc⟩, b⟩ := r.cl x c e
    exact ⟨u, ⟨oc, kp _ _ (O.cells x c e).2 ec, dc⟩, fun v e1 => let ⟨u', p, z⟩ := b v e1; ⟨u', p, z.mono tl⟩⟩

/-- a new object at D of the store's, the rest as it was -/
theorem Rel.at {s s' : Shared} {D : Addr} {c : Cell} {o : Obj} {m₁ : Loc} {σ₁ : Store} (r : Rel w C m σ s') (hD : s.heap.get? D = none) (hr : Rel w C m₁ σ₁ s) (g : s'.heap.get? D = some o) (k : CellIs w s'.heap c o) (hlo : sysModules < D) :
    Rel w C m (upd σ D c) s' := by
  refine ⟨⟨fun a d e => ?_, fun a d e => ?_, r.hp.gens⟩, r.lo, r.os, r.keep, r.ns, r.cl, fun a d e => ?_⟩
  · by_cases q : a = D
    · subst q; rw [upd_same] at e; cases e; exact ⟨o, g, k⟩
    · rw [upd_ne q] at e; exact r.hp.cells a d e
  · by_cases q : a = D
    · subst q; exact hlo
    · rw [upd_ne q] at e; exact r.hp.lo a d e
  · by_cases q : a = D
    · subst q
      refine ⟨?_, fun q => ?_, fun x c' e' q => ?_⟩
      · cases hb : C.base a with
        | none => rfl
        | some ob => rw [hr.keep a ob hb] at hD; cases hD
      · obtain ⟨mv, ⟨oL, _, _, gL, _⟩, _⟩ := hr.ns
        rw [← q, hD] at gL; cases gL
      · obtain ⟨u, ⟨oc, gc, _⟩, _⟩ := hr.cl x c' e'
        rw [← q, hD] at gc; cases gc
    · rw [upd_ne q] at e; exact r.apart a d e

/-! displays -/
theorem ev_tuple {elts : List PySem.Expr} {k : Nat} {pos : Pos} {env : Env} (h : Evs w C A (spliced (backTo pos (starEach elts env))) m σ (fun vs σ₁ => vs.length ≤ sizeLine ∧ K (.tup vs) σ₁)) :
    Ev w C A (eval (.Tuple elts k pos) env) m σ K := fun s r =>
  Tuple_ (h.use r fun us s₁ vs σ₁ t y r₁ ⟨hz, k⟩ => wpAny_newObj_type (by
    have kp : ∀ b ob, s₁.heap.get? b = some ob → (s₁.heap.push (tupO us.toArray 0)).get? b = some ob := fun b ob e => Heap.get?_push_of_some _ e
    exact ⟨t.trans (.of_keeps kp), .tup vs, σ₁, vis_tup (Heap.get?_push_size _ rfl) (by simpa using y.mono (.of_keeps kp)), r₁.grow (t := s₁.toks) kp, k⟩) (by show us.toArray.size ≤ sizeLine; rw [List.size_toArray, y.length]; exact hz))
/-- a new cell, not in the store yet -/
noncomputable def Fresh (σ : Store) (a : Addr) : Prop := σ a = none
theorem ev_list {elts : List PySem.Expr} {pos : Pos} {env : Env} (h : Evs w C A (spliced (backTo pos (starEach elts env))) m σ (fun vs σ₁ => vs.length ≤ sizeLine ∧ ∀ a, σ₁ a = none → K (.ref a) (upd σ₁ a (.list vs)))) :
    Ev w C A (eval (.List elts pos) env) m σ K := fun s r =>
  List_ (h.use r fun us s₁ vs σ₁ t y r₁ ⟨hz, k⟩ => wpAny_newObj_type (by
    obtain ⟨t₂, r₂⟩ := r₁.push (t := s₁.toks) (c := .list vs) (o := { cls := .type "list", data := .seq us.toArray }) (fun h' tl => ⟨us.toArray, 0, rfl, by simpa using y.mono tl⟩) rfl
    exact ⟨t.trans t₂, _, _, vis_ref, r₂, k _ (fresh_of r₁.hp (fresh_size _))⟩) (by show us.toArray.size ≤ sizeLine; rw [List.size_toArray, y.length]; exact hz))
theorem ev_dict0 {kd : DK} {pos : Pos} {env : Env} (h : ∀ a, σ a = none → K (.ref a) (upd σ a (.dict kd []))) : Ev w C A (eval (.Dict [] [] pos) env) m σ K := fun s r =>
  wpAny_Dict_empty (by
    obtain ⟨t₂, r₂⟩ := r.push (t := s.toks) (c := .dict kd []) (o := { cls := .type "dict", data := .dict #[] }) (fun h' tl => ⟨#[], 0, rfl, by simp only [EntsAre], (fun x hx => nomatch hx), List.nodup_nil⟩) rfl
    exact ⟨t₂, _, _, vis_ref, r₂, h _ (fresh_of r.hp (fresh_size _))⟩)

/-! items of sequences -/
theorem get_list {a : Addr} {l : List V} {i : Int} {v : V} (ha : σ a = some (.list l)) (h0 : 0 ≤ i) (h1 : i < 2 ^ 63) (hl : l[i.toNat]? = some v) (h : K v σ) : Op2 w C A getItem (.ref a) (.int i) m σ K := fun s u₁ u₂ r x y => by
  obtain ⟨t, rfl⟩ := y.int_inv
  rw [x.ref_inv]
  obtain ⟨vs, n, g, z⟩ := isList_of r.hp ha
  obtain ⟨u, hu, yu⟩ := z.get hl
  exact wpAny_getItem_list (x := u) ⟨_, g, rfl, n, rfl⟩ h0 h1 (by rw [← Array.getElem?_toList]; exact hu) (.now r yu h)
theorem get_tup {l : List V} {i : Int} {v : V} (h0 : 0 ≤ i) (h1 : i < 2 ^ 63) (hl : l[i.toNat]? = some v) (h : K v σ) : Op2 w C A getItem (.tup l) (.int i) m σ K := fun s u₁ u₂ r x y => by
  obtain ⟨t, rfl⟩ := y.int_inv
  obtain ⟨a, n, vs, rfl, g, z⟩ := x.tup_inv
  obtain ⟨u, hu, yu⟩ := z.get hl
  have hlt : i.toNat < vs.size := by rw [← Array.length_toList]; exact (List.getElem?_eq_some_iff.mp hu).1
  refine PyProof.Rows.getItem_tuple (x := u) (j := i.toNat) ⟨_, g, rfl, n, rfl⟩ (by omega) h1 ?_ (by rw [← Array.getElem?_toList]; exact hu) (.now r yu h)
  unfold seqIndex?
  simp only [show ¬ i < 0 from by omega, if_false]
  rw [if_pos (by simp only [Bool.and_eq_true, decide_eq_true_eq]; omega)]

/-! equality of data -/
noncomputable def V.flat (n : Nat) (v : V) : Prop := V.pure v = true ∧ (V.py v).depth ≤ n
noncomputable def V.flatL (n : Nat) (l : List V) : Prop := V.pureL l = true ∧ PyData.depthAll (V.pyL l) ≤ n
theorem flat_has {sh : Sh} {v : V} {n : Nat} (h : V.has sh v) (hn : deepS sh ≤ n) : v.flat n := ⟨pure_has sh h, by rw [depth_has sh h]; exact hn⟩
theorem shaped_flat {v : V} (h : v.flat 60) : PySem.SeqAt.shaped (V.py v) = true := by
  unfold PySem.SeqAt.shaped; rw [lay_V h.1, Bool.true_and]; exact decide_eq_true (Nat.le_trans h.2 (by decide))
theorem op_eqd {a b : V} (hu : A.units + 64 < cLine) (ha : a.flat 60) (hb : b.flat 60) (h : K (.bool (V.eqv a b)) σ) : Op2 w C A (compareOp .Eq) a b m σ K := fun s u₁ u₂ r x y => by
  obtain ⟨as, ra⟩ := reads_V ha.1 x
  obtain ⟨bs, rb⟩ := reads_V hb.1 y
  exact eq_dataH ra rb (shaped_flat ha) (shaped_flat hb) hu (.now r vis_bool h)
theorem op_ned {a b : V} (hu : A.units + 64 < cLine) (ha : a.flat 60) (hb : b.flat 60) (h : K (.bool (!V.eqv a b)) σ) : Op2 w C A (compareOp .NotEq) a b m σ K := fun s u₁ u₂ r x y => by
  obtain ⟨as, ra⟩ := reads_V ha.1 x
  obtain ⟨bs, rb⟩ := reads_V hb.1 y
  exact ne_dataH ra rb (shaped_flat ha) (shaped_flat hb) hu (.now r vis_bool h)
noncomputable def eqvL (l l' : List V) : Bool := PyData.eqvAll (V.pyL l) (V.pyL l')
theorem reads_cell {s : Shared} {a : Addr} {l : List V} (hp : Hp w σ s) (ha : σ a = some (.list l)) (hl : V.flatL 50 l) : ∃ as, Reads s.heap (.ref a) (.list (V.pyL l)) as := by
  obtain ⟨vs, n, g, z⟩ := isList_of hp ha
  obtain ⟨as, r⟩ := reads_L hl.1 z
  exact ⟨_, .list g rfl rfl r⟩
theorem shaped_list {l : List V} (h : V.flatL 50 l) : PySem.SeqAt.shaped (.list (V.pyL l)) = true := by
  unfold PySem.SeqAt.shaped; rw [show (PyData.list (V.pyL l)).canLay0 = PyData.canLayAll0 (V.pyL l) from rfl, lay_L h.1, Bool.true_and]
  refine decide_eq_true ?_
  rw [PyData.depth]; have := h.2; omega
theorem op_eql {a b : Addr} {l l' : List V} (hu : A.units + 64 < cLine) (ha : σ a = some (.list l)) (hb : σ b = some (.list l')) (hl : V.flatL 50 l) (hl' : V.flatL 50 l') (h : K (.bool (eqvL l l')) σ) : Op2 w C A (compareOp .Eq) (.ref a) (.ref b) m σ K := fun s u₁ u₂ r x y => by
  rw [x.ref_inv, y.ref_inv]
  obtain ⟨as, ra⟩ := reads_cell r.hp ha hl
  obtain ⟨bs, rb⟩ := reads_cell r.hp hb hl'
  exact eq_dataH ra rb (shaped_list hl) (shaped_list hl') hu (.now r vis_bool h)
theorem op_nel {a b : Addr} {l l' : List V} (hu : A.units + 64 < cLine) (ha : σ a = some (.list l)) (hb : σ b = some (.list l')) (hl : V.flatL 50 l) (hl' : V.flatL 50 l') (h : K (.bool (!eqvL l l')) σ) : Op2 w C A (compareOp .NotEq) (.ref a) (.ref b) m σ K := fun s u₁ u₂ r x y => by
  rw [x.ref_inv, y.ref_inv]
  obtain ⟨as, ra⟩ := reads_cell r.hp ha hl
  obtain ⟨bs, rb⟩ := reads_cell r.hp hb hl'
  exact ne_dataH ra rb (shaped_list hl) (shaped_list hl') hu (.now r vis_bool h)
mutual
theorem V.eqv_self : ∀ {v : V}, V.eqv v v = true := fun {v} => by
  unfold V.eqv; exact eqv_py v
theorem eqv_py : ∀ v : V, PyData.eqv (V.py v) (V.py v) = true
  | .none => by simp [V.py, PyData.eqv]
  | .bool _ => by simp [V.py, PyData.eqv]
  | .int _ => by simp [V.py, PyData.eqv]
  | .str _ => by simp [V.py, PyData.eqv]
  | .tup l => by rw [V.py, PyData.eqv]; exact eqv_pyL l
  | .ref _ => by simp [V.py, PyData.eqv]
  | .raw _ => by simp [V.py, PyData.eqv]
theorem eqv_pyL : ∀ l : List V, PyData.eqvAll (V.pyL l) (V.pyL l) = true
  | [] => by simp [V.pyL, PyData.eqvAll]
  | x :: l => by rw [V.pyL, PyData.eqvAll, eqv_py x, eqv_pyL l]; rfl
end

/-! membership in sequences -/
theorem in_list {a : Addr} {l : List V} {v : V} (hu : A.units + 72 < cLine) (ha : σ a = some (.list l)) (hl : V.flatL 50 l) (hv : v.flat 60) (h : K (.bool (l.any fun y => V.eqv y v)) σ) : Op2 w C A (compareOp .In) v (.ref a) m σ K := fun s u₁ u₂ r y x => by
  rw [x.ref_inv]
  obtain ⟨as, ra⟩ := reads_cell r.hp ha hl
  obtain ⟨bs, rb⟩ := reads_V hv.1 y
  refine SeqAt.in_list_reads ra rb (lay_L hl.1) (lay_V hv.1) (by have := hv.2; omega) (.now r vis_bool ?_)
  rw [any_py]; exact h
where
  any_py {v : V} : ∀ {l : List V}, ((V.pyL l).any fun y => PyData.eqv y (V.py v)) = l.any fun y => V.eqv y v
    | [] => rfl
    | x :: l => by rw [V.pyL, List.any_cons, List.any_cons, any_py]; rfl
theorem notIn_list {a : Addr} {l : List V} {v : V} (hu : A.units + 72 < cLine) (ha : σ a = some (.list l)) (hl : V.flatL 50 l) (hv : v.flat 60) (h : K (.bool (!l.any fun y => V.eqv y v)) σ) : Op2 w C A (compareOp .NotIn) v (.ref a) m σ K := fun s u₁ u₂ r y x => by
  rw [x.ref_inv]
  obtain ⟨as, ra⟩ := reads_cell r.hp ha hl
  obtain ⟨bs, rb⟩ := reads_V hv.1 y
  refine SeqAt.notIn_list_reads ra rb (lay_L hl.1) (lay_V hv.1) (by have := hv.2; omega) (.now r vis_bool ?_)
  rw [in_list.any_py]; exact h
theorem in_tup {l : List V} {v : V} (hu : A.units + 72 < cLine) (hl : V.flatL 50 l) (hv : v.flat 60) (h : K (.bool (l.any fun y => V.eqv y v)) σ) : Op2 w C A (compareOp .In) v (.tup l) m σ K := fun s u₁ u₂ r y x => by
  obtain ⟨as, ra⟩ := reads_V (v := .tup l) (by rw [V.pure]; exact hl.1) x
  rw [V.py] at ra
  obtain ⟨bs, rb⟩ := reads_V hv.1 y
  refine SeqAt.in_tuple_reads ra rb (lay_L hl.1) (lay_V hv.1) (by have := hv.2; omega) (.now r vis_bool ?_)
  rw [in_list.any_py]; exact h
theorem in_str {x y : Str} (h : K (.bool (Txt.contains x y)) σ) : Op2 w C A (compareOp .In) (.str y) (.str x) m σ K := fun s u₁ u₂ r a b => by
  obtain ⟨t, rfl⟩ := a.str_inv; obtain ⟨t', rfl⟩ := b.str_inv
  exact PyProof.Rows.in_str (.now r vis_bool h)

/-! concatenation -/
theorem vall_arr {h : Heap} {l l' : List V} {us us' : Array Value} (x : VAll h l us.toList) (y : VAll h l' us'.toList) : VAll h (l ++ l') (us ++ us').toList := by
  rw [Array.toList_append]; exact x.append y
theorem op_addt {l l' : List V} (h1 : l ≠ []) (h2 : l' ≠ []) (hz : l.length + l'.length ≤ sizeLine) (h : K (.tup (l ++ l')) σ) : Op2 w C A (binaryOp .Add) (.tup l) (.tup l') m σ K := fun s u₁ u₂ r x y => by
  obtain ⟨a, n, us, rfl, g, z⟩ := x.tup_inv
  obtain ⟨b, n', us', rfl, g', z'⟩ := y.tup_inv
  have e1 : us.size = l.length := by rw [← Array.length_toList]; exact z.length
  have e2 : us'.size = l'.length := by rw [← Array.length_toList]; exact z'.length
  have n1 : ¬ us.isEmpty = true := by rw [Array.isEmpty_iff_size_eq_zero, e1]; exact fun q => h1 (List.length_eq_zero_iff.mp q)
  have n2 : ¬ us'.isEmpty = true := by rw [Array.isEmpty_iff_size_eq_zero, e2]; exact fun q => h2 (List.length_eq_zero_iff.mp q)
  refine P.add_tuple g g' n1 n2 ?_ (by rw [e1, e2]; exact hz)
  have kp : ∀ b ob, s.heap.get? b = some ob → (s.heap.push (tupO (us ++ us') 0)).get? b = some ob := fun b ob e => Heap.get?_push_of_some _ e
  have tl := TupLe.of_keeps kp
  exact ⟨tl, .tup (l ++ l'), σ, vis_tup (Heap.get?_push_size _ rfl) (vall_arr (z.mono tl) (z'.mono tl)), r.grow (t := s.toks) kp, h⟩
theorem op_addl {a b : Addr} {l l' : List V} (O : C.Own) (ha : σ a = some (.list l)) (hb : σ b = some (.list l')) (hz : l.length + l'.length ≤ sizeLine) (h : ∀ d, σ d = none → K (.ref d) (upd σ d (.list (l ++ l')))) : Op2 w C A (binaryOp .Add) (.ref a) (.ref b) m σ K := fun s u₁ u₂ r x y => by
  rw [x.ref_inv, y.ref_inv]
  obtain ⟨us, n, g, z⟩ := isList_of r.hp ha
  obtain ⟨us', n', g', z'⟩ := isList_of r.hp hb
  obtain ⟨mv, F, bk⟩ := r.fr O
  refine add_lists (vs := us.toList) (ws := us'.toList) F allNews_news ⟨_, g, rfl, n, by rw [Array.toArray_toList]⟩ ⟨_, g', rfl, n', by rw [Array.toArray_toList]⟩ (fun h' F' N' => ?_) (by rw [z.length, z'.length]; exact hz)
  obtain ⟨tl, r', _⟩ := bk h' s.toks [_] F' N'
  exact ⟨tl, _, _, vis_ref, r'.at (c := .list (l ++ l')) (fresh_size _) r (N' _ (.head _)).1 ⟨_, 0, rfl, by simpa using (z.mono tl).append (z'.mono tl)⟩ r.top, h _ (fresh_of r.hp (fresh_size _))⟩
end
section
variable {w : World} {C : Cx} {A : Around} {m m₀ : Loc} {σ : Store} {K : V → Store → Prop} {N : Loc → Store → Prop} {R : V → Store → Prop}

theorem VAll.one {h : Heap} {v : V} {us : List Value} (x : VAll h [v] us) : ∃ u, us = [u] ∧ VIs h v u := by
  obtain ⟨u, r, rfl, a, b⟩ := x.cons_inv; rw [b.nil_inv]; exact ⟨u, rfl, a⟩
theorem VAll.two {h : Heap} {v v' : V} {us : List Value} (x : VAll h [v, v'] us) : ∃ u u', us = [u, u'] ∧ VIs h v u ∧ VIs h v' u' := by
  obtain ⟨u, r, rfl, a, b⟩ := x.cons_inv; obtain ⟨u', rfl, c⟩ := b.one; exact ⟨u, u', rfl, a, c⟩
theorem VAll.three {h : Heap} {v v' v'' : V} {us : List Value} (x : VAll h [v, v', v''] us) : ∃ u u' u'', us = [u, u', u''] ∧ VIs h v u ∧ VIs h v' u' ∧ VIs h v'' u'' := by
  obtain ⟨u, r, rfl, a, b⟩ := x.cons_inv; obtain ⟨u', u'', rfl, c, d⟩ := b.two; exact ⟨u, u', u'', rfl, a, c, d⟩

theorem c_len_list {a : Addr} {l : List V} (ha : σ a = some (.list l)) (hz : (l.length : Int) < 2 ^ 63) (h : K (.int l.length) σ) : OpC w C A (.builtin "len") [.ref a] m σ K := fun s us r y => by
  obtain ⟨u, rfl, x⟩ := y.one
  rw [x.ref_inv]
  obtain ⟨vs, n, g, z⟩ := isList_of r.hp ha
  have e : vs.size = l.length := by rw [← Array.length_toList]; exact z.length
  exact PySem.Calls.call_len_list ⟨_, g, rfl, n, rfl⟩ (by rw [e]; exact hz) (by rw [e]; exact .here r vis_int h)
theorem c_len_tup {l : List V} (hz : (l.length : Int) < 2 ^ 63) (h : K (.int l.length) σ) : OpC w C A (.builtin "len") [.tup l] m σ K := fun s us r y => by
  obtain ⟨u, rfl, x⟩ := y.one
  obtain ⟨a, n, vs, rfl, g, z⟩ := x.tup_inv
  have e : vs.size = l.length := by rw [← Array.length_toList]; exact z.length
  exact P.len_tuple g (by rw [e]; omega) (by rw [e]; exact .here r vis_int h)
theorem c_len_str {x : Str} (hz : (x.length : Int) < 2 ^ 63) (h : K (.int x.length) σ) : OpC w C A (.builtin "len") [.str x] m σ K := fun s us r y => by
  obtain ⟨u, rfl, x⟩ := y.one
  obtain ⟨t, rfl⟩ := x.str_inv
  exact PyProof.Rows.len_str (by omega) (.here r vis_int h)

/-! isinstance -/
theorem c_isi_tuple {v : V} {b : Bool} (hv : (∃ l, v = .tup l ∧ b = true) ∨ (∃ x, v = .bool x ∧ b = false) ∨ (∃ x, v = .int x ∧ b = false)) (h : K (.bool b) σ) : OpC w C A (.builtin "isinstance") [v, .raw (.type "tuple")] m σ K := fun s us r y => by
  obtain ⟨u, u', rfl, x, x'⟩ := y.two
  rw [x'.raw_inv]
  rcases hv with ⟨l, rfl, rfl⟩ | ⟨x₁, rfl, rfl⟩ | ⟨x₁, rfl, rfl⟩
  · obtain ⟨a, n, vs, rfl, g, z⟩ := x.tup_inv
    exact IsiPair.tuple_tuple g rfl (.now r vis_bool h)
  · rw [x.bool_inv]; exact IsiPair.bool_tuple (.here r vis_bool h)
  · obtain ⟨t, rfl⟩ := x.int_inv; exact IsiPair.int_tuple (.here r vis_bool h)
theorem c_isi_bool {v : V} {b : Bool} (hv : (∃ l, v = .tup l ∧ b = false) ∨ (∃ x, v = .bool x ∧ b = true) ∨ (∃ x, v = .int x ∧ b = false)) (h : K (.bool b) σ) : OpC w C A (.builtin "isinstance") [v, .raw (.type "bool")] m σ K := fun s us r y => by
  obtain ⟨u, u', rfl, x, x'⟩ := y.two
  rw [x'.raw_inv]
  rcases hv with ⟨l, rfl, rfl⟩ | ⟨x₁, rfl, rfl⟩ | ⟨x₁, rfl, rfl⟩
  · obtain ⟨a, n, vs, rfl, g, z⟩ := x.tup_inv
    exact IsiPair.tuple_bool g rfl (.here r vis_bool h)
  · rw [x.bool_inv]; exact IsiPair.bool_bool (.now r vis_bool h)
  · obtain ⟨t, rfl⟩ := x.int_inv; exact IsiPair.int_bool (.here r vis_bool h)

/-! conversions -/
theorem c_int {i : Int} (h : K (.int i) σ) : OpC w C A (.type "int") [.int i] m σ K := fun s us r y => by
  obtain ⟨u, rfl, x⟩ := y.one
  obtain ⟨t, rfl⟩ := x.int_inv
  exact call_int_int (.now r vis_int h)
theorem c_str {i : Int} (hi : i.natAbs.log2 < 1920) (h : K (.str (toString i)) σ) : OpC w C A (.type "str") [.int i] m σ K := fun s us r y => by
  obtain ⟨u, rfl, x⟩ := y.one
  obtain ⟨t, rfl⟩ := x.int_inv
  exact P.str_of_int hi (.here r vis_str h)
theorem c_list_tup {l : List V} (hz : l.length ≤ sizeLine) (h : ∀ d, σ d = none → K (.ref d) (upd σ d (.list l))) : OpC w C A (.type "list") [.tup l] m σ K := fun s us r y => by
  obtain ⟨u, rfl, x⟩ := y.one
  obtain ⟨a, n, vs, rfl, g, z⟩ := x.tup_inv
  have e : vs.size = l.length := by rw [← Array.length_toList]; exact z.length
  refine call_list_seq a (.inr rfl) g rfl rfl (fun h' c' hk g' => ?_) (by rw [e]; exact hz)
  have tl := TupLe.of_keeps hk
  exact ⟨tl, _, _, vis_ref, (r.grow (t := s.toks) hk).at (c := .list l) (fresh_size _) r g' ⟨_, _, rfl, z.mono tl⟩ r.top, h _ (fresh_of r.hp (fresh_size _))⟩
theorem c_list_list {a : Addr} {l : List V} (ha : σ a = some (.list l)) (hz : l.length ≤ sizeLine) (h : ∀ d, σ d = none → K (.ref d) (upd σ d (.list l))) : OpC w C A (.type "list") [.ref a] m σ K := fun s us r y => by
  obtain ⟨u, rfl, x⟩ := y.one
  rw [x.ref_inv]
  obtain ⟨vs, n, g, z⟩ := isList_of r.hp ha
  have e : vs.size = l.length := by rw [← Array.length_toList]; exact z.length
  refine call_list_seq a (.inl rfl) g rfl rfl (fun h' c' hk g' => ?_) (by rw [e]; exact hz)
  have tl := TupLe.of_keeps hk
  exact ⟨tl, _, _, vis_ref, (r.grow (t := s.toks) hk).at (c := .list l) (fresh_size _) r g' ⟨_, _, rfl, z.mono tl⟩ r.top, h _ (fresh_of r.hp (fresh_size _))⟩
theorem c_tuple_list {a : Addr} {l : List V} (ha : σ a = some (.list l)) (hz : l.length ≤ sizeLine) (h : K (.tup l) σ) : OpC w C A (.type "tuple") [.ref a] m σ K := fun s us r y => by
  obtain ⟨u, rfl, x⟩ := y.one
  rw [x.ref_inv]
  obtain ⟨vs, n, g, z⟩ := isList_of r.hp ha
  have e : vs.size = l.length := by rw [← Array.length_toList]; exact z.length
  refine call_tuple_list ⟨_, g, rfl, n, rfl⟩ (fun h' hk => ?_) (by rw [e]; exact hz)
  have hk' : ∀ b o, s.heap.get? b = some o → (h'.push (tupO vs 0)).get? b = some o := fun b o q => Heap.get?_push_of_some _ (hk b o q)
  have tl := TupLe.of_keeps hk'
  exact ⟨tl, _, _, vis_tup (Heap.get?_push_size _ rfl) (z.mono tl), r.grow (t := s.toks) hk', h⟩
theorem c_tuple_tup {l : List V} (h : K (.tup l) σ) : OpC w C A (.type "tuple") [.tup l] m σ K := fun s us r y => by
  obtain ⟨u, rfl, x⟩ := y.one
  have x' := x
  obtain ⟨a, n, vs, rfl, g, z⟩ := x.tup_inv
  exact PyProof.Rows.call_tuple_tup ⟨_, g, rfl, n, rfl⟩ (.now r x' h)

/-! list methods -/
theorem c_append {a : Addr} {l : List V} {v : V} (ha : σ a = some (.list l)) (hz : l.length ≤ sizeLine) (h : K .none (upd σ a (.list (l ++ [v])))) : OpC w C A (.builtin "list.append") [.ref a, v] m σ K := fun s us r y => by
  obtain ⟨u, u', rfl, x, x'⟩ := y.two
  rw [x.ref_inv]
  obtain ⟨vs, n, g, z⟩ := isList_of r.hp ha
  have e : vs.size = l.length := by rw [← Array.length_toList]; exact z.length
  refine append_at g (fun h' sb g' => ?_) (by rw [e]; exact hz)
  have tl₀ : TupLe s.heap h' := TupLe.of_sameBut g (fun vs' n' q => absurd (congrArg Obj.cls q) (by show Value.type "list" ≠ Value.type "tuple"; decide)) sb
  obtain ⟨tl, r'⟩ := r.change (t := s.toks) (c' := .list (l ++ [v])) ha sb g' ⟨_, _, rfl, by rw [Array.toList_push]; exact (z.mono tl₀).append (.cons (x'.mono tl₀) .nil)⟩
  exact ⟨tl, _, _, vis_none, r', h⟩
theorem c_count {a : Addr} {l : List V} {v : V} (hu : A.units + 72 < cLine) (ha : σ a = some (.list l)) (hl : V.flatL 50 l) (hv : v.flat 60) (h : K (.int (l.countP fun y => V.eqv y v)) σ) : OpC w C A (.builtin "list.count") [.ref a, v] m σ K := fun s us r y => by
  obtain ⟨u, u', rfl, x, x'⟩ := y.two
  rw [x.ref_inv]
  obtain ⟨vs, n, g, z⟩ := isList_of r.hp ha
  obtain ⟨as, rs⟩ := reads_L hl.1 z
  obtain ⟨bs, rx⟩ := reads_V hv.1 x'
  refine call_meets PySem.F.slot_list_count ⟨_, g, rfl⟩ PySem.F.entry_list_count (PySem.F.args_list_count_2 _ _) (PySem.SeqAt.list_countAt a vs n none #[] u' (fun y => PyData.eqv (PySem.SeqAt.readOf s.heap y) (V.py v))) ⟨g, ?_, ?_⟩
  · exact PySem.SeqAt.items_eqAt (A := A) rs rx (lay_L hl.1) (lay_V hv.1) (by have := hv.2; omega)
  · have e : vs.toList.countP (fun y => PyData.eqv (PySem.SeqAt.readOf s.heap y) (V.py v)) = l.countP fun y => V.eqv y v := by
      have e1 : (vs.toList.map (PySem.SeqAt.readOf s.heap)).countP (fun d => PyData.eqv d (V.py v)) = vs.toList.countP (fun y => PyData.eqv (PySem.SeqAt.readOf s.heap y) (V.py v)) := by rw [List.countP_map]; rfl
      rw [← e1, PySem.SeqAt.readsAll_map _ _ _ (lay_L hl.1) rs]
      clear h rs hl z ha e1
      induction l with
      | nil => rfl
      | cons w l ih => rw [V.pyL, List.countP_cons, List.countP_cons, ih]; rfl
    rw [e]
    exact .here r vis_int h

/-! dict methods -/
theorem c_get {a : Addr} {k : DK} {l : List (V × V)} {key d : V} (hu : A.units + 72 < cLine) (hf : k.fits) (ha : σ a = some (.dict k l)) (hk : V.has k.sh key) (h : K ((alook l key).getD d) σ) :
    OpC w C A (.builtin "dict.get") [.ref a, key, d] m σ K := fun s us r y => by
  obtain ⟨u, uk, ud, rfl, x, xk, xd⟩ := y.three
  rw [x.ref_inv]
  obtain ⟨o, g, hc⟩ := r.hp.cells a _ ha
  have hT : s.TypeIs (.ref a) "dict" := by obtain ⟨es, n, rfl, _⟩ := hc; exact ⟨_, g, rfl⟩
  refine wpAny_call_entry PySem.F.slot_dict_get hT PySem.F.entry_dict_get ?_ (PySem.F.args_dict_get_3 _ _ _)
  show wpAny _ _ (dictGet a uk >>= _) _ _ s
  refine wpAny_bind (get_cell (by show A.units + 1 + 64 < cLine; omega) hf g hc hk xk fun rv t q => ?_)
  cases hl : alook l key with
  | some v =>
    rw [hl] at q h
    obtain ⟨v', rfl, yv⟩ := q
    exact wpAny_pure ⟨v', rfl, .here r yv h⟩
  | none =>
    rw [hl] at q h
    cases q
    show wpAny _ _ (Builtin.Dict.missed a uk >>= _) _ _ _
    exact wpAny_bind (wpAny_missed_other (r.hp.notMods ha) (wpAny_pure ⟨_, rfl, .here r xd h⟩))
theorem c_setdefault {a : Addr} {k : DK} {l : List (V × V)} {key d : V} (hu : A.units + 72 < cLine) (hf : k.fits) (ha : σ a = some (.dict k l)) (hk : V.has k.sh key) (hz : l.length ≤ sizeLine)
    (h1 : ∀ v, alook l key = some v → K v σ) (h2 : alook l key = none → K d (upd σ a (.dict k (aput l key d)))) :
    OpC w C A (.builtin "dict.setdefault") [.ref a, key, d] m σ K := fun s us r y => by
  obtain ⟨u, uk, ud, rfl, x, xk, xd⟩ := y.three
  rw [x.ref_inv]
  obtain ⟨o, g, hc⟩ := r.hp.cells a _ ha
  have hT : s.TypeIs (.ref a) "dict" := by obtain ⟨es, n, rfl, _⟩ := hc; exact ⟨_, g, rfl⟩
  refine wpAny_call_entry PySem.F.slot_dict_setdefault hT PySem.F.entry_dict_setdefault ?_ (PySem.F.args_dict_setdefault_3 _ _ _)
  unfold Builtin.«dict.setdefault»
  refine wpAny_bind ?_
  unfold Builtin.Dict.keyAndDefault
  refine wpAny_bind (wpAny_notOrdered_dict hT ?_)
  show wpAny _ _ (pure (a, uk, some ud)) _ _ s
  refine wpAny_pure ?_
  show wpAny _ _ (if (a == sysModules) = true then _ else (dictSetDefault a uk ud >>= _)) _ _ s
  rw [if_neg (by rw [r.hp.notMods ha]; exact Bool.false_ne_true)]
  refine wpAny_bind (setDefault_cell (by show A.units + 1 + 64 < cLine; omega) hf g hc hk xk xd hz (fun v' rv t e yv => wpAny_pure ⟨rv, rfl, .here r yv (h1 v' e)⟩) fun e h' o' t g' k' sb => wpAny_pure ⟨ud, rfl, ?_⟩)
  obtain ⟨tl, r'⟩ := r.change (t := t) ha sb g' k'
  exact ⟨tl, _, _, xd.mono tl, r', h2 e⟩

/-! strings -/
theorem c_strip {x y : Str} (hz : x.length ≤ sizeLine) (h : K (.str (Txt.stripChars x y)) σ) : OpC w C A (.builtin "str.strip") [.str x, .str y] m σ K := fun s us r yy => by
  obtain ⟨u, u', rfl, a, b⟩ := yy.two
  obtain ⟨t, rfl⟩ := a.str_inv; obtain ⟨t', rfl⟩ := b.str_inv
  exact SC.stripChars (fun t' k => .here r vis_str h) hz
theorem c_startswith {x y : Str} (h : K (.bool (Txt.startswith x y)) σ) : OpC w C A (.builtin "str.startswith") [.str x, .str y] m σ K := fun s us r yy => by
  obtain ⟨u, u', rfl, a, b⟩ := yy.two
  obtain ⟨t, rfl⟩ := a.str_inv; obtain ⟨t', rfl⟩ := b.str_inv
  exact SC.startswith (.now r vis_bool h)

/-! sorted, max -/
theorem ints_of {h : Heap} : ∀ {ns : List Int} {us : List Value}, VAll h (ns.map .int) us → IntsAre us ns
  | [], us, x => by rw [x.nil_inv]; exact .nil
  | n :: ns, us, x => by obtain ⟨u, r, rfl, a, b⟩ := x.cons_inv; obtain ⟨t, rfl⟩ := a.int_inv; exact .cons n t (ints_of b)
theorem of_ints {h : Heap} : ∀ {ns : List Int} {us : List Value}, IntsAre us ns → VAll h (ns.map .int) us
  | _, _, .nil => .nil
  | _, _, .cons n t r => .cons vis_int (of_ints r)
theorem c_sorted_list {a : Addr} {ns : List Int} (O : C.Own) (ha : σ a = some (.list (ns.map .int))) (hz : ns.length < 64) (h : ∀ d (ns' : List Int), σ d = none → ns'.Perm ns → ns'.Pairwise (· ≤ ·) → K (.ref d) (upd σ d (.list (ns'.map .int)))) :
    OpC w C A (.builtin "sorted") [.ref a] m σ K := fun s us r y => by
  obtain ⟨u, rfl, x⟩ := y.one
  rw [x.ref_inv]
  obtain ⟨vs, n, g, z⟩ := isList_of r.hp ha
  obtain ⟨mv, F, bk⟩ := r.fr O
  have hI := ints_of z
  refine sorted_N F allNews_news (vs := vs.toList) ⟨_, g, rfl, n, by rw [Array.toArray_toList]⟩ hI (by rw [z.length]; simpa using hz) fun h' vs' ns' e F' N' i1 p1 p2 => ?_
  obtain ⟨tl, r', _⟩ := bk h' s.toks [_] F' N'
  have fr : s.heap.get? (s.heap.objs.size + 1) = none := by
    cases q : s.heap.get? (s.heap.objs.size + 1) with
    | none => rfl
    | some o => exact absurd (Nat.lt_of_succ_lt (Heap.lt_size q)) (Nat.lt_irrefl _)
  exact ⟨tl, _, _, vis_ref, r'.at (c := .list (ns'.map .int)) fr r (N' _ (.head _)).1 ⟨_, _, rfl, by simpa using of_ints i1⟩ (Nat.lt_succ_of_lt r.top), h _ ns' (fresh_of r.hp fr) p1 p2⟩
theorem c_max {a : Addr} {ns : List Int} (hh : A.handled = none) (O : C.Own) (ha : σ a = some (.list (ns.map .int))) (hz : 0 < ns.length) (h : ∀ M, M ∈ ns → (∀ x ∈ ns, x ≤ M) → K (.int M) σ) :
    OpC w C A (.builtin "max") [.ref a] m σ K := fun s us r y => by
  obtain ⟨u, rfl, x⟩ := y.one
  rw [x.ref_inv]
  obtain ⟨vs, n, g, z⟩ := isList_of r.hp ha
  obtain ⟨mv, F, bk⟩ := r.fr O
  refine max_list_N hh F allNews_news (vs := vs.toList) ⟨_, g, rfl, n, by rw [Array.toArray_toList]⟩ (ints_of z) hz fun h' M t tk F' N' m1 m2 => ?_
  obtain ⟨tl, r', _⟩ := bk h' tk [] F' N'
  exact ⟨tl, _, _, vis_int, r', h M m1 m2⟩
end
theorem comp_loop_any {w : World} {A : Around} {s : Shared} {elt target iter : PySem.Expr} {ifs : List PySem.Expr} {scope : Scope} {pos : Pos} {it acc : Value} {env : Env} {R : Result → Shared → Prop} (I : Nat → Shared → Prop)
    (turn : ∀ n s, I n s → wpAny (model P w) A (pyNext it) (fun r s₁ => match r with
      | none => R (.ok .next) s₁
      | some v => wpAny (model P w) A (letOwnedTupleGo target it v) (fun _ s₁' => wpAny (model P w) A (assign target env v) (fun _ s₂ =>
          wpAny (model P w) A (forIn ifs true fun c r => if r = true then do let ok ← isTrue c env (eval c env); pure (ForInStep.yield ok) else pure (ForInStep.yield r)) (fun ok s₃ =>
            if ok = true then wpAny (model P w) A (eval elt env) (fun x s₄ =>
              wpAny (model P w) A (call (.builtin "list.append") [acc, x]) (fun _ s₅ => ∃ m, m < n ∧ I m s₅) No s₄) No s₃
            else ∃ m, m < n ∧ I m s₃) No s₂) No s₁') No s₁) No s)
    (n : Nat) (h : I n s) : codeAny (model P w) A (.compLoop (.ListComp elt [⟨target, iter, ifs, 0⟩] scope pos) 0 it acc env) R s := by
  refine codeAny_loop rfl I (fun n s hI => ?_) n h
  show wpAny _ A ((compTurn (.ListComp elt [⟨target, iter, ifs, 0⟩] scope pos) 0 it acc env).onRaise (fun x => do noteFrame x env; theTreesLotGoes x)) _ _ s
  refine wpAny_noted (noted_of (env := env) ?_)
  rw [compTurn_list]
  refine wpAny_bind (wpAny_standAt (wpAny_bind (wpAny_mono (turn n s hI) (fun r s₁ h₁ => ?_) fun _ _ h' => h')))
  cases r with
  | none => exact wpAny_pure h₁
  | some v =>
    refine wpAny_bind (wpAny_mono h₁ (fun _ s₁' h₁' => ?_) fun _ _ h' => h')
    refine wpAny_bind (wpAny_mono h₁' (fun _ s₂ h₂ => wpAny_bind (wpAny_mono h₂ (fun ok s₃ h₃ => ?_) fun _ _ h' => h')) fun _ _ h' => h')
    cases ok with
    | false => exact wpAny_pure ⟨rfl, h₃⟩
    | true =>
      exact wpAny_bind (wpAny_bind (wpAny_mono h₃ (fun x s₄ h₄ => wpAny_bind (wpAny_mono h₄ (fun _ s₅ h₅ => wpAny_pure (wpAny_pure ⟨rfl, h₅⟩)) fun _ _ h' => h')) fun _ _ h' => h'))

/-- the tests of a comprehension -/
noncomputable def Ts (w : World) (C : Cx) (A : Around) (ifs : List PySem.Expr) (env : Env) (m : Loc) (σ : Store) (K : Bool → Store → Prop) : Prop :=
  Gn w C A RB (forIn ifs true fun c r => if r = true then do let ok ← isTrue c env (eval c env); pure (ForInStep.yield ok) else pure (ForInStep.yield r)) m σ K
theorem ts_nil {w : World} {C : Cx} {A : Around} {env : Env} {m : Loc} {σ : Store} {K : Bool → Store → Prop} (h : K true σ) : Ts w C A [] env m σ K := fun s r => wpAny_tests_nil (.now r rfl h)
theorem ts_one {w : World} {C : Cx} {A : Around} {env : Env} {m : Loc} {σ : Store} {K : Bool → Store → Prop} {c : PySem.Expr} (h : Tr w C A (isTrue c env (eval c env)) m σ K) : Ts w C A [c] env m σ K := fun s r => wpAny_tests_one (h s r)

abbrev inner (C : Cx) (scope : Scope) (cl : List (Str × Addr)) (Cl : Addr) (base : Addr → Option Obj) : Cx := ⟨C.h₀, base, compEnvC scope cl Cl C.env, C.os⟩
noncomputable def mIn (cl : List (Str × Addr)) (m : Loc) : Loc := fun x => if (cl.lookup x).isSome then m x else none
noncomputable def capt (cl : List (Str × Addr)) (b : Addr) : Prop := ∃ x, cl.lookup x = some b

section
variable {w : World} {C : Cx} {A : Around} {m : Loc} {σ : Store} {K : V → Store → Prop} {N : Loc → Store → Prop} {R : V → Store → Prop}

open Classical in
noncomputable def baseIn (cl : List (Str × Addr)) (σ : Store) (h : Heap) : Addr → Option Obj := fun b => if capt cl b ∨ (σ b).isSome then none else h.get? b

theorem baseIn_some {cl : List (Str × Addr)} {σ : Store} {h : Heap} {b : Addr} {o : Obj} (e : baseIn cl σ h b = some o) : h.get? b = some o ∧ σ b = none ∧ ¬ capt cl b := by
  unfold baseIn at e
  split at e
  · cases e
  · rename_i q
    refine ⟨e, ?_, fun c => q (.inl c)⟩
    cases z : σ b with
    | none => rfl
    | some c => exact absurd (.inr (by rw [z]; rfl)) q
theorem baseIn_of {cl : List (Str × Addr)} {σ : Store} {h : Heap} {b : Addr} {o : Obj} (e : h.get? b = some o) (hs : σ b = none) (hc : ¬ capt cl b) : baseIn cl σ h b = some o := by
  unfold baseIn
  rw [if_neg (fun q => q.elim hc (fun z => by rw [hs] at z; cases z))]
  exact e
theorem baseIn_none {cl : List (Str × Addr)} {σ : Store} {h : Heap} {b : Addr} (e : h.get? b = none) : baseIn cl σ h b = none := by
  unfold baseIn; split <;> simp_all

structure Capt (C : Cx) (cl : List (Str × Addr)) : Prop where
  sub : ∀ x c, cl.lookup x = some c → C.env.cells.lookup x = some c

theorem capt_own {cl : List (Str × Addr)} {s : Shared} (O : C.Own) (hc : Capt C cl) (r : Rel w C m σ s) {scope : Scope} {Cl : Addr} (hCl : s.heap.get? Cl = none) : (inner C scope cl Cl (baseIn cl σ s.heap)).Own :=
  ⟨fun x c e => ⟨by
      have e : cl.lookup x = some c := e
      show baseIn cl σ s.heap c = none
      unfold baseIn; rw [if_pos (.inl ⟨x, e⟩)], fun q => by
      have e : cl.lookup x = some c := e
      obtain ⟨u, ⟨oc, ec, _⟩, _⟩ := r.cl x c (hc.sub x c e)
      have q : c = Cl := q
      rw [q, hCl] at ec; cases ec⟩, fun x y c e e' => O.apart x y c (hc.sub x c e) (hc.sub y c e'), baseIn_none hCl⟩
theorem capt_ok {cl : List (Str × Addr)} {s : Shared} (ok : C.Ok) (O : C.Own) (hc : Capt C cl) (r : Rel w C m σ s) {scope : Scope} {Cl : Addr} : (inner C scope cl Cl (baseIn cl σ s.heap)).Ok := fun b o e => by
  have hb := ok b o e
  refine baseIn_of (r.keep b o hb) ?_ ?_
  · cases z : σ b with
    | none => rfl
    | some c => rw [(r.apart b c z).1] at hb; cases hb
  · rintro ⟨x, q⟩; rw [(O.cells x b (hc.sub x b q)).1] at hb; cases hb

theorem rel_in {cl : List (Str × Addr)} {s : Shared} {h₁ : Heap} {t : Nat} {scope : Scope} {Cl : Addr} {mv : Str → Option Value} (O : C.Own) (hc : Capt C cl) (r : Rel w C m σ s) (hCl : s.heap.get? Cl = none) (hlo : sysModules < Cl)
    (k : ∀ b o, s.heap.get? b = some o → h₁.get? b = some o) (hns : h₁.Ns Cl mv) : Rel w (inner C scope cl Cl (baseIn cl σ s.heap)) (mIn cl m) σ { s with heap := h₁, toks := t } := by
  have tl := TupLe.of_keeps k
  refine ⟨⟨fun a c e => ?_, r.hp.lo, r.hp.gens⟩, hlo, r.os, fun b o e => k _ _ (baseIn_some e).1, ⟨mv, hns, fun x v e ec => ?_⟩, fun x c e => ?_, fun a c e => ⟨?_, ?_, fun x c' e' => ?_⟩⟩
  · obtain ⟨o, g, y⟩ := r.hp.cells a c e; exact ⟨o, k _ _ g, y.mono tl⟩
  · have ec : cl.lookup x = none := ec
    unfold mIn at e; rw [ec] at e; cases e
  · have e : cl.lookup x = some c := e
    obtain ⟨u, a, b⟩ := r.cl x c (hc.sub x c e)
    refine ⟨u, a.keeps k, fun v q => ?_⟩
    unfold mIn at q; rw [e] at q
    obtain ⟨u', p, z⟩ := b v q
    exact ⟨u', p, z.mono tl⟩
  · show baseIn cl σ s.heap a = none
    unfold baseIn; rw [if_pos (.inr (by rw [e]; rfl))]
  · intro q
    have q : a = Cl := q
    obtain ⟨o, g, _⟩ := r.hp.cells _ c e
    rw [q, hCl] at g; cases g
  · have e' : cl.lookup x = some c' := e'
    exact (r.apart a c e).2.2 x c' (hc.sub x c' e')

theorem rel_out {cl : List (Str × Addr)} {s s' : Shared} {σ' : Store} {m' : Loc} {scope : Scope} {Cl : Addr} (O : C.Own) (hc : Capt C cl) (r : Rel w C m σ s) (tl : TupLe s.heap s'.heap) (km : LoLe (mIn cl m) m')
    (r' : Rel w (inner C scope cl Cl (baseIn cl σ s.heap)) m' σ' s') : Rel w C m σ' s' := by
  have off : ∀ b, (∀ c, σ b = some c → False) → σ b = none := fun b h => by cases q : σ b with | none => rfl | some c => exact (h c q).elim
  have hb : ∀ b o, C.base b = some o → baseIn cl σ s.heap b = some o := fun b o e => baseIn_of (r.keep b o e) (off b fun c q => by rw [(r.apart b c q).1] at e; cases e) (by rintro ⟨x, q⟩; rw [(O.cells x b (hc.sub x b q)).1] at e; cases e)
  have hL : ∀ o, s.heap.get? C.env.locals = some o → baseIn cl σ s.heap C.env.locals = some o := fun o e => baseIn_of e (off _ fun c q => (r.apart _ c q).2.1 rfl) (by rintro ⟨x, q⟩; exact (O.cells x _ (hc.sub x _ q)).2 rfl)
  have hcell : ∀ x c o, C.env.cells.lookup x = some c → ¬ capt cl c → s.heap.get? c = some o → baseIn cl σ s.heap c = some o := fun x c o e hn g => baseIn_of g (off _ fun c' q => (r.apart _ c' q).2.2 x c e rfl) hn
  refine ⟨r'.hp, r.lo, r'.os, fun b o e => r'.keep b o (hb b o e), ?_, fun x c e => ?_, fun a c e => ⟨?_, fun q => ?_, fun x c' e' q => ?_⟩⟩
  · obtain ⟨mv, n, q⟩ := r.ns
    exact ⟨mv, Heap.Ns_at n fun o e => r'.keep _ o (hL o e), fun y v e1 e2 => let ⟨u, a, b⟩ := q y v e1 e2; ⟨u, a, b.mono tl⟩⟩
  · obtain ⟨u, ⟨oc, ec, dc⟩, q⟩ := r.cl x c e
    by_cases hk : capt cl c
    · obtain ⟨x', e'⟩ := hk
      obtain rfl : x' = x := O.apart x' x c (hc.sub x' c e') e
      obtain ⟨u', a', b'⟩ := r'.cl x' c e'
      refine ⟨u', a', fun v ev => b' v (km x' v ?_)⟩
      unfold mIn; rw [e']; exact ev
    · exact ⟨u, ⟨oc, r'.keep _ _ (hcell x c oc e hk ec), dc⟩, fun v ev => let ⟨u', a, b⟩ := q v ev; ⟨u', a, b.mono tl⟩⟩
  · cases q : C.base a with
    | none => rfl
    | some o => have := (r'.apart a c e).1; rw [show (inner C scope cl Cl (baseIn cl σ s.heap)).base a = baseIn cl σ s.heap a from rfl, hb a o q] at this; cases this
  · obtain ⟨mv, ⟨o, _, _, g, _⟩, _⟩ := r.ns
    have := (r'.apart a c e).1
    rw [q, show (inner C scope cl Cl (baseIn cl σ s.heap)).base C.env.locals = baseIn cl σ s.heap C.env.locals from rfl, hL o g] at this; cases this
  · subst q
    by_cases hk : capt cl a
    · obtain ⟨x', q'⟩ := hk
      exact (r'.apart a c e).2.2 x' a q' rfl
    · obtain ⟨u, ⟨oc, ec, dc⟩, _⟩ := r.cl x a e'
      have := (r'.apart a c e).1
      rw [show (inner C scope cl Cl (baseIn cl σ s.heap)).base a = baseIn cl σ s.heap a from rfl, hcell x a oc e' hk ec] at this; cases this

/-- what a comprehension asks -/
noncomputable def CompGo (w : World) (C : Cx) (A : Around) (target elt : PySem.Expr) (ifs : List PySem.Expr) (scope : Scope) (cl : List (Str × Addr)) (m : Loc) (fin : List V → Store → Prop) (nm : Bool) (l : List V) (need : Store → Prop) (σ₁ : Store) : Prop :=
  (nm = true ∨ ∃ elts k p, target = .Tuple elts k p) ∧ ∃ Inv : Nat → List V → Store → Prop, l.length ≤ sizeLine ∧ Inv 0 [] σ₁ ∧ (∀ i acc σ, Inv i acc σ → need σ) ∧
    (∀ Cl base, (inner C scope cl Cl base).Own → (inner C scope cl Cl base).Ok → ∀ i v acc σ₂, l[i]? = some v → Inv i acc σ₂ → ∃ m₁, LoLe (mIn cl m) m₁ ∧ As w (inner C scope cl Cl base) A (assign target (compEnvC scope cl Cl C.env)) v (mIn cl m) σ₂ m₁ ∧
      Ts w (inner C scope cl Cl base) A ifs (compEnvC scope cl Cl C.env) m₁ σ₂ (fun b σ₃ => (b = true → Ev w (inner C scope cl Cl base) A (eval elt (compEnvC scope cl Cl C.env)) m₁ σ₃ (fun x σ₄ => Inv (i + 1) (acc ++ [x]) σ₄)) ∧ (b = false → Inv (i + 1) acc σ₃))) ∧
    (∀ acc σ₂, acc.length ≤ l.length → Inv l.length acc σ₂ → fin acc σ₂)

theorem comp_core {target elt iter : PySem.Expr} {ifs : List PySem.Expr} {scope : Scope} {pos : Pos} {cl : List (Str × Addr)} {s : Shared} {I : Addr} {fp : List Addr} {h₀ : Heap} {tk : Nat} {St : Nat → Heap → Prop} {Mid : Nat → Value → Heap → Prop} {nm : Bool} {l : List V} {need : Store → Prop}
    {fin : List V → Store → Prop} {RR : Value → Addr → Result → Shared → Prop}
    (O : C.Own) (ok : C.Ok) (hc : Capt C cl) (hcell : ∀ y ∈ scope.names, y.2 ≠ .cell) (hkind : scope.kind = .function)
    (ht : (∃ x p, target = .Name x p) ∨ ∃ elts k p, target = .Tuple elts k p)
    (r : Rel w C m σ s) (It : Iter w A I fp nm l need St Mid) (hfp : ∀ b ∈ fp, s.heap.get? b = none ∧ sysModules < b) (st : St 0 h₀) (kp : ∀ b o, s.heap.get? b = some o → h₀.get? b = some o) (h : CompGo w C A target elt ifs scope cl m fin nm l need σ)
    (hRR : ∀ D Cl acc σ' s', fin acc σ' → σ' D = none → TupLe s.heap s'.heap → Rel w C m (upd σ' D (.list acc)) s' → (∃ mC, s'.heap.Ns Cl mC) → Cl ≠ D → s.heap.get? Cl = none → σ' Cl = none → RR (.ref D) Cl (.ok .next) s') :
    wpAny (model P w) A (newList []) (fun acc s₃ => wpAny (model P w) A (newFunctionEnv scope C.env.globals cl [] C.env.qual none .none (some C.env)) (fun cenv s₄ =>
      codeAny (model P w) A (.compStart (.ListComp elt [⟨target, iter, ifs, 0⟩] scope pos) 0 (.ref I) acc { cenv with scope := relabel scope C.env }) (RR acc cenv.locals) s₄) No s₃) No { s with heap := h₀, toks := tk } := by
  obtain ⟨hnm, Inv, hsz, h0, hneed, step, hfin⟩ := h
  refine wpAny_newObj_type (wpAny_newFunctionEnv hcell (by intro y hy; simp at hy) (fun h₁ hns₁ hsb₁ => ?_) hkind)
  dsimp only at hns₁ hsb₁ ⊢
  generalize hD : h₀.objs.size = D at hns₁ hsb₁ ⊢
  generalize hCl : (h₀.push { cls := .type "list", dict := none, data := .seq ([] : List Value).toArray }).objs.size = Cl at hns₁ hsb₁ ⊢
  have hClD : Cl = D + 1 := by rw [← hCl, Heap.size_push, hD]
  have fresh0 : ∀ a, D ≤ a → h₀.get? a = none := fun a ha => by
    cases e : h₀.get? a with
    | none => rfl
    | some o' => exact absurd (Heap.lt_size e) (by rw [hD]; exact Nat.not_lt.mpr ha)
  have fresh : ∀ a, D ≤ a → s.heap.get? a = none := fun a ha => by
    cases e : s.heap.get? a with
    | none => rfl
    | some o' => have := kp a o' e; rw [fresh0 a ha] at this; cases this
  have fD : s.heap.get? D = none := fresh D (Nat.le_refl _)
  have fC : s.heap.get? Cl = none := fresh Cl (by rw [hClD]; exact Nat.le_add_right _ _)
  have nDC : D ≠ Cl := by rw [hClD]; exact Nat.ne_of_lt (Nat.lt_succ_self _)
  have lv0 := fun b hb => It.live 0 h₀ b st hb
  have ltf : ∀ b ∈ fp, b < D := fun b hb => by obtain ⟨o, e, _⟩ := lv0 b hb; rw [← hD]; exact Heap.lt_size e
  have top : sysModules < D := by
    obtain ⟨mv, n, _⟩ := r.ns
    obtain ⟨o, _, _, e, _⟩ := n
    exact Nat.lt_trans r.lo (by rw [← hD]; exact Heap.lt_size (kp _ _ e))
  have k0 : ∀ b o, h₀.get? b = some o → h₁.get? b = some o := fun b o e => hsb₁.extBut b o (fun q => by rw [q, fresh0 Cl (by rw [hClD]; exact Nat.le_add_right _ _)] at e; cases e) (Heap.get?_push_of_some _ (Heap.get?_push_of_some _ e))
  have k : ∀ b o, s.heap.get? b = some o → h₁.get? b = some o := fun b o e => k0 b o (kp b o e)
  have gD : h₁.get? D = some { cls := .type "list", data := .seq #[] } := hsb₁.extBut D _ nDC (Heap.get?_push_of_some _ (by rw [← hD]; exact Heap.get?_push_size _ rfl))
  have st₁ : St 0 h₁ := It.frame _ _ _ st (fun b _ o e => k0 b o e) (.of_keeps k0)
  let C₂ := inner C scope cl Cl (baseIn cl σ s.heap)
  have O₂ : C₂.Own := capt_own O hc r fC
  have ok₂ : C₂.Ok := capt_ok ok O hc r
  have r₁ : ∀ t, Rel w C₂ (mIn cl m) σ { s with heap := h₁, toks := t } := fun t => rel_in O hc r fC (by rw [hClD]; exact Nat.lt_succ_of_lt top) k hns₁
  have off : ∀ a, a < Cl → s.heap.get? a = none → Off C₂ σ a := fun a hlt fa =>
    ⟨baseIn_none fa, Nat.ne_of_lt hlt, fun x c e q => (by
      obtain ⟨u', ⟨oc, ec, _⟩, _⟩ := r.cl x c (hc.sub x c e); rw [← q, fa] at ec; cases ec), fresh_of r.hp fa⟩
  have oD : Off C₂ σ D := off D (by rw [hClD]; exact Nat.lt_succ_self _) fD
  have oF : ∀ b ∈ fp, Off C₂ σ b := fun b hb => off b (by rw [hClD]; exact Nat.lt_succ_of_lt (ltf b hb)) (hfp b hb).1
  have nDF : D ∉ fp := fun q => Nat.lt_irrefl _ (ltf D q)
  have lnt : ∀ (vs : Array Value) (c : Nat) vs' n', ({ cls := .type "list", data := .seq vs c } : Obj) ≠ tupO vs' n' := fun vs c vs' n' q => absurd (congrArg Obj.cls q) (by show Value.type "list" ≠ Value.type "tuple"; decide)
  have loop : ∀ t, codeAny (model P w) A (.compLoop (.ListComp elt [⟨target, iter, ifs, 0⟩] scope pos) 0 (.ref I) (.ref D) C₂.env) (RR (.ref D) Cl) { s with heap := h₁, toks := t } := fun t => by
    refine comp_loop_any (fun n s' => ∃ i σ₁ acc, i ≤ l.length ∧ n = l.length + 1 - i ∧ St i s'.heap ∧ Rel w C₂ (mIn cl m) σ₁ s' ∧ (∀ b ∈ fp, Off C₂ σ₁ b) ∧ Off C₂ σ₁ D ∧ acc.length ≤ i ∧ (∃ vs c, s'.heap.get? D = some { cls := .type "list", data := .seq vs c } ∧ VAll s'.heap acc vs.toList) ∧ Inv i acc σ₁ ∧ TupLe s.heap s'.heap) ?_
      (l.length + 1) ⟨0, σ, [], Nat.zero_le _, rfl, st₁, r₁ t, oF, oD, Nat.le_refl _, ⟨#[], 0, gD, .nil⟩, h0, .of_keeps k⟩
    rintro n s' ⟨i, σ₁, acc, hi, rfl, st', r', hF, hDo, hal, ⟨vs, c, gD', zD⟩, hInv, tl'⟩
    by_cases hlt : i < l.length
    · refine It.item i s' σ₁ l[i] _ (by simp [hlt]) st' (hneed i acc σ₁ hInv) r'.hp (fun b hb => (hF b hb).st) fun u h' tk yu sb st₂ => ?_
      obtain ⟨t₁, r₂⟩ := r'.others (t := tk) (fun b hb => It.live i _ b st' hb) sb hF
      have gD₂ := sb D _ nDF gD'
      have go : ∀ h₂, St (i + 1) h₂ → (∀ b o, b ∉ fp → h'.get? b = some o → h₂.get? b = some o) → wpAny (model P w) A (assign target C₂.env u) (fun _ s₂ =>
          wpAny (model P w) A (forIn ifs true fun c r => if r = true then do let ok ← isTrue c C₂.env (eval c C₂.env); pure (ForInStep.yield ok) else pure (ForInStep.yield r)) (fun ok s₃ =>
            if ok = true then wpAny (model P w) A (eval elt C₂.env) (fun x s₄ =>
              wpAny (model P w) A (call (.builtin "list.append") [.ref D, x]) (fun _ s₅ => ∃ m₉, m₉ < l.length + 1 - i ∧ ∃ i σ₁ acc, i ≤ l.length ∧ m₉ = l.length + 1 - i ∧ St i s₅.heap ∧ Rel w C₂ (mIn cl m) σ₁ s₅ ∧ (∀ b ∈ fp, Off C₂ σ₁ b) ∧ Off C₂ σ₁ D ∧ acc.length ≤ i ∧ (∃ vs c, s₅.heap.get? D = some { cls := .type "list", data := .seq vs c } ∧ VAll s₅.heap acc vs.toList) ∧ Inv i acc σ₁ ∧ TupLe s.heap s₅.heap) No s₄) No s₃
            else ∃ m₉, m₉ < l.length + 1 - i ∧ ∃ i σ₁ acc, i ≤ l.length ∧ m₉ = l.length + 1 - i ∧ St i s₃.heap ∧ Rel w C₂ (mIn cl m) σ₁ s₃ ∧ (∀ b ∈ fp, Off C₂ σ₁ b) ∧ Off C₂ σ₁ D ∧ acc.length ≤ i ∧ (∃ vs c, s₃.heap.get? D = some { cls := .type "list", data := .seq vs c } ∧ VAll s₃.heap acc vs.toList) ∧ Inv i acc σ₁ ∧ TupLe s.heap s₃.heap) No s₂) No { s' with heap := h₂, toks := tk } := by
        intro h₂ st₃ kp₂
        obtain ⟨t₁', r₃⟩ := r₂.others (t := tk) (fun b hb => It.liveM i u _ b st₂ hb) kp₂ hF
        have gD₃ := kp₂ D _ nDF gD₂
        obtain ⟨m₁, lo₁, as, ts⟩ := step Cl _ (frz_own (σ := σ₁) (h := h₂) O₂) (frz_ok O₂ ok₂ r₃) i l[i] acc σ₁ (by simp [hlt]) hInv
        have close : ∀ {s₃ : Shared} {σ₃ : Store}, Rel w (C₂.with (frz C₂ σ₁ h₂)) m₁ σ₃ s₃ →
            s₃.heap.get? D = some { cls := .type "list", data := .seq vs c } ∧ Off C₂ σ₃ D ∧ (∀ b ∈ fp, Off C₂ σ₃ b) ∧ (∀ b ∈ fp, ∀ o, h₂.get? b = some o → s₃.heap.get? b = some o) ∧ Rel w C₂ (mIn cl m) σ₃ s₃ := fun {s₃ σ₃} r₄ => by
          obtain ⟨r₅, kf⟩ := Rel.thaw O₂ r₃ (r₄.le lo₁ (.refl _))
          obtain ⟨a, b⟩ := kf D _ gD₃ hDo
          refine ⟨a, b, fun b hb => ?_, fun b hb o e => (kf b o e (hF b hb)).1, r₅⟩
          obtain ⟨o, e, _⟩ := It.live _ _ b st₃ hb
          exact (kf b o e (hF b hb)).2
        refine wpAny_mono (as _ u r₃.freeze (yu.mono t₁')) (fun _ s₂ ⟨t₂, r₄⟩ => ts.use r₄ fun b s₃ b' σ₃ t₃ hb r₅ ⟨k₁, k₂⟩ => ?_) (fun _ _ x => x)
        cases (show b = b' from hb)
        cases b with
        | false =>
          rw [if_neg Bool.false_ne_true]
          obtain ⟨g₃, a₁, a₂, g₄, r₆⟩ := close r₅
          exact ⟨l.length + 1 - (i + 1), by omega, i + 1, σ₃, acc, hlt, rfl, It.frame _ _ _ st₃ g₄ (t₂.trans t₃), r₆, a₂, a₁, Nat.le_succ_of_le hal, ⟨vs, c, g₃, zD.mono (((t₁.trans t₁').trans t₂).trans t₃)⟩, k₂ rfl, (((tl'.trans t₁).trans t₁').trans t₂).trans t₃⟩
        | true =>
          rw [if_pos rfl]
          refine (k₁ rfl).use r₅ fun x s₄ vx σ₄ t₄ yx r₆ hI₄ => ?_
          obtain ⟨g₃, a₁, a₂, g₄, r₇⟩ := close r₆
          have hsv : vs.size = acc.length := by rw [← Array.length_toList]; exact zD.length
          refine append_at g₃ (fun h₅ sb₅ g₅ => ?_) (by rw [hsv]; omega)
          obtain ⟨t₅, r₈⟩ := r₇.other (t := s₄.toks) g₃ (lnt _ _) sb₅.extBut a₁
          have zD' := zD.mono (((((t₁.trans t₁').trans t₂).trans t₃).trans t₄).trans t₅)
          exact ⟨l.length + 1 - (i + 1), by omega, i + 1, σ₄, acc ++ [vx], hlt, rfl, It.frame _ _ _ st₃ (fun b hb o e => sb₅.extBut b _ (fun q => nDF (q ▸ hb)) (g₄ b hb o e)) (((t₂.trans t₃).trans t₄).trans t₅), r₈, a₂, a₁, by rw [List.length_append, List.length_singleton]; omega,
            ⟨_, _, g₅, by rw [Array.toList_push]; exact zD'.append (.cons (yx.mono t₅) .nil)⟩, hI₄, (((((tl'.trans t₁).trans t₁').trans t₂).trans t₃).trans t₄).trans t₅⟩
      rcases ht with ⟨x, p, rfl⟩ | ⟨elts, kk, p, rfl⟩
      · show wpAny _ _ (pure ()) _ _ _
        refine wpAny_pure (go h' (It.mid ?_ i u h' st₂) (fun _ _ _ e => e))
        rcases hnm with q | ⟨_, _, _, q⟩
        · exact q
        · cases q
      · exact It.own _ elts kk p _ u _ st₂ go
    · obtain rfl : i = l.length := Nat.le_antisymm hi (Nat.not_lt.mp hlt)
      refine It.done s' σ₁ _ st' (hneed _ acc σ₁ hInv) r'.hp (fun b hb => (hF b hb).st) fun h' tk sb => ?_
      obtain ⟨t₁, r₂⟩ := r'.others (t := tk) (fun b hb => It.live _ _ b st' hb) sb hF
      have gD₂ := sb D _ nDF gD'
      have rO := rel_out O hc r (tl'.trans t₁) (.refl _) r₂
      obtain ⟨mC, nC, _⟩ := r₂.ns
      refine hRR D Cl acc σ₁ _ (hfin acc σ₁ hal hInv) hDo.st (tl'.trans t₁) (rO.at (c := .list acc) fD r gD₂ ⟨vs, c, rfl, zD.mono t₁⟩ top) ⟨mC, nC⟩ (Ne.symm nDC) fC ?_
      cases q : σ₁ Cl with
      | none => rfl
      | some cc => exact absurd rfl (r₂.apart Cl cc q).2.1
  exact codeAny_compStart_list (loop _) (noted_of (env := C.env) (It.self 0 _ _ _ st₁ (loop _)))
end
section
variable {w : World} {C : Cx} {A : Around} {m : Loc} {σ : Store} {K : V → Store → Prop} {N : Loc → Store → Prop} {R : V → Store → Prop}

theorem let_comp {s s' : Shared} {σ₁ : Store} {m₁ : Loc} {Cl : Addr} {h' : Heap} {mC : Str → Option Value} (r₀ : Rel w C m σ s) (r : Rel w C m₁ σ₁ s') (fr : s.heap.get? Cl = none) (nC : s'.heap.Ns Cl mC) (hs : Heap.SameBut Cl s'.heap h') (hσ : σ₁ Cl = none) :
    TupLe s'.heap h' ∧ Rel w C m₁ σ₁ { s' with heap := h' } := by
  have f := off_fresh r₀ fr
  have nt := ns_notTup nC
  obtain ⟨o, es, ep, e, _⟩ := nC
  exact r.other (t := s'.toks) e (nt o e) hs.extBut ⟨f.base, f.loc, f.cells, hσ⟩

theorem ev_comp {target elt iter : PySem.Expr} {ifs : List PySem.Expr} {scope : Scope} {pos : Pos} (cl : List (Str × Addr)) (hh : A.handled = none) (O : C.Own) (ok : C.Ok)
    (hclos : closureFor scope C.env = pure cl) (hc : Capt C cl) (hcell : ∀ y ∈ scope.names, y.2 ≠ .cell) (hkind : scope.kind = .function) (hnames : ∀ y ∈ scope.names, y.2 = .local → scope.names.lookup y.1 = some .local)
    (ht : (∃ x p, target = .Name x p) ∨ ∃ elts k p, target = .Tuple elts k p) (hs : ∀ x, foldedSetIterable iter C.env x = pure x)
    (h : Si w C A (eval iter C.env) m σ (CompGo w C A target elt ifs scope cl m (fun acc σ₂ => ∀ D, σ₂ D = none → K (.ref D) (upd σ₂ D (.list acc))))) :
    Ev w C A (eval (.ListComp elt [⟨target, iter, ifs, 0⟩] scope pos) C.env) m σ K := fun s r => by
  rw [eval_ListComp]
  refine wpAny_comprehension_free (use := none) rfl hs hclos hkind hnames (h s r _ fun s₁ σ₁ I fp h' tk St Mid nm l need t r₁ go It fr st kp => ?_)
  refine comp_core (RR := fun acc Cl => compPost (model P w) A No none (Po w C m VIs s.heap K) acc Cl) O ok hc hcell hkind ht r₁ (It A hh) fr st kp go fun D Cl acc σ' s' hf hD tl r' ⟨mC, nC⟩ hne fC hσ => ?_
  refine ⟨mC, nC, fun h' hsb => ?_⟩
  obtain ⟨tl', r''⟩ := let_comp r₁ r' fC nC hsb (by rw [upd_ne hne]; exact hσ)
  exact ⟨(t.trans tl).trans tl', .ref D, _, vis_ref, r'', hf D hD⟩

theorem ex_comp {target elt iter : PySem.Expr} {ifs : List PySem.Expr} {scope : Scope} {pos spos py : Pos} {yn : Str} (cl : List (Str × Addr)) (hh : A.handled = none) (O : C.Own) (ok : C.Ok)
    (hsw : swapsWith (.ListComp elt [⟨target, iter, ifs, 0⟩] scope pos) (some (.Name yn py)) spos.line C.env = pure true)
    (hclos : closureFor scope C.env = pure cl) (hc : Capt C cl) (hcell : ∀ y ∈ scope.names, y.2 ≠ .cell) (hkind : scope.kind = .function) (hnames : ∀ y ∈ scope.names, y.2 = .local → scope.names.lookup y.1 = some .local)
    (ht : (∃ x p, target = .Name x p) ∨ ∃ elts k p, target = .Tuple elts k p) (hs : ∀ x, foldedSetIterable iter C.env x = pure x)
    (h : Si w C A (eval iter C.env) m σ (CompGo w C A target elt ifs scope cl m (fun acc σ₂ => ∀ D, σ₂ D = none → ∃ m', (∀ base, (C.with base).Own → As w (C.with base) A (storeName C.env yn) (.ref D) m (upd σ₂ D (.list acc)) m') ∧ N m' (upd σ₂ D (.list acc))))) :
    Ex w C A (exec (.Assign [.Name yn py] (.ListComp elt [⟨target, iter, ifs, 0⟩] scope pos) spos) C.env) m σ N R := fun s r => by
  rw [exec_Assign_Name_used _ _ _ _ hsw]
  refine wpAny_bind (wpAny_standAt (wpAny_bind ?_))
  show wpAny _ A (do let _ ← comprehension (.ListComp elt [⟨target, iter, ifs, 0⟩] scope pos) scope C.env _ (newList []) false (eval iter C.env) (some (assign (.Name yn py) C.env))) _ _ s
  refine wpAny_bind (wpAny_mono (wpAny_comprehension_free (use := some (assign (.Name yn py) C.env)) (E := No) (Q := fun _ s' => Px w C s.heap N R .next s') rfl hs hclos hkind hnames
    (h s r _ fun s₁ σ₁ I fp h' tk St Mid nm l need t r₁ go It fr st kp => ?_)) (fun _ s' hq => wpAny_pure (wpAny_pure hq)) fun _ _ e => e)
  refine comp_core (RR := fun acc Cl => compPost (model P w) A No (some (assign (.Name yn py) C.env)) (fun _ s' => Px w C s.heap N R .next s') acc Cl) O ok hc hcell hkind ht r₁ (It A hh) fr st kp go fun D Cl acc σ' s' hf hD tl r' ⟨mC, nC⟩ hne fC hσ => ?_
  obtain ⟨m', as, hn⟩ := hf D hD
  show wpAny _ A (assign (.Name yn py) C.env (.ref D)) _ _ _
  have hσ' : upd σ' D (.list acc) Cl = none := by rw [upd_ne hne]; exact hσ
  have f := off_fresh r₁ fC
  obtain ⟨oC, es, ep, eC, rest⟩ := id nC
  refine wpAny_assign_Name (wpAny_mono (as _ (frz_own (σ := upd σ' D (.list acc)) (h := s'.heap) O) s' (.ref D) r'.freeze vis_ref) (fun _ s'' ⟨t₂, r₂⟩ => ?_) fun _ _ e => e)
  obtain ⟨r₃, kf⟩ := Rel.thaw O r' r₂
  obtain ⟨e₂, h₂⟩ := kf Cl oC eC ⟨f.base, f.loc, f.cells, hσ'⟩
  refine ⟨mC, Heap.Ns_at nC fun o e => ?_, fun h' hsb => ?_⟩
  · rw [eC] at e; cases e; exact e₂
  · obtain ⟨tl', r''⟩ := let_comp r₁ r₃ fC (Heap.Ns_at nC fun o e => (by rw [eC] at e; cases e; exact e₂)) hsb h₂.st
    exact ⟨((t.trans tl).trans t₂).trans tl', m', _, r'', hn⟩
end
abbrev dicO (es : Array DictEntry) (ep : Nat) : Obj := ⟨.type "dict", none, .dict es ep, #[]⟩
/-- an items iterator: the last tuple it handed out, or none -/
abbrev ItO (p : Value) (f : Bool) (d : Addr) (i n ep : Nat) (ok ov : Value) : Obj := { cls := .type "dict_itemiterator", dict := none, data := .fields #[p, .bool f, .ref d, .int i 0, .int n 0, .int ep 0, ok, ov], slots := #[] }
section
variable {w : World} {A : Around} {E : Value → Shared → Prop} {s : Shared}

theorem view_iter {v d : Addr} {es : Array DictEntry} {ep : Nat} {Q : Value → Shared → Prop} (hv : s.heap.IsItemsView v d) (hm : s.heap.get? d = some (dicO es ep))
    (hQ : Q (.ref s.heap.objs.size) { s with heap := s.heap.push (ItO .none false d 0 es.size ep .none .none) }) : wpAny (model P w) A (pyIter (.ref v)) Q E s := by
  obtain ⟨ov, hov, hcv, hdv⟩ := id hv
  refine wpAny_pyIter_slot hv.typeIs PySem.F.slot_dict_items_iter (wpAny_call_entry PySem.F.slot_dict_items_iter hv.typeIs PySem.F.entry_dict_items_iter ?_ (PySem.F.args_dict_items_iter_1 _))
  unfold Builtin.«dict_items.__iter__»
  refine wpAny_bind (wpAny_pure ?_)
  refine wpAny_bind ?_
  unfold Builtin.Dict_items.dictOf
  refine wpAny_bind (wpAny_field hov hdv (x := .ref d) rfl (wpAny_pure ?_))
  refine wpAny_bind ?_
  unfold Builtin.Dict_items.newIterator
  refine wpAny_bind (wpAny_dictEntries hm rfl ?_)
  refine wpAny_bind (wpAny_dictEpoch hm rfl ?_)
  have hown : Builtin.Dict_items.ownsTuple "dict_itemiterator" = true := by decide
  simp only [hown, if_true]
  refine wpAny_newObj_type (wpAny_pure ⟨_, rfl, "dict_itemiterator", _, ⟨_, Heap.get?_push_size _ rfl, rfl⟩, PySem.F.slot_dict_itemiterator_next.lookup, ?_⟩)
    (by simp only [sizeOk, Builtin.Dict_items.ownedTupleFields, List.size_toArray, List.length_append, List.length_cons, List.length_nil, sizeLine_eq]; omega)
  simpa [ItO, rawInt, Builtin.Dict_items.ownedTupleFields] using hQ

/-- the state between two items -/
noncomputable def VSt (h : Heap) (it d : Addr) (i n ep : Nat) : Prop :=
  (i = 0 ∧ ∃ ok ov, h.get? it = some (ItO .none false d 0 n ep ok ov)) ∨ ∃ ok ov a f oa, h.get? it = some (ItO (rawInt (a : Nat)) f d i n ep ok ov) ∧ h.get? a = some oa ∧ a ≠ it ∧ ∃ us k, oa = tupO us k

theorem view_head {it d : Addr} {i n ep : Nat} {p ok ov : Value} {f : Bool} {es : Array DictEntry} {Q : Option Value → Shared → Prop} (hit : s.heap.get? it = some (ItO p f d i n ep ok ov)) (hm : s.heap.get? d = some (dicO es ep)) (hn : es.size = n) (hlt : i < n)
    (h : ∀ h₁ e, es[i]? = some e → h₁.get? it = some (ItO p f d (i + 1) n ep ok ov) → Heap.SameBut it s.heap h₁ →
      wpAny (model P w) A.in1 (Builtin.Dict_items.pairFromOwner (.ref it) 6 e.key e.val) (fun v s' => Q (some v) s') (fun _ _ => False) { s with heap := h₁ }) :
    wpAny (model P w) A (pyNext (.ref it)) Q E s := by
  obtain ⟨hp, g, dr, tk, os⟩ := s
  have hT : Shared.TypeIs ⟨hp, g, dr, tk, os⟩ (.ref it) "dict_itemiterator" := ⟨_, hit, rfl⟩
  unfold pyNext
  refine wpAny_bind (wpAny_attempt (wpAny_callSpecial?_slot (name := Str.ofString "__next__") hT PySem.F.slot_dict_itemiterator_next
    (wpAny_call_entry PySem.F.slot_dict_itemiterator_next hT PySem.F.entry_dict_itemiterator_next ?_ (PySem.F.args_dict_itemiterator_next_1 _))))
  refine wpAny_bind (wpAny_pure ?_)
  refine wpAny_bind ?_
  refine wpAny_bind ?_
  first | refine wpAny_bind (wpAny_typeNameOfWhole_itemiter hT (wpAny_pure ?_)) | refine wpAny_bind (wpAny_typeNameOf_itemiter hT (wpAny_pure ?_))
  refine wpAny_bind (wpAny_fieldsOf hit rfl ?_)
  have hown : Builtin.Dict_items.ownsTuple "dict_itemiterator" = true := by decide
  rw [if_pos hown]
  show wpAny _ _ (if (Value.ref d == Value.none) = true then _ else _) _ _ _
  rw [if_neg (show ¬ ((Value.ref d == Value.none) = true) from Bool.false_ne_true)]
  refine wpAny_bind (wpAny_pure ?_)
  refine wpAny_bind (wpAny_dictEntries hm rfl ?_)
  rw [if_neg (by rw [hn]; simp)]
  refine wpAny_bind (wpAny_pure ?_)
  refine wpAny_bind (wpAny_dictEpoch hm rfl ?_)
  rw [if_neg (by simp)]
  refine wpAny_pure ?_
  have hlt' : i < es.size := by rw [hn]; exact hlt
  simp only [show ¬ ((i : Int) < 0) from by omega, if_false, Int.toNat_natCast, Array.getElem?_eq_getElem hlt']
  refine wpAny_bind ?_
  first | refine wpAny_bind (wpAny_typeNameOfWhole_itemiter hT (wpAny_pure ?_)) | refine wpAny_bind (wpAny_typeNameOf_itemiter hT (wpAny_pure ?_))
  refine wpAny_bind (wpAny_isOneOf_itemiter hT ?_)
  show wpAny _ _ (setField (.ref it) 3 (rawInt ((i : Int) + 1)) >>= _) _ _ ⟨hp, g, dr, tk, os⟩
  refine wpAny_bind (wpAny_setField_rec hit (by simp) fun h₁ he₁ hs₁ => ?_)
  replace hs₁ : Heap.SameBut it hp h₁ := hs₁
  replace he₁ : h₁.get? it = some (ItO p f d (i + 1) n ep ok ov) := by
    have e : ((i + 1 : Nat) : Int) = (i : Int) + 1 := by omega
    unfold ItO; rw [e]; simpa [rawInt] using he₁
  have hT₁ : Shared.TypeIs ⟨h₁, g, dr, tk, os⟩ (.ref it) "dict_itemiterator" := ⟨_, he₁, rfl⟩
  refine wpAny_bind (wpAny_holding ?_)
  refine wpAny_bind (wpAny_isOneOf_itemiter hT₁ ?_)
  refine wpAny_bind (wpAny_isOneOf_itemiter hT₁ ?_)
  show wpAny _ _ (Builtin.Dict_items.pairFromOwner (.ref it) 6 es[i].key es[i].val) _ _ ⟨h₁, g, dr, tk, os⟩
  exact wpAny_mono (h h₁ es[i] (by simp [hlt']) he₁ hs₁) (fun v s' q => wpAny_pure ⟨_, rfl, wpAny_pure q⟩) (fun _ _ x => x.elim)

theorem view_item {it d : Addr} {i n ep : Nat} {es : Array DictEntry} {Q : Option Value → Shared → Prop} (hst : VSt s.heap it d i n ep) (hm : s.heap.get? d = some (dicO es ep)) (hn : es.size = n) (hlt : i < n)
    (hQ : ∀ e h', es[i]? = some e → VSt h' it d (i + 1) n ep → h'.get? s.heap.objs.size = some (tupO #[e.key, e.val] 0) → h'.objs.size = s.heap.objs.size + 1 →
      (∀ b o, b ≠ it → s.heap.get? b = some o → h'.get? b = some o) → Q (some (.ref s.heap.objs.size)) { s with heap := h' }) :
    wpAny (model P w) A (pyNext (.ref it)) Q E s := by
  obtain ⟨hp, g, dr, tk, os⟩ := s
  have hil : it < hp.objs.size := by rcases hst with ⟨_, _, _, e⟩ | ⟨_, _, _, _, _, e, _⟩ <;> exact Heap.lt_size e
  have common : ∀ (h₁ h₂ : Heap) (k v : Value) (p : Value) (f : Bool) (ok ov : Value), h₁.get? it = some (ItO p f d (i + 1) n ep ok ov) → Heap.SameBut it hp h₁ → h₁.push (tupO #[k, v] 0) = h₂ →
      h₂.get? it = some (ItO p f d (i + 1) n ep ok ov) ∧ h₁.objs.size = hp.objs.size ∧ h₂.get? hp.objs.size = some (tupO #[k, v] 0) ∧ h₂.objs.size = hp.objs.size + 1 ∧ ∀ b o, b ≠ it → hp.get? b = some o → h₂.get? b = some o := fun h₁ h₂ k v p f ok ov he₁ hs₁ hh => by
    have hz₁ : h₁.objs.size = hp.objs.size := hs₁.1
    refine ⟨by rw [← hh]; exact Heap.get?_push_of_some _ he₁, hz₁, by rw [← hh, ← hz₁]; exact Heap.get?_push_size _ rfl, by rw [← hh, Heap.size_push, hz₁], fun b o hb e => by rw [← hh]; exact Heap.get?_push_of_some _ (hs₁.extBut b o hb e)⟩
  rcases hst with ⟨rfl, ok, ov, hit⟩ | ⟨ok, ov, a, f, oa, hit, ha, hai, us, kk, rfl⟩
  · refine view_head hit hm hn hlt fun h₁ e he he₁ hs₁ => ?_
    unfold Builtin.Dict_items.pairFromOwner
    refine wpAny_bind (wpAny_newTuple ?_)
    generalize hh₂ : h₁.push { cls := .type "tuple", data := .seq #[e.key, e.val] } = h₂
    obtain ⟨he₂, hz₁, ht₂, hz₂, hk₂⟩ := common _ _ _ _ _ _ _ _ he₁ hs₁ hh₂
    show wpAny _ _ (Builtin.Dict_items.ownedTupleIsFree (.ref it) >>= _) _ _ ⟨h₂, g, dr, tk, os⟩
    dsimp only
    rw [hz₁]
    refine wpAny_bind ?_
    unfold Builtin.Dict_items.ownedTupleIsFree
    refine wpAny_bind (wpAny_field he₂ rfl (x := .none) rfl (wpAny_pure ?_))
    simp only [if_true]
    refine wpAny_bind (wpAny_field he₂ rfl (x := ok) rfl ?_)
    refine wpAny_bind (wpAny_field he₂ rfl (x := ov) rfl ?_)
    refine wpAny_bind (wpAny_setField_rec he₂ (by simp) fun h₃ he₃ hs₃ => ?_)
    replace hs₃ : Heap.SameBut it h₂ h₃ := hs₃
    replace he₃ : h₃.get? it = some (ItO .none false d (0 + 1) n ep e.key ov) := he₃
    refine wpAny_bind (wpAny_setField_rec he₃ (by simp) fun h₄ he₄ hs₄ => ?_)
    replace hs₄ : Heap.SameBut it h₃ h₄ := hs₄
    replace he₄ : h₄.get? it = some (ItO .none false d (0 + 1) n ep e.key e.val) := he₄
    refine wpAny_bind (wpAny_setField_rec he₄ (by simp) fun h₅ he₅ hs₅ => ?_)
    replace hs₅ : Heap.SameBut it h₄ h₅ := hs₅
    replace he₅ : h₅.get? it = some (ItO (rawInt hp.objs.size) false d (0 + 1) n ep e.key e.val) := he₅
    refine wpAny_bind (wpAny_setField_rec he₅ (by simp) fun h₆ he₆ hs₆ => ?_)
    replace hs₆ : Heap.SameBut it h₅ h₆ := hs₆
    replace he₆ : h₆.get? it = some (ItO (rawInt hp.objs.size) false d (0 + 1) n ep e.key e.val) := he₆
    have up : ∀ b o, b ≠ it → h₂.get? b = some o → h₆.get? b = some o := fun b o hb q => hs₆.extBut b o hb (hs₅.extBut b o hb (hs₄.extBut b o hb (hs₃.extBut b o hb q)))
    have ht₆ := up _ _ (Nat.ne_of_gt hil) ht₂
    refine wpAny_bind (wpAny_letGo (wpAny_pure ?_))
    exact hQ e h₆ he (.inr ⟨_, _, hp.objs.size, false, _, he₆, ht₆, Nat.ne_of_gt hil, _, _, rfl⟩) ht₆ (by show h₆.objs.size = hp.objs.size + 1; rw [hs₆.1, hs₅.1, hs₄.1, hs₃.1, hz₂]) fun b o hb q => up b o hb (hk₂ b o hb q)
  · refine view_head hit hm hn hlt fun h₁ e he he₁ hs₁ => ?_
    unfold Builtin.Dict_items.pairFromOwner
    refine wpAny_bind (wpAny_newTuple ?_)
    generalize hh₂ : h₁.push { cls := .type "tuple", data := .seq #[e.key, e.val] } = h₂
    obtain ⟨he₂, hz₁, ht₂, hz₂, hk₂⟩ := common _ _ _ _ _ _ _ _ he₁ hs₁ hh₂
    show wpAny _ _ (Builtin.Dict_items.ownedTupleIsFree (.ref it) >>= _) _ _ ⟨h₂, g, dr, tk, os⟩
    dsimp only
    rw [hz₁]
    have ha₂ : h₂.get? a = some (tupO us kk) := hk₂ a _ hai ha
    refine wpAny_bind ?_
    unfold Builtin.Dict_items.ownedTupleIsFree
    refine wpAny_bind (wpAny_field he₂ rfl (x := rawInt a) rfl ?_)
    show wpAny _ _ (loadIfAlive ((a : Int).toNat) >>= _) _ _ _
    rw [Int.toNat_natCast]
    refine wpAny_bind (kdx_alive ha₂ ?_)
    simp only [Option.isNone_some, Bool.false_eq_true, if_false]
    refine wpAny_bind (wpAny_field he₂ rfl (x := .bool f) rfl ?_)
    have fin : ∀ h₃ : Heap, h₃.get? it = some (ItO (rawInt a) true d (i + 1) n ep ok ov) → Heap.SameBut it h₂ h₃ → Q (some (.ref hp.objs.size)) ⟨h₃, g, dr, tk, os⟩ := fun h₃ he₃ hs₃ =>
      hQ e h₃ he (.inr ⟨ok, ov, a, true, _, he₃, hs₃.extBut _ _ hai ha₂, hai, us, kk, rfl⟩) (hs₃.extBut _ _ (Nat.ne_of_gt hil) ht₂) (by show h₃.objs.size = hp.objs.size + 1; rw [hs₃.1, hz₂]) fun b o hb q => hs₃.extBut b o hb (hk₂ b o hb q)
    cases f with
    | true =>
      rw [if_neg (show ¬ ((Value.bool true != Value.bool true) = true) from Bool.false_ne_true)]
      refine wpAny_pure ?_
      simp only [Bool.false_eq_true, if_false]
      exact wpAny_pure (fin h₂ he₂ (Heap.SameBut.refl _ _))
    | false =>
      rw [if_pos (show (Value.bool false != Value.bool true) = true from rfl)]
      refine wpAny_bind (wpAny_setField_rec he₂ (by simp) fun h₃ he₃ hs₃ => ?_)
      replace hs₃ : Heap.SameBut it h₂ h₃ := hs₃
      refine wpAny_pure ?_
      simp only [Bool.false_eq_true, if_false]
      exact wpAny_pure (fin h₃ he₃ hs₃)

theorem view_done {it d : Addr} {n ep : Nat} {es : Array DictEntry} {Q : Option Value → Shared → Prop} (hh : A.handled = none) (hst : VSt s.heap it d n n ep) (hm : s.heap.get? d = some (dicO es ep)) (hn : es.size = n)
    (hQ : ∀ h', Heap.ExtBut it s.heap h' → Q none { s with heap := h' }) : wpAny (model P w) A (pyNext (.ref it)) Q E s := by
  obtain ⟨p, f, ok, ov, hit⟩ : ∃ p f ok ov, s.heap.get? it = some (ItO p f d n n ep ok ov) := by
    rcases hst with ⟨rfl, ok, ov, e⟩ | ⟨ok, ov, a, f, oa, e, _⟩ <;> exact ⟨_, _, _, _, e⟩
  have hT : s.TypeIs (.ref it) "dict_itemiterator" := ⟨_, hit, rfl⟩
  unfold pyNext
  refine wpAny_bind (wpAny_attempt (wpAny_callSpecial?_slot (name := Str.ofString "__next__") hT PySem.F.slot_dict_itemiterator_next
    (wpAny_call_entry PySem.F.slot_dict_itemiterator_next hT PySem.F.entry_dict_itemiterator_next ?_ (PySem.F.args_dict_itemiterator_next_1 _))))
  refine wpAny_bind (wpAny_pure ?_)
  refine wpAny_bind ?_
  refine wpAny_bind ?_
  first | refine wpAny_bind (wpAny_typeNameOfWhole_itemiter hT (wpAny_pure ?_)) | refine wpAny_bind (wpAny_typeNameOf_itemiter hT (wpAny_pure ?_))
  refine wpAny_bind (wpAny_fieldsOf hit rfl ?_)
  have hown : Builtin.Dict_items.ownsTuple "dict_itemiterator" = true := by decide
  rw [if_pos hown]
  show wpAny _ _ (if (Value.ref d == Value.none) = true then _ else _) _ _ s
  rw [if_neg (show ¬ ((Value.ref d == Value.none) = true) from Bool.false_ne_true)]
  refine wpAny_bind (wpAny_pure ?_)
  refine wpAny_bind (wpAny_dictEntries hm rfl ?_)
  rw [if_neg (by rw [hn]; simp)]
  refine wpAny_bind (wpAny_pure ?_)
  refine wpAny_bind (wpAny_dictEpoch hm rfl ?_)
  rw [if_neg (by simp)]
  refine wpAny_pure ?_
  have hge : es.size ≤ n := by rw [hn]; exact Nat.le_refl _
  simp only [show ¬ ((n : Int) < 0) from by omega, if_false, Int.toNat_natCast, Array.getElem?_eq_none hge]
  refine wpAny_bind ?_
  first | refine wpAny_bind (wpAny_typeNameOfWhole_itemiter hT (wpAny_pure ?_)) | refine wpAny_bind (wpAny_typeNameOf_itemiter hT (wpAny_pure ?_))
  show wpAny _ _ (setField (.ref it) 2 .none >>= _) _ _ s
  refine wpAny_bind (wpAny_setField hit rfl (by simp) ?_)
  show wpAny _ _ (newExc (.type "StopIteration") [] >>= _) _ _ _
  refine wpAny_bind ?_
  unfold newExc; unfold newTuple
  refine wpAny_bind (wpAny_newObj_type ?_ (by size_fits))
  refine wpAny_bind (m := firstArgMember _ _) (wpAny_of_eq (a := Value.none) (by first | rfl | (simp only [firstArgMember]; rfl)) ?_)
  refine wpAny_newObj_type ?_ (by size_fits)
  unfold raiseNew
  refine wpAny_bind (wpAny_handled ?_)
  rw [show A.in1.handled = none from hh]
  refine wpAny_bind (wpAny_pure (wpAny_throw ?_))
  refine wpAny_bind (wpAny_isInstance (T := "StopIteration") (b := true) ⟨_, Heap.get?_push_size _ rfl, rfl⟩ isSubtype_stop ?_)
  exact wpAny_pure (hQ _ (((Heap.SameBut.update ..).extBut.push _).push _))

theorem VSt.keep {h h' : Heap} {it d : Addr} {i n ep : Nat} (x : VSt h it d i n ep) (hk : h'.get? it = h.get? it) (tl : TupLe h h') : VSt h' it d i n ep := by
  rcases x with ⟨e, ok, ov, hit⟩ | ⟨ok, ov, a, f, oa, hit, ha, hai, us, k, rfl⟩
  · exact .inl ⟨e, ok, ov, hk.trans hit⟩
  · exact .inr ⟨ok, ov, a, f, _, hk.trans hit, tl _ _ _ ha, hai, us, k, rfl⟩

/-- the tuples of a dict's items -/
noncomputable def itemsOf (l : List (V × V)) : List V := l.map fun x => .tup [x.1, x.2]
theorem view_loop {S I d : Addr} {l : List (V × V)} {es : Array DictEntry} {ep : Nat} {R : Result → Shared → Prop} (hh : A.handled = none) (hSI : S ≠ I) (hSd : d ≠ S) (hId : d ≠ I) (hl : es.size = l.length) (hz : l.length ≤ sizeLine) (res : Value) {h₁ : Heap}
    (hR : ∀ h' acc c tk, (∀ b o, b ≠ S → b ≠ I → h₁.get? b = some o → h'.get? b = some o) → h'.get? S = some ⟨.type "list", none, .seq acc c, #[]⟩ → VAll h' (itemsOf l) acc.toList → R (.ok (.ret res)) { s with heap := h', toks := tk })
    (gI : ∃ oI, h₁.get? I = some oI ∧ ∀ vs n, oI ≠ tupO vs n) (gS : ∃ oS, h₁.get? S = some oS ∧ ∀ vs n, oS ≠ tupO vs n) (hd : h₁.get? d = some (dicO es ep)) (he : EntsAre w h₁ l es.toList) :
    ∀ (k i : Nat) (h : Heap) (tk c : Nat) (acc : Array Value), l.length - i = k → i ≤ l.length → VSt h I d i l.length ep → (∀ b o, b ≠ S → b ≠ I → h₁.get? b = some o → h.get? b = some o) →
      h.get? S = some ⟨.type "list", none, .seq acc c, #[]⟩ → acc.size = i → VAll h (itemsOf (l.take i)) acc.toList →
      codeAny (model P w) A (.builtin "list.extend.loop" ⟨[.ref S, .ref I, res], []⟩) R { s with heap := h, toks := tk } := by
  have lnt : ∀ (vs : Array Value) (c : Nat) vs' n', (⟨.type "list", none, .seq vs c, #[]⟩ : Obj) ≠ tupO vs' n' := fun vs c vs' n' q => absurd (congrArg Obj.cls q) (by show Value.type "list" ≠ Value.type "tuple"; decide)
  intro k
  induction k with
  | zero =>
    intro i h tk c acc hk hi hst hkeep hS hsz hacc
    have hin : i = l.length := by omega
    subst hin
    refine codeAny_builtin PySem.F.entry_extend_loop ?_
    rw [Around.under_plainId PySem.F.plain_extend_loop _]
    show wpAny _ A.in1 (pyNext (.ref I) >>= _) _ _ _
    refine wpAny_bind (view_done (s := { s with heap := h, toks := tk }) (A := A.in1) hh hst (hkeep d _ hSd hId hd) hl fun h' hx => ?_)
    obtain ⟨oI, eI⟩ : ∃ oI, h.get? I = some oI := by rcases hst with ⟨_, _, _, e⟩ | ⟨_, _, _, _, _, e, _⟩ <;> exact ⟨_, e⟩
    have nI : ∀ vs n, oI ≠ tupO vs n := by
      intro vs n q
      rcases hst with ⟨_, _, _, e⟩ | ⟨_, _, _, _, _, e, _⟩ <;> (rw [eI] at e; cases e; exact absurd (congrArg Obj.cls q) (by show Value.type "dict_itemiterator" ≠ Value.type "tuple"; decide))
    have tl : TupLe h h' := fun a vs n q => hx a _ (fun z => by rw [z, eI] at q; exact absurd (Option.some.inj q) (nI vs n)) q
    rw [List.take_length] at hacc
    exact wpAny_pure (hR h' acc c tk (fun b o h1 h2 e => hx b o h2 (hkeep b o h1 h2 e)) (hx S _ hSI hS) (hacc.mono tl))
  | succ k ih =>
    intro i h tk c acc hk hi hst hkeep hS hsz hacc
    have hlt : i < l.length := by omega
    refine codeAny_builtin PySem.F.entry_extend_loop ?_
    rw [Around.under_plainId PySem.F.plain_extend_loop _]
    show wpAny _ A.in1 (pyNext (.ref I) >>= _) _ _ _
    refine wpAny_bind (view_item (s := { s with heap := h, toks := tk }) hst (hkeep d _ hSd hId hd) hl hlt fun e h' hei hst' ht hzz hkp => ?_)
    dsimp only at ht hzz hkp ⊢
    have hS' := hkp S _ hSI hS
    obtain ⟨oI, eI, nI⟩ : ∃ oI, h.get? I = some oI ∧ ∀ vs n, oI ≠ tupO vs n := by
      rcases hst with ⟨_, _, _, e⟩ | ⟨_, _, _, _, _, e, _⟩ <;> exact ⟨_, e, fun vs n q => absurd (congrArg Obj.cls q) (by show Value.type "dict_itemiterator" ≠ Value.type "tuple"; decide)⟩
    have t1 : TupLe h h' := fun a vs n q => hkp a _ (fun z => by rw [z, eI] at q; exact absurd (Option.some.inj q) (nI vs n)) q
    have up : ∀ b o, b ≠ S → h'.get? b = some o → (h'.update S (Obj.mapSeq (·.push (Value.ref h.objs.size)))).get? b = some o := fun b o hb e => (Heap.get?_update_other _ _ (Ne.symm hb)).trans e
    have t2 : TupLe h' (h'.update S (Obj.mapSeq (·.push (Value.ref h.objs.size)))) := .of_sameBut hS' (lnt _ _) (Heap.SameBut.update ..)
    have t0 : TupLe h₁ h := fun a vs n q => by
      obtain ⟨oS, eS, nS⟩ := gS
      obtain ⟨oI', eI', nI'⟩ := gI
      exact hkeep a _ (fun z => by rw [z, eS] at q; exact absurd (Option.some.inj q) (nS vs n)) (fun z => by rw [z, eI'] at q; exact absurd (Option.some.inj q) (nI' vs n)) q
    obtain ⟨x, hx⟩ : ∃ x, l[i]? = some x := ⟨l[i], List.getElem?_eq_getElem hlt⟩
    obtain ⟨e', ge, _, yk, yv⟩ := (he.mono ((t0.trans t1).trans t2)).get hx
    rw [Array.getElem?_toList] at ge
    rw [hei] at ge; cases ge
    show wpAny _ A.in1 (updateSeq S (·.push (Value.ref h.objs.size)) >>= _) _ _ _
    refine wpAny_bind ?_
    refine wpAny_updateSeq hS' rfl (wpAny_pure ⟨plainId_quiet PySem.F.plain_extend_loop _, ih (i + 1) _ tk _ (acc.push (Value.ref h.objs.size)) (by omega) hlt (hst'.keep (Heap.get?_update_other _ _ hSI) t2)
      (fun b o h1 h2 e => up b o h1 (hkp b o h2 (hkeep b o h1 h2 e))) (Heap.get?_update_self _ hS' rfl) (by rw [Array.size_push, hsz]) ?_⟩) (by rw [hsz]; omega) (by show (acc.push (Value.ref h.objs.size)).size ≤ sizeLine + 1; rw [Array.size_push, hsz]; omega)
    have hSl : S < h.objs.size := Heap.lt_size hS
    rw [Array.toList_push, List.take_add_one, hx]
    show VAll _ (itemsOf (l.take i ++ [x])) _
    unfold itemsOf
    rw [List.map_append]
    exact (hacc.mono (t1.trans t2)).append (.cons (vis_tup (t2 _ _ _ ht) (.cons yk (.cons yv .nil))) .nil)

theorem view_extend {r d S : Addr} {l : List (V × V)} {es : Array DictEntry} {ep c₀ : Nat} {R : Result → Shared → Prop} (hh : A.handled = none) (hv : s.heap.IsItemsView r d) (hm : s.heap.get? d = some (dicO es ep)) (he : EntsAre w s.heap l es.toList) (hSr : S ≠ r) (hSd : d ≠ S) (res : Value)
    (hS : s.heap.get? S = some ⟨.type "list", none, .seq #[] c₀, #[]⟩) (hz : l.length ≤ sizeLine)
    (hR : ∀ h' acc c tk, (∀ b o, b ≠ S → s.heap.get? b = some o → h'.get? b = some o) → h'.get? S = some ⟨.type "list", none, .seq acc c, #[]⟩ → VAll h' (itemsOf l) acc.toList → R (.ok (.ret res)) { s with heap := h', toks := tk }) :
    wpAny (model P w) A.in1 (Builtin.List.listExtendWith (.ref S) (.ref r) res)
      (fun fin s' => match fin with | .done f => R (.ok f) s' | .again c' => c'.quiet = true ∧ codeAny (model P w) A c' R s') (fun e s' => R (.error e) s') s := by
  have hl : es.size = l.length := by rw [← Array.length_toList]; exact he.length
  have hSI : S < s.heap.objs.size := Heap.lt_size hS
  have hdI : d < s.heap.objs.size := Heap.lt_size hm
  have lnt : ∀ (vs : Array Value) (c : Nat) vs' n', (⟨.type "list", none, .seq vs c, #[]⟩ : Obj) ≠ tupO vs' n' := fun vs c vs' n' q => absurd (congrArg Obj.cls q) (by show Value.type "list" ≠ Value.type "tuple"; decide)
  have key : ∀ (h : Heap) (c₁ tk : Nat), (∀ b o, b ≠ S → (s.heap.push (ItO .none false d 0 es.size ep .none .none)).get? b = some o → h.get? b = some o) →
      h.get? S = some ⟨.type "list", none, .seq #[] c₁, #[]⟩ → codeAny (model P w) A (.builtin "list.extend.loop" ⟨[.ref S, .ref s.heap.objs.size, res], []⟩) R { s with heap := h, toks := tk } := by
    intro h c₁ tk hk hS₁
    have hI := hk s.heap.objs.size _ (Nat.ne_of_gt hSI) (Heap.get?_push_size _ rfl)
    have k1 : ∀ b o, b ≠ S → s.heap.get? b = some o → h.get? b = some o := fun b o hb e => hk b o hb (Heap.get?_push_of_some _ e)
    have tl : TupLe s.heap h := fun a vs n q => k1 a _ (fun z => by rw [z, hS] at q; exact absurd (Option.some.inj q) (lnt _ _ vs n)) q
    refine view_loop (es := es) (ep := ep) (l := l) (h₁ := h) hh (Nat.ne_of_lt hSI) hSd (Nat.ne_of_lt hdI) hl hz res (fun h' acc c tk' hk' hS' hacc => hR h' acc c tk' (fun b o hb e => hk' b o hb (Nat.ne_of_lt (Heap.lt_size e)) (k1 b o hb e)) hS' hacc)
      ⟨_, hI, fun vs n q => absurd (congrArg Obj.cls q) (by show Value.type "dict_itemiterator" ≠ Value.type "tuple"; decide)⟩ ⟨_, hS₁, lnt _ _⟩ (k1 d _ hSd hm) (he.mono tl)
      l.length 0 h tk c₁ #[] (Nat.sub_zero _) (Nat.zero_le _) (.inl ⟨rfl, .none, .none, by rw [hl] at hI; exact hI⟩) (fun b o _ _ e => e) hS₁ rfl .nil
  unfold Builtin.List.listExtendWith
  refine wpAny_bind (wpAny_typeOf (T := "dict_items") hv.typeIs ?_)
  have h1 : Builtin.List.listSameRef (.ref S) (.ref r) = false := (show (S == r) = false from beq_eq_false_iff_ne.mpr hSr)
  have h2 : (Value.type "dict_items" == Value.type "list") = false := by decide
  have h3 : (Value.type "dict_items" == Value.type "tuple") = false := by decide
  simp only [h1, h2, h3, Bool.or_false, Bool.false_eq_true, if_false]
  refine wpAny_bind (view_iter hv hm ?_)
  have hS₁ := Heap.get?_push_of_some (ItO .none false d 0 es.size ep .none .none) hS
  refine wpAny_bind (wpAny_holding (kdx_hint (let ⟨o, ho, hc, _⟩ := hv; ⟨o, Heap.get?_push_of_some _ ho, hc⟩) ?_))
  refine wpAny_ite_split (fun _ => ?_) (fun _ => wpAny_pure ⟨plainId_quiet PySem.F.plain_extend_loop _, key _ c₀ _ (fun b o _ e => e) hS₁⟩)
  refine wpAny_bind (wpAny_rule ?_)
  refine wpAny_bind ?_
  show wpAny _ _ (updateSeq S (·.push .none) >>= fun _ => updateSeq S (·.pop)) _ _ _
  refine wpAny_bind (wpAny_updateSeq hS₁ rfl ?_)
  have hS₂ := Heap.get?_update_self (Obj.mapSeq (·.push Value.none)) hS₁ rfl
  refine wpAny_updateSeq (hz := by seq_fits) hS₂ rfl ?_
  have hS₃ := Heap.get?_update_self (Obj.mapSeq (·.pop)) hS₂ rfl
  refine wpAny_pure ⟨plainId_quiet PySem.F.plain_extend_loop _, key _ _ _ (fun b o hb e => ?_) hS₃⟩
  exact (Heap.get?_update_other _ _ (Ne.symm hb)).trans ((Heap.get?_update_other _ _ (Ne.symm hb)).trans e)

theorem view_list {r d : Addr} {l : List (V × V)} {es : Array DictEntry} {ep : Nat} {Q : Value → Shared → Prop} (hh : A.handled = none) (hv : s.heap.IsItemsView r d) (hm : s.heap.get? d = some (dicO es ep)) (he : EntsAre w s.heap l es.toList) (hz : l.length ≤ sizeLine)
    (hQ : ∀ h' acc c tk, (∀ b o, s.heap.get? b = some o → h'.get? b = some o) → h'.get? s.heap.objs.size = some ⟨.type "list", none, .seq acc c, #[]⟩ → VAll h' (itemsOf l) acc.toList → Q (.ref s.heap.objs.size) { s with heap := h', toks := tk }) :
    wpAny (model P w) A (call (.type "list") [.ref r]) Q E s := by
  refine callType_codes (Q₁ := fun obj s₁ => obj = .ref s.heap.objs.size ∧ s₁ = { s with heap := s.heap.push { cls := .type "list", data := .seq #[] } }) PySem.F.called_list (PySem.F.typeCall_list_1 _) PySem.F.entry_list_init
    (code_list_new _ ⟨rfl, rfl⟩) fun obj s₁ h₁ => ?_
  obtain ⟨rfl, rfl⟩ := h₁
  have hS : (s.heap.push { cls := .type "list", data := .seq #[] }).get? s.heap.objs.size = some { cls := .type "list", data := .seq #[] } := Heap.get?_push_size _ rfl
  have hr : r < s.heap.objs.size := let ⟨_, ho, _⟩ := hv; Heap.lt_size ho
  have hd : d < s.heap.objs.size := Heap.lt_size hm
  refine ⟨⟨_, hS, rfl⟩, PySem.F.args_list_init_2 _ _, ?_⟩
  show wpAny _ _ (do let old ← Builtin.List.listItems (.ref s.heap.objs.size); Builtin.List.listUpdate (.ref s.heap.objs.size) (fun _ => #[]); letGo old.toList.reverse; Builtin.List.listExtendWith (.ref s.heap.objs.size) (.ref r) .none) _ _ _
  refine wpAny_bind ?_
  unfold Builtin.List.listItems
  refine wpAny_bind (wpAny_seqItems hS rfl (wpAny_pure ?_))
  show wpAny _ _ (updateSeq s.heap.objs.size (fun _ => #[]) >>= fun _ => letGo (#[] : Array Value).toList.reverse >>= fun _ => Builtin.List.listExtendWith (.ref s.heap.objs.size) (.ref r) .none) _ _ _
  refine wpAny_bind (wpAny_updateSeq hS rfl ?_)
  have hS₂ : ((s.heap.push { cls := .type "list", data := .seq #[] }).update s.heap.objs.size (Obj.mapSeq (fun _ => (#[] : Array Value)))).get? s.heap.objs.size = some (⟨.type "list", none, .seq #[] 0, #[]⟩ : Obj) := Heap.get?_update_self (Obj.mapSeq (fun _ => (#[] : Array Value))) hS rfl
  have oth : ∀ b o, b ≠ s.heap.objs.size → (s.heap.push { cls := .type "list", data := .seq #[] }).get? b = some o → ((s.heap.push { cls := .type "list", data := .seq #[] }).update s.heap.objs.size (Obj.mapSeq (fun _ => (#[] : Array Value)))).get? b = some o :=
    fun b o hb e => (Heap.get?_update_other _ _ (Ne.symm hb)).trans e
  have kp : ∀ b o, s.heap.get? b = some o → ((s.heap.push { cls := .type "list", data := .seq #[] }).update s.heap.objs.size (Obj.mapSeq (fun _ => (#[] : Array Value)))).get? b = some o := fun b o e => oth b o (Nat.ne_of_lt (Heap.lt_size e)) (Heap.get?_push_of_some _ e)
  refine wpAny_bind (wpAny_letGo ?_)
  refine view_extend (A := A.in1) (s := { s with heap := (s.heap.push { cls := .type "list", data := .seq #[] }).update s.heap.objs.size (Obj.mapSeq (fun _ => (#[] : Array Value))) }) (l := l) (es := es) (ep := ep) hh (let ⟨o, ho, x⟩ := hv; ⟨o, kp r o ho, x⟩) (kp d _ hm) (he.mono (.of_keeps kp)) (Nat.ne_of_gt hr) (Nat.ne_of_lt hd) .none hS₂ hz (fun h' acc c tk hk hS' hacc => ?_)
  exact ⟨rfl, hQ h' acc c tk (fun b o e => hk b o (Nat.ne_of_lt (Heap.lt_size e)) (kp b o e)) hS' hacc⟩
end
theorem lk_list_keys : typeLookup (.type "list") "keys" = pure none := by rw [typeLookup_type, builtinLookup_eq_fast]; kernel_rfl
theorem plain_update_loop : plainId "dict.update.loop" = true := by decide +kernel
theorem entry_update_loop : entryFor table "dict.update.loop" = some Builtin.«dict.update.loop» := entryFor_of_tree (by kernel_rfl)
section
variable {w : World} {A : Around} {E : Value → Shared → Prop} {s : Shared}
theorem keys_miss {a : Addr} {xs : Array Value} {k : Nat} {Q : Option Value → Shared → Prop} (hx : s.heap.get? a = some ⟨.type "list", none, .seq xs k, #[]⟩) (hA : A.handled = none)
    (h : ∀ h' tk, (∀ b o, s.heap.get? b = some o → h'.get? b = some o) → Q none { s with heap := h', toks := tk }) : wpAny (model P w) A (getAttr? (.ref a) "keys") Q E s := by
  obtain ⟨hp, g, d, tk, os⟩ := s
  have hT : ∀ tk', (⟨hp, g, d, tk', os⟩ : Shared).TypeIs (.ref a) "list" := fun _ => ⟨_, hx, rfl⟩
  have f1 := sub_AttributeError
  have f3 := PySem.F.slot_list_getattribute.lookup
  have f4 := PySem.F.slot_list_getattribute.bind (.ref a)
  have f5 := am_list_getattr_none
  unfold getAttr? getAttrBy? getAttrBy
  repeat (any_goals (first | assumption | exact hT _ | ((with_reducible show wpAny _ _ (call (Value.builtin "list.__getattribute__") _ _) _ _ _); refine call_meets PySem.F.slot_list_getattribute (hT _) am_entry_list_getattribute (PySem.F.args_list_getattribute_2 _ _) (meets_getattribute_miss_list a xs k #[] "keys" _ lk_list_keys (by decide) (by decide)) ⟨hx, hA, fun h' tk' e hx' => ?_⟩) | wp_step))
  obtain ⟨t', u', he⟩ := hx'.there
  show wpAny _ _ (getattributeRaised _ _ _ _ _ _ _) _ _ _
  unfold getattributeRaised
  repeat (any_goals (first | assumption | wp_step))
  exact h _ _ hx'.keeps

theorem aput_take {l : List (V × V)} {i : Nat} {x : V × V} (hn : (l.map (·.1)).Nodup) (hx : l[i]? = some x) : aput (l.take i) x.1 x.2 = l.take (i + 1) := by
  have hno : alook (l.take i) x.1 = none := by
    unfold alook
    rw [Option.map_eq_none_iff, List.find?_eq_none]
    intro y hy hb
    have e := V.beq_eq hb
    obtain ⟨j, hj⟩ := List.mem_iff_getElem?.mp hy
    rw [List.getElem?_take] at hj
    split at hj
    · rename_i hlt
      have h1 : (l.map (·.1))[j]? = some x.1 := by rw [List.getElem?_map, hj]; simp [e]
      have h2 : (l.map (·.1))[i]? = some x.1 := by rw [List.getElem?_map, hx]; rfl
      have := (List.getElem?_inj (List.getElem?_eq_some_iff.mp h1).1 hn).mp (h1.trans h2.symm)
      omega
    · cases hj
  rw [aput_new hno, List.take_add_one, hx]; rfl

theorem pairs_loop {S I a : Addr} {k : DK} {l : List (V × V)} {vs : Array Value} {n : Nat} {R : Result → Shared → Prop} (hh : A.handled = none) (hu : A.units + 72 < cLine) (hf : k.fits) (hk : ∀ x ∈ l, V.has k.sh x.1) (hnd : (l.map (·.1)).Nodup) (hz : l.length ≤ sizeLine)
    (hSI : S ≠ I) (haS : a ≠ S) (haI : a ≠ I) (res : Value) {h₁ : Heap}
    (hR : ∀ h' o tk, (∀ b ob, b ≠ S → b ≠ I → h₁.get? b = some ob → h'.get? b = some ob) → h'.get? S = some o → CellIs w h' (.dict k l) o → R (.ok (.ret res)) { s with heap := h', toks := tk })
    (hd : h₁.get? a = some ⟨.type "list", none, .seq vs n, #[]⟩) (he : VAll h₁ (itemsOf l) vs.toList) (gS : ∃ oS, h₁.get? S = some oS ∧ ∀ vs n, oS ≠ tupO vs n) (gI : ∃ oI, h₁.get? I = some oI ∧ ∀ vs n, oI ≠ tupO vs n) :
    ∀ (j i : Nat) (h : Heap) (tk : Nat) (o : Obj), l.length - i = j → i ≤ l.length → h.IsListIter I a i → (∀ b ob, b ≠ S → b ≠ I → h₁.get? b = some ob → h.get? b = some ob) →
      h.get? S = some o → CellIs w h (.dict k (l.take i)) o → codeAny (model P w) A (.builtin "dict.update.loop" ⟨[.ref S, .ref I, rawInt i, res], []⟩) R { s with heap := h, toks := tk } := by
  have hvl : vs.size = l.length := by rw [← Array.length_toList, he.length]; simp [itemsOf]
  have t0 : ∀ h : Heap, (∀ b ob, b ≠ S → b ≠ I → h₁.get? b = some ob → h.get? b = some ob) → TupLe h₁ h := fun h hkeep a vs n q => by
    obtain ⟨oS, eS, nS⟩ := gS
    obtain ⟨oI', eI', nI'⟩ := gI
    exact hkeep a _ (fun z => by rw [z, eS] at q; exact absurd (Option.some.inj q) (nS vs n)) (fun z => by rw [z, eI'] at q; exact absurd (Option.some.inj q) (nI' vs n)) q
  intro j
  induction j with
  | zero =>
    intro i h tk o hj hi hit hkeep hS hc
    have hin : i = l.length := by omega
    subst hin
    refine codeAny_builtin entry_update_loop ?_
    rw [Around.under_plainId plain_update_loop _]
    show wpAny _ A.in1 (pyNext (.ref I) >>= _) _ _ _
    obtain ⟨oI, eI, cI, dI⟩ := id hit
    refine wpAny_bind (wpAny_pyNext_list_end (s := { s with heap := h, toks := tk }) (A := A.in1) hh hit ⟨_, hkeep a _ haS haI hd, rfl, n, rfl⟩ (by rw [← hvl]; exact Array.getElem?_eq_none (Nat.le_refl _)) fun h' hx => ?_)
    have tl : TupLe h h' := fun b vs n q => hx b _ (fun z => by rw [z, eI] at q; cases q; cases dI) q
    rw [List.take_length] at hc
    exact wpAny_bind (wpAny_pure (wpAny_pure (hR h' o tk (fun b ob h1 h2 e => hx b ob h2 (hkeep b ob h1 h2 e)) (hx S _ hSI hS) (hc.mono tl))))
  | succ j ih =>
    intro i h tk o hj hi hit hkeep hS hc
    have hlt : i < l.length := by omega
    obtain ⟨x, hx⟩ : ∃ x, l[i]? = some x := ⟨l[i], List.getElem?_eq_getElem hlt⟩
    refine codeAny_builtin entry_update_loop ?_
    rw [Around.under_plainId plain_update_loop _]
    show wpAny _ A.in1 (pyNext (.ref I) >>= _) _ _ _
    obtain ⟨oI, eI, cI, dI⟩ := id hit
    obtain ⟨u, hu', yu⟩ := (he.mono (t0 h hkeep)).get (i := i) (v := .tup [x.1, x.2]) (by unfold itemsOf; rw [List.getElem?_map, hx]; rfl)
    rw [Array.getElem?_toList] at hu'
    refine wpAny_bind (wpAny_pyNext_list_item (s := { s with heap := h, toks := tk }) hit ⟨_, hkeep a _ haS haI hd, rfl, n, rfl⟩ hu' fun h' hit' sb => ?_)
    have t1 : TupLe h h' := .of_sameBut eI (fun vs n q => by subst q; cases dI) sb
    have yu' := yu.mono t1
    obtain ⟨ta, tn, tus, rfl, tg, tz⟩ := yu'.tup_inv
    obtain ⟨uk, uv, te, yk, yv⟩ := tz.two
    dsimp only
    refine wpAny_bind (wpAny_holding (wpAny_bind ?_))
    refine wpAny_tryCatch ?_
    unfold Builtin.Dict.pairItems
    refine wpAny_bind (wpAny_typeOf (T := "tuple") ⟨_, tg, rfl⟩ ?_)
    rw [if_pos (by decide)]
    refine wpAny_bind (wpAny_seqItems tg rfl (wpAny_pure ?_))
    show wpAny _ _ (match tus.toList with | [k, v] => _ | l => _) _ _ _
    rw [te]
    have hkx := hk x (List.mem_of_getElem? hx)
    have hS' := sb.extBut S _ hSI hS
    have nS := hc.notTup
    refine wpAny_holding (set_cell (by show A.units + 1 + 64 < cLine; omega) hf hS' (hc.mono t1) hkx yk yv (by rw [List.length_take]; omega) fun h₂ o₂ tk₂ g₂ c₂ sb₂ => ?_)
    refine wpAny_pure ⟨plainId_quiet plain_update_loop _, ?_⟩
    rw [aput_take hnd hx] at c₂
    have e1 : rawInt ((i : Int) + 1) = rawInt ((i + 1 : Nat) : Int) := by congr 1
    rw [e1]
    obtain ⟨oI', eI', cI', dI'⟩ := id hit'
    exact ih (i + 1) h₂ tk₂ o₂ (by omega) hlt ⟨oI', sb₂.extBut I _ (Ne.symm hSI) eI', cI', dI'⟩ (fun b ob h1 h2 e => sb₂.extBut b ob h1 (sb.extBut b ob h2 (hkeep b ob h1 h2 e))) g₂ c₂

theorem pairs_dict {a : Addr} {k : DK} {l : List (V × V)} {vs : Array Value} {n : Nat} {Q : Value → Shared → Prop} (hh : A.handled = none) (hu : A.units + 74 < cLine) (hf : k.fits) (hk : ∀ x ∈ l, V.has k.sh x.1) (hnd : (l.map (·.1)).Nodup) (hz : l.length ≤ sizeLine)
    (hd : s.heap.get? a = some ⟨.type "list", none, .seq vs n, #[]⟩) (he : VAll s.heap (itemsOf l) vs.toList)
    (hQ : ∀ h' o tk, (∀ b ob, s.heap.get? b = some ob → h'.get? b = some ob) → h'.get? s.heap.objs.size = some o → CellIs w h' (.dict k l) o → Q (.ref s.heap.objs.size) { s with heap := h', toks := tk }) :
    wpAny (model P w) A (call (.type "dict") [.ref a]) Q E s := by
  refine callType_codes (Q₁ := fun obj s₁ => obj = .ref s.heap.objs.size ∧ s₁ = { s with heap := s.heap.push { cls := .type "dict", data := .dict #[] } }) F.kt_called_dict (F.kt_typeCall_dict_1 _) F.entry_dict_init (kt_code_dict_new _ ⟨rfl, rfl⟩) ?_
  rintro obj s₁ ⟨rfl, rfl⟩
  generalize hS0 : s.heap.objs.size = S
  have gS : (s.heap.push { cls := .type "dict", data := .dict #[] }).get? S = some { cls := .type "dict", data := .dict #[] } := by rw [← hS0]; exact Heap.get?_push_size _ rfl
  have hT : ({ s with heap := s.heap.push { cls := .type "dict", data := .dict #[] } } : Shared).TypeIs (.ref S) "dict" := ⟨_, gS, rfl⟩
  refine ⟨hT, F.args_dict_init_2 _ _, ?_⟩
  have hdo : a ≠ S := by rw [← hS0]; exact Nat.ne_of_lt (Heap.lt_size hd)
  have hd' : (s.heap.push { cls := .type "dict", data := .dict #[] }).get? a = some ⟨.type "list", none, .seq vs n, #[]⟩ := Heap.get?_push_of_some _ hd
  unfold Builtin.«dict.__init__»
  refine wpAny_bind ?_
  unfold Builtin.Dict.selfAndRest
  refine wpAny_bind (wpAny_notOrdered_dict hT ?_)
  show wpAny _ _ (pure (S, [Value.ref a])) _ _ _
  refine wpAny_pure ?_
  show wpAny _ _ (Builtin.Dict.updateFrom "dict.__init__" S (.ref a) [] .none) _ _ _
  unfold Builtin.Dict.updateFrom
  refine wpAny_bind (wpAny_typeOf (T := "list") ⟨_, hd', rfl⟩ ?_)
  rw [if_pos (by decide)]
  refine wpAny_bind (keys_miss hd' hh fun h' tk kp => ?_)
  simp only [Option.isNone_none, if_true]
  refine wpAny_bind (wpAny_rule ?_)
  have hd2 := kp _ _ hd'
  refine wpAny_bind (wpAny_pyIter_list ⟨_, hd2, rfl, n, rfl⟩ ?_)
  generalize hI0 : h'.objs.size = I
  dsimp only
  have gS2 := kp _ _ gS
  have hlt : S < I := by rw [← hI0]; exact Heap.lt_size gS2
  have kp2 : ∀ b ob, (s.heap.push { cls := .type "dict", data := .dict #[] }).get? b = some ob → (h'.push { cls := .type "list_iterator", data := .fields #[.ref a, .int 0 0] }).get? b = some ob := fun b ob e => Heap.get?_push_of_some _ (kp b ob e)
  have kp3 : ∀ b ob, s.heap.get? b = some ob → (h'.push { cls := .type "list_iterator", data := .fields #[.ref a, .int 0 0] }).get? b = some ob := fun b ob e => kp2 b ob (Heap.get?_push_of_some _ e)
  have gI : (h'.push { cls := .type "list_iterator", data := .fields #[.ref a, .int 0 0] }).get? I = some { cls := .type "list_iterator", data := .fields #[.ref a, .int 0 0] } := by rw [← hI0]; exact Heap.get?_push_size _ rfl
  have fI : ∀ b ob, s.heap.get? b = some ob → b ≠ S ∧ b ≠ I := fun b ob e => by
    have := Heap.lt_size e
    rw [hS0] at this
    exact ⟨Nat.ne_of_lt this, Nat.ne_of_lt (Nat.lt_trans this hlt)⟩
  refine wpAny_pure ⟨plainId_quiet plain_update_loop _, ?_⟩
  refine pairs_loop (s := s) (l := l) (h₁ := h'.push { cls := .type "list_iterator", data := .fields #[.ref a, .int 0 0] }) (A := A.in1) hh (by show A.units + 1 + 72 < cLine; omega) hf hk hnd hz (Nat.ne_of_lt hlt) hdo (fI a _ hd).2 .none (fun h₂ o tk₂ k₂ g₂ c₂ => ?_) (kp3 _ _ hd) (he.mono (.of_keeps kp3))
    ⟨_, kp2 _ _ gS, fun vs n q => absurd (congrArg Obj.cls q) (by show Value.type "dict" ≠ Value.type "tuple"; decide)⟩ ⟨_, gI, fun vs n q => absurd (congrArg Obj.cls q) (by show Value.type "list_iterator" ≠ Value.type "tuple"; decide)⟩
    l.length 0 _ _ _ (Nat.sub_zero _) (Nat.zero_le _) ⟨_, gI, rfl, rfl⟩ (fun b ob _ _ e => e) (kp2 _ _ gS) ⟨#[], 0, rfl, by simp only [List.take_zero]; simp only [EntsAre], (fun x hx => nomatch hx), List.nodup_nil⟩
  subst hS0
  exact ⟨rfl, hQ h₂ o tk₂ (fun b ob e => k₂ b ob (fI b ob e).1 (fI b ob e).2 (kp3 b ob e)) g₂ c₂⟩
end

section
variable {w : World} {C : Cx} {A : Around} {m : Loc} {σ : Store} {K : V → Store → Prop}
theorem c_dict_pairs {a : Addr} {k : DK} {l : List (V × V)} (hh : A.handled = none) (hu : A.units + 74 < cLine) (hf : k.fits) (hk : ∀ x ∈ l, V.has k.sh x.1) (hnd : (l.map (·.1)).Nodup) (hz : l.length ≤ sizeLine)
    (ha : σ a = some (.list (itemsOf l))) (h : ∀ d, σ d = none → K (.ref d) (upd σ d (.dict k l))) : OpC w C A (.type "dict") [.ref a] m σ K := fun s us r y => by
  obtain ⟨u, rfl, x⟩ := y.one
  rw [x.ref_inv]
  obtain ⟨vs, n, g, z⟩ := isList_of r.hp ha
  exact pairs_dict hh hu hf hk hnd hz g z fun h' o tk kp g' c' => ⟨.of_keeps kp, _, _, vis_ref, (r.grow (t := tk) kp).at (c := .dict k l) (fresh_size _) r g' c' r.top, h _ (fresh_of r.hp (fresh_size _))⟩

abbrev viewO (a : Addr) : Obj := { cls := .type "dict_items", data := .fields #[.ref a] }
theorem c_items {a : Addr} {k : DK} {l : List (V × V)} (ha : σ a = some (.dict k l)) (h : ∀ v, σ v = none → K (.ref v) (upd σ v (.obj (viewO a)))) : OpC w C A (.builtin "dict.items") [.ref a] m σ K := fun s us r y => by
  obtain ⟨u, rfl, x⟩ := y.one
  rw [x.ref_inv]
  obtain ⟨o, g, hc⟩ := r.hp.cells a _ ha
  have hT : s.TypeIs (.ref a) "dict" := by obtain ⟨es, n, rfl, _⟩ := hc; exact ⟨_, g, rfl⟩
  refine wpAny_call_entry PySem.F.slot_dict_items hT PySem.F.entry_dict_items ?_ (PySem.F.args_dict_items_1 _)
  unfold Builtin.«dict.items»
  refine wpAny_bind ?_
  unfold Builtin.Dict.noArgs
  refine wpAny_bind (wpAny_notOrdered_dict hT ?_)
  show wpAny _ _ (pure a) _ _ s
  refine wpAny_pure ?_
  show wpAny _ _ (Builtin.Dict.showsAll a >>= _) _ _ s
  unfold Builtin.Dict.showsAll
  rw [if_neg (by rw [r.hp.notMods ha]; exact Bool.false_ne_true)]
  refine wpAny_bind (wpAny_pure ?_)
  refine wpAny_bind (wpAny_newObj_type (wpAny_pure ⟨_, rfl, ?_⟩))
  obtain ⟨tl, r'⟩ := r.push (t := s.toks) (c := .obj (viewO a)) (o := viewO a) (fun h' tl => ⟨rfl, fun vs n q => absurd (congrArg Obj.cls q) (by show Value.type "dict_items" ≠ Value.type "tuple"; decide)⟩) rfl
  exact ⟨tl, _, _, vis_ref, r', h _ (fresh_of r.hp (fresh_size _))⟩
theorem c_list_items {v a : Addr} {k : DK} {l : List (V × V)} (hh : A.handled = none) (hv : σ v = some (.obj (viewO a))) (ha : σ a = some (.dict k l)) (hz : l.length ≤ sizeLine) (h : ∀ d, σ d = none → K (.ref d) (upd σ d (.list (itemsOf l)))) :
    OpC w C A (.type "list") [.ref v] m σ K := fun s us r y => by
  obtain ⟨u, rfl, x⟩ := y.one
  rw [x.ref_inv]
  obtain ⟨o, g, es, ep, rfl, he, _⟩ := r.hp.cells a _ ha
  obtain ⟨ov, gv, rfl, _⟩ := r.hp.cells v _ hv
  refine view_list hh ⟨_, gv, rfl, rfl⟩ g he hz fun h' acc c tk kp g' z' => ?_
  exact ⟨.of_keeps kp, _, _, vis_ref, (r.grow (t := tk) kp).at (c := .list (itemsOf l)) (fresh_size _) r g' ⟨acc, c, rfl, z'⟩ r.top, h _ (fresh_of r.hp (fresh_size _))⟩
end
section
variable {w : World} {C : Cx} {A : Around} {m m₀ : Loc} {σ : Store} {K : V → Store → Prop} {N : Loc → Store → Prop} {R : V → Store → Prop}

/-! range -/
noncomputable def RangeO (n : Int) (o : Obj) : Prop := ∃ t u v, o = { cls := .type "range", dict := none, data := .fields #[.int 0 t, .int n u, .int 1 v], slots := #[] }
theorem c_range {n : Int} (h : ∀ r o, σ r = none → RangeO n o → K (.ref r) (upd σ r (.obj o))) : OpC w C A (.type "range") [.int n] m σ K := fun s us r y => by
  obtain ⟨u, rfl, x⟩ := y.one
  obtain ⟨t, rfl⟩ := x.int_inv
  refine call_range_1 ?_
  obtain ⟨tl, r'⟩ := r.push (t := s.toks + 1 + 1) (c := .obj { cls := .type "range", data := .fields #[.int 0 s.toks, .int n t, .int 1 (s.toks + 1)] }) (o := { cls := .type "range", data := .fields #[.int 0 s.toks, .int n t, .int 1 (s.toks + 1)] })
    (fun h' tl => ⟨rfl, fun vs n q => absurd (congrArg Obj.cls q) (by show Value.type "range" ≠ Value.type "tuple"; decide)⟩) rfl
  exact ⟨tl, _, _, vis_ref, r', h _ _ (fresh_of r.hp (fresh_size _)) ⟨_, _, _, rfl⟩⟩
theorem src_range {a : Addr} {n : Nat} {o : Obj} (ha : σ a = some (.obj o)) (ho : RangeO n o) (hn : n < 1000) : Src w A σ (.ref a) true ((List.range n).map fun i => V.int (i : Nat)) (fun _ => True) := fun s u Q hp y hlo k => by
  rw [y.ref_inv]
  obtain ⟨o', g, rfl, _⟩ := hp.cells a _ ha
  obtain ⟨t, u', v, rfl⟩ := ho
  have hsz : Builtin.Range.rangeSize 0 n 1 = n := by
    unfold Builtin.Range.rangeSize
    rw [if_pos (by decide)]
    split
    · rw [Int.ediv_one]; omega
    · omega
  have hsm : Builtin.Range.small 0 n 1 = true := by
    unfold Builtin.Range.small Builtin.Range.rangeFitsLong
    rw [hsz]
    simp only [Bool.and_eq_true, decide_eq_true_eq, Bool.or_eq_true, beq_iff_eq]
    refine ⟨⟨⟨⟨⟨by decide, by decide⟩, by omega, by omega⟩, by decide, by decide⟩, by omega, by omega⟩, ?_⟩
    rw [if_pos (by decide)]
    simp only [Bool.and_eq_true, decide_eq_true_eq]
    exact .inr ⟨by omega, by omega⟩
  refine wpAny_pyIter_range g hsm (k _ [s.heap.objs.size] _ s.toks (fun i h => IsRangeIter h s.heap.objs.size (0 + (i : Nat) * 1) ((n : Int) - (i : Nat)) 1) (fun i _ h => IsRangeIter h s.heap.objs.size (0 + ((i + 1 : Nat) : Int) * 1) ((n : Int) - ((i + 1 : Nat) : Int)) 1) (fun A' hh => ?_) (fun b hb => by rw [List.mem_singleton.mp hb]; exact ⟨fresh_size _, hlo⟩) ?_ (fun b o e => Heap.get?_push_of_some _ e))
  · have lv : ∀ x y (h : Heap), IsRangeIter h s.heap.objs.size x y 1 → ∃ o, h.get? s.heap.objs.size = some o ∧ ∀ vs n, o ≠ tupO vs n := fun x y h e => ⟨_, e, fun vs n q => absurd (congrArg Obj.cls q) (by show Value.type "range_iterator" ≠ Value.type "tuple"; decide)⟩
    refine ⟨fun i h b st hb => ?_, fun i u h b st hb => ?_, ?_, ?_, ?_, ?_, fun _ _ _ _ x => x, ?_⟩
    · rw [List.mem_singleton.mp hb]; exact lv _ _ h st
    · rw [List.mem_singleton.mp hb]; exact lv _ _ h st
    · intro i h h' st kp _
      exact kp _ (List.mem_singleton.mpr rfl) _ st
    · intro i s' σ' v Q' hv st hn' hp' hσ' q
      have hi : i < n := by
        have := (List.getElem?_eq_some_iff.mp hv).1
        simpa using this
      have ev : v = .int (i : Nat) := by
        rw [List.getElem?_map, List.getElem?_range hi] at hv
        simpa using hv.symm
      subst ev
      refine wpAny_pyNext_range_item st (by omega) fun h' it' sb => q _ h' _ ?_ (fun b o hb e => sb.extBut b o (notIn1 hb) e) ?_
      · rw [show (0 : Int) + (i : Nat) * 1 = (i : Nat) from by omega]; exact vis_int
      · rw [show (0 : Int) + ((i + 1 : Nat) : Int) * 1 = 0 + (i : Nat) * 1 + 1 from by push_cast; omega, show (n : Int) - ((i + 1 : Nat) : Int) = (n : Int) - (i : Nat) - 1 from by push_cast; omega]; exact it'
    · intro s' σ' Q' st hn' hp' hσ' q
      rw [List.length_map, List.length_range] at st
      exact wpAny_pyNext_range_end hh st (by omega) fun h' he => q h' _ fun b o hb e => he b o (notIn1 hb) e
    · intro i s' Q' E st q
      exact wpAny_pyIter_rangeiter st q
    · rintro i elts kk pos s' u Q' st q
      exact own_plain st rfl (by decide) _ rfl (q s'.heap st (fun _ _ _ e => e))
  · have e : Builtin.Range.rangeSize 0 n 1 = (n : Int) - ((0 : Nat) : Int) := by rw [hsz]; omega
    rw [← e]
    exact Heap.get?_push_size _ rfl

/-! strings, sign by sign -/
noncomputable def signs (x : Str) : List V := x.cps.toList.map fun c => V.str ⟨#[c]⟩
theorem src_str {x : Str} (ha : x.cps.all (· < 128) = true) : Src w A σ (.str x) true (signs x) (fun _ => True) := fun s u Q hp y hlo k => by
  obtain ⟨t, rfl⟩ := y.str_inv
  refine wpAny_pyIter_ascii ha (k _ [s.heap.objs.size] _ s.toks (fun i h => h.IsStrIter s.heap.objs.size "str_ascii_iterator" x t i) (fun i _ h => h.IsStrIter s.heap.objs.size "str_ascii_iterator" x t (i + 1)) (fun A' hh => ?_) (fun b hb => by rw [List.mem_singleton.mp hb]; exact ⟨fresh_size _, hlo⟩) ⟨_, Heap.get?_push_size _ rfl, rfl, rfl⟩ (fun b o e => Heap.get?_push_of_some _ e))
  have lv : ∀ i (h : Heap), h.IsStrIter s.heap.objs.size "str_ascii_iterator" x t i → ∃ o, h.get? s.heap.objs.size = some o ∧ ∀ vs n, o ≠ tupO vs n := fun i h ⟨o, e, hc, hd⟩ => ⟨_, e, fun vs n q => by subst q; cases hd⟩
  refine ⟨fun i h b st hb => ?_, fun i u h b st hb => ?_, ?_, ?_, ?_, ?_, fun _ _ _ _ x => x, ?_⟩
  · rw [List.mem_singleton.mp hb]; exact lv _ h st
  · rw [List.mem_singleton.mp hb]; exact lv _ h st
  · rintro i h h' ⟨o, e, hc⟩ kp _
    exact ⟨o, kp _ (List.mem_singleton.mpr rfl) _ e, hc⟩
  · intro i s' σ' v Q' hv st hn' hp' hσ' q
    unfold signs at hv
    rw [List.getElem?_map, Option.map_eq_some_iff] at hv
    obtain ⟨c, hc, rfl⟩ := hv
    exact wpAny_pyNext_ascii_item st (by rw [← Array.getElem?_toList]; exact hc) fun h' it' sb => q _ h' _ vis_str (fun b o hb e => sb.extBut b o (notIn1 hb) e) it'
  · intro s' σ' Q' st hn' hp' hσ' q
    refine wpAny_pyNext_ascii_end hh st ?_ fun h' he => q h' _ fun b o hb e => he b o (notIn1 hb) e
    unfold signs
    rw [List.length_map, ← Array.getElem?_toList]
    exact List.getElem?_eq_none (Nat.le_refl _)
  · intro i s' Q' E st q
    exact wpAny_pyIter_striter_ascii st q
  · rintro i elts kk pos s' u Q' st q
    obtain ⟨o, e, hc, hd⟩ := id st
    exact own_plain e hc (by decide) _ hd (q s'.heap st (fun _ _ _ e => e))

/-! sorted over a dict's whole numbers -/
theorem ents_ints {h : Heap} : ∀ {l : List (V × V)} {es : List DictEntry} {ns : List Int}, EntsAre w h l es → l.map (·.1) = ns.map V.int →
    ∃ kvs : List (Int × Value), Pairs (intKind P w) es kvs ∧ kvs.map (·.1) = ns ∧ ∀ e ∈ es, ∃ k, (intKind P w).is k e.key = true ∧ e.hash = (intKind P w).hash k
  | [], es, ns, x, e => by
    simp only [EntsAre] at x; subst x
    cases ns with
    | nil => exact ⟨[], .nil, rfl, fun _ h => by cases h⟩
    | cons => simp at e
  | x :: l, es, ns, ⟨en, r, a, b, c, d, y⟩, e => by
    subst a
    cases ns with
    | nil => simp at e
    | cons n ns =>
      simp only [List.map_cons, List.cons.injEq] at e
      obtain ⟨kvs, p, q, t⟩ := ents_ints y e.2
      rw [e.1] at b c
      obtain ⟨tk, ek⟩ := c.int_inv
      have hi : (intKind P w).is n en.key = true := by rw [ek]; simp [intKind, Value.isInt]
      refine ⟨(n, en.val) :: kvs, .cons hi rfl p, by rw [List.map_cons, q], fun e' he => ?_⟩
      rcases List.mem_cons.mp he with rfl | he
      · exact ⟨n, hi, by rw [b]; simp [hashV]; rfl⟩
      · exact t e' he

theorem c_sorted_dict {a : Addr} {l : List (V × V)} {ns : List Int} (hh : A.handled = none) (ha : σ a = some (.dict .int l)) (hl : l.map (·.1) = ns.map V.int) (hz : ns.length < 64)
    (h : ∀ d (ns' : List Int), σ d = none → ns'.Perm ns → ns'.Pairwise (· ≤ ·) → K (.ref d) (upd σ d (.list (ns'.map .int)))) : OpC w C A (.builtin "sorted") [.ref a] m σ K := fun s us r y => by
  obtain ⟨u, rfl, x⟩ := y.one
  rw [x.ref_inv]
  obtain ⟨o, g, es, ep, rfl, he, hs, hn⟩ := r.hp.cells a _ ha
  obtain ⟨kvs, hp, hk, hko⟩ := ents_ints he hl
  have hlen : kvs.length = ns.length := by rw [← hk, List.length_map]
  have D : s.heap.DictAt (intKind P w) a kvs ep := ⟨_, es, g, ⟨rfl, rfl, rfl⟩, rfl, fun e hm => hko e (Array.mem_toList_iff.mpr hm), hp, by
    rw [hk]
    have := hn
    rw [hl] at this
    exact (List.pairwise_map.mp this).imp fun h e => h (by rw [e])⟩
  refine PySem.Calls.call_function_entry kind_sorted plain_sorted entry_sorted (args_sorted1 _) ?_
  unfold Builtin.«sorted»
  refine wpAny_bind (m := checkCount "sorted" 1 1 _) (wpAny_pure ?_)
  refine wpAny_bind (kdu_collect (A := A.in1) (kdl_dict (knd := intKind P w) (kvs := kvs) (ep := ep) (r.hp.notMods ha)) hh D (by rw [hlen, sizeLine_eq]; omega) fun h' tk acc hkp hacc => ?_)
  refine wpAny_bind (wpAny_newList ?_ (by rw [Array.length_toList, hacc.1, hlen, sizeLine_eq]; omega))
  have hoL : (h'.push (seqObj "list" acc.toList.toArray 0)).get? h'.objs.size = some (seqObj "list" acc.toList.toArray 0) := Heap.get?_push_size _ rfl
  have hI : IntsAre acc.toList ns := by
    have hsz : acc.toList.length = ns.length := by rw [Array.length_toList, hacc.1, hlen]
    have all : ∀ i v, acc.toList[i]? = some v → ∃ (t : Tok) (n : Int), ns[i]? = some n ∧ v = Value.int n t := fun i v e => by
      obtain ⟨k, x, e1, e2⟩ := hacc.2 i v (by rw [← Array.getElem?_toList]; exact e)
      obtain ⟨t, rfl⟩ := Value.isInt_shape e2
      exact ⟨t, k, by rw [← hk, List.getElem?_map, e1]; rfl, rfl⟩
    clear hacc hoL D hp hk hko hlen hkp h
    generalize acc.toList = xs at hsz all
    clear hl hz
    induction ns generalizing xs with
    | nil => rw [List.eq_nil_of_length_eq_zero hsz]; exact .nil
    | cons n ns ih =>
      cases xs with
      | nil => simp at hsz
      | cons v xs =>
        obtain ⟨t, n', e1, rfl⟩ := all 0 v rfl
        simp at e1; subst e1
        exact .cons _ t (ih xs (by simpa using hsz) fun i v e => all (i + 1) v (by simpa using e))
  refine wpAny_bind (wpAny_holding (wpAny_call_entry slot_list_sort ⟨_, hoL, rfl⟩ entry_list_sort (list_sort_tree hoL hI (by rw [Array.length_toList, hacc.1, hlen]; exact hz) fun out ns' a1 a2 a3 => ⟨_, rfl, ?_⟩) (args_list_sort _)))
  refine wpAny_pure ⟨_, rfl, ?_⟩
  obtain ⟨e, he'⟩ := sortedHeap_at (out := out) hoL
  have kp : ∀ b ob, s.heap.get? b = some ob → (sortedHeap (h'.push (seqObj "list" acc.toList.toArray 0)) h'.objs.size acc.toList out).get? b = some ob := fun b ob q => by
    have q' := hkp b ob q
    rw [sortedHeap_old (Nat.ne_of_lt (Heap.lt_size q')) (by rw [Heap.size_push]; exact Nat.lt_succ_of_lt (Heap.lt_size q'))]
    exact Heap.get?_push_of_some _ q'
  have fr : s.heap.get? h'.objs.size = none := by
    cases q : s.heap.get? h'.objs.size with
    | none => rfl
    | some ob => exact absurd (Heap.lt_size (hkp _ _ q)) (Nat.lt_irrefl _)
  have top : sysModules < h'.objs.size := by
    obtain ⟨mv, ⟨oL, _, _, gL, _⟩, _⟩ := r.ns
    exact Nat.lt_trans r.lo (Heap.lt_size (hkp _ _ gL))
  exact ⟨.of_keeps kp, _, _, vis_ref, (r.grow (t := tk) kp).at (c := .list (ns'.map .int)) fr r he' ⟨_, _, rfl, of_ints a1⟩ top, h _ ns' (fresh_of r.hp fr) a2 a3⟩
end
section
variable {w : World} {C : Cx} {A : Around} {m m₀ : Loc} {σ : Store} {K : V → Store → Prop} {N : Loc → Store → Prop} {R : V → Store → Prop}

/-! one sign of a string -/
theorem get_str {x : Str} {i : Int} {c : Nat} (hr : (decide (i < -(2 ^ 63 : Int)) || decide (i ≥ 2 ^ 63)) = false) (hc : (seqIndex? i x.length).bind (x.cps[·]?) = some c) (h : K (.str ⟨#[c]⟩) σ) : Op2 w C A getItem (.str x) (.int i) m σ K := fun s u₁ u₂ r a b => by
  obtain ⟨t, rfl⟩ := a.str_inv; obtain ⟨t', rfl⟩ := b.int_inv
  exact PyProof.Rows.getItem_str hr hc (.here r vis_str h)

/-! slices -/
theorem part_none {env : Env} (h : K .none σ) : Ev w C A (evalPart none env) m σ K := fun s r => wpAny_pure (.now r vis_none h)
theorem part_some {e : PySem.Expr} {env : Env} (h : Ev w C A (eval e env) m σ K) : Ev w C A (evalPart (some e) env) m σ K := h
noncomputable def partV : Option Int → V
  | none => .none
  | some i => .int i
noncomputable def SliceO (l u st : Option Int) (o : Obj) : Prop := ∃ l' u' st' : Option (Int × Tok), l'.map (·.1) = l ∧ u'.map (·.1) = u ∧ st'.map (·.1) = st ∧ o = { cls := .type "slice", data := .fields #[partValue l', partValue u', partValue st'] }
theorem part_is {h : Heap} {l : Option Int} {u : Value} (x : VIs h (partV l) u) : ∃ l' : Option (Int × Tok), l'.map (·.1) = l ∧ u = partValue l' := by
  cases l with
  | none => rw [x.none_inv]; exact ⟨none, rfl, rfl⟩
  | some i => obtain ⟨t, rfl⟩ := x.int_inv; exact ⟨some (i, t), rfl, rfl⟩
theorem ev_slice {lo hi st : Option PySem.Expr} {pos : Pos} {env : Env} (h : Ev w C A (evalPart lo env) m σ (fun v₁ σ₁ => Ev w C A (evalPart hi env) m σ₁ (fun v₂ σ₂ => Ev w C A (evalPart st env) m σ₂ (fun v₃ σ₃ =>
    ∃ l u c, v₁ = partV l ∧ v₂ = partV u ∧ v₃ = partV c ∧ ∀ a o, σ₃ a = none → SliceO l u c o → K (.ref a) (upd σ₃ a (.obj o)))))) : Ev w C A (eval (.Slice lo hi st pos) env) m σ K := fun s r =>
  wpAny_Slice (h.use r fun u₁ s₁ v₁ σ₁ t₁ x₁ r₁ k₁ => k₁.use r₁ fun u₂ s₂ v₂ σ₂ t₂ x₂ r₂ k₂ => k₂.use r₂ fun u₃ s₃ v₃ σ₃ t₃ x₃ r₃ ⟨l, u, c, e1, e2, e3, k⟩ => by
    subst e1 e2 e3
    obtain ⟨l', f1, rfl⟩ := part_is x₁
    obtain ⟨u', f2, rfl⟩ := part_is x₂
    obtain ⟨c', f3, rfl⟩ := part_is x₃
    obtain ⟨tl, r'⟩ := r₃.push (t := s₃.toks) (c := .obj { cls := .type "slice", data := .fields #[partValue l', partValue u', partValue c'] }) (o := { cls := .type "slice", data := .fields #[partValue l', partValue u', partValue c'] })
      (fun h' tl => ⟨rfl, fun vs n q => absurd (congrArg Obj.cls q) (by show Value.type "slice" ≠ Value.type "tuple"; decide)⟩) rfl
    exact ⟨((t₁.trans t₂).trans t₃).trans tl, _, _, vis_ref, r', k _ _ (fresh_of r₃.hp (fresh_size _)) ⟨l', u', c', f1, f2, f3, rfl⟩⟩)

noncomputable def strCut (x : Str) (l u st : Option Int) : Str := if (st.getD 1 == 1 && (Builtin.Str.strSliceIndices l u (st.getD 1) x.length).length == x.length) = true then x else ⟨((Builtin.Str.strSliceIndices l u (st.getD 1) x.length).filterMap (x.cps[·]?)).toArray⟩
theorem get_str_slice {x : Str} {a : Addr} {l u st : Option Int} {o : Obj} (ha : σ a = some (.obj o)) (ho : SliceO l u st o) (h0 : (st.getD 1 == 0) = false) (hz : (strCut x l u st).length ≤ sizeLine) (h : K (.str (strCut x l u st)) σ) : Op2 w C A getItem (.str x) (.ref a) m σ K := fun s u₁ u₂ r xx y => by
  obtain ⟨t, rfl⟩ := xx.str_inv
  rw [y.ref_inv]
  obtain ⟨o', g, rfl, _⟩ := r.hp.cells a _ ha
  obtain ⟨l', u', st', rfl, rfl, rfl, rfl⟩ := ho
  refine wpAny_getItem_str_slice ⟨_, g, rfl, rfl⟩ h0 ?_
  unfold sliceMade slicePicked
  unfold strCut at hz h
  split
  · rename_i q
    rw [if_pos q] at h
    exact .now r vis_str h
  · rename_i q
    rw [if_neg q] at h hz
    exact ⟨hz, .here r vis_str h⟩

noncomputable def listCut (x : List V) (l u st : Option Int) : List V := (sliceRange (sliceBounds l u st x.length).1 (sliceBounds l u st x.length).2.1 (sliceBounds l u st x.length).2.2).filterMap (x[·]?)
theorem vall_pick {h : Heap} {x : List V} {us : List Value} (y : VAll h x us) : ∀ is : List Nat, VAll h (is.filterMap (x[·]?)) (is.filterMap (us[·]?))
  | [] => .nil
  | i :: is => by
    rw [List.filterMap_cons, List.filterMap_cons]
    cases hx : x[i]? with
    | none =>
      have : us[i]? = none := by
        rw [List.getElem?_eq_none_iff] at hx ⊢
        rw [y.length]; exact hx
      rw [this]; exact vall_pick y is
    | some v =>
      obtain ⟨u, hu, yu⟩ := y.get hx
      rw [hu]; exact .cons yu (vall_pick y is)
theorem isPart_of (l : Option (Int × Tok)) : IsPart (partValue l) (l.map (·.1)) := by
  cases l with
  | none => exact .none
  | some p => exact .int p.1 p.2
theorem get_list_slice {b a : Addr} {x : List V} {l u st : Option Int} {o : Obj} (hb : σ b = some (.list x)) (ha : σ a = some (.obj o)) (ho : SliceO l u st o) (h0 : st ≠ some 0) (hz : x.length ≤ sizeLine) (h : ∀ d, σ d = none → K (.ref d) (upd σ d (.list (listCut x l u st)))) :
    Op2 w C A getItem (.ref b) (.ref a) m σ K := fun s u₁ u₂ r xx y => by
  rw [xx.ref_inv, y.ref_inv]
  obtain ⟨o', g, rfl, _⟩ := r.hp.cells a _ ha
  obtain ⟨l', u', st', rfl, rfl, rfl, rfl⟩ := ho
  obtain ⟨vs, n, gb, z⟩ := isList_of r.hp hb
  have e : vs.size = x.length := by rw [← Array.length_toList]; exact z.length
  refine wpAny_getItem_list_slice ⟨_, gb, rfl, n, rfl⟩ ⟨_, g, rfl, rfl⟩ (isPart_of _) (isPart_of _) (isPart_of _) h0 ?_ (by rw [e]; exact hz)
  have pk : VAll s.heap (listCut x (l'.map (·.1)) (u'.map (·.1)) (st'.map (·.1))) (slicePick vs (l'.map (·.1)) (u'.map (·.1)) (st'.map (·.1))).toList := by
    unfold listCut slicePick
    rw [e]
    simp only [← Array.getElem?_toList]
    exact vall_pick z _
  obtain ⟨tl, r'⟩ := r.push (t := s.toks) (c := .list (listCut x (l'.map (·.1)) (u'.map (·.1)) (st'.map (·.1)))) (o := { cls := .type "list", data := .seq (slicePick vs (l'.map (·.1)) (u'.map (·.1)) (st'.map (·.1))) }) (fun h' tl => ⟨_, _, rfl, pk.mono tl⟩) rfl
  exact ⟨tl, _, _, vis_ref, r', h _ (fresh_of r.hp (fresh_size _))⟩

/-! written texts with fields -/
noncomputable def Jn (w : World) (C : Cx) (A : Around) (out : Str) (xs : List (Sem Value)) (m : Loc) (σ : Store) (K : V → Store → Prop) : Prop := Ev w C A (joinParts out xs) m σ K
theorem jn_nil {out : Str} (hz : out.length ≤ sizeLine) (h : K (.str out) σ) : Jn w C A out [] m σ K := fun s r => joinParts_nil (.here r vis_str h) hz
theorem jn_cons {out : Str} {x : Sem Value} {rest : List (Sem Value)} (h : Ev w C A x m σ (fun v σ₁ => ∃ y, v = .str y ∧ (out ++ y).length ≤ sizeLine ∧ Jn w C A (out ++ y) rest m σ₁ K)) : Jn w C A out (x :: rest) m σ K := fun s r =>
  joinParts_cons (h.use r fun u s₁ v σ₁ t yy r₁ ⟨y, e, hz, k⟩ => by
    subst e
    obtain ⟨t', rfl⟩ := yy.str_inv
    exact ⟨hz, post_up (k s₁ r₁) t⟩)
theorem ev_joined {v₁ v₂ : PySem.Expr} {rest : List PySem.Expr} {pos : Pos} {env : Env} (h : Jn w C A Str.empty (eval v₁ env :: eval v₂ env :: evalEach rest env) m σ K) : Ev w C A (eval (.JoinedStr (v₁ :: v₂ :: rest) pos) env) m σ K := fun s r => JoinedStr_many (h s r)
theorem ev_field {value : PySem.Expr} {pos : Pos} {env : Env} (h : Ev w C A (eval value env) m σ (fun v σ₁ => Op1 w C A VIs (fun u => formatField u Str.empty) v m σ₁ K)) : Ev w C A (eval (.FormattedValue value (-1) none pos) env) m σ K := fun s r =>
  FormattedValue_plain (h.use r fun u s₁ v σ₁ t y r₁ k => post_up (k s₁ u r₁ y) t)
theorem fmt_str {x : Str} (hz : x.length ≤ sizeLine) (h : K (.str x) σ) : Op1 w C A VIs (fun u => formatField u Str.empty) (.str x) m σ K := fun s u r y => by
  obtain ⟨t, rfl⟩ := y.str_inv
  exact formatField_str (fun t' tk => .here r vis_str h) hz
theorem fmt_int {i : Int} (hd : i.natAbs.log2 < 1920) (h : K (.str (toString i)) σ) : Op1 w C A VIs (fun u => formatField u Str.empty) (.int i) m σ K := fun s u r y => by
  obtain ⟨t, rfl⟩ := y.int_inv
  exact formatField_int_small hd (.here r vis_str h)
end
theorem Room.make {n : Nat} {A : Around} (x : Room (n + 1) A) {Cl : Addr} {us : List Value} : Room n (A.under (.builtin "type.__call__" ⟨.ref Cl :: us, []⟩)) :=
  ⟨by have := x.depth; show A.depth + 1 + 2 * n < _; omega, by have := x.units; show A.units + (Code.builtin "type.__call__" ⟨.ref Cl :: us, []⟩).cUnits + 8 * n + 80 < _; rw [show (Code.builtin "type.__call__" ⟨.ref Cl :: us, []⟩).cUnits = 1 from rfl]; omega, x.handled⟩
section
variable {w : World} {C : Cx} {A : Around} {m m₀ : Loc} {σ : Store} {K : V → Store → Prop} {N : Loc → Store → Prop} {R : V → Store → Prop}

theorem c_cls {Cl fI : Addr} {vs : List V} (ok : C.Ok) (G : Gd w C.h₀) (hm : makesIn (KK w) Cl = true) (hi : findIn (KK w) (.ref Cl) "__init__" = some (some (.ref fI))) (hf : typeIn (KK w) (.ref fI) = some (.type "function"))
    (h : ∀ x dx us, σ x = none → σ dx = none → x ≠ dx → CallC w C.h₀ (A.under (.builtin "type.__call__" ⟨.ref Cl :: us, []⟩)) (.ref fI) (.ref x :: vs) (upd (upd σ dx (.dict .str [])) x (.inst Cl dx)) (fun v σ' => v = .none ∧ K (.ref x) σ')) :
    OpC w C A (.ref Cl) vs m σ K := fun s us r y => by
  have X : (KK w).In s.heap := G.X.keeps fun b o e => r.keep b o (ok b o e)
  refine wpAny_call ?_
  obtain ⟨hh, g, d, t, os⟩ := s
  refine make_core (makes_of X hm) (looks_findIn X hi) (fun self => bind_fn X self hf) (.inl rfl) ?_
  obtain ⟨t₁, r₁⟩ := r.push (t := t) (c := .dict .str []) (o := emptyDict) (fun h' tl => ⟨#[], 0, rfl, by simp only [EntsAre], (fun x hx => nomatch hx), List.nodup_nil⟩) rfl
  obtain ⟨t₂, r₂⟩ := r₁.push (t := t) (c := .inst Cl hh.objs.size) (o := instObj Cl hh.objs.size) (fun h' tl => rfl) rfl
  have e1 : (hh.push emptyDict).objs.size = hh.objs.size + 1 := Heap.size_push ..
  have f0 : σ hh.objs.size = none := fresh_of r.hp (fresh_size _)
  have f1 : σ (hh.objs.size + 1) = none := by
    have := fresh_of r₁.hp (fresh_size _)
    rw [show ({ heap := hh.push emptyDict, gens := g, drawn := d, toks := t, os := os } : Shared).heap.objs.size = hh.objs.size + 1 from e1, upd_ne (Nat.succ_ne_self _)] at this
    exact this
  have hh' := h (hh.objs.size + 1) hh.objs.size us f1 f0 (Nat.succ_ne_self _)
  rw [show ({ heap := hh.push emptyDict, gens := g, drawn := d, toks := t, os := os } : Shared).heap.objs.size = hh.objs.size + 1 from e1] at r₂
  dsimp only at r₂ t₂ t₁
  refine codeAny_mono (hh' ⟨(hh.push emptyDict).push (instObj Cl hh.objs.size), g, d, t, os⟩ (.ref (hh.objs.size + 1) :: us) r₂.hp (fun b o e => ⟨r₂.keep b o (ok b o e), ?_⟩) r₂.top (.cons vis_ref (y.mono (t₁.trans t₂)))) (fun rr s' x => ?_)
  · cases q : upd (upd σ hh.objs.size (.dict .str [])) (hh.objs.size + 1) (.inst Cl hh.objs.size) b with
    | none => rfl
    | some c => have := (r₂.apart b c q).1; rw [ok b o e] at this; cases this
  · rcases rr with e | (_ | _ | u | _) <;> first | exact x.elim | skip
    · have tl := x.tupLe r₂.hp
      obtain ⟨a, b, v, σ', c, d', e, f, k⟩ := x
      subst f
      refine ⟨c.none_inv, (t₁.trans t₂).trans tl, .ref (hh.objs.size + 1), σ', vis_ref, r₂.after a b tl d' e, k⟩
end
noncomputable def enumV : Nat → List V → List V
  | _, [] => []
  | i, v :: l => .tup [.int i, v] :: enumV (i + 1) l
theorem enumV_get : ∀ {l : List V} {n i : Nat} {x : V}, (enumV n l)[i]? = some x → ∃ v, l[i]? = some v ∧ x = .tup [.int ((n + i : Nat) : Int), v]
  | [], _, _, _, h => by simp [enumV] at h
  | v :: l, n, 0, x, h => by simp [enumV] at h; exact ⟨v, rfl, by rw [← h]; rfl⟩
  | v :: l, n, i + 1, x, h => by
    simp only [enumV, List.getElem?_cons_succ] at h ⊢
    obtain ⟨v', h1, h2⟩ := enumV_get h
    exact ⟨v', h1, by rw [h2, show n + 1 + i = n + (i + 1) from by omega]⟩
theorem enumV_length : ∀ (l : List V) (n : Nat), (enumV n l).length = l.length
  | [], _ => rfl
  | _ :: l, n => by simp [enumV, enumV_length l]
section
variable {w : World} {C : Cx} {A : Around} {m m₀ : Loc} {σ : Store} {K : V → Store → Prop} {N : Loc → Store → Prop} {R : V → Store → Prop}

theorem si_enum {func arg : PySem.Expr} {pos : Pos} {env : Env} {G : Bool → List V → (Store → Prop) → Store → Prop}
    (h : Ev w C A (eval func env) m σ (fun v σ₁ => v = .raw (.type "enumerate") ∧ Evs w C A (spliced (backTo pos (starEach [arg] env))) m σ₁ (fun vs σ₂ => ∃ a l, vs = [.ref a] ∧ σ₂ a = some (.list l) ∧ G false (enumV 0 l) (fun σ' => σ' a = some (.list l)) σ₂)))
    (he : eval (.Call func [arg] [] pos) env = (do callWith pos (← eval func env) [] (backTo pos (starEach [arg] env)) (backToKw pos (keywordEach [] env))))
    (he' : starEach [arg] env = (false, eval arg env) :: starEach [] env) (hplain : (backTo pos (starEach [] env)).any (·.1) = false) : Si w C A (eval (.Call func [arg] [] pos) env) m σ G := fun s r Q k =>
  Call_ (h.use r fun u s₁ v σ₁ t₁ x₁ r₁ ⟨e, h₂⟩ => by
    subst e
    rw [x₁.raw_inv]
    refine PyProof.Rows.callWith_type1 (h₂.use r₁ fun us s₂ vs σ₂ t₂ y r₂ ⟨a, l, e, ha, g⟩ => ?_) he' hplain
    subst e
    obtain ⟨ua, rfl, xa⟩ := y.one
    rw [xa.ref_inv]
    obtain ⟨items, n, ga, za⟩ := isList_of r₂.hp ha
    refine call_enumerate_list ⟨_, ga, rfl, n, rfl⟩ fun h' hen hit hsz hk => wpAny_pyIter_enum hen ?_
    generalize hI : s₂.heap.objs.size = it at hen hit hsz hk ⊢
    have top := r₂.top
    rw [hI] at top
    have fresh : ∀ a, it ≤ a → s₂.heap.get? a = none := fun a ha => by
      cases e : s₂.heap.get? a with
      | none => rfl
      | some o' => exact absurd (Heap.lt_size e) (by rw [hI]; exact Nat.not_lt.mpr ha)
    have hne : it + 1 ≠ it := Nat.succ_ne_self _
    have hal : a < it := by rw [← hI]; exact Heap.lt_size ga
    refine k s₂ σ₂ (it + 1) [it + 1, it] h' s₂.toks (fun i h => (∃ old, IsEnum h (it + 1) it i old) ∧ h.IsListIter it a i)
      (fun i u h => ∃ T x, u = .ref T ∧ IsEnumOut h (it + 1) it ((i : Int) + 1) x T ∧ h.IsListIter it a (i + 1)) false (enumV 0 l) _ (t₁.trans t₂) r₂ g (fun A' hh => ?_) (fun b hb => ?_) ⟨⟨.none, by simpa using hen⟩, hit⟩ hk
    · have lvE : ∀ (h : Heap) o, h.get? (it + 1) = some o → o.cls = .type "enumerate" → ∃ o, h.get? (it + 1) = some o ∧ ∀ vs n, o ≠ tupO vs n := fun h o e hc => ⟨o, e, fun vs n q => by rw [q] at hc; exact absurd hc (by show Value.type "tuple" ≠ Value.type "enumerate"; decide)⟩
      have lvI : ∀ (h : Heap) i, h.IsListIter it a i → ∃ o, h.get? it = some o ∧ ∀ vs n, o ≠ tupO vs n := fun h i ⟨o, e, hc, hd⟩ => ⟨o, e, fun vs n q => by subst q; cases hd⟩
      refine ⟨fun i h b st hb => ?_, fun i u h b st hb => ?_, ?_, ?_, ?_, ?_, fun q => (by cases q), ?_⟩
      · obtain ⟨⟨old, h1⟩, h2⟩ := st
        rcases List.mem_cons.mp hb with rfl | hb
        · exact lvE h _ h1 rfl
        · rw [List.mem_singleton.mp hb]; exact lvI h i h2
      · obtain ⟨T, x, _, h1, h2⟩ := st
        rcases List.mem_cons.mp hb with rfl | hb
        · exact lvE h _ h1 rfl
        · rw [List.mem_singleton.mp hb]; exact lvI h _ h2
      · rintro i h h'' ⟨⟨old, h1⟩, ⟨o, e, hc⟩⟩ kp _
        exact ⟨⟨old, kp _ List.mem_cons_self _ h1⟩, o, kp _ (List.mem_cons_of_mem _ (List.mem_singleton.mpr rfl)) _ e, hc⟩
      · rintro i s' σ' v Q' hv ⟨⟨old, h1⟩, h2⟩ hn hp' hσ' q
        obtain ⟨v', hv', rfl⟩ := enumV_get hv
        obtain ⟨vs', n', g', y'⟩ := isList_of hp' hn
        obtain ⟨u, hu, yu⟩ := y'.get hv'
        refine wpAny_pyNext_enum_item h1 h2 ⟨_, g', rfl, n', rfl⟩ (by rw [← Array.getElem?_toList]; exact hu) hne fun h'' ho hit' hT hsz' hkp => ?_
        have tl : TupLe s'.heap h'' := fun b ws k q => hkp b _ (fun z => by rw [z] at q; rw [h1] at q; exact absurd (congrArg Obj.cls (Option.some.inj q)) (by show Value.type "enumerate" ≠ Value.type "tuple"; decide)) (fun z => by
          obtain ⟨o, e, hc, hd⟩ := h2
          rw [z, e] at q; cases q; cases hd) q
        refine q _ h'' _ (vis_tup hT (.cons ?_ (.cons (yu.mono tl) .nil))) (fun b o hb e => hkp b o (fun z => hb (by rw [z]; exact List.mem_cons_self)) (fun z => hb (by rw [z]; exact List.mem_cons_of_mem _ (List.mem_singleton.mpr rfl))) e) ⟨_, _, rfl, ho, hit'⟩
        rw [Nat.zero_add]; exact vis_int
      · rintro s' σ' Q' ⟨⟨old, h1⟩, h2⟩ hn hp' hσ' q
        obtain ⟨vs', n', g', y'⟩ := isList_of hp' hn
        refine wpAny_pyNext_enum_end hh h1 h2 ⟨_, g', rfl, n', rfl⟩ ?_ fun h'' he => q h'' _ fun b o hb e => he b o (fun z => hb (by rw [z]; exact List.mem_cons_of_mem _ (List.mem_singleton.mpr rfl))) e
        rw [enumV_length, ← Array.getElem?_toList]
        exact List.getElem?_eq_none (by rw [y'.length]; exact Nat.le_refl _)
      · rintro i s' Q' E ⟨⟨old, h1⟩, h2⟩ q
        exact wpAny_pyIter_enum h1 q
      · rintro i elts kk pos' s' u Q' ⟨T, x, rfl, h1, h2⟩ q
        refine wpAny_letOwnedTupleGo_enum h1 fun h'' he'' hs'' => q h'' ⟨⟨x, by simpa using he''⟩, ?_⟩ fun b o hb e => hs''.extBut b o (fun z => hb (by rw [z]; exact List.mem_cons_self)) e
        obtain ⟨o, e, hc⟩ := h2
        exact ⟨o, hs''.extBut _ _ (Ne.symm hne) e, hc⟩
    · rcases List.mem_cons.mp hb with rfl | hb
      · exact ⟨fresh _ (Nat.le_succ _), Nat.lt_succ_of_lt top⟩
      · rw [List.mem_singleton.mp hb]; exact ⟨fresh _ (Nat.le_refl _), top⟩) he
end
section
variable {w : World} {A : Around} {σ : Store} {K : V → Store → Prop}
noncomputable def BindsIn (fd : FuncData) : List Str → Prop
  | [] => True
  | n :: r => (∀ L : Addr, (fd.scope.names.lookup n = some .local ∧ (cellsFrom (L + 1) fd.scope.names []).lookup n = none) ∨ (fd.scope.names.lookup n = some .cell ∧ ((cellsFrom (L + 1) fd.scope.names []).lookup n).isSome = true)) ∧ BindsIn fd r
theorem BindsIn.ok {fd : FuncData} : ∀ {names : List Str}, BindsIn fd names → BindsOk fd names
  | [], _ => fun L n hn => by cases hn
  | x :: r, ⟨h1, h2⟩ => fun L n hn => by
    rcases List.mem_cons.mp hn with rfl | hn
    · exact h1 L
    · exact h2.ok L n hn
/-- a body, n calls of room below it -/
theorem body {n : Nat} {h₀ : Heap} {fa : Addr} {fd : FuncData} {stmts : List Stmt} {names : List Str} {vs : List V} {oc : Value} {od : Option Addr} {osl : Array (Option Value)} (G : Gd w h₀) (hR : Room (n + 1) A)
    (hfd : (KK w).lookup fa = some ⟨oc, od, .func fd, osl⟩) (hcd : codeIn (KK w) fd.code fd.qualname = true) (hbody : fd.body = .stmts stmts) (hclo : fd.closure = [])
    (hbind : ∀ us : List Value, us.length = names.length → bindArgs fd ⟨us, []⟩ = pure (names.zip us)) (hlen : names.length = vs.length) (hok : BindsIn fd names)
    (hco : fd.scope.isCoroutine = false) (hgen : fd.scope.isGenerator = false) (hk : fd.scope.kind = .function) (hgl : fd.globals = mainGlobals) (hbt : fd.builtins = builtinsNs)
    (h : ∀ L q env base os A', env = newEnv fd.scope L mainGlobals (cellsFrom (L + 1) fd.scope.names []) q (some fa) fd.code none builtinsNs → Room n A' → (Cx.mk h₀ base env os).Ok → (Cx.mk h₀ base env os).Own →
      Ex w ⟨h₀, base, env, os⟩ A' (execs stmts env) (bindM (names.zip vs) fun _ => none) σ (fun _ σ' => K .none σ') (fun v σ' => K v σ')) :
    CallC w h₀ A (.ref fa) vs σ K :=
  enter G (by have := hR.depth; omega) hfd hcd hbody hclo hbind hlen hok.ok hco hgen hk fun L base os ok O => h L (fd.qualname ++ ".<locals>.") _ base os _ (by unfold callEnvC; rw [hgl, hbt]) hR.deeper ok O

theorem set_same {m : Loc} {x : Str} {v : V} : set m x v x = some v := if_pos rfl
theorem set_other {m : Loc} {x y : Str} {v : V} (h : (y == x) = false) : set m x v y = m y := if_neg fun e => by rw [e] at h; simp at h
theorem alook_same {k v : V} {l : List (V × V)} : alook ((k, v) :: l) k = some v := by unfold alook; rw [List.find?_cons, V.beq_self]; rfl
theorem alook_next {k k' v : V} {l : List (V × V)} (h : V.beq k k' = false) : alook ((k, v) :: l) k' = alook l k' := by unfold alook; rw [List.find?_cons, h]
theorem beq_str {a b : Str} (h : (a == b) = false) : V.beq (.str a) (.str b) = false := h
theorem len1 {us : List Value} (h : us.length = 1) : ∃ a, us = [a] := by cases us with | nil => cases h | cons a r => cases r with | nil => exact ⟨a, rfl⟩ | cons => simp at h
theorem len2 {us : List Value} (h : us.length = 2) : ∃ a b, us = [a, b] := by
  cases us with
  | nil => cases h
  | cons a r => obtain ⟨b, rfl⟩ := len1 (by simpa using h); exact ⟨a, b, rfl⟩
theorem len3 {us : List Value} (h : us.length = 3) : ∃ a b c, us = [a, b, c] := by
  cases us with
  | nil => cases h
  | cons a r => obtain ⟨b, c, rfl⟩ := len2 (by simpa using h); exact ⟨a, b, c, rfl⟩
theorem len4 {us : List Value} (h : us.length = 4) : ∃ a b c d, us = [a, b, c, d] := by
  cases us with
  | nil => cases h
  | cons a r => obtain ⟨b, c, d, rfl⟩ := len3 (by simpa using h); exact ⟨a, b, c, d, rfl⟩
theorem len5 {us : List Value} (h : us.length = 5) : ∃ a b c d e, us = [a, b, c, d, e] := by
  cases us with
  | nil => cases h
  | cons a r => obtain ⟨b, c, d, e, rfl⟩ := len4 (by simpa using h); exact ⟨a, b, c, d, e, rfl⟩
end

section
variable {w : World} {C : Cx} {A : Around} {m m₀ : Loc} {σ : Store} {K : V → Store → Prop} {N : Store → Prop} {n : Nat}
theorem item_s {a : Addr} {l : List (V × V)} {key : Str} {v : V} (hR : Room n A) (ha : σ a = some (.dict .str l)) (hk : PyData.strOk key = true) (hl : alook l (.str key) = some v) (h : K v σ) : IsSub w σ (.ref a) ∧ Op2 w C A getItem (.ref a) (.str key) m σ K :=
  ⟨sb_dict ha, get_dict (k := .str) (by have := hR.units; omega) trivial ha (has_str_of hk) hl h⟩
theorem item_i {a : Addr} {l : List (V × V)} {key : Int} {v : V} (hR : Room n A) (ha : σ a = some (.dict .int l)) (hl : alook l (.int key) = some v) (h : K v σ) : IsSub w σ (.ref a) ∧ Op2 w C A getItem (.ref a) (.int key) m σ K :=
  ⟨sb_dict ha, get_dict (k := .int) (by have := hR.units; omega) trivial ha has_int_of hl h⟩
theorem item_d {a : Addr} {k : DK} {l : List (V × V)} {key v : V} (hR : Room n A) (hf : k.fits) (ha : σ a = some (.dict k l)) (hk : V.has k.sh key) (hl : alook l key = some v) (h : K v σ) : IsSub w σ (.ref a) ∧ Op2 w C A getItem (.ref a) key m σ K :=
  ⟨sb_dict ha, get_dict (k := k) (by have := hR.units; omega) hf ha hk hl h⟩
theorem item_l {a : Addr} {l : List V} {i : Int} {v : V} (ha : σ a = some (.list l)) (h0 : 0 ≤ i) (h1 : i < 2 ^ 63) (hl : l[i.toNat]? = some v) (h : K v σ) : IsSub w σ (.ref a) ∧ Op2 w C A getItem (.ref a) (.int i) m σ K :=
  ⟨sb_list ha, get_list ha h0 h1 hl h⟩
theorem item_p {l : List V} {i : Int} {v : V} (h0 : 0 ≤ i) (h1 : i < 2 ^ 63) (hl : l[i.toNat]? = some v) (h : K v σ) : IsSub w σ (.tup l) ∧ Op2 w C A getItem (.tup l) (.int i) m σ K :=
  ⟨sb_tup, get_tup h0 h1 hl h⟩
theorem seti_s {a : Addr} {l : List (V × V)} {key : Str} {v : V} (hR : Room n A) (ha : σ a = some (.dict .str l)) (hk : PyData.strOk key = true) (hz : l.length ≤ 900) (h : N (upd σ a (.dict .str (aput l (.str key) v)))) : SetI w C A (.ref a) (.str key) v m σ N :=
  set_item (k := .str) (by have := hR.units; omega) trivial ha (has_str_of hk) (by rw [sizeLine_eq]; omega) h
theorem seti_d {a : Addr} {k : DK} {l : List (V × V)} {key v : V} (hR : Room n A) (hf : k.fits) (ha : σ a = some (.dict k l)) (hk : V.has k.sh key) (hz : l.length ≤ 900) (h : N (upd σ a (.dict k (aput l key v)))) : SetI w C A (.ref a) key v m σ N :=
  set_item (by have := hR.units; omega) hf ha hk (by rw [sizeLine_eq]; omega) h
theorem as_local {x : Str} {v : V} {Φ : Loc → Prop} (hk : C.env.scope.kind = .function) (hl : C.env.kindOf x = some .local) (hc : C.env.cells.lookup x = none) (O : C.Own) (h : Φ (set m x v)) : ∃ m', As w C A (storeName C.env x) v m σ m' ∧ Φ m' :=
  ⟨_, st_local hk hl hc O, h⟩
theorem as_cell {x : Str} {v : V} {c : Addr} {Φ : Loc → Prop} (hk : C.env.scope.kind = .function) (hl : C.env.kindOf x = some .cell) (hc : C.env.cells.lookup x = some c) (O : C.Own) (h : Φ (set m x v)) : ∃ m', As w C A (storeName C.env x) v m σ m' ∧ Φ m' :=
  ⟨_, st_cell hk hl hc O, h⟩
theorem f_raw {f : Value} {Φ : Value → Prop} (h : Φ f) : ∃ f', (∀ h u, VIs h (.raw f) u → u = f') ∧ Φ f' := ⟨f, fun _ _ x => x.raw_inv, h⟩
theorem f_ref {f : Addr} {Φ : Value → Prop} (h : Φ (.ref f)) : ∃ f', (∀ h u, VIs h (.ref f) u → u = f') ∧ Φ f' := ⟨.ref f, fun _ _ x => x.ref_inv, h⟩
theorem aput_same {k v v' : V} {l : List (V × V)} (hn : k ∉ l.map (·.1)) : aput ((k, v) :: l) k v' = (k, v') :: l := by
  rw [aput_old (v' := v) alook_same, List.map_cons, if_pos (V.beq_self k)]
  congr 1
  have : ∀ y ∈ l, (if V.beq y.1 k then (y.1, v') else y) = y := fun y hy => by
    have hf : V.beq y.1 k = false := V.beq_false.mpr fun e => hn (by rw [← e]; exact List.mem_map_of_mem (f := fun x : V × V => x.1) hy)
    rw [hf]; rfl
  rw [List.map_congr_left this, List.map_id']
theorem aput_next {k k' v v' : V} {l : List (V × V)} (h : V.beq k k' = false) : aput ((k, v) :: l) k' v' = (k, v) :: aput l k' v' := by
  unfold aput
  rw [alook_next h]
  split
  · rw [List.map_cons, h]; rfl
  · rfl
theorem aput_end {k v : V} : aput [] k v = [(k, v)] := rfl
end
noncomputable def notComp : PySem.Expr → Bool
  | .ListComp .. | .SetComp .. | .DictComp .. => false
  | _ => true
theorem swaps_plain {value : PySem.Expr} {t : Option PySem.Expr} {l : Nat} {env : Env} (h : notComp value = true) : swapsWith value t l env = pure false := by
  cases value <;> first | rfl | cases h
noncomputable def notStar : PySem.Expr → Bool
  | .Starred .. => false
  | _ => true
theorem star_plain {e : PySem.Expr} {rest : List PySem.Expr} {env : Env} (h : notStar e = true) : starEach (e :: rest) env = (false, eval e env) :: starEach rest env := by
  cases e <;> first | rfl | cases h
theorem call_name {x : Str} {p pos : Pos} {args : List PySem.Expr} {env : Env} : eval (.Call (.Name x p) args [] pos) env = (do callWith pos (← eval (.Name x p) env) [] (backTo pos (starEach args env)) (backToKw pos (keywordEach [] env))) := by with_unfolding_all rfl
noncomputable def notSlice : PySem.Expr → Bool
  | .Slice .. => false
  | _ => true
theorem sub_plain {slice : PySem.Expr} (h : notSlice slice = true) : ∀ o i, ∃ ops, subscripted slice false o i = operate ops (getItem o i) := fun o i => by
  cases slice <;> first | exact ⟨_, rfl⟩ | cases h
noncomputable def plainTest : PySem.Expr → Bool
  | .BoolOp .. | .UnaryOp .. | .Compare .. | .NamedExpr .. | .IfExp .. => false
  | _ => true
theorem true_plain {e : PySem.Expr} {env : Env} {whole : Sem Value} (h : plainTest e = true) : isTrue e env whole = (do let v ← whole; standAt e.pos; holding [v] (truthy v)) := by
  cases e <;> first | rfl | cases h
section
variable {w : World} {C : Cx} {A : Around} {m m₀ : Loc} {σ : Store} {K : V → Store → Prop}
/-- what is known of an activation's names -/
structure Nm (env : Env) (ns : List (Str × NameKind)) : Prop where
  names : env.scope.names = ns
  kind : env.scope.kind = .function
  gl : env.globals = mainGlobals
  bt : env.builtins = builtinsNs
theorem nm_local {ns : List (Str × NameKind)} {x : Str} {pos : Pos} {v : V} (h : Nm C.env ns) (hc : C.env.cells = []) (hl : ns.lookup x = some .local) (hm : m x = some v) (k : K v σ) (hd : (x == ("__debug__" : Str)) = false) : Ev w C A (eval (.Name x pos) C.env) m σ K :=
  ev_local h.kind (by unfold Env.kindOf; rw [h.names]; exact hl) (by rw [hc]; rfl) hm k hd
theorem nm_local' {ns : List (Str × NameKind)} {cl : List (Str × Addr)} {x : Str} {pos : Pos} {v : V} (h : Nm C.env ns) (hc : C.env.cells = cl) (hl : ns.lookup x = some .local) (hx : cl.lookup x = none) (hm : m x = some v) (k : K v σ) (hd : (x == ("__debug__" : Str)) = false) : Ev w C A (eval (.Name x pos) C.env) m σ K :=
  ev_local h.kind (by unfold Env.kindOf; rw [h.names]; exact hl) (by rw [hc]; exact hx) hm k hd
theorem nm_cell {ns : List (Str × NameKind)} {cl : List (Str × Addr)} {x : Str} {pos : Pos} {v : V} {c : Addr} (h : Nm C.env ns) (hc : C.env.cells = cl) (hl : ns.lookup x = some .cell) (hx : cl.lookup x = some c) (hm : m x = some v) (k : K v σ) (hd : (x == ("__debug__" : Str)) = false) : Ev w C A (eval (.Name x pos) C.env) m σ K :=
  ev_cell h.kind (by unfold Env.kindOf; rw [h.names]; exact hl) (by rw [hc]; exact hx) hm k hd
theorem nm_glob {ns : List (Str × NameKind)} {x : Str} {pos : Pos} {u : Value} {v : V} (hn : ∀ w, nsIn (KK w) mainGlobals x = some (some u)) (hv : ∀ w h, (KK w).In h → VIs h v u) (h : Nm C.env ns) (ok : C.Ok) (G : Gd w C.h₀) (hl : ns.lookup x = some .globalImplicit) (k : K v σ) (hd : (x == ("__debug__" : Str)) = false) :
    Ev w C A (eval (.Name x pos) C.env) m σ K :=
  ev_glob h.kind (by unfold Env.kindOf; rw [h.names]; exact hl) h.gl ok G (hn w) (hv w) k hd
theorem nm_globi {ns : List (Str × NameKind)} {x : Str} {pos : Pos} {i : Int} (hn : ∃ t, ∀ w, nsIn (KK w) mainGlobals x = some (some (.int i t))) (h : Nm C.env ns) (ok : C.Ok) (G : Gd w C.h₀) (hl : ns.lookup x = some .globalImplicit) (k : K (.int i) σ) (hd : (x == ("__debug__" : Str)) = false) :
    Ev w C A (eval (.Name x pos) C.env) m σ K := by
  obtain ⟨t, hn⟩ := hn
  exact nm_glob hn (fun _ _ _ => vis_int) h ok G hl k hd
theorem nm_globr {ns : List (Str × NameKind)} {x : Str} {pos : Pos} {a : Addr} (hn : ∀ w, nsIn (KK w) mainGlobals x = some (some (.ref a))) (h : Nm C.env ns) (ok : C.Ok) (G : Gd w C.h₀) (hl : ns.lookup x = some .globalImplicit) (k : K (.ref a) σ) (hd : (x == ("__debug__" : Str)) = false) :
    Ev w C A (eval (.Name x pos) C.env) m σ K := nm_glob hn (fun _ _ _ => vis_ref) h ok G hl k hd
theorem nm_built {ns : List (Str × NameKind)} {x : Str} {pos : Pos} {u : Value} (hn : (∀ w, nsIn (KK w) mainGlobals x = some none) ∧ bootBuiltins x = some u ∧ x ≠ "__name__") (h : Nm C.env ns) (ok : C.Ok) (G : Gd w C.h₀) (hl : ns.lookup x = some .globalImplicit) (k : K (.raw u) σ) (hd : (x == ("__debug__" : Str)) = false) :
    Ev w C A (eval (.Name x pos) C.env) m σ K :=
  ev_built h.kind (by unfold Env.kindOf; rw [h.names]; exact hl) h.gl h.bt ok G (hn.1 w) hn.2.1 hn.2.2 k hd
theorem nm_as {ns : List (Str × NameKind)} {x : Str} {v : V} {Φ : Loc → Prop} (h : Nm C.env ns) (hc : C.env.cells = []) (hl : ns.lookup x = some .local) (O : C.Own) (k : Φ (set m x v)) : ∃ m', As w C A (storeName C.env x) v m σ m' ∧ Φ m' :=
  as_local h.kind (by unfold Env.kindOf; rw [h.names]; exact hl) (by rw [hc]; rfl) O k
theorem nm_as' {ns : List (Str × NameKind)} {cl : List (Str × Addr)} {x : Str} {v : V} {Φ : Loc → Prop} (h : Nm C.env ns) (hc : C.env.cells = cl) (hl : ns.lookup x = some .local) (hx : cl.lookup x = none) (O : C.Own) (k : Φ (set m x v)) : ∃ m', As w C A (storeName C.env x) v m σ m' ∧ Φ m' :=
  as_local h.kind (by unfold Env.kindOf; rw [h.names]; exact hl) (by rw [hc]; exact hx) O k
theorem nm_asc {ns : List (Str × NameKind)} {cl : List (Str × Addr)} {x : Str} {v : V} {c : Addr} {Φ : Loc → Prop} (h : Nm C.env ns) (hc : C.env.cells = cl) (hl : ns.lookup x = some .cell) (hx : cl.lookup x = some c) (O : C.Own) (k : Φ (set m x v)) : ∃ m', As w C A (storeName C.env x) v m σ m' ∧ Φ m' :=
  as_cell h.kind (by unfold Env.kindOf; rw [h.names]; exact hl) (by rw [hc]; exact hx) O k
theorem nm_st {ns : List (Str × NameKind)} {x : Str} {v : V} (h : Nm C.env ns) (hc : C.env.cells = []) (hl : ns.lookup x = some .local) (O : C.Own) : As w C A (storeName C.env x) v m σ (set m x v) :=
  st_local h.kind (by unfold Env.kindOf; rw [h.names]; exact hl) (by rw [hc]; rfl) O
theorem nm_st' {ns : List (Str × NameKind)} {cl : List (Str × Addr)} {x : Str} {v : V} (h : Nm C.env ns) (hc : C.env.cells = cl) (hl : ns.lookup x = some .local) (hx : cl.lookup x = none) (O : C.Own) : As w C A (storeName C.env x) v m σ (set m x v) :=
  st_local h.kind (by unfold Env.kindOf; rw [h.names]; exact hl) (by rw [hc]; exact hx) O
theorem nm_stc {ns : List (Str × NameKind)} {cl : List (Str × Addr)} {x : Str} {v : V} {c : Addr} (h : Nm C.env ns) (hc : C.env.cells = cl) (hl : ns.lookup x = some .cell) (hx : cl.lookup x = some c) (O : C.Own) : As w C A (storeName C.env x) v m σ (set m x v) :=
  st_cell h.kind (by unfold Env.kindOf; rw [h.names]; exact hl) (by rw [hc]; exact hx) O

theorem ex_expr' {ns : List (Str × NameKind)} {e : PySem.Expr} {pos : Pos} {N : Loc → Store → Prop} {R : V → Store → Prop} (hn : Nm C.env ns) (h : Ev w C A (eval e C.env) m σ (fun _ σ₁ => N m σ₁)) (he : notComp e = true) : Ex w C A (exec (.Expr e pos) C.env) m σ N R :=
  ex_expr h (by unfold interactive; rw [hn.kind]; rfl) (swaps_plain he)
theorem ev_call' {x : Str} {p : Pos} {args : List PySem.Expr} {pos : Pos} {env : Env} (h : Ev w C A (eval (.Name x p) env) m σ (fun v σ₁ => ∃ f, (∀ h u, VIs h v u → u = f) ∧ OpW w C A pos f [] args env m σ₁ K)) : Ev w C A (eval (.Call (.Name x p) args [] pos) env) m σ K := ev_call h call_name
end
theorem nb_len : (∀ w, nsIn (KK w) mainGlobals "len" = some none) ∧ bootBuiltins "len" = some (.builtin "len") ∧ ("len" : Str) ≠ "__name__" := ⟨fun w => by kernel_rfl, by kernel_rfl, by decide⟩
theorem nb_isinstance : (∀ w, nsIn (KK w) mainGlobals "isinstance" = some none) ∧ bootBuiltins "isinstance" = some (.builtin "isinstance") ∧ ("isinstance" : Str) ≠ "__name__" := ⟨fun w => by kernel_rfl, by kernel_rfl, by decide⟩
theorem nb_sorted : (∀ w, nsIn (KK w) mainGlobals "sorted" = some none) ∧ bootBuiltins "sorted" = some (.builtin "sorted") ∧ ("sorted" : Str) ≠ "__name__" := ⟨fun w => by kernel_rfl, by kernel_rfl, by decide⟩
theorem nb_max : (∀ w, nsIn (KK w) mainGlobals "max" = some none) ∧ bootBuiltins "max" = some (.builtin "max") ∧ ("max" : Str) ≠ "__name__" := ⟨fun w => by kernel_rfl, by kernel_rfl, by decide⟩
theorem nb_list : (∀ w, nsIn (KK w) mainGlobals "list" = some none) ∧ bootBuiltins "list" = some (.type "list") ∧ ("list" : Str) ≠ "__name__" := ⟨fun w => by kernel_rfl, by kernel_rfl, by decide⟩
theorem nb_tuple : (∀ w, nsIn (KK w) mainGlobals "tuple" = some none) ∧ bootBuiltins "tuple" = some (.type "tuple") ∧ ("tuple" : Str) ≠ "__name__" := ⟨fun w => by kernel_rfl, by kernel_rfl, by decide⟩
theorem nb_dict : (∀ w, nsIn (KK w) mainGlobals "dict" = some none) ∧ bootBuiltins "dict" = some (.type "dict") ∧ ("dict" : Str) ≠ "__name__" := ⟨fun w => by kernel_rfl, by kernel_rfl, by decide⟩
theorem nb_int : (∀ w, nsIn (KK w) mainGlobals "int" = some none) ∧ bootBuiltins "int" = some (.type "int") ∧ ("int" : Str) ≠ "__name__" := ⟨fun w => by kernel_rfl, by kernel_rfl, by decide⟩
theorem nb_str : (∀ w, nsIn (KK w) mainGlobals "str" = some none) ∧ bootBuiltins "str" = some (.type "str") ∧ ("str" : Str) ≠ "__name__" := ⟨fun w => by kernel_rfl, by kernel_rfl, by decide⟩
theorem nb_range : (∀ w, nsIn (KK w) mainGlobals "range" = some none) ∧ bootBuiltins "range" = some (.type "range") ∧ ("range" : Str) ≠ "__name__" := ⟨fun w => by kernel_rfl, by kernel_rfl, by decide⟩
theorem nb_enumerate : (∀ w, nsIn (KK w) mainGlobals "enumerate" = some none) ∧ bootBuiltins "enumerate" = some (.type "enumerate") ∧ ("enumerate" : Str) ≠ "__name__" := ⟨fun w => by kernel_rfl, by kernel_rfl, by decide⟩
theorem ng_Bank : ∀ w, nsIn (KK w) mainGlobals "Bank" = some (some (.ref 410)) := fun w => by kernel_rfl
theorem ng_Model : ∀ w, nsIn (KK w) mainGlobals "Model" = some (some (.ref 559)) := fun w => by kernel_rfl
theorem ng_ModelMaker : ∀ w, nsIn (KK w) mainGlobals "ModelMaker" = some (some (.ref 674)) := fun w => by kernel_rfl
theorem ng_sort_text : ∀ w, nsIn (KK w) mainGlobals "sort_text" = some (some (.ref 456)) := fun w => by kernel_rfl
theorem ng_element_text : ∀ w, nsIn (KK w) mainGlobals "element_text" = some (some (.ref 463)) := fun w => by kernel_rfl
theorem ng_is_simple : ∀ w, nsIn (KK w) mainGlobals "is_simple" = some (some (.ref 471)) := fun w => by kernel_rfl
theorem ng_symbol_text : ∀ w, nsIn (KK w) mainGlobals "symbol_text" = some (some (.ref 478)) := fun w => by kernel_rfl
theorem ng_plain_value : ∀ w, nsIn (KK w) mainGlobals "plain_value" = some (some (.ref 486)) := fun w => by kernel_rfl
theorem ng_elements_texts : ∀ w, nsIn (KK w) mainGlobals "elements_texts" = some (some (.ref 685)) := fun w => by kernel_rfl
theorem ng_law_draw : ∀ w, nsIn (KK w) mainGlobals "_law_draw" = some (some (.ref 692)) := fun w => by kernel_rfl
theorem ng_law_any : ∀ w, nsIn (KK w) mainGlobals "_law_any" = some (some (.ref 699)) := fun w => by kernel_rfl
theorem ng_law_value : ∀ w, nsIn (KK w) mainGlobals "_law_value" = some (some (.ref 706)) := fun w => by kernel_rfl
theorem ng_law_plain : ∀ w, nsIn (KK w) mainGlobals "_law_plain" = some (some (.ref 713)) := fun w => by kernel_rfl
theorem ng_law_else : ∀ w, nsIn (KK w) mainGlobals "_law_else" = some (some (.ref 720)) := fun w => by kernel_rfl
theorem ng_law_met : ∀ w, nsIn (KK w) mainGlobals "_law_met" = some (some (.ref 727)) := fun w => by kernel_rfl
theorem ng_law_declared : ∀ w, nsIn (KK w) mainGlobals "_law_declared" = some (some (.ref 732)) := fun w => by kernel_rfl
theorem ng_law_are_elements : ∀ w, nsIn (KK w) mainGlobals "_law_are_elements" = some (some (.ref 739)) := fun w => by kernel_rfl
theorem ng_law_is_called : ∀ w, nsIn (KK w) mainGlobals "_law_is_called" = some (some (.ref 744)) := fun w => by kernel_rfl
theorem ng_law_deed : ∀ w, nsIn (KK w) mainGlobals "_law_deed" = some (some (.ref 749)) := fun w => by kernel_rfl
theorem ng_law_most : ∀ w, nsIn (KK w) mainGlobals "_law_most" = some (some (.ref 754)) := fun w => by kernel_rfl
theorem ng_BOOL : ∃ t, ∀ w, nsIn (KK w) mainGlobals "BOOL" = some (some (.int 0 t)) := ⟨_, fun w => by rfl⟩
theorem ng_INT : ∃ t, ∀ w, nsIn (KK w) mainGlobals "INT" = some (some (.int 1 t)) := ⟨_, fun w => by rfl⟩
theorem ng_REAL : ∃ t, ∀ w, nsIn (KK w) mainGlobals "REAL" = some (some (.int 2 t)) := ⟨_, fun w => by rfl⟩

/-- a body, with what is known of its names -/
theorem bodyN {w : World} {A : Around} {σ : Store} {K : V → Store → Prop} {n : Nat} {h₀ : Heap} {fa : Addr} {fd : FuncData} {stmts : List Stmt} {names : List Str} {vs : List V} {oc : Value} {od : Option Addr} {osl : Array (Option Value)} (G : Gd w h₀) (hR : Room (n + 1) A)
    (hfd : (KK w).lookup fa = some ⟨oc, od, .func fd, osl⟩) (hcd : codeIn (KK w) fd.code fd.qualname = true) (hbody : fd.body = .stmts stmts) (hclo : fd.closure = [])
    (hbind : ∀ us : List Value, us.length = names.length → bindArgs fd ⟨us, []⟩ = pure (names.zip us)) (hlen : names.length = vs.length) (hok : BindsIn fd names)
    (hco : fd.scope.isCoroutine = false) (hgen : fd.scope.isGenerator = false) (hk : fd.scope.kind = .function) (hgl : fd.globals = mainGlobals) (hbt : fd.builtins = builtinsNs)
    (h : ∀ L q env base os A', env = newEnv fd.scope L mainGlobals (cellsFrom (L + 1) fd.scope.names []) q (some fa) fd.code none builtinsNs → Nm env fd.scope.names → env.cells = cellsFrom (L + 1) fd.scope.names [] → Room n A' → (Cx.mk h₀ base env os).Ok → (Cx.mk h₀ base env os).Own →
      Ex w ⟨h₀, base, env, os⟩ A' (execs stmts env) (bindM (names.zip vs) fun _ => none) σ (fun _ σ' => K .none σ') (fun v σ' => K v σ')) :
    CallC w h₀ A (.ref fa) vs σ K :=
  body G hR hfd hcd hbody hclo hbind hlen hok hco hgen hk hgl hbt fun L q env base os A' he hR' ok O => h L q env base os A' he ⟨by subst he; rfl, by subst he; exact hk, by subst he; rfl, by subst he; rfl⟩ (by subst he; rfl) hR' ok O
set_option hygiene false
local macro_rules
  | `(tactic| wtm_at "u") => `(tactic| with_unfolding_all rfl)
local macro_rules
  | `(tactic| wtm_at "rf") => `(tactic| with_unfolding_all first | rfl | (subst_vars; rfl))
local macro_rules
  | `(tactic| wtm_at "m") => `(tactic| first | exact set_same | (refine (set_other (by decide +kernel)).trans ?_; wtm_at "m") | assumption)
local macro_rules
  | `(tactic| wtm_at "look") => `(tactic| first | exact alook_same | (refine (alook_next (beq_str (by decide +kernel))).trans ?_; wtm_at "look") | assumption)
local macro_rules
  | `(tactic| wtm_at "binds") => `(tactic| repeat (first | exact trivial | refine ⟨fun L => (by first | exact .inl ⟨rfl, rfl⟩ | exact .inr ⟨rfl, rfl⟩), ?_⟩))
local macro_rules
  | `(tactic| wtm_at "nm") => `(tactic| first
    | refine nm_local (by assumption) (by assumption) (by decide +kernel) (by wtm_at "m") ?_ (by decide +kernel)
    | refine nm_local' (by assumption) (by assumption) (by decide +kernel) (by wtm_at "u") (by wtm_at "m") ?_ (by decide +kernel)
    | refine nm_cell (by assumption) (by assumption) (by decide +kernel) (by wtm_at "u") (by wtm_at "m") ?_ (by decide +kernel)
    | refine nm_built (by first | exact nb_len | exact nb_isinstance | exact nb_sorted | exact nb_max | exact nb_list | exact nb_tuple | exact nb_dict | exact nb_int | exact nb_str | exact nb_range | exact nb_enumerate) (by assumption) (by assumption) (by assumption) (by decide +kernel) ?_ (by decide +kernel) | refine nm_globr (by first | exact ng_Bank | exact ng_Model | exact ng_ModelMaker | exact ng_sort_text | exact ng_element_text | exact ng_is_simple | exact ng_symbol_text | exact ng_plain_value | exact ng_elements_texts | exact ng_law_draw | exact ng_law_any | exact ng_law_value | exact ng_law_plain | exact ng_law_else | exact ng_law_met | exact ng_law_declared | exact ng_law_are_elements | exact ng_law_is_called | exact ng_law_deed | exact ng_law_most) (by assumption) (by assumption) (by assumption) (by decide +kernel) ?_ (by decide +kernel) | refine nm_globi (by first | exact ng_BOOL | exact ng_INT | exact ng_REAL) (by assumption) (by assumption) (by assumption) (by decide +kernel) ?_ (by decide +kernel))
local macro_rules
  | `(tactic| wtm_at "1") => `(tactic| ((try dsimp only [Cx.with, inner]); with_reducible first
    | refine ex_cons ?_ | refine ex_nil ?_
    | (with_reducible show Ev _ _ _ (eval (PySem.Expr.Name _ _) _) _ _ _; wtm_at "nm")
    | refine ex_setitem ?_ (swaps_plain (by wtm_at "u")) | refine ex_setattr ?_ (swaps_plain (by wtm_at "u")) | refine ex_assign ?_ (swaps_plain (by wtm_at "u"))
    | refine ex_if ?_ | refine ex_ret ?_ | refine ex_ret_none ?_ | refine ex_expr' (by assumption) ?_ (by wtm_at "u")
    | refine ev_bin ?_ | refine ev_cmp ?_ (by wtm_at "u") | refine tr_cmp ?_ (by wtm_at "u") | refine ev_sub ?_ (sub_plain (by wtm_at "u"))
    | refine ev_str ?_ | refine ev_int ?_ | refine ev_bool ?_ | refine ev_none ?_ | refine ev_tuple ?_ | refine ev_list ?_ | refine ev_attr ?_ (by wtm_at "rf")
    | refine ev_call' ?_ | refine ev_meth ?_ (by wtm_at "rf") | refine ev_if ?_ | refine ev_and ?_ | refine ev_or ?_
    | refine evs_nil ?_ | refine evs_cons ?_ (star_plain (by wtm_at "u"))
    | refine tr_not ?_ | refine tr_bool ?_ | refine tr_and ?_ | refine tr_or ?_ | refine tr_and_nil ?_ | refine tr_or_nil ?_
    | refine op_add ?_ | refine op_sub ?_ | refine op_le ?_ | refine op_gt ?_ | refine op_eqi ?_ | refine op_eqs ?_ | refine op_neb ?_ | refine op_true ?_
    | refine f_raw ?_ | refine f_ref ?_
    | refine opw_built ?_ (star_plain (by wtm_at "u")) (by wtm_at "u") | refine opw_built0 ?_ | refine opw_type ?_ (star_plain (by wtm_at "u")) (by wtm_at "u")
    | refine opw_ref (by assumption) (by assumption) (by wtm_at "u") ?_ (star_plain (by wtm_at "u")) (by wtm_at "u") | refine opw_ref0 (by assumption) (by assumption) (by wtm_at "u") ?_
    | refine nm_as (by assumption) (by assumption) (by decide +kernel) (by assumption) ?_
    | refine nm_as' (by assumption) (by assumption) (by decide +kernel) (by wtm_at "u") (by assumption) ?_
    | refine nm_asc (by assumption) (by assumption) (by decide +kernel) (by wtm_at "u") (by assumption) ?_
    | refine tr_val ?_ (true_plain (by wtm_at "u"))))
local macro_rules
  | `(tactic| wtm_at "go") => `(tactic| repeat wtm_at "1")
local macro_rules
  | `(tactic| wtm_at "mem") => `(tactic| repeat (first | exact List.Mem.head _ | assumption | refine List.Mem.tail _ ?_))
local macro_rules
  | `(tactic| wtm_at "sz") => `(tactic| first | exact Nat.le_of_ble_eq_true (by rfl) | (rw [sizeLine_eq]; first | (simp; done) | (simp; omega) | omega))
local macro_rules
  | `(tactic| wtm_at "fs") => `(tactic| (intro _; wtm_at "rf"))
local macro_rules
  | `(tactic| wtm_at "tg") => `(tactic| first | exact .inl ⟨_, _, rfl⟩ | exact .inr ⟨_, _, _, rfl⟩)
local macro_rules
  | `(tactic| wtm_at "st") => `(tactic| first
    | exact as_name (nm_st (by assumption) (by assumption) (by decide +kernel) (by assumption))
    | exact as_name (nm_st' (by assumption) (by assumption) (by decide +kernel) (by wtm_at "u") (by assumption))
    | exact as_name (nm_stc (by assumption) (by assumption) (by decide +kernel) (by wtm_at "u") (by assumption)))
local macro_rules
  | `(tactic| wtm_at "asn") => `(tactic| wtm_at "st")
local macro_rules
  | `(tactic| wtm_at "as2") => `(tactic| exact as_tup (by assumption) (by rfl) (by rfl) (asL_cons (by wtm_at "st") (asL_cons (by wtm_at "st") asL_nil)))
local macro_rules
  | `(tactic| wtm_at "as4") => `(tactic| exact as_tup (by assumption) (by rfl) (by rfl) (asL_cons (by wtm_at "st") (asL_cons (by wtm_at "st") (asL_cons (by wtm_at "st") (asL_cons (by wtm_at "st") asL_nil)))))
local macro_rules
  | `(tactic| wtm_at "mn") => `(tactic| first | (refine (set_other (by decide +kernel)).trans ?_; wtm_at "mn") | rfl)
local macro_rules
  | `(tactic| wtm_at "lo") => `(tactic| repeat (first | exact LoLe.refl _ | refine LoLe.set ?_ (by wtm_at "mn")))
local macro_rules
  | `(tactic| wtm_at "no") => `(tactic| refine ⟨fun h => absurd h (by first | decide | simp), fun _ => ?_⟩)
local macro_rules
  | `(tactic| wtm_at "yes") => `(tactic| refine ⟨fun _ => ?_, fun h => absurd h (by first | decide | simp)⟩)
set_option hygiene true
abbrev feedC (Lc : Addr) (k : Int) : Cell := .dict .str [(.str "cells", .ref Lc), (.str "at", .int k)]
structure Feed (σ : Store) (Fd Lc : Addr) (cs : List Int) (k : Int) : Prop where
  fd : σ Fd = some (feedC Lc k)
  lc : σ Lc = some (.list (cs.map .int))
  lo : 0 ≤ k
  hi : k ≤ 1000000
  cz : cs.length ≤ 1000
theorem Feed.ne {σ : Store} {Fd Lc : Addr} {cs : List Int} {k : Int} (h : Feed σ Fd Lc cs k) : Lc ≠ Fd := fun e => by
  have := h.lc; rw [e, h.fd] at this; cases this
section
variable {w : World} {A : Around} {h₀ : Heap} {σ : Store} {K : V → Store → Prop} {Fd Lc : Addr} {cs : List Int} {k : Int} {n : Nat}

theorem mulOk {a b : Int} (h1 : a.natAbs < 1152921504606846976) (h2 : b.natAbs < 1152921504606846976) : IntMulOk a b :=
  PyProof.Rows.mulOk_of_bits (m := 60) (n := 60) (intBits_le_iff.mpr h1) (intBits_le_iff.mpr h2) (by decide)

/-- a draw -/
theorem c_draw {wd : Int} (G : Gd w h₀) (hR : Room 1 A) (hF : Feed σ Fd Lc cs k) (hw : 0 < wd) (hw' : wd < 1000) (hK : ∀ v : Int, 0 ≤ v → v < wd → K (.int v) (upd σ Fd (feedC Lc (k + 1)))) : CallC w h₀ A (.ref 692) [.ref Fd, .int wd] σ K := by
  refine bodyN (n := 0) (names := ["feed", "wide"]) G hR (by rfl) (by rfl) (by rfl) (by rfl) (by intro us hu; obtain ⟨a, b, rfl⟩ := len2 hu; rfl) (by rfl) (by wtm_at "binds") (by rfl) (by rfl) (by rfl) (by rfl) (by rfl) ?_
  intro L q env base os A' he hnm hce hR' ok O
  clear he
  dsimp only at hnm
  replace hce : env.cells = [] := hce.trans rfl
  show Ex w _ _ _ (set (set (fun _ => none) "feed" (.ref Fd)) "wide" (.int wd)) _ _ _
  wtm_at "go"
  refine item_s hR' hF.fd (by decide +kernel) (by wtm_at "look") ?_
  wtm_at "go"
  refine seti_s hR' hF.fd (by decide +kernel) (by simp) ?_
  rw [aput_next (beq_str (by decide)), aput_same (by simp)]
  have hF' : upd σ Fd (feedC Lc (k + 1)) Fd = some (feedC Lc (k + 1)) := upd_same
  have hL' : upd σ Fd (feedC Lc (k + 1)) Lc = some (.list (cs.map .int)) := (upd_ne hF.ne).trans hF.lc
  generalize upd σ Fd (feedC Lc (k + 1)) = σ' at *
  have h0 := hF.lo
  have h1 := hF.hi
  wtm_at "go"
  refine item_s hR' hF' (by decide +kernel) (by wtm_at "look") ?_
  wtm_at "go"
  refine item_s hR' hF' (by decide +kernel) (by wtm_at "look") ?_
  wtm_at "go"
  refine c_len_list hL' (by have := hF.cz; simp; omega) ?_
  wtm_at "go"
  refine ⟨_, rfl, fun hb => ?_, fun hb => ?_⟩
  · simp only [List.length_map, decide_eq_true_eq] at hb
    wtm_at "go"
    refine item_s hR' hF' (by decide +kernel) (by wtm_at "look") ?_
    wtm_at "go"
    have hi : (k + 1 - 1).toNat < cs.length := by omega
    refine item_l hL' (by omega) (by omega) (v := .int cs[(k + 1 - 1).toNat]) (by simp [hi]) ?_
    wtm_at "go"
    refine op_mod (by omega) (hK _ (Int.fmod_nonneg_of_pos _ hw) (Int.fmod_lt_of_pos _ hw))
  · wtm_at "go"
    refine op_mul ?_ (mulOk (by omega) (by omega))
    wtm_at "go"
    refine op_mul ?_ (mulOk (by omega) (by omega))
    wtm_at "go"
    refine op_mul ?_ (mulOk (by omega) (by omega))
    wtm_at "go"
    refine op_mod (by decide) ?_
    wtm_at "go"
    refine op_fdiv (by decide) (by rfl) ?_
    wtm_at "go"
    exact op_mod (by omega) (hK _ (Int.fmod_nonneg_of_pos _ hw) (Int.fmod_lt_of_pos _ hw))
end
section
variable {w : World} {A : Around} {h₀ : Heap} {σ : Store} {K : V → Store → Prop} {Fd Lc : Addr} {cs : List Int} {k : Int} {n : Nat}

theorem c_any {a : Addr} {l : List V} (G : Gd w h₀) (hR : Room 2 A) (hF : Feed σ Fd Lc cs k) (ha : σ a = some (.list l)) (haf : a ≠ Fd) (h0 : 0 < l.length) (h1 : l.length < 1000)
    (hK : ∀ (i : Nat) v, l[i]? = some v → K v (upd σ Fd (feedC Lc (k + 1)))) : CallC w h₀ A (.ref 699) [.ref Fd, .ref a] σ K := by
  refine bodyN (n := 1) (names := ["feed", "some"]) G hR (by rfl) (by rfl) (by rfl) (by rfl) (by intro us hu; obtain ⟨a, b, rfl⟩ := len2 hu; rfl) (by rfl) (by wtm_at "binds") (by rfl) (by rfl) (by rfl) (by rfl) (by rfl) ?_
  intro L q env base os A' he hnm hce hR' ok O
  clear he
  dsimp only at hnm
  replace hce : env.cells = [] := hce.trans rfl
  show Ex w _ _ _ (set (set (fun _ => none) "feed" (.ref Fd)) "some" (.ref a)) _ _ _
  wtm_at "go"
  refine c_len_list ha (by omega) ?_
  wtm_at "go"
  refine opc_fn (by assumption) (c_draw G hR' hF (by omega) (by omega) fun v v0 v1 => ?_).call
  have hi : v.toNat < l.length := by omega
  exact item_l ((upd_ne haf).trans ha) v0 (by omega) (v := l[v.toNat]) (by simp [hi]) (hK v.toNat _ (by simp [hi]))

/-- what a value of a sort is -/
noncomputable def ValOk (s : Int) (v : V) : Prop := if s = 0 then ∃ b, v = .bool b else if s = 1 then ∃ i, v = .tup [.int i, .int 1] else ∃ i : Int, 0 ≤ i ∧ i < 4 ∧ v = .tup [.str "elem", .int s, .int i]
noncomputable def plainV (s : Int) : V := if s = 0 then .bool false else if s = 1 then .tup [.int 0, .int 1] else .tup [.str "elem", .int s, .int 0]
theorem plain_ok (s : Int) : ValOk s (plainV s) := by
  unfold ValOk plainV
  split
  · exact ⟨_, rfl⟩
  · split
    · exact ⟨_, rfl⟩
    · exact ⟨0, by decide, by decide, rfl⟩

theorem c_value {s : Int} (G : Gd w h₀) (hR : Room 2 A) (hF : Feed σ Fd Lc cs k) (hK : ∀ v, ValOk s v → K v (upd σ Fd (feedC Lc (k + 1)))) : CallC w h₀ A (.ref 706) [.ref Fd, .int s] σ K := by
  refine bodyN (n := 1) (names := ["feed", "s"]) G hR (by rfl) (by rfl) (by rfl) (by rfl) (by intro us hu; obtain ⟨a, b, rfl⟩ := len2 hu; rfl) (by rfl) (by wtm_at "binds") (by rfl) (by rfl) (by rfl) (by rfl) (by rfl) ?_
  intro L q env base os A' he hnm hce hR' ok O
  clear he
  dsimp only at hnm
  replace hce : env.cells = [] := hce.trans rfl
  show Ex w _ _ _ (set (set (fun _ => none) "feed" (.ref Fd)) "s" (.int s)) _ _ _
  wtm_at "go"
  refine ⟨_, rfl, fun hb => ?_, fun hb => ?_⟩
  · have hs : s = 0 := by simpa using hb
    wtm_at "go"
    refine opc_fn (by assumption) (c_draw G hR' hF (by decide) (by decide) fun v v0 v1 => ?_).call
    wtm_at "go"
    exact hK _ (by unfold ValOk; rw [if_pos hs]; exact ⟨_, rfl⟩)
  · have hs : ¬ s = 0 := by simpa using hb
    wtm_at "go"
    refine ⟨_, rfl, fun hb => ?_, fun hb => ?_⟩
    · have hs1 : s = 1 := by simpa using hb
      wtm_at "go"
      refine opc_fn (by assumption) (c_draw G hR' hF (by decide) (by decide) fun v v0 v1 => ?_).call
      wtm_at "go"
      exact ⟨by wtm_at "sz", hK _ (by unfold ValOk; rw [if_neg hs, if_pos hs1]; exact ⟨_, rfl⟩)⟩
    · have hs1 : ¬ s = 1 := by simpa using hb
      wtm_at "go"
      refine opc_fn (by assumption) (c_draw G hR' hF (by decide) (by decide) fun v v0 v1 => ?_).call
      wtm_at "go"
      exact ⟨by wtm_at "sz", hK _ (by unfold ValOk; rw [if_neg hs, if_neg hs1]; exact ⟨v, v0, v1, rfl⟩)⟩

theorem c_plain {s : Int} (G : Gd w h₀) (hR : Room 1 A) (hK : K (plainV s) σ) : CallC w h₀ A (.ref 713) [.int s] σ K := by
  refine bodyN (n := 0) (names := ["s"]) G hR (by rfl) (by rfl) (by rfl) (by rfl) (by intro us hu; obtain ⟨a, rfl⟩ := len1 hu; rfl) (by rfl) (by wtm_at "binds") (by rfl) (by rfl) (by rfl) (by rfl) (by rfl) ?_
  intro L q env base os A' he hnm hce hR' ok O
  clear he
  dsimp only at hnm
  replace hce : env.cells = [] := hce.trans rfl
  show Ex w _ _ _ (set (fun _ => none) "s" (.int s)) _ _ _
  unfold plainV at hK
  wtm_at "go"
  refine ⟨_, rfl, fun hb => ?_, fun hb => ?_⟩
  · have hs : s = 0 := by simpa using hb
    rw [if_pos hs] at hK
    wtm_at "go"
    exact hK
  · have hs : ¬ s = 0 := by simpa using hb
    rw [if_neg hs] at hK
    wtm_at "go"
    refine ⟨_, rfl, fun hb => ?_, fun hb => ?_⟩
    · have hs1 : s = 1 := by simpa using hb
      rw [if_pos hs1] at hK
      wtm_at "go"
      exact ⟨by wtm_at "sz", hK⟩
    · have hs1 : ¬ s = 1 := by simpa using hb
      rw [if_neg hs1] at hK
      wtm_at "go"
      exact ⟨by wtm_at "sz", hK⟩
end
/-- the parts an address plays -/
inductive Tg where
  | fd | lc | w | ls | lh | lr | od | b | bd | sn | sw | sr | m | md | t | o
  | ph (i : Nat) | ra (i : Nat) | tab (i : Nat) | other

set_option genInjectivity false in
structure Ws where
  Fd : Addr
  Lc : Addr
  W : Addr
  Ls : Addr
  Lh : Addr
  Lr : Addr
  Do : Addr
  B : Addr
  Bd : Addr
  Sn : Addr
  Sw : Addr
  Sr : Addr
  M : Addr
  Md : Addr
  T : Addr
  O : Addr
  cs : List Int
  k : Int
  ph : List Addr
  heads : List (List Int × Int)
  ra : List Addr
  rows : List (List (V × V))
  ow : List (V × V)
  om : List (V × V)
  tl : List (V × V)
  bl : List (V × V)
  w0 : Str
  w1 : Str
  w2 : Str
  nm : Str
  tg : Addr → Tg

noncomputable def SortOk (s : Int) : Prop := s = 0 ∨ s = 1 ∨ s = 3 ∨ s = 4
noncomputable def shape (s : Int) : Sh := if s = 0 then .bool else if s = 1 then .tup [.int, .int] else .tup [.str, .int, .int]
noncomputable def ArgsOk : List Int → List V → Prop
  | [], vs => vs = []
  | s :: l, vs => ∃ v r, vs = v :: r ∧ ValOk s v ∧ ArgsOk l r
theorem val_has {s : Int} {v : V} (h : ValOk s v) : V.has (shape s) v := by
  unfold ValOk at h
  unfold shape
  split at h
  · rw [if_pos ‹_›]; obtain ⟨b, rfl⟩ := h; exact has_bool_of
  · rw [if_neg ‹_›]
    split at h
    · rw [if_pos ‹_›]; obtain ⟨i, rfl⟩ := h; exact has_tup_of (hasL_of has_int_of (hasL_of has_int_of hasL_nil_of))
    · rw [if_neg ‹_›]; obtain ⟨i, _, _, rfl⟩ := h; exact has_tup_of (hasL_of (has_str_of (by decide +kernel)) (hasL_of has_int_of (hasL_of has_int_of hasL_nil_of)))
theorem args_has : ∀ {l : List Int} {vs : List V}, ArgsOk l vs → V.hasAll (l.map shape) vs
  | [], vs, h => by rw [show vs = [] from h]; exact hasL_nil_of
  | s :: l, vs, ⟨v, r, e, a, b⟩ => by subst e; exact hasL_of (val_has a) (args_has b)
theorem deep_shape (s : Int) : deepS (shape s) ≤ 1 := by unfold shape; split <;> (try split) <;> simp [deepS, deepL]
theorem deep_shapes : ∀ l : List Int, deepL (l.map shape) ≤ 1
  | [] => by simp [deepL]
  | s :: l => by rw [List.map_cons, deepL]; exact Nat.max_le.mpr ⟨deep_shape s, deep_shapes l⟩
theorem fits_shapes (l : List Int) : (DK.tup (l.map shape)).fits := by have := deep_shapes l; show deepL _ ≤ 7; omega

structure RowOk (h : List Int × Int) (r : List (V × V)) : Prop where
  args : ∀ x ∈ r, ∃ vs, x.1 = .tup vs ∧ ArgsOk h.1 vs ∧ ValOk h.2 x.2
  nodup : (r.map (·.1)).Nodup
  len : r.length ≤ 20

noncomputable def headV (a : Addr) (h : List Int × Int) : V := .tup [.ref a, .int h.2]
structure HeadOk (h : List Int × Int) : Prop where
  args : ∀ s ∈ h.1, SortOk s
  res : SortOk h.2
  len : h.1.length ≤ 3

/-- the law's own side -/
structure Wld (σ : Store) (p : Ws) : Prop where
  feed : Feed σ p.Fd p.Lc p.cs p.k
  w : σ p.W = some (.dict .str [(.str "sorts", .ref p.Ls), (.str "heads", .ref p.Lh), (.str "rows", .ref p.Lr), (.str "others", .ref p.Do)])
  ls : σ p.Ls = some (.list [.tup [.int 3, .tup [.str "U", .str "U!val!", .str ""]], .tup [.int 4, .tup [.str p.w0, .str p.w1, .str p.w2]]])
  lh : σ p.Lh = some (.list (List.zipWith headV p.ph p.heads))
  lr : σ p.Lr = some (.list (p.ra.map .ref))
  od : σ p.Do = some (.dict .int p.ow)
  phs : ∀ (i : Nat) (a : Addr) (h : List Int × Int), p.ph[i]? = some a → p.heads[i]? = some h → σ a = some (.list (h.1.map .int)) ∧ p.tg a = .ph i
  ras : ∀ (i : Nat) (a : Addr) (r : List (V × V)), p.ra[i]? = some a → p.rows[i]? = some r → σ a = some (.list (itemsOf r)) ∧ p.tg a = .ra i
  lph : p.ph.length = p.heads.length
  lra : p.ra.length = p.heads.length
  lro : p.rows.length = p.heads.length
  few : p.heads.length ≤ 4
  hok : ∀ h ∈ p.heads, HeadOk h
  rok : ∀ (i : Nat) (r : List (V × V)) (h : List Int × Int), p.rows[i]? = some r → p.heads[i]? = some h → RowOk h r
  wok : ∀ (i : Nat) (h : List Int × Int) (v : V), p.heads[i]? = some h → alook p.ow (.int i) = some v → ValOk h.2 v
  wlen : p.ow.length ≤ 100
  tFd : p.tg p.Fd = .fd
  tLc : p.tg p.Lc = .lc
  tW : p.tg p.W = .w
  tLs : p.tg p.Ls = .ls
  tLh : p.tg p.Lh = .lh
  tLr : p.tg p.Lr = .lr
  tDo : p.tg p.Do = .od
noncomputable def bankMeths : List Str := ["sort_name", "is_free_sort", "is_number_sort", "width_of", "declare_sort", "declare_fun", "fun_result", "fun_name", "make"]
structure Bnk (σ : Store) (p : Ws) : Prop where
  b : σ p.B = some (.inst 410 p.Bd)
  bd : σ p.Bd = some (.dict .str p.bl)
  bno : ∀ x ∈ bankMeths, alook p.bl (.str x) = none
  bsn : alook p.bl (.str "sort_names") = some (.ref p.Sn)
  bsw : alook p.bl (.str "sort_widths") = some (.ref p.Sw)
  bsr : alook p.bl (.str "fun_results") = some (.ref p.Sr)
  sn : σ p.Sn = some (.list [.str "Bool", .str "Int", .str "Real", .str "U", .str p.nm])
  sw : σ p.Sw = some (.list [.int 0, .int 0, .int 0, .int 0, .int 0])
  sr : σ p.Sr = some (.list (p.heads.map fun h => .int h.2))
  tB : p.tg p.B = .b
  tBd : p.tg p.Bd = .bd
  tSn : p.tg p.Sn = .sn
  tSw : p.tg p.Sw = .sw
  tSr : p.tg p.Sr = .sr
/-- the text's own side -/
structure Mdl (σ : Store) (p : Ws) : Prop where
  m : σ p.M = some (.inst 559 p.Md)
  md : σ p.Md = some (.dict .str [(.str "bank", .ref p.B), (.str "tables", .ref p.T), (.str "others", .ref p.O)])
  t : σ p.T = some (.dict .int p.tl)
  o : σ p.O = some (.dict .int p.om)
  tno : ∀ i : Nat, p.rows[i]? = some [] → alook p.tl (.int i) = none
  tso : ∀ (i : Nat) (r : List (V × V)) (h : List Int × Int), p.rows[i]? = some r → p.heads[i]? = some h → r ≠ [] → ∃ t, alook p.tl (.int i) = some (.ref t) ∧ σ t = some (.dict (.tup (h.1.map shape)) r) ∧ p.tg t = .tab i
  keys : ∃ is : List Nat, p.tl.map (·.1) = is.map (fun i => V.int (i : Nat)) ∧ (∀ i ∈ is, i < p.heads.length) ∧ is.Nodup
  mok : ∀ (i : Nat) (h : List Int × Int) (v : V), p.heads[i]? = some h → alook p.om (.int i) = some v → ValOk h.2 v
  mlen : p.om.length ≤ 100
  tM : p.tg p.M = .m
  tMd : p.tg p.Md = .md
  tT : p.tg p.T = .t
  tO : p.tg p.O = .o

theorem ne_tag {p : Ws} {a b : Addr} {x y : Tg} (h1 : p.tg a = x) (h2 : p.tg b = y) (hne : x ≠ y) : a ≠ b := fun e => hne (by rw [← h1, ← h2, e])
theorem Feed.le {σ σ' : Store} {Fd Lc : Addr} {cs : List Int} {k : Int} (h : Feed σ Fd Lc cs k) (s : StLe σ σ') : Feed σ' Fd Lc cs k := ⟨s _ _ h.fd, s _ _ h.lc, h.lo, h.hi, h.cz⟩
theorem Wld.le {σ σ' : Store} {p : Ws} (h : Wld σ p) (s : StLe σ σ') : Wld σ' p :=
  ⟨h.feed.le s, s _ _ h.w, s _ _ h.ls, s _ _ h.lh, s _ _ h.lr, s _ _ h.od, fun i a x e1 e2 => ⟨s _ _ (h.phs i a x e1 e2).1, (h.phs i a x e1 e2).2⟩, fun i a x e1 e2 => ⟨s _ _ (h.ras i a x e1 e2).1, (h.ras i a x e1 e2).2⟩,
    h.lph, h.lra, h.lro, h.few, h.hok, h.rok, h.wok, h.wlen, h.tFd, h.tLc, h.tW, h.tLs, h.tLh, h.tLr, h.tDo⟩
theorem Bnk.le {σ σ' : Store} {p : Ws} (h : Bnk σ p) (s : StLe σ σ') : Bnk σ' p :=
  ⟨s _ _ h.b, s _ _ h.bd, h.bno, h.bsn, h.bsw, h.bsr, s _ _ h.sn, s _ _ h.sw, s _ _ h.sr, h.tB, h.tBd, h.tSn, h.tSw, h.tSr⟩
theorem Mdl.le {σ σ' : Store} {p : Ws} (h : Mdl σ p) (s : StLe σ σ') : Mdl σ' p :=
  ⟨s _ _ h.m, s _ _ h.md, s _ _ h.t, s _ _ h.o, h.tno, fun i r x e1 e2 e3 => let ⟨t, a, b, c⟩ := h.tso i r x e1 e2 e3; ⟨t, a, s _ _ b, c⟩, h.keys, h.mok, h.mlen, h.tM, h.tMd, h.tT, h.tO⟩

/-- an else value -/
noncomputable def elseV (ow : List (V × V)) (i : Nat) (h : List Int × Int) : V := (alook ow (.int i)).getD (plainV h.2)
theorem Wld.else_ok {σ : Store} {p : Ws} (h : Wld σ p) {i : Nat} {x : List Int × Int} (hx : p.heads[i]? = some x) : ValOk x.2 (elseV p.ow i x) := by
  unfold elseV
  cases e : alook p.ow (.int i) with
  | none => exact plain_ok _
  | some v => exact h.wok i x v hx e
theorem Wld.head {σ : Store} {p : Ws} (h : Wld σ p) {i : Nat} {x : List Int × Int} (hx : p.heads[i]? = some x) : ∃ a, p.ph[i]? = some a ∧ (List.zipWith headV p.ph p.heads)[i]? = some (headV a x) ∧ σ a = some (.list (x.1.map .int)) := by
  have hi := (List.getElem?_eq_some_iff.mp hx).1
  have hi' : i < p.ph.length := by rw [h.lph]; exact hi
  refine ⟨p.ph[i], by simp [hi'], ?_, (h.phs i _ x (by simp [hi']) hx).1⟩
  rw [List.getElem?_zipWith, hx]
  simp [hi']
theorem Wld.row {σ : Store} {p : Ws} (h : Wld σ p) {i : Nat} {r : List (V × V)} (hx : p.rows[i]? = some r) : ∃ a, p.ra[i]? = some a ∧ σ a = some (.list (itemsOf r)) ∧ p.tg a = .ra i := by
  have hi := (List.getElem?_eq_some_iff.mp hx).1
  have hi' : i < p.ra.length := by rw [h.lra, ← h.lro]; exact hi
  exact ⟨p.ra[i], by simp [hi'], (h.ras i _ r (by simp [hi']) hx).1, (h.ras i _ r (by simp [hi']) hx).2⟩
section
variable {w : World} {A : Around} {h₀ : Heap} {σ : Store} {K : V → Store → Prop} {p : Ws} {n : Nat}

theorem in_int {C : Cx} {m : Loc} {a : Addr} {l : List (V × V)} {i : Int} (hR : Room n A) (ha : σ a = some (.dict .int l)) (h : K (.bool (alook l (.int i)).isSome) σ) : Op2 w C A (compareOp .In) (.int i) (.ref a) m σ K :=
  in_dict (k := .int) (by have := hR.units; omega) trivial ha has_int_of h

theorem c_else {i : Nat} {x : List Int × Int} (G : Gd w h₀) (hR : Room 2 A) (hW : Wld σ p) (hx : p.heads[i]? = some x) (hK : K (elseV p.ow i x) σ) : CallC w h₀ A (.ref 720) [.ref p.W, .int i] σ K := by
  refine bodyN (n := 1) (names := ["world", "f"]) G hR (by rfl) (by rfl) (by rfl) (by rfl) (by intro us hu; obtain ⟨a, b, rfl⟩ := len2 hu; rfl) (by rfl) (by wtm_at "binds") (by rfl) (by rfl) (by rfl) (by rfl) (by rfl) ?_
  intro L q env base os A' he hnm hce hR' ok O
  clear he
  dsimp only at hnm
  replace hce : env.cells = [] := hce.trans rfl
  show Ex w _ _ _ (set (set (fun _ => none) "world" (.ref p.W)) "f" (.int i)) _ _ _
  obtain ⟨a, ha, hza, hσa⟩ := hW.head hx
  have hi := (List.getElem?_eq_some_iff.mp hx).1
  have few := hW.few
  unfold elseV at hK
  wtm_at "go"
  refine item_s hR' hW.w (by decide +kernel) (by wtm_at "look") ?_
  refine in_int hR' hW.od ⟨_, rfl, fun hb => ?_, fun hb => ?_⟩
  · obtain ⟨v, hv⟩ := Option.isSome_iff_exists.mp hb
    rw [hv] at hK
    wtm_at "go"
    refine item_s hR' hW.w (by decide +kernel) (by wtm_at "look") ?_
    wtm_at "go"
    exact item_i hR' hW.od hv hK
  · have hv : alook p.ow (.int i) = none := by cases e : alook p.ow (.int i) with | none => rfl | some v => rw [e] at hb; cases hb
    rw [hv] at hK
    wtm_at "go"
    refine item_s hR' hW.w (by decide +kernel) (by wtm_at "look") ?_
    wtm_at "go"
    refine item_l (v := headV a x) hW.lh (by omega) (by omega) (by simpa using hza) ?_
    unfold headV
    wtm_at "go"
    refine item_p (v := .int x.2) (by decide) (by decide) (by rfl) ?_
    wtm_at "go"
    exact opc_fn (by assumption) (c_plain G hR' hK).call
end
noncomputable def isEl (s : Int) : V → Option Int
  | .tup [.str _, .int t, .int k] => if t = s then some k else none
  | _ => none
theorem isEl_el {s t k : Int} {x : Str} : isEl s (.tup [.str x, .int t, .int k]) = if t = s then some k else none := rfl
noncomputable def metStep (s : Int) (acc : List Int) (v : V) : List Int := match isEl s v with
  | some k => if k ∈ acc then acc else acc ++ [k]
  | none => acc
noncomputable def argsV : V → List V
  | .tup l => l
  | _ => []
noncomputable def ones (x : V × V) (o : V) : List V := argsV x.1 ++ [x.2, o]
noncomputable def metRow (s : Int) (o : V) (acc : List Int) (x : V × V) : List Int := (ones x o).foldl (metStep s) acc
noncomputable def hdAt (p : Ws) (j : Nat) : List Int × Int := (p.heads[j]?).getD ([], 0)
noncomputable def rwAt (p : Ws) (j : Nat) : List (V × V) := (p.rows[j]?).getD []
noncomputable def metFun (p : Ws) (ow : List (V × V)) (s : Int) (acc : List Int) (j : Nat) : List Int := (rwAt p j).foldl (metRow s (elseV ow j (hdAt p j))) acc
noncomputable def met (p : Ws) (ow : List (V × V)) (s : Int) (n : Nat) : List Int := (List.range n).foldl (metFun p ow s) []
theorem fold_succ {α β : Type} {f : β → α → β} {b : β} {l : List α} {j : Nat} {x : α} (h : l[j]? = some x) : (l.take (j + 1)).foldl f b = f ((l.take j).foldl f b) x := by
  rw [List.take_add_one, h, List.foldl_append]; rfl
theorem met_succ {p : Ws} {ow : List (V × V)} {s : Int} {n : Nat} : met p ow s (n + 1) = metFun p ow s (met p ow s n) n := by
  unfold met; rw [List.range_succ, List.foldl_append]; rfl

/-- the numbers found are small, and each once -/
structure Found (acc : List Int) : Prop where
  rng : ∀ k ∈ acc, 0 ≤ k ∧ k < 4
  nodup : acc.Nodup
theorem nodup_le : ∀ {l acc : List Int}, acc.Nodup → (∀ x ∈ acc, x ∈ l) → acc.length ≤ l.length
  | [], acc, _, h => by
    cases acc with
    | nil => exact Nat.le_refl _
    | cons a r => exact absurd (h a List.mem_cons_self) (by simp)
  | a :: l, acc, hn, h => by
    have ih := nodup_le (l := l) (acc := acc.erase a) (hn.erase a) fun x hx => by
      rcases List.mem_cons.mp (h x (List.mem_of_mem_erase hx)) with rfl | q
      · exact absurd hx (List.Nodup.not_mem_erase hn)
      · exact q
    by_cases ha : a ∈ acc
    · rw [List.length_erase_of_mem ha] at ih; simp only [List.length_cons]; omega
    · rw [List.erase_of_not_mem ha] at ih; simp only [List.length_cons]; omega
theorem Found.length {acc : List Int} (h : Found acc) : acc.length ≤ 4 :=
  nodup_le (l := [0, 1, 2, 3]) h.nodup fun x hx => by
    have := h.rng x hx
    simp only [List.mem_cons, List.not_mem_nil, or_false]
    omega
theorem Found.step {acc : List Int} (h : Found acc) {s' s : Int} {v : V} (hv : ValOk s' v) : Found (metStep s acc v) := by
  unfold metStep
  cases e : isEl s v with
  | none => exact h
  | some k =>
    dsimp only
    split
    · exact h
    · rename_i hk
      have hr : 0 ≤ k ∧ k < 4 := by
        unfold ValOk at hv
        split at hv
        · obtain ⟨b, rfl⟩ := hv; cases e
        · split at hv
          · obtain ⟨b, rfl⟩ := hv; cases e
          · obtain ⟨j, h0, h1, rfl⟩ := hv
            unfold isEl at e
            dsimp only at e
            split at e
            · cases e; exact ⟨h0, h1⟩
            · cases e
      refine ⟨fun j hj => ?_, ?_⟩
      · rcases List.mem_append.mp hj with hj | hj
        · exact h.rng j hj
        · rw [List.mem_singleton.mp hj]; exact hr
      · rw [List.nodup_append]
        exact ⟨h.nodup, by simp, fun a ha b hb e => hk (by rw [List.mem_singleton.mp hb] at e; rwa [← e])⟩
theorem Found.fold {s : Int} : ∀ {l : List V} {acc : List Int}, Found acc → (∀ v ∈ l, ∃ s', ValOk s' v) → Found (l.foldl (metStep s) acc)
  | [], _, h, _ => h
  | v :: l, acc, h, hv => by
    obtain ⟨s', h'⟩ := hv v List.mem_cons_self
    exact (h.step h').fold fun x hx => hv x (List.mem_cons_of_mem _ hx)
theorem args_vals : ∀ {l : List Int} {vs : List V}, ArgsOk l vs → ∀ v ∈ vs, ∃ s', ValOk s' v
  | [], vs, h, v, hv => by rw [show vs = [] from h] at hv; cases hv
  | s :: l, vs, ⟨x, r, e, a, b⟩, v, hv => by
    subst e
    rcases List.mem_cons.mp hv with rfl | hv
    · exact ⟨s, a⟩
    · exact args_vals b v hv
theorem args_len : ∀ {l : List Int} {vs : List V}, ArgsOk l vs → vs.length = l.length
  | [], vs, h => by rw [show vs = [] from h]; rfl
  | s :: l, vs, ⟨x, r, e, a, b⟩ => by subst e; simp [args_len b]
theorem ones_vals {h : List Int × Int} {r : List (V × V)} (hr : RowOk h r) {x : V × V} (hx : x ∈ r) {o : V} {so : Int} (ho : ValOk so o) : ∀ v ∈ ones x o, ∃ s', ValOk s' v := by
  obtain ⟨vs, e, a, b⟩ := hr.args x hx
  intro v hv
  unfold ones at hv
  rw [e] at hv
  rcases List.mem_append.mp hv with hv | hv
  · exact args_vals a v hv
  · simp only [List.mem_cons, List.not_mem_nil, or_false] at hv
    rcases hv with rfl | rfl
    · exact ⟨_, b⟩
    · exact ⟨_, ho⟩

theorem StLe.upd {σ σ₁ : Store} {a : Addr} {c : Cell} (h : StLe σ σ₁) (ha : σ a = none) : StLe σ (upd σ₁ a c) := fun b d e => by
  rw [upd_ne (fun q => by rw [q, ha] at e; cases e)]; exact h b d e
theorem ints_flat {acc : List Int} : V.flatL 50 (acc.map .int) := by
  have : ∀ acc : List Int, V.pureL (acc.map .int) = true ∧ PyData.depthAll (V.pyL (acc.map V.int)) = 0 := fun acc => by
    induction acc with
    | nil => exact ⟨rfl, rfl⟩
    | cons k l ih => exact ⟨by rw [List.map_cons, V.pureL, ih.1]; rfl, by rw [List.map_cons, V.pyL, PyData.depthAll, ih.2]; simp [V.py, PyData.depth]⟩
  exact ⟨(this acc).1, by rw [(this acc).2]; omega⟩
theorem any_int {acc : List Int} {k : Int} : ((acc.map V.int).any fun y => V.eqv y (.int k)) = decide (k ∈ acc) := by
  induction acc with
  | nil => rfl
  | cons j l ih =>
    rw [List.map_cons, List.any_cons, ih]
    have : V.eqv (.int j) (.int k) = (j == k) := by simp [V.eqv, V.py, PyData.eqv]
    rw [this]
    by_cases h : k = j
    · subst h; simp
    · have h' : ¬ j = k := fun e => h e.symm
      simp [h, h']

section
variable {w : World} {A : Around} {h₀ : Heap} {σ : Store} {K : V → Store → Prop} {p : Ws} {n : Nat}

theorem upd_none {a r : Addr} {c : Cell} (h : upd σ a c r = none) : r ≠ a ∧ σ r = none := by
  by_cases q : r = a
  · rw [q, upd_same] at h; cases h
  · rw [upd_ne q] at h; exact ⟨q, h⟩
theorem c_met {s : Int} (G : Gd w h₀) (hR : Room 3 A) (hW : Wld σ p)
    (hK : ∀ (a : Addr) (σ' : Store) (ns : List Int), StLe σ σ' → σ' a = some (.list (ns.map .int)) → ns.Perm (met p p.ow s p.heads.length) → ns.Pairwise (· ≤ ·) → K (.ref a) σ') : CallC w h₀ A (.ref 727) [.ref p.W, .int s] σ K := by
  refine bodyN (n := 2) (names := ["world", "s"]) G hR (by rfl) (by rfl) (by rfl) (by rfl) (by intro us hu; obtain ⟨a, b, rfl⟩ := len2 hu; rfl) (by rfl) (by wtm_at "binds") (by rfl) (by rfl) (by rfl) (by rfl) (by rfl) ?_
  intro L q env base os A' he hnm hce hR' ok O
  clear he
  dsimp only at hnm
  replace hce : env.cells = [] := hce.trans rfl
  show Ex w _ _ _ (set (set (fun _ => none) "world" (.ref p.W)) "s" (.int s)) _ _ _
  have few := hW.few
  have hh := hR'.handled
  wtm_at "go"
  refine ⟨by decide, fun a ha => ?_⟩
  wtm_at "go"
  refine ex_for hh O ok (.refl _) (by wtm_at "tg") (si_of ?_) (by wtm_at "fs")
  wtm_at "go"
  have la : StLe σ (upd σ a (.list [])) := (StLe.refl σ).upd ha
  refine item_s hR' (la _ _ hW.w) (by decide +kernel) (by wtm_at "look") ?_
  wtm_at "go"
  refine c_len_list (la _ _ hW.lh) (by simp [hW.lph]; omega) ?_
  wtm_at "go"
  refine c_range fun r o hr ho => ?_
  obtain ⟨hra, hr⟩ := upd_none hr
  have hlen : (List.zipWith headV p.ph p.heads).length = p.heads.length := by simp [hW.lph]
  rw [hlen] at ho
  refine ⟨true, _, _, src_range (n := p.heads.length) upd_same ho (by omega), .inl rfl, fun i σ₁ => StLe σ σ₁ ∧ σ₁ a = some (.list ((met p p.ow s i).map .int)) ∧ Found (met p p.ow s i), ⟨la.upd hr, (upd_ne (Ne.symm hra)).trans upd_same, ⟨fun k hk => by simp [met] at hk, by simp [met]⟩⟩, fun i σ _ => trivial, ?_, ?_⟩
  · rintro base' O' ok' i v σ₁ hv ⟨le, g, fnd⟩
    have hi : i < p.heads.length := by have := (List.getElem?_eq_some_iff.mp hv).1; simpa using this
    rw [List.getElem?_map, List.getElem?_range hi] at hv
    cases hv
    obtain ⟨x, hx⟩ : ∃ x, p.heads[i]? = some x := ⟨p.heads[i], by simp [hi]⟩
    obtain ⟨rw, hrw⟩ : ∃ r, p.rows[i]? = some r := ⟨p.rows[i]'(by rw [hW.lro]; exact hi), by simp [hW.lro, hi]⟩
    obtain ⟨ad, had, hrow, _⟩ := hW.row hrw
    have rok := hW.rok i rw x hrw hx
    have eo := hW.else_ok hx
    replace O' : Cx.Own ⟨h₀, base', env, os⟩ := O'
    replace ok' : Cx.Ok ⟨h₀, base', env, os⟩ := ok'
    refine ⟨_, by wtm_at "asn", ?_⟩
    wtm_at "go"
    refine ex_for hh O' ok' (.refl _) (by wtm_at "tg") (si_of ?_) (by wtm_at "fs")
    wtm_at "go"
    refine item_s hR' (le _ _ hW.w) (by decide +kernel) (by wtm_at "look") ?_
    wtm_at "go"
    refine item_l (v := .ref ad) (le _ _ hW.lr) (by omega) (by omega) (by simp [had]) ?_
    refine ⟨true, _, _, src_list (le _ _ hrow), .inl rfl, fun j σ₂ => StLe σ σ₂ ∧ σ₂ a = some (.list ((((rw.take j).foldl (metRow s (elseV p.ow i x)) (met p p.ow s i))).map .int)) ∧ Found ((rw.take j).foldl (metRow s (elseV p.ow i x)) (met p p.ow s i)), ⟨le, by simpa using g, by simpa using fnd⟩, fun j σ h => h.1 _ _ hrow, ?_, ?_⟩
    · rintro base'' O'' ok'' j v σ₂ hv ⟨le₂, g₂, fnd₂⟩
      replace O'' : Cx.Own ⟨h₀, base'', env, os⟩ := O''
      replace ok'' : Cx.Ok ⟨h₀, base'', env, os⟩ := ok''
      unfold itemsOf at hv
      rw [List.getElem?_map, Option.map_eq_some_iff] at hv
      obtain ⟨y, hy, rfl⟩ := hv
      obtain ⟨vs, ey, hvs, hval⟩ := rok.args y (List.mem_of_getElem? hy)
      refine ⟨_, by wtm_at "as2", ?_⟩
      have hvl : vs.length ≤ 3 := by rw [args_len hvs]; exact (hW.hok x (List.mem_of_getElem? hx)).len
      have onesE : ones y (elseV p.ow i x) = vs ++ [y.2, elseV p.ow i x] := by unfold ones argsV; rw [ey]
      wtm_at "go"
      refine ex_for hh O'' ok'' (.refl _) (by wtm_at "tg") (si_of ?_) (by wtm_at "fs")
      rw [ey]
      wtm_at "go"
      refine c_list_tup (by wtm_at "sz") fun d hd => ?_
      have hd' : σ d = none := by cases e : σ d with | none => rfl | some c => rw [le₂ _ _ e] at hd; cases hd
      have hda : a ≠ d := fun e => by rw [e, hd] at g₂; cases g₂
      have le₃ := le₂.upd (c := .list vs) hd'
      have g₃ := (upd_ne (σ := σ₂) (c := .list vs) hda).trans g₂
      wtm_at "go"
      refine opc_fn (by assumption) (c_else G hR' (hW.le le₃) hx ?_).call
      wtm_at "go"
      refine ⟨by wtm_at "sz", fun d₂ hd₂ => ?_⟩
      obtain ⟨n1, hd₂⟩ := upd_none hd₂
      have hd₂' : σ d₂ = none := by cases e : σ d₂ with | none => rfl | some c => rw [le₂ _ _ e] at hd₂; cases hd₂
      have n2 : a ≠ d₂ := fun e => by rw [e, hd₂] at g₂; cases g₂
      have le₄ := le₃.upd (c := .list [y.2, elseV p.ow i x]) hd₂'
      have g₄ := (upd_ne (σ := upd σ₂ d (.list vs)) (c := .list [y.2, elseV p.ow i x]) n2).trans g₃
      refine op_addl O'' ((upd_ne (Ne.symm n1)).trans upd_same) upd_same (by wtm_at "sz") fun d₃ hd₃ => ?_
      obtain ⟨n3, hd₃⟩ := upd_none hd₃
      obtain ⟨n4, hd₃⟩ := upd_none hd₃
      have hd₃' : σ d₃ = none := by cases e : σ d₃ with | none => rfl | some c => rw [le₂ _ _ e] at hd₃; cases hd₃
      have n5 : a ≠ d₃ := fun e => by rw [e, hd₃] at g₂; cases g₂
      have le₅ := le₄.upd (c := .list (vs ++ [y.2, elseV p.ow i x])) hd₃'
      have g₅ := (upd_ne (σ := upd (upd σ₂ d (.list vs)) d₂ (.list [y.2, elseV p.ow i x])) (c := .list (vs ++ [y.2, elseV p.ow i x])) n5).trans g₄
      refine ⟨true, _, _, src_list upd_same, .inl rfl, fun l σ₃ => StLe σ σ₃ ∧ σ₃ d₃ = some (.list (vs ++ [y.2, elseV p.ow i x])) ∧ σ₃ a = some (.list ((((vs ++ [y.2, elseV p.ow i x]).take l).foldl (metStep s) ((rw.take j).foldl (metRow s (elseV p.ow i x)) (met p p.ow s i))).map .int)) ∧
        Found (((vs ++ [y.2, elseV p.ow i x]).take l).foldl (metStep s) ((rw.take j).foldl (metRow s (elseV p.ow i x)) (met p p.ow s i))), ⟨le₅, upd_same, by simpa using g₅, by simpa using fnd₂⟩, fun j σ h => h.2.1, ?_, ?_⟩
      · rintro base3 O3 ok3 l one σ₃ hone ⟨lez, gl, gz, fz⟩
        replace O3 : Cx.Own ⟨h₀, base3, env, os⟩ := O3
        replace ok3 : Cx.Ok ⟨h₀, base3, env, os⟩ := ok3
        refine ⟨_, by wtm_at "asn", ?_⟩
        dsimp only
        rw [fold_succ hone]
        generalize ((vs ++ [y.2, elseV p.ow i x]).take l).foldl (metStep s) ((rw.take j).foldl (metRow s (elseV p.ow i x)) (met p p.ow s i)) = acc at *
        obtain ⟨so, hso⟩ := ones_vals rok (List.mem_of_getElem? hy) eo one (by rw [onesE]; exact List.mem_of_getElem? hone)
        have fz' := fz.step (s := s) hso
        have hacc := fz.length
        unfold ValOk at hso
        split at hso
        · obtain ⟨b, rfl⟩ := hso
          wtm_at "go"
          refine c_isi_tuple (b := false) (.inr (.inl ⟨_, rfl, rfl⟩)) ?_
          wtm_at "go"
          wtm_at "no"
          wtm_at "no"
          wtm_at "go"
          exact ⟨by wtm_at "lo", lez, gl, gz, fz⟩
        · split at hso
          · obtain ⟨b, rfl⟩ := hso
            wtm_at "go"
            refine c_isi_tuple (b := true) (.inl ⟨_, rfl, rfl⟩) ?_
            wtm_at "go"
            wtm_at "yes"
            wtm_at "go"
            refine c_len_tup (by simp) ?_
            wtm_at "go"
            refine ⟨_, rfl, ?_⟩
            wtm_at "no"
            wtm_at "no"
            wtm_at "go"
            exact ⟨by wtm_at "lo", lez, gl, gz, fz⟩
          · obtain ⟨k, k0, k1, rfl⟩ := hso
            wtm_at "go"
            refine c_isi_tuple (b := true) (.inl ⟨_, rfl, rfl⟩) ?_
            wtm_at "go"
            wtm_at "yes"
            wtm_at "go"
            refine c_len_tup (by simp) ?_
            wtm_at "go"
            refine ⟨_, rfl, ?_⟩
            wtm_at "yes"
            wtm_at "go"
            refine item_p (v := .int so) (by decide) (by decide) (by rfl) ?_
            wtm_at "go"
            refine ⟨_, rfl, ?_⟩
            by_cases hs' : so = s
            · subst hs'
              rw [show (so == so) = true from by simp]
              wtm_at "yes"
              wtm_at "go"
              refine item_p (v := .int k) (by decide) (by decide) (by rfl) ?_
              wtm_at "go"
              refine notIn_list (hR'.uk (by decide)) gz ints_flat (flat_has has_int_of (by decide)) ⟨_, rfl, ?_⟩
              rw [any_int]
              by_cases hk : k ∈ acc
              · rw [show (!decide (k ∈ acc)) = false from by simp [hk]]
                wtm_at "no"
                wtm_at "no"
                wtm_at "go"
                refine ⟨by wtm_at "lo", lez, gl, ?_, fz'⟩
                rw [show metStep so acc (.tup [.str "elem", .int so, .int k]) = acc from by simp [metStep, isEl_el, hk]]
                exact gz
              · rw [show (!decide (k ∈ acc)) = true from by simp [hk]]
                wtm_at "yes"
                wtm_at "go"
                wtm_at "yes"
                wtm_at "go"
                refine ⟨_, opg_list gz PySem.F.slot_list_append PySem.F.type_list_append, ?_⟩
                wtm_at "go"
                refine item_p (v := .int k) (by decide) (by decide) (by rfl) ?_
                wtm_at "go"
                refine c_append gz (by rw [sizeLine_eq, List.length_map]; omega) ?_
                wtm_at "go"
                refine ⟨by wtm_at "lo", lez.upd ha, ?_, ?_, fz'⟩
                · rw [upd_ne (Ne.symm n5)]; exact gl
                · rw [show metStep so acc (.tup [.str "elem", .int so, .int k]) = acc ++ [k] from by simp [metStep, isEl_el, hk], List.map_append]
                  exact upd_same
            · rw [show (so == s) = false from by simp [hs']]
              wtm_at "no"
              wtm_at "no"
              wtm_at "go"
              refine ⟨by wtm_at "lo", lez, gl, ?_, fz'⟩
              rw [show metStep s acc (.tup [.str "elem", .int so, .int k]) = acc from by simp [metStep, isEl_el, hs']]
              exact gz
      · rintro σ₃ ⟨lez, gl, gz, fz⟩
        rw [List.take_length] at gz fz
        wtm_at "go"
        refine ⟨by wtm_at "lo", lez, ?_, ?_⟩
        · rw [fold_succ hy]; unfold metRow; rw [onesE]; exact gz
        · rw [fold_succ hy]; unfold metRow; rw [onesE]; exact fz
    · rintro σ₂ ⟨le₂, g₂, fnd₂⟩
      wtm_at "go"
      have e2 : (rw.take (itemsOf rw).length).foldl (metRow s (elseV p.ow i x)) (met p p.ow s i) = met p p.ow s (i + 1) := by
        rw [met_succ]; unfold metFun rwAt hdAt; rw [hrw, hx, show (itemsOf rw).length = rw.length from by simp [itemsOf], List.take_length]; rfl
      rw [e2] at g₂ fnd₂
      exact ⟨by wtm_at "lo", le₂, g₂, fnd₂⟩
  · rintro σ₁ ⟨le, g, fnd⟩
    rw [List.length_map, List.length_range] at g fnd
    wtm_at "go"
    refine c_sorted_list O g (by have := fnd.length; omega) fun d ns hd hp hs => ?_
    exact hK d _ ns (le.upd (by cases e : σ d with | none => rfl | some c => rw [le _ _ e] at hd; cases hd)) upd_same hp hs
end
structure Meth (Cl : Addr) (name : Str) (f : Addr) : Prop where
  find : ∀ w, findIn (KK w) (.ref Cl) name = some (some (.ref f))
  type : ∀ w, typeIn (KK w) (.ref f) = some (.type "function")
structure PlainCls (Cl : Addr) : Prop where
  ga : ∀ w, findIn (KK w) (.ref Cl) "__getattribute__" = some (some (.builtin "object.__getattribute__"))
  gk : ∀ w, findIn (KK w) (.ref Cl) "__getattr__" = some none
  hd : ∀ w, hasDictIn (KK w) Cl = true
  sa : ∀ w, findIn (KK w) (.ref Cl) "__setattr__" = some (some (.builtin "object.__setattr__"))
  po : ∀ w, plainOver (KK w) Cl = true
structure Fld (Cl : Addr) (name : Str) : Prop where
  get : ∀ w, findIn (KK w) (.ref Cl) name = some none
  set : ∀ w, takerIn (KK w) Cl name = some none
  ok : PyData.strOk name = true
theorem pc_410 : PlainCls 410 := ⟨fun w => by kernel_rfl, fun w => by kernel_rfl, fun w => by kernel_rfl, fun w => by kernel_rfl, fun w => by kernel_rfl⟩
theorem me_410_sort_name : Meth 410 "sort_name" 218 := ⟨fun w => by kernel_rfl, fun w => by kernel_rfl⟩
theorem me_410_is_free_sort : Meth 410 "is_free_sort" 246 := ⟨fun w => by kernel_rfl, fun w => by kernel_rfl⟩
theorem me_410_is_number_sort : Meth 410 "is_number_sort" 239 := ⟨fun w => by kernel_rfl, fun w => by kernel_rfl⟩
theorem me_410_width_of : Meth 410 "width_of" 232 := ⟨fun w => by kernel_rfl, fun w => by kernel_rfl⟩
theorem me_410_declare_sort : Meth 410 "declare_sort" 225 := ⟨fun w => by kernel_rfl, fun w => by kernel_rfl⟩
theorem me_410_declare_fun : Meth 410 "declare_fun" 253 := ⟨fun w => by kernel_rfl, fun w => by kernel_rfl⟩
theorem me_410_fun_result : Meth 410 "fun_result" 288 := ⟨fun w => by kernel_rfl, fun w => by kernel_rfl⟩
theorem me_410_make : Meth 410 "make" 344 := ⟨fun w => by kernel_rfl, fun w => by kernel_rfl⟩
theorem fl_410_sort_names : Fld 410 "sort_names" := ⟨fun w => by kernel_rfl, fun w => by kernel_rfl, by decide +kernel⟩
theorem fl_410_sort_widths : Fld 410 "sort_widths" := ⟨fun w => by kernel_rfl, fun w => by kernel_rfl, by decide +kernel⟩
theorem fl_410_fun_names : Fld 410 "fun_names" := ⟨fun w => by kernel_rfl, fun w => by kernel_rfl, by decide +kernel⟩
theorem fl_410_fun_args : Fld 410 "fun_args" := ⟨fun w => by kernel_rfl, fun w => by kernel_rfl, by decide +kernel⟩
theorem fl_410_fun_results : Fld 410 "fun_results" := ⟨fun w => by kernel_rfl, fun w => by kernel_rfl, by decide +kernel⟩
theorem fl_410_fresh_count : Fld 410 "fresh_count" := ⟨fun w => by kernel_rfl, fun w => by kernel_rfl, by decide +kernel⟩
theorem fl_410_term_ops : Fld 410 "term_ops" := ⟨fun w => by kernel_rfl, fun w => by kernel_rfl, by decide +kernel⟩
theorem fl_410_term_args : Fld 410 "term_args" := ⟨fun w => by kernel_rfl, fun w => by kernel_rfl, by decide +kernel⟩
theorem fl_410_term_sorts : Fld 410 "term_sorts" := ⟨fun w => by kernel_rfl, fun w => by kernel_rfl, by decide +kernel⟩
theorem fl_410_term_datas : Fld 410 "term_datas" := ⟨fun w => by kernel_rfl, fun w => by kernel_rfl, by decide +kernel⟩
theorem fl_410_numbers : Fld 410 "numbers" := ⟨fun w => by kernel_rfl, fun w => by kernel_rfl, by decide +kernel⟩
theorem fl_410_true_number : Fld 410 "true_number" := ⟨fun w => by kernel_rfl, fun w => by kernel_rfl, by decide +kernel⟩
theorem fl_410_false_number : Fld 410 "false_number" := ⟨fun w => by kernel_rfl, fun w => by kernel_rfl, by decide +kernel⟩
theorem pc_559 : PlainCls 559 := ⟨fun w => by kernel_rfl, fun w => by kernel_rfl, fun w => by kernel_rfl, fun w => by kernel_rfl, fun w => by kernel_rfl⟩
theorem me_559_set_row : Meth 559 "set_row" 507 := ⟨fun w => by kernel_rfl, fun w => by kernel_rfl⟩
theorem me_559_rows : Meth 559 "rows" 521 := ⟨fun w => by kernel_rfl, fun w => by kernel_rfl⟩
theorem me_559_set_other : Meth 559 "set_other" 528 := ⟨fun w => by kernel_rfl, fun w => by kernel_rfl⟩
theorem me_559_other : Meth 559 "other" 535 := ⟨fun w => by kernel_rfl, fun w => by kernel_rfl⟩
theorem me_559_call : Meth 559 "call" 542 := ⟨fun w => by kernel_rfl, fun w => by kernel_rfl⟩
theorem me_559_elements : Meth 559 "elements" 556 := ⟨fun w => by kernel_rfl, fun w => by kernel_rfl⟩
theorem fl_559_bank : Fld 559 "bank" := ⟨fun w => by kernel_rfl, fun w => by kernel_rfl, by decide +kernel⟩
theorem fl_559_tables : Fld 559 "tables" := ⟨fun w => by kernel_rfl, fun w => by kernel_rfl, by decide +kernel⟩
theorem fl_559_others : Fld 559 "others" := ⟨fun w => by kernel_rfl, fun w => by kernel_rfl, by decide +kernel⟩
theorem pc_674 : PlainCls 674 := ⟨fun w => by kernel_rfl, fun w => by kernel_rfl, fun w => by kernel_rfl, fun w => by kernel_rfl, fun w => by kernel_rfl⟩
theorem me_674_choose_others : Meth 674 "choose_others" 664 := ⟨fun w => by kernel_rfl, fun w => by kernel_rfl⟩
theorem fl_674_bank : Fld 674 "bank" := ⟨fun w => by kernel_rfl, fun w => by kernel_rfl, by decide +kernel⟩
theorem fl_674_hub : Fld 674 "hub" := ⟨fun w => by kernel_rfl, fun w => by kernel_rfl, by decide +kernel⟩
theorem fl_674_model : Fld 674 "model" := ⟨fun w => by kernel_rfl, fun w => by kernel_rfl, by decide +kernel⟩
theorem fl_674_values : Fld 674 "values" := ⟨fun w => by kernel_rfl, fun w => by kernel_rfl, by decide +kernel⟩
theorem fl_674_class_values : Fld 674 "class_values" := ⟨fun w => by kernel_rfl, fun w => by kernel_rfl, by decide +kernel⟩
theorem fl_674_counts : Fld 674 "counts" := ⟨fun w => by kernel_rfl, fun w => by kernel_rfl, by decide +kernel⟩
theorem fl_674_free_number : Fld 674 "free_number" := ⟨fun w => by kernel_rfl, fun w => by kernel_rfl, by decide +kernel⟩
section
variable {w : World} {C : Cx} {A : Around} {m : Loc} {σ : Store} {K : V → Store → Prop} {Cl x dx : Addr} {l : List (V × V)} {name : Str}
theorem cl_meth {f : Addr} {pl : Sem Bool} (pc : PlainCls Cl) (me : Meth Cl name f) (ok : C.Ok) (G : Gd w C.h₀) (hx : σ x = some (.inst Cl dx)) (hd : σ dx = some (.dict .str l)) (hs : alook l (.str name) = none) : OpG w C A (.ref x) name pl m σ (.ref f) :=
  opg_inst ok G hx hd hs (pc.ga w) (pc.gk w) (me.find w) (me.type w)
theorem cl_get {v : V} (pc : PlainCls Cl) (fl : Fld Cl name) (ok : C.Ok) (G : Gd w C.h₀) (hx : σ x = some (.inst Cl dx)) (hd : σ dx = some (.dict .str l)) (hl : alook l (.str name) = some v) (hv : ∀ r, v ≠ .raw r) (h : K v σ) : Op1 w C A VIs (fun o => getAttr o name true) (.ref x) m σ K :=
  get_attr ok G hx hd hl hv (by unfold plainGet; rw [pc.ga w, pc.gk w]; rfl) (pc.hd w) (fl.get w) h
theorem cl_set {v : V} {N : Store → Prop} (pc : PlainCls Cl) (fl : Fld Cl name) (ok : C.Ok) (G : Gd w C.h₀) (hx : σ x = some (.inst Cl dx)) (hd : σ dx = some (.dict .str l)) (hz : l.length ≤ 900) (h : N (upd σ dx (.dict .str (aput l (.str name) v)))) : SetA w C A (.ref x) name v m σ N :=
  set_attr ok G hx hd fl.ok (pc.sa w) (pc.po w) (fl.set w) (pc.hd w) hz h
end
section
variable {w : World} {A : Around} {h₀ : Heap} {σ : Store} {K : V → Store → Prop} {p : Ws} {n : Nat}

theorem sort_lt {s : Int} (h : SortOk s) : 0 ≤ s ∧ s < 5 := by unfold SortOk at h; omega

theorem b_sort_name {s : Int} {x : Str} (G : Gd w h₀) (hR : Room 1 A) (hB : Bnk σ p) (hs : SortOk s) (hx : ([V.str "Bool", V.str "Int", V.str "Real", V.str "U", V.str p.nm])[s.toNat]? = some (.str x)) (hK : K (.str x) σ) : CallC w h₀ A (.ref 218) [.ref p.B, .int s] σ K := by
  refine bodyN (n := 0) (names := ["self", "s"]) G hR (by rfl) (by rfl) (by rfl) (by rfl) (by intro us hu; obtain ⟨a, b, rfl⟩ := len2 hu; rfl) (by rfl) (by wtm_at "binds") (by rfl) (by rfl) (by rfl) (by rfl) (by rfl) ?_
  intro L q env base os A' he hnm hce hR' ok O
  clear he
  dsimp only at hnm
  replace hce : env.cells = [] := hce.trans rfl
  show Ex w _ _ _ (set (set (fun _ => none) "self" (.ref p.B)) "s" (.int s)) _ _ _
  have := sort_lt hs
  wtm_at "go"
  refine cl_get pc_410 fl_410_sort_names ok G hB.b hB.bd hB.bsn (fun r => by simp) ?_
  wtm_at "go"
  exact item_l hB.sn this.1 (by omega) hx hK

theorem b_width_of {s : Int} (G : Gd w h₀) (hR : Room 1 A) (hB : Bnk σ p) (hs : SortOk s) (hK : K (.int 0) σ) : CallC w h₀ A (.ref 232) [.ref p.B, .int s] σ K := by
  refine bodyN (n := 0) (names := ["self", "s"]) G hR (by rfl) (by rfl) (by rfl) (by rfl) (by intro us hu; obtain ⟨a, b, rfl⟩ := len2 hu; rfl) (by rfl) (by wtm_at "binds") (by rfl) (by rfl) (by rfl) (by rfl) (by rfl) ?_
  intro L q env base os A' he hnm hce hR' ok O
  clear he
  dsimp only at hnm
  replace hce : env.cells = [] := hce.trans rfl
  show Ex w _ _ _ (set (set (fun _ => none) "self" (.ref p.B)) "s" (.int s)) _ _ _
  have := sort_lt hs
  wtm_at "go"
  refine cl_get pc_410 fl_410_sort_widths ok G hB.b hB.bd hB.bsw (fun r => by simp) ?_
  wtm_at "go"
  refine item_l hB.sw this.1 (by omega) (v := .int 0) ?_ hK
  rcases hs with rfl | rfl | rfl | rfl <;> rfl

theorem b_is_number {s : Int} (G : Gd w h₀) (hR : Room 1 A) (hs : SortOk s) {B : Addr} (hK : K (.bool (s == 1)) σ) : CallC w h₀ A (.ref 239) [.ref B, .int s] σ K := by
  refine bodyN (n := 0) (names := ["self", "s"]) G hR (by rfl) (by rfl) (by rfl) (by rfl) (by intro us hu; obtain ⟨a, b, rfl⟩ := len2 hu; rfl) (by rfl) (by wtm_at "binds") (by rfl) (by rfl) (by rfl) (by rfl) (by rfl) ?_
  intro L q env base os A' he hnm hce hR' ok O
  clear he
  dsimp only at hnm
  replace hce : env.cells = [] := hce.trans rfl
  show Ex w _ _ _ (set (set (fun _ => none) "self" (.ref B)) "s" (.int s)) _ _ _
  wtm_at "go"
  refine ⟨_, rfl, fun hb => ?_, fun hb => ?_⟩
  · rw [hb] at hK; exact hK
  · rw [hb] at hK
    wtm_at "go"
    have : (s == 2) = false := by unfold SortOk at hs; simp; omega
    rw [this]; exact hK

theorem b_is_free {s : Int} (G : Gd w h₀) (hR : Room 1 A) (hB : Bnk σ p) (hs : SortOk s) (hK : K (.bool (decide (2 < s))) σ) : CallC w h₀ A (.ref 246) [.ref p.B, .int s] σ K := by
  refine bodyN (n := 0) (names := ["self", "s"]) G hR (by rfl) (by rfl) (by rfl) (by rfl) (by intro us hu; obtain ⟨a, b, rfl⟩ := len2 hu; rfl) (by rfl) (by wtm_at "binds") (by rfl) (by rfl) (by rfl) (by rfl) (by rfl) ?_
  intro L q env base os A' he hnm hce hR' ok O
  clear he
  dsimp only at hnm
  replace hce : env.cells = [] := hce.trans rfl
  show Ex w _ _ _ (set (set (fun _ => none) "self" (.ref p.B)) "s" (.int s)) _ _ _
  have := sort_lt hs
  wtm_at "go"
  refine ⟨_, rfl, fun hb => ?_, fun hb => ?_⟩
  · rw [hb] at hK
    wtm_at "go"
    refine cl_get pc_410 fl_410_sort_widths ok G hB.b hB.bd hB.bsw (fun r => by simp) ?_
    wtm_at "go"
    refine item_l hB.sw this.1 (by omega) (v := .int 0) ?_ ?_
    · rcases hs with rfl | rfl | rfl | rfl <;> rfl
    · wtm_at "go"
      exact hK
  · rw [hb] at hK; exact hK

theorem b_fun_result {i : Nat} {h : List Int × Int} (G : Gd w h₀) (hR : Room 1 A) (hB : Bnk σ p) (hi : p.heads[i]? = some h) (hz : i < 1000) (hK : K (.int h.2) σ) : CallC w h₀ A (.ref 288) [.ref p.B, .int i] σ K := by
  refine bodyN (n := 0) (names := ["self", "f"]) G hR (by rfl) (by rfl) (by rfl) (by rfl) (by intro us hu; obtain ⟨a, b, rfl⟩ := len2 hu; rfl) (by rfl) (by wtm_at "binds") (by rfl) (by rfl) (by rfl) (by rfl) (by rfl) ?_
  intro L q env base os A' he hnm hce hR' ok O
  clear he
  dsimp only at hnm
  replace hce : env.cells = [] := hce.trans rfl
  show Ex w _ _ _ (set (set (fun _ => none) "self" (.ref p.B)) "f" (.int i)) _ _ _
  wtm_at "go"
  refine cl_get pc_410 fl_410_fun_results ok G hB.b hB.bd hB.bsr (fun r => by simp) ?_
  wtm_at "go"
  exact item_l hB.sr (by omega) (by omega) (v := .int h.2) (by simp [hi]) hK

theorem x_NOUGHT : ∀ w : World, nsIn (KK w) mainGlobals "NOUGHT" = some (some (.ref 479)) := fun w => by kernel_rfl
theorem v_NOUGHT : ∀ (w : World) (h : Heap), (KK w).In h → VIs h (.tup [.int 0, .int 1]) (.ref 479) := fun w h X => vis_tup (X 479 _ rfl) (.cons vis_int (.cons vis_int .nil))

theorem b_plain_value {s : Int} (G : Gd w h₀) (hR : Room 2 A) (hB : Bnk σ p) (hs : SortOk s) (hK : K (plainV s) σ) : CallC w h₀ A (.ref 486) [.ref p.B, .int s] σ K := by
  refine bodyN (n := 1) (names := ["bank", "s"]) G hR (by rfl) (by rfl) (by rfl) (by rfl) (by intro us hu; obtain ⟨a, b, rfl⟩ := len2 hu; rfl) (by rfl) (by wtm_at "binds") (by rfl) (by rfl) (by rfl) (by rfl) (by rfl) ?_
  intro L q env base os A' he hnm hce hR' ok O
  clear he
  dsimp only at hnm
  replace hce : env.cells = [] := hce.trans rfl
  show Ex w _ _ _ (set (set (fun _ => none) "bank" (.ref p.B)) "s" (.int s)) _ _ _
  unfold plainV at hK
  wtm_at "go"
  refine ⟨_, rfl, fun hb => ?_, fun hb => ?_⟩
  · have hs0 : s = 0 := by simpa using hb
    rw [if_pos hs0] at hK
    wtm_at "go"
    exact hK
  · have hs0 : ¬ s = 0 := by simpa using hb
    rw [if_neg hs0] at hK
    wtm_at "go"
    refine ⟨_, cl_meth pc_410 me_410_is_number_sort ok G hB.b hB.bd (hB.bno _ (by decide +kernel)), ?_⟩
    wtm_at "go"
    refine opc_fn ok (b_is_number G hR' hs ?_).call
    wtm_at "go"
    refine ⟨fun hb => ?_, fun hb => ?_⟩
    · have hs1 : s = 1 := by simpa using hb
      rw [if_pos hs1] at hK
      wtm_at "go"
      exact nm_glob x_NOUGHT v_NOUGHT hnm ok G (by decide +kernel) hK (by decide +kernel)
    · have hs1 : ¬ s = 1 := by simpa using hb
      rw [if_neg hs1] at hK
      wtm_at "go"
      refine ⟨_, cl_meth pc_410 me_410_width_of ok G hB.b hB.bd (hB.bno _ (by decide +kernel)), ?_⟩
      wtm_at "go"
      refine opc_fn ok (b_width_of G hR' hB hs ?_).call
      wtm_at "go"
      refine ⟨_, rfl, ?_⟩
      wtm_at "no"
      wtm_at "go"
      exact ⟨by wtm_at "sz", hK⟩
end
section
variable {w : World} {A : Around} {h₀ : Heap} {σ : Store} {K : V → Store → Prop} {p : Ws} {n : Nat}

theorem m_other {i : Nat} {h : List Int × Int} (G : Gd w h₀) (hR : Room 3 A) (hB : Bnk σ p) (hM : Mdl σ p) (hi : p.heads[i]? = some h) (hz : i < 1000) (hs : SortOk h.2) (hK : K (elseV p.om i h) σ) : CallC w h₀ A (.ref 535) [.ref p.M, .int i] σ K := by
  refine bodyN (n := 2) (names := ["self", "f"]) G hR (by rfl) (by rfl) (by rfl) (by rfl) (by intro us hu; obtain ⟨a, b, rfl⟩ := len2 hu; rfl) (by rfl) (by wtm_at "binds") (by rfl) (by rfl) (by rfl) (by rfl) (by rfl) ?_
  intro L q env base os A' he hnm hce hR' ok O
  dsimp only at hnm
  clear he
  replace hce : env.cells = [] := hce.trans rfl
  show Ex w _ _ _ (set (set (fun _ => none) "self" (.ref p.M)) "f" (.int i)) _ _ _
  have hh := hR'.handled
  unfold elseV at hK
  wtm_at "go"
  refine cl_get pc_559 fl_559_others ok G hM.m hM.md (v := .ref p.O) (by wtm_at "look") (fun r => by simp) ?_
  refine in_int hR' hM.o ⟨_, rfl, fun hb => ?_, fun hb => ?_⟩
  · obtain ⟨v, hv⟩ := Option.isSome_iff_exists.mp hb
    rw [hv] at hK
    wtm_at "go"
    refine cl_get pc_559 fl_559_others ok G hM.m hM.md (v := .ref p.O) (by wtm_at "look") (fun r => by simp) ?_
    wtm_at "go"
    exact item_i hR' hM.o hv hK
  · have hv : alook p.om (.int i) = none := by cases e : alook p.om (.int i) with | none => rfl | some v => rw [e] at hb; cases hb
    rw [hv] at hK
    wtm_at "go"
    refine cl_get pc_559 fl_559_bank ok G hM.m hM.md (v := .ref p.B) (by wtm_at "look") (fun r => by simp) ?_
    wtm_at "go"
    refine cl_get pc_559 fl_559_bank ok G hM.m hM.md (v := .ref p.B) (by wtm_at "look") (fun r => by simp) ?_
    refine ⟨_, cl_meth pc_410 me_410_fun_result ok G hB.b hB.bd (hB.bno _ (by decide +kernel)), ?_⟩
    wtm_at "go"
    refine opc_fn ok (b_fun_result G (hR'.le (by decide)) hB hi hz ?_).call
    wtm_at "go"
    exact opc_fn ok (b_plain_value G hR' hB hs hK).call

theorem Fresh.le {σ σ' : Store} {a : Addr} (h : StLe σ σ') (e : σ' a = none) : σ a = none := by
  cases q : σ a with
  | none => rfl
  | some c => rw [h _ _ q] at e; cases e

/-- a function's rows, as a list -/
theorem m_rows {i : Nat} {r : List (V × V)} {h : List Int × Int} (G : Gd w h₀) (hR : Room 1 A) (hM : Mdl σ p) (hi : p.heads[i]? = some h) (hr : p.rows[i]? = some r) (hz : r.length ≤ 20)
    (hK : ∀ d σ', StLe σ σ' → σ d = none → σ' d = some (.list (itemsOf r)) → K (.ref d) σ') : CallC w h₀ A (.ref 521) [.ref p.M, .int i] σ K := by
  refine bodyN (n := 0) (names := ["self", "f"]) G hR (by rfl) (by rfl) (by rfl) (by rfl) (by intro us hu; obtain ⟨a, b, rfl⟩ := len2 hu; rfl) (by rfl) (by wtm_at "binds") (by rfl) (by rfl) (by rfl) (by rfl) (by rfl) ?_
  intro L q env base os A' he hnm hce hR' ok O
  dsimp only at hnm
  clear he
  replace hce : env.cells = [] := hce.trans rfl
  show Ex w _ _ _ (set (set (fun _ => none) "self" (.ref p.M)) "f" (.int i)) _ _ _
  have hh := hR'.handled
  wtm_at "go"
  refine cl_get pc_559 fl_559_tables ok G hM.m hM.md (v := .ref p.T) (by wtm_at "look") (fun r => by simp) ?_
  refine ⟨_, opg_dict hM.t PySem.F.slot_dict_get PySem.F.type_dict_get, ?_⟩
  wtm_at "go"
  refine ev_dict0 (kd := .int) fun e he => ?_
  wtm_at "go"
  have le : StLe σ (upd σ e (.dict .int [])) := (StLe.refl σ).upd he
  refine c_get (k := .int) (hR'.uk (by decide)) trivial (le _ _ hM.t) has_int_of ?_
  by_cases hr0 : r = []
  · subst hr0
    rw [hM.tno i hr]
    refine ⟨_, opg_dict (k := .int) upd_same PySem.F.slot_dict_items PySem.F.type_dict_items, ?_⟩
    wtm_at "go"
    refine c_items (k := .int) upd_same fun v hv => ?_
    wtm_at "go"
    obtain ⟨nv, hv⟩ := upd_none hv
    refine c_list_items hh upd_same ((upd_ne (Ne.symm nv)).trans upd_same) (by wtm_at "sz") fun d hd => ?_
    obtain ⟨nd, hd⟩ := upd_none hd
    obtain ⟨nd', hd⟩ := upd_none hd
    exact hK d _ ((le.upd hv).upd hd) hd upd_same
  · obtain ⟨t, ht, hσt, _⟩ := hM.tso i r h hr hi hr0
    rw [ht]
    have hte : t ≠ e := fun q => by rw [q, he] at hσt; cases hσt
    refine ⟨_, opg_dict (le _ _ hσt) PySem.F.slot_dict_items PySem.F.type_dict_items, ?_⟩
    wtm_at "go"
    refine c_items (le _ _ hσt) fun v hv => ?_
    wtm_at "go"
    obtain ⟨nv, hv⟩ := upd_none hv
    have hv' := hv
    refine c_list_items hh upd_same (by rw [upd_ne (fun q => by rw [← q, hσt] at hv; cases hv)]; exact le _ _ hσt) (by rw [sizeLine_eq]; omega) fun d hd => ?_
    obtain ⟨nd, hd⟩ := upd_none hd
    obtain ⟨nd', hd⟩ := upd_none hd
    exact hK d _ ((le.upd hv).upd hd) hd upd_same

/-- a call -/
theorem m_call {i : Nat} {r : List (V × V)} {h : List Int × Int} {vs : List V} (G : Gd w h₀) (hR : Room 4 A) (hB : Bnk σ p) (hM : Mdl σ p) (hi : p.heads[i]? = some h) (hr : p.rows[i]? = some r) (hz : i < 1000) (hs : SortOk h.2) (ha : ArgsOk h.1 vs)
    (hK : ∀ σ', StLe σ σ' → K ((alook r (.tup vs)).getD (elseV p.om i h)) σ') : CallC w h₀ A (.ref 542) [.ref p.M, .int i, .tup vs] σ K := by
  refine bodyN (n := 3) (names := ["self", "f", "args"]) G hR (by rfl) (by rfl) (by rfl) (by rfl) (by intro us hu; obtain ⟨a, b, c, rfl⟩ := len3 hu; rfl) (by rfl) (by wtm_at "binds") (by rfl) (by rfl) (by rfl) (by rfl) (by rfl) ?_
  intro L q env base os A' he hnm hce hR' ok O
  dsimp only at hnm
  clear he
  replace hce : env.cells = [] := hce.trans rfl
  show Ex w _ _ _ (set (set (set (fun _ => none) "self" (.ref p.M)) "f" (.int i)) "args" (.tup vs)) _ _ _
  have hh := hR'.handled
  wtm_at "go"
  refine cl_get pc_559 fl_559_tables ok G hM.m hM.md (v := .ref p.T) (by wtm_at "look") (fun r => by simp) ?_
  refine ⟨_, opg_dict hM.t PySem.F.slot_dict_get PySem.F.type_dict_get, ?_⟩
  wtm_at "go"
  refine ev_dict0 (kd := .tup (h.1.map shape)) fun e he => ?_
  wtm_at "go"
  have le : StLe σ (upd σ e (.dict (.tup (h.1.map shape)) [])) := (StLe.refl σ).upd he
  have hk : V.has (DK.tup (h.1.map shape)).sh (.tup vs) := has_tup_of (args_has ha)
  refine c_get (k := .int) (hR'.uk (by decide)) trivial (le _ _ hM.t) has_int_of ?_
  by_cases hr0 : r = []
  · subst hr0
    rw [hM.tno i hr]
    refine ⟨_, opg_dict (k := .tup (h.1.map shape)) upd_same PySem.F.slot_dict_get PySem.F.type_dict_get, ?_⟩
    wtm_at "go"
    refine ⟨_, cl_meth pc_559 me_559_other ok G (le _ _ hM.m) (le _ _ hM.md) (by rfl), ?_⟩
    wtm_at "go"
    refine opc_fn ok (m_other G hR' (hB.le le) (hM.le le) hi hz hs ?_).call
    wtm_at "go"
    exact c_get (k := .tup (h.1.map shape)) (hR'.uk (by decide)) (fits_shapes _) upd_same hk (hK _ le)
  · obtain ⟨t, ht, hσt, _⟩ := hM.tso i r h hr hi hr0
    rw [ht]
    refine ⟨_, opg_dict (le _ _ hσt) PySem.F.slot_dict_get PySem.F.type_dict_get, ?_⟩
    wtm_at "go"
    refine ⟨_, cl_meth pc_559 me_559_other ok G (le _ _ hM.m) (le _ _ hM.md) (by rfl), ?_⟩
    wtm_at "go"
    refine opc_fn ok (m_other G hR' (hB.le le) (hM.le le) hi hz hs ?_).call
    wtm_at "go"
    exact c_get (k := .tup (h.1.map shape)) (hR'.uk (by decide)) (fits_shapes _) (le _ _ hσt) hk (hK _ le)

theorem m_set_other {i : Nat} {v : V} (G : Gd w h₀) (hR : Room 1 A) (hM : Mdl σ p) (hK : K .none (upd σ p.O (.dict .int (aput p.om (.int i) v)))) : CallC w h₀ A (.ref 528) [.ref p.M, .int i, v] σ K := by
  refine bodyN (n := 0) (names := ["self", "f", "value"]) G hR (by rfl) (by rfl) (by rfl) (by rfl) (by intro us hu; obtain ⟨a, b, c, rfl⟩ := len3 hu; rfl) (by rfl) (by wtm_at "binds") (by rfl) (by rfl) (by rfl) (by rfl) (by rfl) ?_
  intro L q env base os A' he hnm hce hR' ok O
  dsimp only at hnm
  clear he
  replace hce : env.cells = [] := hce.trans rfl
  show Ex w _ _ _ (set (set (set (fun _ => none) "self" (.ref p.M)) "f" (.int i)) "value" v) _ _ _
  have hh := hR'.handled
  have := hM.mlen
  wtm_at "go"
  refine cl_get pc_559 fl_559_others ok G hM.m hM.md (v := .ref p.O) (by wtm_at "look") (fun r => by simp) ?_
  wtm_at "go"
  refine seti_d (k := .int) hR' trivial hM.o has_int_of (by omega) ?_
  wtm_at "go"
  exact hK
end
theorem foldl_filter' {α β : Type} {f : β → α → β} {q : α → Bool} : ∀ {l : List α} {b : β}, (∀ x ∈ l, q x = false → ∀ c, f c x = c) → (l.filter q).foldl f b = l.foldl f b
  | [], b, h => rfl
  | x :: l, b, h => by
    have ih := fun b => foldl_filter' (l := l) (b := b) fun y hy => h y (List.mem_cons_of_mem _ hy)
    cases hq : q x with
    | true => rw [List.filter_cons, if_pos hq, List.foldl_cons, List.foldl_cons, ih]
    | false => rw [List.filter_cons, if_neg (by rw [hq]; exact Bool.false_ne_true), List.foldl_cons, ih, h x List.mem_cons_self hq]

noncomputable def trues (acc : List Int) : List (V × V) := acc.map fun k => (.int k, .bool true)
theorem trues_look {acc : List Int} {k : Int} : alook (trues acc) (.int k) = if k ∈ acc then some (.bool true) else none := by
  induction acc with
  | nil => rfl
  | cons j l ih =>
    by_cases h : k = j
    · subst h; simp only [trues, List.map_cons, alook_same, List.mem_cons_self, if_true]
    · have hb : V.beq (.int j) (.int k) = false := by rw [V.beq]; simp; exact fun e => h e.symm
      rw [show trues (j :: l) = (.int j, .bool true) :: trues l from rfl, alook_next hb, ih]
      simp [h]
theorem trues_put {acc : List Int} {k : Int} : aput (trues acc) (.int k) (.bool true) = trues (if k ∈ acc then acc else acc ++ [k]) := by
  have hl := @trues_look acc k
  by_cases h : k ∈ acc
  · rw [if_pos h] at hl ⊢
    rw [aput_old hl]
    unfold trues
    rw [List.map_map]
    apply List.map_congr_left
    intro j _
    simp only [Function.comp]
    split <;> rfl
  · rw [if_neg h] at hl ⊢
    rw [aput_new hl]
    unfold trues
    rw [List.map_append]; rfl
theorem trues_keys {acc : List Int} : (trues acc).map (·.1) = acc.map V.int := by unfold trues; rw [List.map_map]; rfl

section
variable {w : World} {C : Cx} {A : Around} {m : Loc} {h₀ : Heap} {σ : Store} {K : V → Store → Prop} {p : Ws} {n : Nat}

theorem op_addt' {l l' : List V} (h2 : l' ≠ []) (hz : l.length + l'.length ≤ sizeLine) (h : K (.tup (l ++ l')) σ) : Op2 w C A (binaryOp .Add) (.tup l) (.tup l') m σ K := by
  by_cases h1 : l = []
  · subst h1
    intro s u₁ u₂ r x y
    have y' := y
    obtain ⟨a, n, us, rfl, g, z⟩ := x.tup_inv
    obtain ⟨b, n', us', rfl, g', z'⟩ := y.tup_inv
    have e1 : us.size = 0 := by rw [← Array.length_toList]; exact z.length
    have n1 : us.isEmpty = true := by rw [Array.isEmpty_iff_size_eq_zero, e1]
    exact concat_meets ⟨_, g, rfl⟩ ⟨_, g', rfl⟩ noFill_tuple_add seq_tuple_add PySem.F.slot_tuple_add PySem.F.entry_tuple_add (PySem.F.args_tuple_add_2 _ _) (AutoSeq1.tuple___add___tuple_tuple_0 a us n b us' n' n1) ⟨g, g', .now r y' h⟩
  · exact op_addt h1 h2 hz h

/-- the two counts look at the same rows -/
theorem met_tabs {ow : List (V × V)} {s : Int} {is : List Nat} {ns : List Int} (hM : Mdl σ p) (hro : p.rows.length = p.heads.length) (hk : p.tl.map (·.1) = is.map (fun i => V.int (i : Nat))) (hlt : ∀ i ∈ is, i < p.heads.length) (hnd : is.Nodup) (hp : ns.Perm (is.map fun i : Nat => (i : Int))) (hs : ns.Pairwise (· ≤ ·)) :
    ∃ js : List Nat, ns = js.map (fun i : Nat => (i : Int)) ∧ js.foldl (metFun p ow s) [] = met p ow s p.heads.length ∧ ∀ j ∈ js, j < p.heads.length := by
  let q : Nat → Bool := fun i => decide (i ∈ is)
  refine ⟨(List.range p.heads.length).filter q, ?_, ?_, fun j hj => ?_⟩
  · have p1 : ((List.range p.heads.length).filter q).Perm is := by
      refine (List.perm_ext_iff_of_nodup (List.Pairwise.filter _ List.nodup_range) hnd).mpr fun a => ?_
      simp only [List.mem_filter, List.mem_range, q, decide_eq_true_eq]
      exact ⟨fun h => h.2, fun h => ⟨hlt a h, h⟩⟩
    refine lks_uniq (hp.trans (p1.symm.map _)) hs ?_
    rw [List.pairwise_map]
    exact (List.Pairwise.filter _ (List.pairwise_lt_range)).imp fun h => by omega
  · unfold met
    refine foldl_filter' fun i hi hq c => ?_
    have hi := List.mem_range.mp hi
    have hni : i ∉ is := by simpa [q] using hq
    unfold metFun
    have : rwAt p i = [] := by
      unfold rwAt
      obtain ⟨r, hr⟩ : ∃ r, p.rows[i]? = some r := ⟨p.rows[i]'(by rw [hro]; exact hi), by simp [hro, hi]⟩
      obtain ⟨h, hh⟩ : ∃ h, p.heads[i]? = some h := ⟨p.heads[i], by simp [hi]⟩
      rw [hr]
      by_cases hr0 : r = []
      · rw [hr0]; rfl
      · obtain ⟨t, ht, _⟩ := hM.tso i r h hr hh hr0
        exfalso
        have : V.int (i : Nat) ∈ p.tl.map (·.1) := by
          by_cases hm : V.int (i : Nat) ∈ p.tl.map (·.1)
          · exact hm
          · exfalso
            have : alook p.tl (.int i) = none := by
              unfold alook
              rw [Option.map_eq_none_iff, List.find?_eq_none]
              intro y hy hb
              exact hm (by rw [← V.beq_eq hb]; exact List.mem_map_of_mem (f := fun x : V × V => x.1) hy)
            rw [this] at ht; cases ht
        rw [hk] at this
        obtain ⟨j, hj, e⟩ := List.mem_map.mp this
        injection e with e
        exact hni (by rw [show i = j from by omega]; exact hj)
    rw [this]; rfl
  · exact List.mem_range.mp (List.mem_filter.mp hj).1
end
section
variable {w : World} {C : Cx} {A : Around} {m : Loc} {h₀ : Heap} {σ : Store} {K : V → Store → Prop} {p : Ws} {n : Nat}
theorem mels_else (hM : Mdl σ p) {i : Nat} {x : List Int × Int} (hx : p.heads[i]? = some x) : ValOk x.2 (elseV p.om i x) := by
  unfold elseV
  cases e : alook p.om (.int i) with
  | none => exact plain_ok _
  | some v => exact hM.mok i x v hx e

theorem m_elements {s : Int} (G : Gd w h₀) (hR : Room 4 A) (hW : Wld σ p) (hB : Bnk σ p) (hM : Mdl σ p)
    (hK : ∀ (a : Addr) (σ' : Store) (ns : List Int), StLe σ σ' → σ' a = some (.list (ns.map .int)) → ns.Perm (met p p.om s p.heads.length) → ns.Pairwise (· ≤ ·) → K (.ref a) σ') : CallC w h₀ A (.ref 556) [.ref p.M, .int s] σ K := by
  refine bodyN (n := 3) (names := ["self", "s"]) G hR (by rfl) (by rfl) (by rfl) (by rfl) (by intro us hu; obtain ⟨a, b, rfl⟩ := len2 hu; rfl) (by rfl) (by wtm_at "binds") (by rfl) (by rfl) (by rfl) (by rfl) (by rfl) ?_
  intro L q env base os A' he hnm hce hR' ok O
  dsimp only at hnm
  clear he
  replace hce : env.cells = [] := hce.trans rfl
  show Ex w _ _ _ (set (set (fun _ => none) "self" (.ref p.M)) "s" (.int s)) _ _ _
  have hh := hR'.handled
  obtain ⟨is, hk, hlt, hnd⟩ := hM.keys
  have few := hW.few
  have isl : is.length ≤ 4 := by
    have : (is.map fun i : Nat => (i : Int)).length ≤ ([0, 1, 2, 3] : List Int).length := nodup_le ((List.pairwise_map).mpr (hnd.imp fun h e => h (by omega))) fun x hx => by
      obtain ⟨i, hi, rfl⟩ := List.mem_map.mp hx
      have := hlt i hi
      simp only [List.mem_cons, List.not_mem_nil, or_false]; omega
    simpa using this
  wtm_at "go"
  refine ev_dict0 (kd := .int) fun d hd => ?_
  have le : StLe σ (upd σ d (.dict .int [])) := (StLe.refl σ).upd hd
  wtm_at "go"
  refine ex_for hh O ok (.refl _) (by wtm_at "tg") (si_of ?_) (by wtm_at "fs")
  wtm_at "go"
  refine cl_get pc_559 fl_559_tables ok G (le _ _ hM.m) (le _ _ hM.md) (v := .ref p.T) (by wtm_at "look") (fun r => by simp) ?_
  wtm_at "go"
  refine c_sorted_dict hh (le _ _ hM.t) (ns := is.map fun i : Nat => (i : Int)) (by rw [hk, List.map_map]; rfl) (by simp; omega) fun a ns ha hp hs => ?_
  obtain ⟨hda, ha⟩ := upd_none ha
  obtain ⟨js, rfl, hfold, hjs⟩ := met_tabs (ow := p.om) (s := s) hM hW.lro hk hlt hnd hp hs
  rw [List.map_map]
  refine ⟨true, _, _, src_list upd_same, .inl rfl, fun i σ₁ => StLe σ σ₁ ∧ σ₁ a = some (.list (js.map (V.int ∘ fun i : Nat => (i : Int)))) ∧ σ₁ d = some (.dict .int (trues ((js.take i).foldl (metFun p p.om s) []))) ∧ Found ((js.take i).foldl (metFun p p.om s) []),
    ⟨le.upd ha, upd_same, (upd_ne (Ne.symm hda)).trans upd_same, ⟨fun k hk => by simp at hk, by simp⟩⟩, fun i σ h => h.2.1, ?_, ?_⟩
  · rintro base' O' ok' j v σ₁ hv ⟨le₁, ga, gd, fnd⟩
    replace O' : Cx.Own ⟨h₀, base', env, os⟩ := O'
    replace ok' : Cx.Ok ⟨h₀, base', env, os⟩ := ok'
    rw [List.getElem?_map, Option.map_eq_some_iff] at hv
    obtain ⟨i, hji, rfl⟩ := hv
    have hi : i < p.heads.length := hjs i (List.mem_of_getElem? hji)
    obtain ⟨x, hx⟩ : ∃ x, p.heads[i]? = some x := ⟨p.heads[i], by simp [hi]⟩
    obtain ⟨rw, hrw⟩ : ∃ r, p.rows[i]? = some r := ⟨p.rows[i]'(by rw [hW.lro]; exact hi), by simp [hW.lro, hi]⟩
    have rok := hW.rok i rw x hrw hx
    have xok := hW.hok x (List.mem_of_getElem? hx)
    have eo := mels_else hM hx
    refine ⟨_, by wtm_at "asn", ?_⟩
    simp only [Function.comp]
    rw [fold_succ hji]
    generalize (js.take j).foldl (metFun p p.om s) [] = acc at *
    wtm_at "go"
    refine ex_for hh O' ok' (.refl _) (by wtm_at "tg") (si_of ?_) (by wtm_at "fs")
    wtm_at "go"
    refine ⟨_, cl_meth pc_559 me_559_rows ok' G (le₁ _ _ hM.m) (le₁ _ _ hM.md) (by rfl), ?_⟩
    wtm_at "go"
    refine opc_fn ok' (m_rows G (hR'.le (by decide)) (hM.le le₁) hx hrw rok.len fun b σ₂ le₂ hb gb => ?_).call
    have hda₂ : b ≠ d := fun e => by rw [e, gd] at hb; cases hb
    have hba : b ≠ a := fun e => by rw [e, ga] at hb; cases hb
    refine ⟨true, _, _, src_list gb, .inl rfl, fun l σ₃ => StLe σ σ₃ ∧ σ₃ a = some (.list (js.map (V.int ∘ fun i : Nat => (i : Int)))) ∧ σ₃ b = some (.list (itemsOf rw)) ∧ σ₃ d = some (.dict .int (trues ((rw.take l).foldl (metRow s (elseV p.om i x)) acc))) ∧ Found ((rw.take l).foldl (metRow s (elseV p.om i x)) acc),
      ⟨le₁.trans le₂, le₂ _ _ ga, gb, by simpa using le₂ _ _ gd, by simpa using fnd⟩, fun i σ h => h.2.2.1, ?_, ?_⟩
    · rintro base'' O'' ok'' l v σ₃ hv ⟨le₃, ga₃, gb₃, gd₃, fnd₃⟩
      replace O'' : Cx.Own ⟨h₀, base'', env, os⟩ := O''
      replace ok'' : Cx.Ok ⟨h₀, base'', env, os⟩ := ok''
      unfold itemsOf at hv
      rw [List.getElem?_map, Option.map_eq_some_iff] at hv
      obtain ⟨y, hy, rfl⟩ := hv
      obtain ⟨vs, ey, hvs, hval⟩ := rok.args y (List.mem_of_getElem? hy)
      refine ⟨_, by wtm_at "as2", ?_⟩
      have hvl : vs.length ≤ 3 := by rw [args_len hvs]; exact xok.len
      have onesE : ones y (elseV p.om i x) = vs ++ [y.2, elseV p.om i x] := by unfold ones argsV; rw [ey]
      dsimp only
      rw [fold_succ hy]
      generalize (rw.take l).foldl (metRow s (elseV p.om i x)) acc = acc₂ at *
      wtm_at "go"
      refine ex_for hh O'' ok'' (.refl _) (by wtm_at "tg") (si_of ?_) (by wtm_at "fs")
      rw [ey]
      wtm_at "go"
      refine ⟨_, cl_meth pc_559 me_559_other ok'' G (le₃ _ _ hM.m) (le₃ _ _ hM.md) (by rfl), ?_⟩
      wtm_at "go"
      refine opc_fn ok'' (m_other G hR' (hB.le le₃) (hM.le le₃) hx (by omega) xok.res ?_).call
      wtm_at "go"
      refine ⟨by wtm_at "sz", op_addt' (by simp) (by wtm_at "sz") ?_⟩
      refine ⟨true, _, _, src_tuple, .inl rfl, fun z σ₄ => StLe σ σ₄ ∧ σ₄ a = some (.list (js.map (V.int ∘ fun i : Nat => (i : Int)))) ∧ σ₄ b = some (.list (itemsOf rw)) ∧ σ₄ d = some (.dict .int (trues (((vs ++ [y.2, elseV p.om i x]).take z).foldl (metStep s) acc₂))) ∧ Found (((vs ++ [y.2, elseV p.om i x]).take z).foldl (metStep s) acc₂),
        ⟨le₃, ga₃, gb₃, by simpa using gd₃, by simpa using fnd₃⟩, fun _ _ _ => trivial, ?_, ?_⟩
      · rintro base3 O3 ok3 z one σ₄ hone ⟨le₄, ga₄, gb₄, gd₄, fnd₄⟩
        replace O3 : Cx.Own ⟨h₀, base3, env, os⟩ := O3
        replace ok3 : Cx.Ok ⟨h₀, base3, env, os⟩ := ok3
        refine ⟨_, by wtm_at "asn", ?_⟩
        obtain ⟨so, hso⟩ := ones_vals rok (List.mem_of_getElem? hy) eo one (by rw [onesE]; exact List.mem_of_getElem? hone)
        dsimp only
        rw [fold_succ hone]
        generalize ((vs ++ [y.2, elseV p.om i x]).take z).foldl (metStep s) acc₂ = acc₃ at *
        have fz' := fnd₄.step (s := s) hso
        have hacc := fnd₄.length
        unfold ValOk at hso
        split at hso
        · obtain ⟨b, rfl⟩ := hso
          wtm_at "go"
          refine c_isi_tuple (b := false) (.inr (.inl ⟨_, rfl, rfl⟩)) ?_
          wtm_at "go"
          wtm_at "no"
          wtm_at "no"
          wtm_at "go"
          exact ⟨by wtm_at "lo", le₄, ga₄, gb₄, gd₄, fnd₄⟩
        · split at hso
          · obtain ⟨b, rfl⟩ := hso
            wtm_at "go"
            refine c_isi_tuple (b := true) (.inl ⟨_, rfl, rfl⟩) ?_
            wtm_at "go"
            wtm_at "yes"
            wtm_at "go"
            refine item_p (v := .int b) (by decide) (by decide) (by rfl) ?_
            wtm_at "go"
            refine op_eqis ⟨_, rfl, ?_⟩
            wtm_at "no"
            wtm_at "no"
            wtm_at "go"
            exact ⟨by wtm_at "lo", le₄, ga₄, gb₄, gd₄, fnd₄⟩
          · obtain ⟨k, k0, k1, rfl⟩ := hso
            wtm_at "go"
            refine c_isi_tuple (b := true) (.inl ⟨_, rfl, rfl⟩) ?_
            wtm_at "go"
            wtm_at "yes"
            wtm_at "go"
            refine item_p (v := .str "elem") (by decide) (by decide) (by rfl) ?_
            wtm_at "go"
            refine ⟨_, rfl, ?_⟩
            wtm_at "yes"
            wtm_at "go"
            refine item_p (v := .int so) (by decide) (by decide) (by rfl) ?_
            wtm_at "go"
            refine ⟨_, rfl, ?_⟩
            by_cases hs' : so = s
            · subst hs'
              rw [show (so == so) = true from by simp]
              wtm_at "yes"
              wtm_at "go"
              wtm_at "yes"
              wtm_at "go"
              refine item_p (v := .int k) (by decide) (by decide) (by rfl) ?_
              refine seti_d (k := .int) hR' trivial gd₄ has_int_of (by unfold trues; rw [List.length_map]; omega) ?_
              wtm_at "go"
              rw [trues_put]
              refine ⟨by wtm_at "lo", le₄.upd hd, ?_, ?_, ?_, fz'⟩
              · rw [upd_ne hda]; exact ga₄
              · rw [upd_ne hda₂]; exact gb₄
              · rw [show metStep so acc₃ (.tup [.str "elem", .int so, .int k]) = if k ∈ acc₃ then acc₃ else acc₃ ++ [k] from by simp [metStep, isEl_el]]
                exact upd_same
            · rw [show (so == s) = false from by simp [hs']]
              wtm_at "no"
              wtm_at "no"
              wtm_at "go"
              refine ⟨by wtm_at "lo", le₄, ga₄, gb₄, ?_, fz'⟩
              rw [show metStep s acc₃ (.tup [.str "elem", .int so, .int k]) = acc₃ from by simp [metStep, isEl_el, hs']]
              exact gd₄
      · rintro σ₄ ⟨le₄, ga₄, gb₄, gd₄, fnd₄⟩
        rw [List.take_length] at gd₄ fnd₄
        wtm_at "go"
        refine ⟨by wtm_at "lo", le₄, ga₄, gb₄, ?_, ?_⟩
        · unfold metRow; rw [onesE]; exact gd₄
        · unfold metRow; rw [onesE]; exact fnd₄
    · rintro σ₃ ⟨le₃, ga₃, gb₃, gd₃, fnd₃⟩
      wtm_at "go"
      have e2 : (rw.take (itemsOf rw).length).foldl (metRow s (elseV p.om i x)) acc = metFun p p.om s acc i := by
        unfold metFun rwAt hdAt; rw [hrw, hx, show (itemsOf rw).length = rw.length from by simp [itemsOf], List.take_length]; rfl
      rw [e2] at gd₃ fnd₃
      exact ⟨by wtm_at "lo", le₃, ga₃, gd₃, fnd₃⟩
  · rintro σ₁ ⟨le₁, ga, gd, fnd⟩
    rw [List.length_map, List.take_length, hfold] at gd fnd
    wtm_at "go"
    refine c_sorted_dict hh gd trues_keys (by have := fnd.length; omega) fun c ns hc hp hs => ?_
    exact hK c _ ns (le₁.upd (Fresh.le le₁ hc)) upd_same hp hs
end
theorem val_flat {s : Int} {v : V} (h : ValOk s v) : v.flat 60 := flat_has (val_has h) (by have := deep_shape s; omega)
theorem aput_look {l : List (V × V)} {k v k' : V} : alook (aput l k v) k' = if V.beq k k' then some v else alook l k' := by
  cases h : alook l k with
  | none =>
    rw [aput_new h]
    unfold alook
    rw [List.find?_append]
    cases hb : V.beq k k' with
    | true =>
      have e := V.beq_eq hb; subst e
      unfold alook at h
      rw [Option.map_eq_none_iff] at h
      rw [h]
      simp [V.beq_self]
    | false =>
      cases hf : l.find? (fun x => V.beq x.1 k') with
      | none => simp [hb]
      | some y => simp
  | some v' =>
    rw [aput_old h]
    unfold alook
    rw [List.find?_map]
    have e1 : ((fun x : V × V => V.beq x.1 k') ∘ fun x : V × V => if V.beq x.1 k then (x.1, v) else x) = fun x => V.beq x.1 k' := by
      funext x; simp only [Function.comp]; split <;> rfl
    rw [e1]
    cases hb : V.beq k k' with
    | true =>
      have e := V.beq_eq hb; subst e
      unfold alook at h
      rw [Option.map_eq_some_iff] at h
      obtain ⟨y, hy, _⟩ := h
      rw [hy]
      have := List.find?_some hy
      simp only [Option.map_some, if_true]
      rw [if_pos this]
    | false =>
      cases hf : l.find? (fun x => V.beq x.1 k') with
      | none => rfl
      | some y =>
        have q : V.beq y.1 k' = true := List.find?_some (p := fun x : V × V => V.beq x.1 k') hf
        have := V.beq_eq q
        simp only [Option.map_some, Bool.false_eq_true, if_false]
        rw [if_neg (by rw [this]; intro q; rw [V.beq_eq q, V.beq_self] at hb; cases hb)]
theorem alook_of_keys {l : List (V × V)} {k : V} (h : k ∈ l.map (·.1)) : (alook l k).isSome = true := by
  cases e : alook l k with
  | some v => rfl
  | none => exact absurd h (alook_mem e)

/-- only the tables have moved -/
structure Moved (σ σ' : Store) (p : Ws) (tg' : Addr → Tg) : Prop where
  keep : ∀ a c, σ a = some c → p.tg a ≠ .t → (∀ j, p.tg a ≠ .tab j) → σ' a = some c
  tags : ∀ a, σ a ≠ none → tg' a = p.tg a
noncomputable def Ws.moved (p : Ws) (tl' : List (V × V)) (tg' : Addr → Tg) : Ws := { p with tl := tl', tg := tg' }
theorem Wld.move {σ σ' : Store} {p : Ws} {tl' : List (V × V)} {tg' : Addr → Tg} (h : Wld σ p) (m : Moved σ σ' p tg') : Wld σ' (p.moved tl' tg') := by
  have k : ∀ {a c τ}, σ a = some c → p.tg a = τ → τ ≠ .t → (∀ j, τ ≠ .tab j) → σ' a = some c := fun e t h1 h2 => m.keep _ _ e (t ▸ h1) (t ▸ h2)
  have t : ∀ {a c τ}, σ a = some c → p.tg a = τ → tg' a = τ := fun e t => (m.tags _ (by rw [e]; simp)).trans t
  have hf := h.feed
  exact ⟨⟨k hf.fd h.tFd (by simp) (by simp), k hf.lc h.tLc (by simp) (by simp), hf.lo, hf.hi, hf.cz⟩, k h.w h.tW (by simp) (by simp), k h.ls h.tLs (by simp) (by simp), k h.lh h.tLh (by simp) (by simp), k h.lr h.tLr (by simp) (by simp), k h.od h.tDo (by simp) (by simp),
    fun i a x e1 e2 => let ⟨u, v⟩ := h.phs i a x e1 e2; ⟨k u v (by simp) (by simp), t u v⟩, fun i a x e1 e2 => let ⟨u, v⟩ := h.ras i a x e1 e2; ⟨k u v (by simp) (by simp), t u v⟩,
    h.lph, h.lra, h.lro, h.few, h.hok, h.rok, h.wok, h.wlen, t hf.fd h.tFd, t hf.lc h.tLc, t h.w h.tW, t h.ls h.tLs, t h.lh h.tLh, t h.lr h.tLr, t h.od h.tDo⟩
theorem Bnk.move {σ σ' : Store} {p : Ws} {tl' : List (V × V)} {tg' : Addr → Tg} (h : Bnk σ p) (m : Moved σ σ' p tg') : Bnk σ' (p.moved tl' tg') := by
  have k : ∀ {a c τ}, σ a = some c → p.tg a = τ → τ ≠ .t → (∀ j, τ ≠ .tab j) → σ' a = some c := fun e t h1 h2 => m.keep _ _ e (t ▸ h1) (t ▸ h2)
  have t : ∀ {a c τ}, σ a = some c → p.tg a = τ → tg' a = τ := fun e t => (m.tags _ (by rw [e]; simp)).trans t
  exact ⟨k h.b h.tB (by simp) (by simp), k h.bd h.tBd (by simp) (by simp), h.bno, h.bsn, h.bsw, h.bsr, k h.sn h.tSn (by simp) (by simp), k h.sw h.tSw (by simp) (by simp), k h.sr h.tSr (by simp) (by simp),
    t h.b h.tB, t h.bd h.tBd, t h.sn h.tSn, t h.sw h.tSw, t h.sr h.tSr⟩
noncomputable def Ws.withRow (p : Ws) (i : Nat) (r : List (V × V)) : Ws := { p with rows := p.rows.set i r }

section
variable {w : World} {C : Cx} {A : Around} {m : Loc} {h₀ : Heap} {σ : Store} {K : V → Store → Prop} {p : Ws} {n : Nat}

theorem m_set_row {i : Nat} {r : List (V × V)} {h : List Int × Int} {vs : List V} {v : V} (G : Gd w h₀) (hR : Room 1 A) (hM : Mdl σ p) (hi : p.heads[i]? = some h) (hr : p.rows[i]? = some r) (ha : ArgsOk h.1 vs) (hv : ValOk h.2 v) (hz : r.length ≤ 20) (few : p.heads.length ≤ 4)
    (hc : alook r (.tup vs) = none ∨ alook r (.tup vs) = some v)
    (hK : ∀ σ' tl' tg', Moved σ σ' p tg' → Mdl σ' ((p.withRow i (if (alook r (.tup vs)).isSome then r else r ++ [(.tup vs, v)])).moved tl' tg') → K .none σ') : CallC w h₀ A (.ref 507) [.ref p.M, .int i, .tup vs, v] σ K := by
  refine bodyN (n := 0) (names := ["self", "f", "args", "value"]) G hR (by rfl) (by rfl) (by rfl) (by rfl) (by intro us hu; obtain ⟨a, b, c, d, rfl⟩ := len4 hu; rfl) (by rfl) (by wtm_at "binds") (by rfl) (by rfl) (by rfl) (by rfl) (by rfl) ?_
  intro L q env base os A' he hnm hce hR' ok O
  dsimp only at hnm
  clear he
  replace hce : env.cells = [] := hce.trans rfl
  show Ex w _ _ _ (set (set (set (set (fun _ => none) "self" (.ref p.M)) "f" (.int i)) "args" (.tup vs)) "value" v) _ _ _
  have hh := hR'.handled
  obtain ⟨is, hk, hlt, hnd⟩ := hM.keys
  have hk' : V.has (DK.tup (h.1.map shape)).sh (.tup vs) := has_tup_of (args_has ha)
  have ilt := (List.getElem?_eq_some_iff.mp hi).1
  have irt := (List.getElem?_eq_some_iff.mp hr).1
  wtm_at "go"
  refine cl_get pc_559 fl_559_tables ok G hM.m hM.md (v := .ref p.T) (by wtm_at "look") (fun r => by simp) ?_
  refine ⟨_, opg_dict hM.t PySem.F.slot_dict_setdefault PySem.F.type_dict_setdefault, ?_⟩
  wtm_at "go"
  refine ev_dict0 (kd := .tup (h.1.map shape)) fun e he => ?_
  have le : StLe σ (upd σ e (.dict (.tup (h.1.map shape)) [])) := (StLe.refl σ).upd he
  have ne : ∀ {a c}, σ a = some c → a ≠ e := fun h q => by rw [q, he] at h; cases h
  wtm_at "go"
  have int_ne : ∀ {j : Nat}, j ≠ i → V.beq (.int (i : Int)) (.int (j : Int)) = false := fun hj => by rw [V.beq]; simp; omega
  have isl : is.length ≤ p.heads.length := by
    have : (is.map fun i : Nat => (i : Int)).length ≤ ((List.range p.heads.length).map fun i : Nat => (i : Int)).length := nodup_le ((List.pairwise_map).mpr (hnd.imp fun h e => h (by omega))) fun x hx => by
      obtain ⟨i, hi, rfl⟩ := List.mem_map.mp hx
      exact List.mem_map_of_mem (List.mem_range.mpr (hlt i hi))
    simpa using this
  have tll : p.tl.length ≤ 1000000 := by
    have e1 : p.tl.length = is.length := by have := congrArg List.length hk; simpa using this
    omega
  refine c_setdefault (k := .int) (hR'.uk (by decide)) trivial (le _ _ hM.t) has_int_of (by rw [sizeLine_eq]; omega) (fun x hx => ?_) (fun hx => ?_)
  · have hr0 : r ≠ [] := fun q => by rw [q] at hr; rw [hM.tno i hr] at hx; cases hx
    obtain ⟨t, ht, hσt, htg⟩ := hM.tso i r h hr hi hr0
    rw [ht] at hx; cases hx
    have nte := ne hσt
    wtm_at "go"
    refine ⟨_, opg_dict (le _ _ hσt) PySem.F.slot_dict_setdefault PySem.F.type_dict_setdefault, ?_⟩
    wtm_at "go"
    refine c_setdefault (hR'.uk (by decide)) (fits_shapes _) (le _ _ hσt) hk' (by rw [sizeLine_eq]; omega) (fun x hx => ?_) (fun hx => ?_)
    · rcases hc with hc | hc
      · rw [hc] at hx; cases hx
      · rw [hc] at hx; cases hx
        wtm_at "go"
        refine op_ned (hR'.uk (by decide)) (val_flat hv) (val_flat hv) ⟨_, rfl, ?_⟩
        rw [V.eqv_self]
        wtm_at "no"
        wtm_at "go"
        refine hK _ p.tl p.tg ⟨fun a c ha _ _ => le _ _ ha, fun a _ => rfl⟩ ?_
        rw [hc]
        have e1 : p.rows.set i r = p.rows := by
          apply List.ext_getElem?
          intro j
          rw [List.getElem?_set]
          split
          · rename_i q; subst q; exact hr.symm
          · rfl
        have : ((p.withRow i r).moved p.tl p.tg) = p := by unfold Ws.withRow Ws.moved; rw [e1]
        simp only [Option.isSome_some, if_true]
        rw [this]
        exact hM.le le
    · wtm_at "go"
      refine op_ned (hR'.uk (by decide)) (val_flat hv) (val_flat hv) ⟨_, rfl, ?_⟩
      rw [V.eqv_self]
      wtm_at "no"
      wtm_at "go"
      rw [aput_new hx]
      have q : ∀ {a : Addr} {c : Cell}, σ a = some c → a ≠ t → upd (upd σ e (.dict (.tup (h.1.map shape)) [])) t (.dict (.tup (h.1.map shape)) (r ++ [(.tup vs, v)])) a = some c := fun {a c} h1 h2 => (upd_ne h2).trans (le _ _ h1)
      have qt : ∀ {a : Addr} {τ : Tg}, p.tg a = τ → τ ≠ .tab i → a ≠ t := fun h1 h2 => ne_tag h1 htg h2
      refine hK _ p.tl p.tg ⟨fun a c ha _ h2 => q ha (qt rfl (h2 i)), fun a _ => rfl⟩ ?_
      rw [hx]
      simp only [Option.isSome_none, Bool.false_eq_true, if_false]
      refine ⟨q hM.m (qt hM.tM (by simp)), q hM.md (qt hM.tMd (by simp)), q hM.t (qt hM.tT (by simp)), q hM.o (qt hM.tO (by simp)), fun j hj => ?_, fun j r' h' hj1 hj2 hj3 => ?_, ⟨is, hk, hlt, hnd⟩, hM.mok, hM.mlen, hM.tM, hM.tMd, hM.tT, hM.tO⟩
      · replace hj : (p.rows.set i (r ++ [(V.tup vs, v)]))[j]? = some [] := hj
        rw [List.getElem?_set] at hj
        split at hj
        · simp [irt] at hj
        · exact hM.tno j hj
      · replace hj1 : (p.rows.set i (r ++ [(V.tup vs, v)]))[j]? = some r' := hj1
        replace hj2 : p.heads[j]? = some h' := hj2
        rw [List.getElem?_set] at hj1
        split at hj1
        · rename_i e2; subst e2
          cases hj1
          rw [hi] at hj2; cases hj2
          exact ⟨t, ht, upd_same, htg⟩
        · rename_i e2
          obtain ⟨t', a1, a2, a3⟩ := hM.tso j r' h' hj1 hj2 hj3
          exact ⟨t', a1, q a2 (qt a3 (by simp; omega)), a3⟩
  · have hr0 : r = [] := by
      by_cases hr0 : r = []
      · exact hr0
      · obtain ⟨t, ht, _⟩ := hM.tso i r h hr hi hr0
        rw [ht] at hx; cases hx
    subst hr0
    have nTe := ne hM.t
    wtm_at "go"
    refine ⟨_, opg_dict (k := .tup (h.1.map shape)) ((upd_ne (Ne.symm nTe)).trans upd_same) PySem.F.slot_dict_setdefault PySem.F.type_dict_setdefault, ?_⟩
    wtm_at "go"
    refine c_setdefault (k := .tup (h.1.map shape)) (hR'.uk (by decide)) (fits_shapes _) ((upd_ne (Ne.symm nTe)).trans upd_same) hk' (by rw [sizeLine_eq]; simp) (fun x hx => by cases hx) (fun _ => ?_)
    wtm_at "go"
    refine op_ned (hR'.uk (by decide)) (val_flat hv) (val_flat hv) ⟨_, rfl, ?_⟩
    rw [V.eqv_self]
    wtm_at "no"
    wtm_at "go"
    rw [aput_new hx, aput_end]
    have q : ∀ {a : Addr} {c : Cell}, σ a = some c → a ≠ p.T → upd (upd (upd σ e (.dict (.tup (h.1.map shape)) [])) p.T (.dict .int (p.tl ++ [(.int i, .ref e)]))) e (.dict (.tup (h.1.map shape)) [(.tup vs, v)]) a = some c := fun {a c} h1 h2 => ((upd_ne (ne h1)).trans (upd_ne h2)).trans (le _ _ h1)
    have qt : ∀ {a : Addr} {τ : Tg}, p.tg a = τ → τ ≠ .t → a ≠ p.T := fun h1 h2 => ne_tag h1 hM.tT h2
    have tg : ∀ {a : Addr} {c : Cell} {τ : Tg}, σ a = some c → p.tg a = τ → (fun b => if b = e then Tg.tab i else p.tg b) a = τ := fun h1 h2 => by dsimp only; rw [if_neg (ne h1)]; exact h2
    refine hK _ (p.tl ++ [(.int i, .ref e)]) (fun b => if b = e then .tab i else p.tg b) ⟨fun a c ha h1 _ => q ha (qt rfl h1), fun a ha => if_neg fun z => by rw [z] at ha; exact ha he⟩ ?_
    have hni : i ∉ is := fun hi' => by
      have : V.int (i : Int) ∈ p.tl.map (·.1) := by rw [hk]; exact List.mem_map_of_mem hi'
      have := alook_of_keys this
      rw [hx] at this; cases this
    have lk : ∀ j : Nat, alook (p.tl ++ [(.int i, .ref e)]) (.int j) = if j = i then some (.ref e) else alook p.tl (.int j) := fun j => by
      rw [← aput_new hx, aput_look]
      by_cases hj : j = i
      · subst hj; rw [V.beq_self, if_pos rfl, if_pos rfl]
      · rw [int_ne hj, if_neg hj]; rfl
    have er : (if (alook ([] : List (V × V)) (V.tup vs)).isSome = true then ([] : List (V × V)) else [] ++ [(V.tup vs, v)]) = [(V.tup vs, v)] := rfl
    rw [er]
    refine ⟨q hM.m (qt hM.tM (by simp)), q hM.md (qt hM.tMd (by simp)), (upd_ne nTe).trans upd_same, q hM.o (qt hM.tO (by simp)), fun j hj => ?_, fun j r' h' hj1 hj2 hj3 => ?_, ⟨is ++ [i], ?_, ?_, ?_⟩, hM.mok, hM.mlen, tg hM.m hM.tM, tg hM.md hM.tMd, tg hM.t hM.tT, tg hM.o hM.tO⟩
    · replace hj : (p.rows.set i [(V.tup vs, v)])[j]? = some [] := hj
      show alook (p.tl ++ [(.int i, .ref e)]) (.int j) = none
      rw [List.getElem?_set] at hj
      split at hj
      · simp [irt] at hj
      · rename_i e2
        rw [lk, if_neg (Ne.symm e2)]; exact hM.tno j hj
    · replace hj1 : (p.rows.set i [(V.tup vs, v)])[j]? = some r' := hj1
      replace hj2 : p.heads[j]? = some h' := hj2
      show ∃ t, alook (p.tl ++ [(.int i, .ref e)]) (.int j) = some (.ref t) ∧ _
      rw [List.getElem?_set] at hj1
      split at hj1
      · rename_i e2; subst e2
        cases hj1
        rw [hi] at hj2; cases hj2
        exact ⟨e, by rw [lk, if_pos rfl], upd_same, by show (if e = e then Tg.tab i else p.tg e) = .tab i; rw [if_pos rfl]⟩
      · rename_i e2
        obtain ⟨t', a1, a2, a3⟩ := hM.tso j r' h' hj1 hj2 hj3
        exact ⟨t', by rw [lk, if_neg (Ne.symm e2)]; exact a1, q a2 (qt a3 (by simp)), tg a2 a3⟩
    · show (p.tl ++ [(V.int i, V.ref e)]).map (·.1) = _
      rw [List.map_append, hk, List.map_append]; rfl
    · intro j hj
      rcases List.mem_append.mp hj with hj | hj
      · exact hlt j hj
      · rw [List.mem_singleton.mp hj]; exact ilt
    · rw [List.nodup_append]
      exact ⟨hnd, by simp, fun a ha b hb q => hni (by rw [List.mem_singleton.mp hb] at q; rw [← q]; exact ha)⟩
end
noncomputable def relN (ns : List (Str × NameKind)) (names : List (Str × NameKind)) : List (Str × NameKind) := names.map fun (n, k) => if (k == NameKind.free && ns.lookup n == some .cell) then (n, NameKind.cell) else (n, k)
theorem Nm.comp {env : Env} {ns ms : List (Str × NameKind)} (h : Nm env ns) {scope : Scope} {cl : List (Str × Addr)} {Cl : Addr} (hk : scope.kind = .function) (hm : relN ns scope.names = ms) : Nm (compEnvC scope cl Cl env) ms := by
  refine ⟨?_, hk, h.gl, h.bt⟩
  rw [← hm]
  unfold compEnvC relabel relN
  dsimp only
  congr 1
  funext x
  obtain ⟨n, k⟩ := x
  dsimp only
  unfold Env.kindOf
  rw [h.kind, h.names]
  have : (ScopeKind.function == ScopeKind.function) = true := by decide
  rw [this, Bool.and_true]

noncomputable def Ws.withOw (p : Ws) (l : List (V × V)) : Ws := { p with ow := l }
noncomputable def Ws.withOm (p : Ws) (l : List (V × V)) : Ws := { p with om := l }
section
variable {σ : Store} {p : Ws}
theorem keep_tag {a b : Addr} {c d : Cell} {x y : Tg} (e : σ b = some d) (ta : p.tg a = x) (tb : p.tg b = y) (h : y ≠ x) : upd σ a c b = some d := (upd_ne (ne_tag tb ta h)).trans e
theorem Bnk.at {a : Addr} {c : Cell} {x : Tg} (h : Bnk σ p) (t : p.tg a = x) (h1 : Tg.b ≠ x) (h2 : Tg.bd ≠ x) (h3 : Tg.sn ≠ x) (h4 : Tg.sw ≠ x) (h5 : Tg.sr ≠ x) : Bnk (upd σ a c) p :=
  ⟨keep_tag h.b t h.tB h1, keep_tag h.bd t h.tBd h2, h.bno, h.bsn, h.bsw, h.bsr, keep_tag h.sn t h.tSn h3, keep_tag h.sw t h.tSw h4, keep_tag h.sr t h.tSr h5, h.tB, h.tBd, h.tSn, h.tSw, h.tSr⟩
theorem Mdl.at {a : Addr} {c : Cell} {x : Tg} (h : Mdl σ p) (t : p.tg a = x) (h1 : Tg.m ≠ x) (h2 : Tg.md ≠ x) (h3 : Tg.t ≠ x) (h4 : Tg.o ≠ x) (h5 : ∀ i, Tg.tab i ≠ x) : Mdl (upd σ a c) p :=
  ⟨keep_tag h.m t h.tM h1, keep_tag h.md t h.tMd h2, keep_tag h.t t h.tT h3, keep_tag h.o t h.tO h4, h.tno, fun i r x e1 e2 e3 => let ⟨u, a1, a2, a3⟩ := h.tso i r x e1 e2 e3; ⟨u, a1, keep_tag a2 t a3 (h5 i), a3⟩, h.keys, h.mok, h.mlen, h.tM, h.tMd, h.tT, h.tO⟩
theorem Bnk.withOw (h : Bnk σ p) {l : List (V × V)} : Bnk σ (p.withOw l) := ⟨h.b, h.bd, h.bno, h.bsn, h.bsw, h.bsr, h.sn, h.sw, h.sr, h.tB, h.tBd, h.tSn, h.tSw, h.tSr⟩
theorem Mdl.withOw (h : Mdl σ p) {l : List (V × V)} : Mdl σ (p.withOw l) := ⟨h.m, h.md, h.t, h.o, h.tno, h.tso, h.keys, h.mok, h.mlen, h.tM, h.tMd, h.tT, h.tO⟩
theorem Bnk.withOm (h : Bnk σ p) {l : List (V × V)} : Bnk σ (p.withOm l) := ⟨h.b, h.bd, h.bno, h.bsn, h.bsw, h.bsr, h.sn, h.sw, h.sr, h.tB, h.tBd, h.tSn, h.tSw, h.tSr⟩
theorem Bnk.withRow (h : Bnk σ p) {i : Nat} {r : List (V × V)} : Bnk σ (p.withRow i r) := ⟨h.b, h.bd, h.bno, h.bsn, h.bsw, h.bsr, h.sn, h.sw, h.sr, h.tB, h.tBd, h.tSn, h.tSw, h.tSr⟩
theorem Wld.withOm (h : Wld σ p) {l : List (V × V)} : Wld σ (p.withOm l) :=
  ⟨h.feed, h.w, h.ls, h.lh, h.lr, h.od, h.phs, h.ras, h.lph, h.lra, h.lro, h.few, h.hok, h.rok, h.wok, h.wlen, h.tFd, h.tLc, h.tW, h.tLs, h.tLh, h.tLr, h.tDo⟩
theorem Wld.at {a : Addr} {c : Cell} {x : Tg} (h : Wld σ p) (t : p.tg a = x) (h1 : ∀ y ∈ [Tg.fd, .lc, .w, .ls, .lh, .lr, .od], y ≠ x) (h2 : ∀ i, Tg.ph i ≠ x) (h3 : ∀ i, Tg.ra i ≠ x) : Wld (upd σ a c) p := by
  have hf := h.feed
  exact ⟨⟨keep_tag hf.fd t h.tFd (h1 _ (by simp)), keep_tag hf.lc t h.tLc (h1 _ (by simp)), hf.lo, hf.hi, hf.cz⟩, keep_tag h.w t h.tW (h1 _ (by simp)), keep_tag h.ls t h.tLs (h1 _ (by simp)), keep_tag h.lh t h.tLh (h1 _ (by simp)), keep_tag h.lr t h.tLr (h1 _ (by simp)), keep_tag h.od t h.tDo (h1 _ (by simp)),
    fun i a x e1 e2 => let ⟨u, v⟩ := h.phs i a x e1 e2; ⟨keep_tag u t v (h2 i), v⟩, fun i a x e1 e2 => let ⟨u, v⟩ := h.ras i a x e1 e2; ⟨keep_tag u t v (h3 i), v⟩,
    h.lph, h.lra, h.lro, h.few, h.hok, h.rok, h.wok, h.wlen, h.tFd, h.tLc, h.tW, h.tLs, h.tLh, h.tLr, h.tDo⟩
theorem Wld.setOw (h : Wld σ p) {i : Nat} {v : V} {x : List Int × Int} (hx : p.heads[i]? = some x) (hv : ValOk x.2 v) (hl : p.ow.length ≤ 99) : Wld (upd σ p.Do (.dict .int (aput p.ow (.int i) v))) (p.withOw (aput p.ow (.int i) v)) := by
  have hf := h.feed
  have t := h.tDo
  exact ⟨⟨keep_tag hf.fd t h.tFd (by simp), keep_tag hf.lc t h.tLc (by simp), hf.lo, hf.hi, hf.cz⟩, keep_tag h.w t h.tW (by simp), keep_tag h.ls t h.tLs (by simp), keep_tag h.lh t h.tLh (by simp), keep_tag h.lr t h.tLr (by simp), upd_same,
    fun i a x e1 e2 => let ⟨u, v⟩ := h.phs i a x e1 e2; ⟨keep_tag u t v (by simp), v⟩, fun i a x e1 e2 => let ⟨u, v⟩ := h.ras i a x e1 e2; ⟨keep_tag u t v (by simp), v⟩,
    h.lph, h.lra, h.lro, h.few, h.hok, h.rok, fun j y u e1 e2 => by
      replace e2 : alook (aput p.ow (.int i) v) (.int j) = some u := e2
      replace e1 : p.heads[j]? = some y := e1
      rw [aput_look] at e2
      split at e2
      · rename_i q
        have := V.beq_eq q
        injection this with this
        have hij : i = j := by omega
        subst hij
        rw [hx] at e1; cases e1; cases e2
        exact hv
      · exact h.wok j y u e1 e2, by have := @aput_length p.ow (.int i) v; show (aput p.ow (.int i) v).length ≤ 100; omega, h.tFd, h.tLc, h.tW, h.tLs, h.tLh, h.tLr, h.tDo⟩
theorem Mdl.setOm (h : Mdl σ p) {i : Nat} {v : V} {x : List Int × Int} (hx : p.heads[i]? = some x) (hv : ValOk x.2 v) (hl : p.om.length ≤ 99) : Mdl (upd σ p.O (.dict .int (aput p.om (.int i) v))) (p.withOm (aput p.om (.int i) v)) := by
  have t := h.tO
  exact ⟨keep_tag h.m t h.tM (by simp), keep_tag h.md t h.tMd (by simp), keep_tag h.t t h.tT (by simp), upd_same, h.tno, fun i r x e1 e2 e3 => let ⟨u, a1, a2, a3⟩ := h.tso i r x e1 e2 e3; ⟨u, a1, keep_tag a2 t a3 (by simp), a3⟩, h.keys,
    fun j y u e1 e2 => by
      replace e2 : alook (aput p.om (.int i) v) (.int j) = some u := e2
      replace e1 : p.heads[j]? = some y := e1
      rw [aput_look] at e2
      split at e2
      · rename_i q
        have := V.beq_eq q
        injection this with this
        have hij : i = j := by omega
        subst hij
        rw [hx] at e1; cases e1; cases e2
        exact hv
      · exact h.mok j y u e1 e2, by have := @aput_length p.om (.int i) v; show (aput p.om (.int i) v).length ≤ 100; omega, h.tM, h.tMd, h.tT, h.tO⟩
theorem Wld.setRow (h : Wld σ p) {i : Nat} {a : Addr} {r r' : List (V × V)} {x : List Int × Int} (hx : p.heads[i]? = some x) (ha : p.ra[i]? = some a) (hr : p.rows[i]? = some r) (hok : RowOk x r') : Wld (upd σ a (.list (itemsOf r'))) (p.withRow i r') := by
  have hf := h.feed
  have t := (h.ras i a r ha hr).2
  have irt := (List.getElem?_eq_some_iff.mp hr).1
  refine ⟨⟨keep_tag hf.fd t h.tFd (by simp), keep_tag hf.lc t h.tLc (by simp), hf.lo, hf.hi, hf.cz⟩, keep_tag h.w t h.tW (by simp), keep_tag h.ls t h.tLs (by simp), keep_tag h.lh t h.tLh (by simp), keep_tag h.lr t h.tLr (by simp), keep_tag h.od t h.tDo (by simp),
    fun i a x e1 e2 => let ⟨u, v⟩ := h.phs i a x e1 e2; ⟨keep_tag u t v (by simp), v⟩, fun j b y e1 e2 => ?_,
    h.lph, h.lra, ?_, h.few, h.hok, fun j y z e1 e2 => ?_, h.wok, h.wlen, h.tFd, h.tLc, h.tW, h.tLs, h.tLh, h.tLr, h.tDo⟩
  · replace e2 : (p.rows.set i r')[j]? = some y := e2
    replace e1 : p.ra[j]? = some b := e1
    rw [List.getElem?_set] at e2
    split at e2
    · rename_i q; subst q
      cases e2
      rw [ha] at e1; cases e1
      exact ⟨upd_same, t⟩
    · rename_i q
      obtain ⟨u, v⟩ := h.ras j b y e1 e2
      exact ⟨keep_tag u t v (by simp; omega), v⟩
  · show (p.rows.set i r').length = p.heads.length
    rw [List.length_set]; exact h.lro
  · replace e1 : (p.rows.set i r')[j]? = some y := e1
    replace e2 : p.heads[j]? = some z := e2
    rw [List.getElem?_set] at e1
    split at e1
    · rename_i q; subst q
      cases e1
      rw [hx] at e2; cases e2
      exact hok
    · exact h.rok j y z e1 e2
end
noncomputable def Ws.atK (p : Ws) (k : Int) : Ws := { p with k := k }
/-- all but the feed stands -/
noncomputable def But (a : Addr) (σ σ' : Store) : Prop := ∀ b c, σ b = some c → b ≠ a → σ' b = some c
theorem But.refl (a : Addr) (σ : Store) : But a σ σ := fun _ _ e _ => e
theorem But.trans {a : Addr} {x y z : Store} (h : But a x y) (h' : But a y z) : But a x z := fun b c e n => h' b c (h b c e n) n
theorem But.upd {a : Addr} {σ σ' : Store} {c : Cell} (h : But a σ σ') : But a σ (upd σ' a c) := fun b d e n => (upd_ne n).trans (h b d e n)
theorem But.le {a : Addr} {σ σ' : Store} (h : StLe σ σ') : But a σ σ' := fun b c e _ => h b c e
section
variable {σ σ' : Store} {p : Ws}
theorem Wld.refeed {k : Int} (h : Wld σ p) (b : But p.Fd σ σ') (f : Feed σ' p.Fd p.Lc p.cs k) : Wld σ' (p.atK k) := by
  have q : ∀ {a c τ}, σ a = some c → p.tg a = τ → τ ≠ .fd → σ' a = some c := fun e t n => b _ _ e (ne_tag t h.tFd n)
  exact ⟨f, q h.w h.tW (by simp), q h.ls h.tLs (by simp), q h.lh h.tLh (by simp), q h.lr h.tLr (by simp), q h.od h.tDo (by simp),
    fun i a x e1 e2 => let ⟨u, v⟩ := h.phs i a x e1 e2; ⟨q u v (by simp), v⟩, fun i a x e1 e2 => let ⟨u, v⟩ := h.ras i a x e1 e2; ⟨q u v (by simp), v⟩,
    h.lph, h.lra, h.lro, h.few, h.hok, h.rok, h.wok, h.wlen, h.tFd, h.tLc, h.tW, h.tLs, h.tLh, h.tLr, h.tDo⟩
theorem Bnk.refeed {k : Int} (h : Bnk σ p) (hW : p.tg p.Fd = .fd) (b : But p.Fd σ σ') : Bnk σ' (p.atK k) := by
  have q : ∀ {a c τ}, σ a = some c → p.tg a = τ → τ ≠ .fd → σ' a = some c := fun e t n => b _ _ e (ne_tag t hW n)
  exact ⟨q h.b h.tB (by simp), q h.bd h.tBd (by simp), h.bno, h.bsn, h.bsw, h.bsr, q h.sn h.tSn (by simp), q h.sw h.tSw (by simp), q h.sr h.tSr (by simp), h.tB, h.tBd, h.tSn, h.tSw, h.tSr⟩
theorem Mdl.refeed {k : Int} (h : Mdl σ p) (hW : p.tg p.Fd = .fd) (b : But p.Fd σ σ') : Mdl σ' (p.atK k) := by
  have q : ∀ {a c τ}, σ a = some c → p.tg a = τ → τ ≠ .fd → σ' a = some c := fun e t n => b _ _ e (ne_tag t hW n)
  exact ⟨q h.m h.tM (by simp), q h.md h.tMd (by simp), q h.t h.tT (by simp), q h.o h.tO (by simp), h.tno, fun i r x e1 e2 e3 => let ⟨u, a1, a2, a3⟩ := h.tso i r x e1 e2 e3; ⟨u, a1, q a2 a3 (by simp), a3⟩, h.keys, h.mok, h.mlen, h.tM, h.tMd, h.tT, h.tO⟩
end
theorem args_snoc : ∀ {l : List Int} {vs : List V} {s : Int} {v : V}, ArgsOk l vs → ValOk s v → ArgsOk (l ++ [s]) (vs ++ [v])
  | [], vs, s, v, h, hv => by rw [show vs = [] from h]; exact ⟨v, [], rfl, hv, rfl⟩
  | x :: l, vs, s, v, ⟨y, r, e, a, b⟩, hv => by subst e; exact ⟨y, r ++ [v], rfl, a, args_snoc b hv⟩

section
variable {w : World} {C : Cx} {A : Around} {m : Loc} {h₀ : Heap} {σ : Store} {K : V → Store → Prop} {p : Ws} {n : Nat}
/-- drawn values of given sorts -/
theorem ev_vals {iter : PySem.Expr} {scope : Scope} {pos p0 p1 p2 p3 p4 : Pos} {ns ms : List (Str × NameKind)} {c Fd Lc : Addr} {cs : List Int} (G : Gd w C.h₀) (hR : Room 3 A) (O : C.Own) (ok : C.Ok) (hn : Nm C.env ns) (hce : C.env.cells = [(("feed" : Str), c)])
    (hclos : closureFor scope C.env = pure [(("feed" : Str), c)]) (hcell : ∀ y ∈ scope.names, y.2 ≠ .cell) (hkind : scope.kind = .function) (hnames : ∀ y ∈ scope.names, y.2 = .local → scope.names.lookup y.1 = some .local)
    (hms : relN ns scope.names = ms) (h1 : ms.lookup ("s" : Str) = some .local) (h2 : ms.lookup ("feed" : Str) = some .cell) (h3 : ms.lookup ("_law_value" : Str) = some .globalImplicit) (hs : ∀ x, foldedSetIterable iter C.env x = pure x)
    (hm : m "feed" = some (.ref Fd))
    (h : Ev w C A (eval iter C.env) m σ (fun v σ₁ => ∃ (a : Addr) (k : Int) (sorts : List Int), v = .ref a ∧ σ₁ a = some (.list (sorts.map .int)) ∧ a ≠ Fd ∧ sorts.length ≤ 10 ∧ Feed σ₁ Fd Lc cs k ∧ k ≤ 999000 ∧
      ∀ acc k' σ₂, ArgsOk sorts acc → But Fd σ₁ σ₂ → Feed σ₂ Fd Lc cs k' → k' ≤ k + 10 → ∀ D, σ₂ D = none → K (.ref D) (upd σ₂ D (.list acc)))) :
    Ev w C A (eval (.ListComp (.Call (.Name "_law_value" p1) [.Name "feed" p2, .Name "s" p3] [] p4) [⟨.Name "s" p0, iter, [], 0⟩] scope pos) C.env) m σ K := by
  refine ev_comp [(("feed" : Str), c)] hR.handled O ok hclos ⟨fun x c' e => by rw [hce]; exact e⟩ hcell hkind hnames (.inl ⟨_, _, rfl⟩) hs (si_of (Gn.mono h ?_))
  rintro v σ₁ ⟨a, k, sorts, rfl, ha, haf, hl, hF, hk, fin⟩
  refine ⟨true, _, _, src_list ha, .inl rfl, fun i acc σ₂ => ArgsOk (sorts.take i) acc ∧ But Fd σ₁ σ₂ ∧ (∃ k', Feed σ₂ Fd Lc cs k' ∧ k' ≤ k + i) , by rw [List.length_map, sizeLine_eq]; omega, ⟨rfl, .refl _ _, k, hF, by omega⟩, fun i acc σ h => h.2.1 _ _ ha haf, ?_, ?_⟩
  · rintro Cl base O' ok' i v acc σ₂ hv ⟨hargs, hbut, k', hF', hk'⟩
    have hil : i < sorts.length := by have := (List.getElem?_eq_some_iff.mp hv).1; simpa using this
    rw [List.getElem?_map, Option.map_eq_some_iff] at hv
    obtain ⟨s, hs', rfl⟩ := hv
    have hnm : Nm (compEnvC scope [(("feed" : Str), c)] Cl C.env) ms := hn.comp hkind hms
    have hcc : (compEnvC scope [(("feed" : Str), c)] Cl C.env).cells = [(("feed" : Str), c)] := rfl
    have hmf : mIn [(("feed" : Str), c)] m "feed" = some (.ref Fd) := by unfold mIn; rw [show ([(("feed" : Str), c)] : List (Str × Addr)).lookup ("feed" : Str) = some c from rfl]; exact hm
    refine ⟨set (mIn [(("feed" : Str), c)] m) "s" (.int s), .set (.refl _) (by unfold mIn; rw [show ([(("feed" : Str), c)] : List (Str × Addr)).lookup ("s" : Str) = none from rfl]; rfl), as_name (nm_st' (C := inner C scope [(("feed" : Str), c)] Cl base) hnm hcc h1 rfl O'), ts_nil ⟨fun _ => ?_, fun h => by cases h⟩⟩
    refine ev_call' (nm_globr (C := inner C scope [(("feed" : Str), c)] Cl base) ng_law_value hnm ok' G h3 ?_ (by decide +kernel))
    refine f_ref (opw_ref ok' G (by with_unfolding_all rfl) ?_ (star_plain rfl) (by rfl))
    refine evs_cons (nm_cell (C := inner C scope [(("feed" : Str), c)] Cl base) hnm hcc h2 rfl ((set_other (by decide +kernel)).trans hmf) ?_ (by decide +kernel)) (star_plain rfl)
    refine evs_cons (nm_local' (C := inner C scope [(("feed" : Str), c)] Cl base) hnm hcc h1 rfl set_same ?_ (by decide +kernel)) (star_plain rfl)
    refine evs_nil (opc_fn ok' (c_value G (hR.le (by decide)) hF' fun v hv => ?_).call)
    refine ⟨?_, hbut.upd, k' + 1, ⟨upd_same, (upd_ne hF'.ne).trans hF'.lc, by have := hF'.lo; omega, by omega, hF'.cz⟩, by push_cast; omega⟩
    rw [List.take_add_one, hs']
    exact args_snoc hargs hv
  · rintro acc σ₂ _ ⟨hargs, hbut, k', hF', hk'⟩ D hD
    rw [List.length_map, List.take_length] at hargs
    rw [List.length_map] at hk'
    exact fin acc k' σ₂ hargs hbut hF' (by omega) D hD
end
section
variable {w : World} {C : Cx} {A : Around} {m : Loc} {σ : Store} {K : V → Store → Prop} {N : Loc → Store → Prop} {R : V → Store → Prop}
theorem ex_tup {elts : List PySem.Expr} {k : Nat} {tpos pos : Pos} {value : PySem.Expr} {env : Env} (h : Ev w C A (eval value env) m σ (fun v σ₁ => ∃ m', As w C A (assign (.Tuple elts k tpos) env) v m σ₁ m' ∧ N m' σ₁))
    (hs : swapsWithSole [.Tuple elts k tpos] value pos.line env = pure false) (hw : swappedStores [.Tuple elts k tpos] value env = pure none) : Ex w C A (exec (.Assign [.Tuple elts k tpos] value pos) env) m σ N R := fun s r =>
  Assign_Tuple (h.use r fun u s₁ v σ₁ t y r₁ ⟨m', a, n⟩ => wpAny_mono (a s₁ u r₁ y) (fun _ s₂ ⟨t₂, r₂⟩ => ⟨t.trans t₂, m', σ₁, r₂, n⟩) (fun _ _ e => e)) hs hw
theorem as_bind {x : Str} {v : V} {m' : Loc} {env : Env} (h : As w C A (storeName env x) v m σ m') : As w C A (bindName env x) v m σ m' := fun s u r y => by
  unfold bindName
  exact wpAny_bind (wpAny_holding (wpAny_point (wpAny_bind (wpAny_mono (h s u r y) (fun _ s₂ x => wpAny_point x) (fun _ _ e => e)))))
theorem VAll.reverse {h : Heap} : ∀ {l : List V} {us : List Value}, VAll h l us → VAll h l.reverse us.reverse
  | [], us, x => by rw [x.nil_inv]; exact .nil
  | v :: l, us, x => by
    obtain ⟨u, r, rfl, a, b⟩ := x.cons_inv
    rw [List.reverse_cons, List.reverse_cons]
    exact b.reverse.append (.cons a .nil)
theorem ex_tup_swap {elts : List PySem.Expr} {k : Nat} {tpos pos : Pos} {value : PySem.Expr} {env : Env} {names : List Str} (hh : A.handled = none)
    (h : Ev w C A (eval value env) m σ (fun v σ₁ => ∃ vs m', v = .tup vs ∧ vs.length = names.length ∧ AsL w C A (names.reverse.map fun n => bindName env n) vs.reverse m σ₁ m' ∧ N m' σ₁))
    (hs : swapsWithSole [.Tuple elts k tpos] value pos.line env = pure false) (hw : swappedStores [.Tuple elts k tpos] value env = pure (some names)) : Ex w C A (exec (.Assign [.Tuple elts k tpos] value pos) env) m σ N R := fun s r =>
  Assign_Tuple_swapped (h.use r fun u s₁ v σ₁ t y r₁ ⟨vs, m', e, hl, a, n⟩ => by
    subst e
    obtain ⟨ad, nn, us, rfl, g, z⟩ := y.tup_inv
    have hlen : names.length = us.size := by rw [← Array.length_toList, z.length, hl]
    rw [hlen]
    refine unpackItems_tuple hh ⟨_, g, rfl, nn, rfl⟩ fun h' he => ?_
    have kk := keeps_of_ext he
    have tl := TupLe.of_keeps kk
    exact wpAny_mono (a _ us.toList.reverse (r₁.grow (t := s₁.toks) kk) (z.mono tl).reverse) (fun _ s₂ ⟨t₂, r₂⟩ => ⟨(t.trans tl).trans t₂, m', σ₁, r₂, n⟩) (fun _ _ e => e)) hs hw
end

structure St (σ : Store) (p : Ws) : Prop where
  W : Wld σ p
  B : Bnk σ p
  M : Mdl σ p
  ag : ∀ (i : Nat) x, p.heads[i]? = some x → elseV p.ow i x = elseV p.om i x
theorem St.le {σ σ' : Store} {p : Ws} (h : St σ p) (s : StLe σ σ') : St σ' p := ⟨h.W.le s, h.B.le s, h.M.le s, h.ag⟩
theorem St.refeed {σ σ' : Store} {p : Ws} {k : Int} (h : St σ p) (b : But p.Fd σ σ') (f : Feed σ' p.Fd p.Lc p.cs k) : St σ' (p.atK k) := ⟨h.W.refeed b f, h.B.refeed h.W.tFd b, h.M.refeed h.W.tFd b, h.ag⟩
theorem St.tick {σ : Store} {p : Ws} (h : St σ p) (hk : p.k + 1 ≤ 1000000) : St (upd σ p.Fd (feedC p.Lc (p.k + 1))) (p.atK (p.k + 1)) :=
  h.refeed (But.refl _ _).upd ⟨upd_same, (upd_ne h.W.feed.ne).trans h.W.feed.lc, by have := h.W.feed.lo; omega, hk, h.W.feed.cz⟩
theorem met_eq {σ : Store} {p : Ws} (h : St σ p) {s : Int} : met p p.om s p.heads.length = met p p.ow s p.heads.length := by
  have : ∀ n, n ≤ p.heads.length → met p p.om s n = met p p.ow s n := fun n => by
    induction n with
    | zero => intro _; rfl
    | succ n ih =>
      intro hn
      rw [met_succ, met_succ, ih (by omega)]
      unfold metFun
      obtain ⟨x, hx⟩ : ∃ x, p.heads[n]? = some x := ⟨p.heads[n], by simp [show n < p.heads.length from hn]⟩
      rw [show hdAt p n = x from by unfold hdAt; rw [hx]; rfl, h.ag n x hx]
  exact this _ (Nat.le_refl _)

section
variable {w : World} {A : Around} {h₀ : Heap} {σ : Store} {K : V → Store → Prop} {p : Ws} {n : Nat}
theorem eqvL_self {l : List V} : eqvL l l = true := eqv_pyL l

theorem c_are (G : Gd w h₀) (hR : Room 5 A) (hS : St σ p) (hK : ∀ σ', StLe σ σ' → K (.bool true) σ') : CallC w h₀ A (.ref 739) [.ref p.W, .ref p.M] σ K := by
  refine bodyN (n := 4) (names := ["world", "tables"]) G hR (by rfl) (by rfl) (by rfl) (by rfl) (by intro us hu; obtain ⟨a, b, rfl⟩ := len2 hu; rfl) (by rfl) (by wtm_at "binds") (by rfl) (by rfl) (by rfl) (by rfl) (by rfl) ?_
  intro L q env base os A' he hnm hce hR' ok O
  dsimp only at hnm
  clear he
  replace hce : env.cells = [] := hce.trans rfl
  show Ex w _ _ _ (set (set (fun _ => none) "world" (.ref p.W)) "tables" (.ref p.M)) _ _ _
  have hh := hR'.handled
  wtm_at "go"
  refine ex_for hh O ok (.refl _) (by wtm_at "tg") (si_of ?_) (by wtm_at "fs")
  wtm_at "go"
  refine item_s hR' hS.W.w (by decide +kernel) (by wtm_at "look") ?_
  refine ⟨true, _, _, src_list hS.W.ls, .inl rfl, fun i σ₁ => StLe σ σ₁, .refl _, fun i σ h => h _ _ hS.W.ls, ?_, ?_⟩
  · rintro base' O' ok' j v σ₁ hv le
    replace O' : Cx.Own ⟨h₀, base', env, os⟩ := O'
    replace ok' : Cx.Ok ⟨h₀, base', env, os⟩ := ok'
    obtain ⟨s, words, rfl, hs⟩ : ∃ s words, v = .tup [.int s, words] ∧ True := by
      match j, hv with
      | 0, hv => cases hv; exact ⟨_, _, rfl, trivial⟩
      | 1, hv => cases hv; exact ⟨_, _, rfl, trivial⟩
      | j + 2, hv => simp at hv
    refine ⟨_, by wtm_at "as2", ?_⟩
    wtm_at "go"
    refine ⟨_, cl_meth pc_559 me_559_elements ok' G (le _ _ hS.M.m) (le _ _ hS.M.md) (by rfl), ?_⟩
    wtm_at "go"
    refine opc_fn ok' (m_elements G hR' (hS.W.le le) (hS.B.le le) (hS.M.le le) fun a σ₂ ns le₂ ga hp hs => ?_).call
    wtm_at "go"
    refine opc_fn ok' (c_met G (hR'.le (by decide)) (hS.W.le (le.trans le₂)) fun b σ₃ ns' le₃ gb hp' hs' => ?_).call
    rw [met_eq hS] at hp
    obtain rfl : ns = ns' := lks_uniq (hp.trans hp'.symm) hs hs'
    refine op_nel (hR'.uk (by decide)) (le₃ _ _ ga) gb ints_flat ints_flat ⟨_, rfl, ?_⟩
    rw [eqvL_self]
    wtm_at "no"
    wtm_at "go"
    exact ⟨by wtm_at "lo", (le.trans le₂).trans le₃⟩
  · rintro σ₁ le
    wtm_at "go"
    exact hK _ le
end
/-- the same world, with other contents -/
noncomputable def Ws.of (p : Ws) (k : Int) (rows : List (List (V × V))) (ow om tl : List (V × V)) (tg : Addr → Tg) : Ws := { p with k := k, rows := rows, ow := ow, om := om, tl := tl, tg := tg }
structure Small (p : Ws) (b : Nat) : Prop where
  rows : ∀ r ∈ p.rows, r.length ≤ b
  ow : p.ow.length ≤ b
  om : p.om.length ≤ b
theorem row_has {h : List Int × Int} {r : List (V × V)} (hr : RowOk h r) : ∀ y ∈ r, V.has (DK.tup (h.1.map shape)).sh y.1 := fun y hy => by
  obtain ⟨vs, e, a, _⟩ := hr.args y hy
  rw [e]; exact has_tup_of (args_has a)
theorem row_val {h : List Int × Int} {r : List (V × V)} (hr : RowOk h r) {k v : V} (e : alook r k = some v) : ValOk h.2 v := by
  obtain ⟨y, hy, rfl⟩ := Option.map_eq_some_iff.mp e
  obtain ⟨vs, _, _, a⟩ := hr.args y (List.mem_of_find?_eq_some hy)
  exact a
theorem row_snoc {h : List Int × Int} {r : List (V × V)} {vs : List V} {v : V} (hr : RowOk h r) (ha : ArgsOk h.1 vs) (hv : ValOk h.2 v) (hn : alook r (.tup vs) = none) (hl : r.length ≤ 19) : RowOk h (r ++ [(.tup vs, v)]) := by
  refine ⟨fun y hy => ?_, ?_, by rw [List.length_append, List.length_singleton]; omega⟩
  · rcases List.mem_append.mp hy with hy | hy
    · exact hr.args y hy
    · rw [List.mem_singleton.mp hy]; exact ⟨vs, rfl, ha, hv⟩
  · rw [← aput_new hn]; exact aput_nodup hr.nodup
section
variable {w : World} {A : Around} {h₀ : Heap} {σ : Store} {K : V → Store → Prop} {p : Ws} {n : Nat}

theorem c_deed {b : Nat} (G : Gd w h₀) (hR : Room 5 A) (hS : St σ p) (hs : Small p b) (hb : b ≤ 15) (h0 : 0 < p.heads.length) (hk : p.k ≤ 900000)
    (hK : ∀ σ' k rows ow om tl tg, St σ' (p.of k rows ow om tl tg) → Small (p.of k rows ow om tl tg) (b + 1) → k ≤ p.k + 100 → K .none σ') : CallC w h₀ A (.ref 749) [.ref p.Fd, .ref p.W, .ref p.M] σ K := by
  refine bodyN (n := 4) (names := ["feed", "world", "tables"]) G hR (by rfl) (by rfl) (by rfl) (by rfl) (by intro us hu; obtain ⟨a, b, c, rfl⟩ := len3 hu; rfl) (by rfl) (by wtm_at "binds") (by rfl) (by rfl) (by rfl) (by rfl) (by rfl) ?_
  intro L q env base os A' he hnm hce hR' ok O
  dsimp only at hnm
  dsimp only at hce he
  show Ex w _ _ _ (set (set (set (fun _ => none) "feed" (.ref p.Fd)) "world" (.ref p.W)) "tables" (.ref p.M)) _ _ _
  have hh := hR'.handled
  replace hce : env.cells = [(("feed" : Str), L + 1)] := hce.trans rfl
  have few := hS.W.few
  have klo := hS.W.feed.lo
  wtm_at "go"
  refine item_s hR' hS.W.w (by decide +kernel) (by wtm_at "look") ?_
  wtm_at "go"
  have hlen : (List.zipWith headV p.ph p.heads).length = p.heads.length := by simp [hS.W.lph]
  refine c_len_list hS.W.lh (by rw [hlen]; omega) ?_
  rw [hlen]
  wtm_at "go"
  refine opc_fn ok (c_draw G (hR'.le (by decide)) hS.W.feed (by omega) (by omega) fun v v0 v1 => ?_).call
  obtain ⟨i, rfl⟩ : ∃ i : Nat, v = i := ⟨v.toNat, by omega⟩
  have hi : i < p.heads.length := by omega
  obtain ⟨x, hx⟩ : ∃ x, p.heads[i]? = some x := ⟨p.heads[i], by simp [hi]⟩
  obtain ⟨r, hr⟩ : ∃ r, p.rows[i]? = some r := ⟨p.rows[i]'(by rw [hS.W.lro]; exact hi), by simp [hS.W.lro, hi]⟩
  have xok := hS.W.hok x (List.mem_of_getElem? hx)
  have S1 := hS.tick (by omega)
  generalize upd σ p.Fd (feedC p.Lc (p.k + 1)) = σ1 at *
  obtain ⟨pa, hpa, hza, hσa⟩ := S1.W.head hx
  wtm_at "go"
  refine ex_tup ?_ (by rfl) (by rfl)
  wtm_at "go"
  refine item_s hR' S1.W.w (by decide +kernel) (by wtm_at "look") ?_
  wtm_at "go"
  refine item_l (v := headV pa x) S1.W.lh (by omega) (by omega) (by simpa using hza) ?_
  unfold headV
  refine ⟨_, by wtm_at "as2", ?_⟩
  wtm_at "go"
  refine opc_fn ok (c_draw G (hR'.le (by decide)) S1.W.feed (by decide) (by decide) fun v v0 v1 => ?_).call
  replace S1 : St σ1 (p.atK (p.k + 1)) := S1
  have S2 : St (upd σ1 p.Fd (feedC p.Lc (p.k + 1 + 1))) (p.atK (p.k + 1 + 1)) := S1.tick (by show p.k + 1 + 1 ≤ _; omega)
  have hpF : pa ≠ p.Fd := ne_tag (S1.W.phs i pa x hpa hx).2 S1.W.tFd (by simp)
  have hσa2 := (upd_ne (c := feedC p.Lc (p.k + 1 + 1)) hpF).trans hσa
  have hσ : upd σ1 (p.atK (p.k + 1)).Fd (feedC (p.atK (p.k + 1)).Lc ((p.atK (p.k + 1)).k + 1)) = upd σ1 p.Fd (feedC p.Lc (p.k + 1 + 1)) := rfl
  rw [hσ]
  clear hσ
  generalize upd σ1 p.Fd (feedC p.Lc (p.k + 1 + 1)) = σ2 at *
  replace S2 : St σ2 (p.atK (p.k + 1 + 1)) := S2
  have hsr := hs.rows r (List.mem_of_getElem? hr)
  wtm_at "go"
  refine ⟨_, rfl, fun _ => ?_, fun _ => ?_⟩
  · wtm_at "go"
    refine opc_fn ok (c_value G (hR'.le (by decide)) S2.W.feed fun v hv => ?_).call
    have S3 : St (upd σ2 p.Fd (feedC p.Lc (p.k + 1 + 1 + 1))) (p.atK (p.k + 1 + 1 + 1)) := S2.tick (by show p.k + 1 + 1 + 1 ≤ _; omega)
    have hσ : upd σ2 (p.atK (p.k + 1 + 1)).Fd (feedC (p.atK (p.k + 1 + 1)).Lc ((p.atK (p.k + 1 + 1)).k + 1)) = upd σ2 p.Fd (feedC p.Lc (p.k + 1 + 1 + 1)) := rfl
    rw [hσ]
    generalize upd σ2 p.Fd (feedC p.Lc (p.k + 1 + 1 + 1)) = σ3 at *
    wtm_at "go"
    refine item_s hR' S3.W.w (by decide +kernel) (by wtm_at "look") ?_
    wtm_at "go"
    have how := hs.ow
    have hom := hs.om
    refine seti_d (k := .int) hR' trivial S3.W.od has_int_of (by show p.ow.length ≤ 900; omega) ?_
    have W4 : Wld (upd σ3 p.Do (.dict .int (aput p.ow (.int i) v))) ((p.atK (p.k + 1 + 1 + 1)).withOw (aput p.ow (.int i) v)) := S3.W.setOw hx hv (by show p.ow.length ≤ 99; omega)
    have B4 := ((S3.B.at (c := .dict .int (aput p.ow (.int i) v)) S3.W.tDo (by simp) (by simp) (by simp) (by simp) (by simp)).withOw (l := aput p.ow (.int i) v))
    have M4 := ((S3.M.at (c := .dict .int (aput p.ow (.int i) v)) S3.W.tDo (by simp) (by simp) (by simp) (by simp) (by simp)).withOw (l := aput p.ow (.int i) v))
    have hσ : upd σ3 (p.atK (p.k + 1 + 1 + 1)).Do (.dict .int (aput (p.atK (p.k + 1 + 1 + 1)).ow (.int i) v)) = upd σ3 p.Do (.dict .int (aput p.ow (.int i) v)) := rfl
    rw [hσ]
    replace B4 : Bnk (upd σ3 p.Do (.dict .int (aput p.ow (.int i) v))) ((p.atK (p.k + 1 + 1 + 1)).withOw (aput p.ow (.int i) v)) := B4
    replace M4 : Mdl (upd σ3 p.Do (.dict .int (aput p.ow (.int i) v))) ((p.atK (p.k + 1 + 1 + 1)).withOw (aput p.ow (.int i) v)) := M4
    generalize upd σ3 p.Do (.dict .int (aput p.ow (.int i) v)) = σ4 at *
    wtm_at "go"
    refine ⟨_, cl_meth pc_559 me_559_set_other ok G M4.m M4.md (by rfl), ?_⟩
    wtm_at "go"
    refine item_s hR' W4.w (by decide +kernel) (by wtm_at "look") ?_
    wtm_at "go"
    refine item_i hR' W4.od (v := v) (by show alook (aput p.ow (.int i) v) _ = _; rw [aput_look, V.beq_self]; rfl) ?_
    wtm_at "go"
    refine opc_fn ok (m_set_other G (hR'.le (by decide)) M4 ?_).call
    have W5 := (W4.at (c := .dict .int (aput p.om (.int i) v)) M4.tO (by simp) (by simp) (by simp)).withOm (l := aput p.om (.int i) v)
    have B5 := (B4.at (c := .dict .int (aput p.om (.int i) v)) M4.tO (by simp) (by simp) (by simp) (by simp) (by simp)).withOm (l := aput p.om (.int i) v)
    have M5 := M4.setOm hx hv (by show p.om.length ≤ 99; omega)
    wtm_at "go"
    refine hK _ (p.k + 1 + 1 + 1) p.rows (aput p.ow (.int i) v) (aput p.om (.int i) v) p.tl p.tg ⟨W5, B5, M5, fun j y hy => ?_⟩ ⟨fun r hr => by have := hs.rows r hr; omega, by have := @aput_length p.ow (.int i) v; show (aput p.ow (.int i) v).length ≤ b + 1; omega, by have := @aput_length p.om (.int i) v; show (aput p.om (.int i) v).length ≤ b + 1; omega⟩ (by omega)
    have := hS.ag j y hy
    show elseV (aput p.ow (.int i) v) j y = elseV (aput p.om (.int i) v) j y
    unfold elseV at this ⊢
    rw [aput_look, aput_look]
    split
    · rfl
    · exact this
  · wtm_at "go"
    refine ev_vals (Lc := p.Lc) (cs := p.cs) G (hR'.le (by decide)) O ok hnm hce (by subst he; rfl) (by decide +kernel) (by rfl) (by decide +kernel) (by rfl) (by decide +kernel) (by decide +kernel) (by decide +kernel) (by wtm_at "fs") (by wtm_at "m") ?_
    wtm_at "go"
    refine ⟨pa, _, x.1, rfl, hσa2, hpF, by have := xok.len; omega, S2.W.feed, by show p.k + 1 + 1 ≤ _; omega, fun acc k' σ3 hargs hbut hF' hk' D hD => ?_⟩
    replace hk' : k' ≤ p.k + 1 + 1 + 10 := hk'
    have S3 : St (upd σ3 D (.list acc)) (p.atK k') := (S2.refeed hbut hF').le ((StLe.refl _).upd hD)
    have accl : acc.length ≤ 3 := by rw [args_len hargs]; exact xok.len
    wtm_at "go"
    refine c_tuple_list upd_same (by wtm_at "sz") ?_
    generalize upd σ3 D (.list acc) = σ4 at *
    obtain ⟨ra, hra, hσr, htr⟩ := S3.W.row hr
    replace hra : p.ra[i]? = some ra := hra
    have rok := S3.W.rok i r x hr hx
    wtm_at "go"
    refine item_s hR' S3.W.w (by decide +kernel) (by wtm_at "look") ?_
    wtm_at "go"
    refine item_l (v := .ref ra) S3.W.lr (by omega) (by omega) (by show (p.ra.map V.ref)[_]? = _; simp [hra]) ?_
    wtm_at "go"
    refine c_dict_pairs (k := .tup (x.1.map shape)) hh (hR'.uk (by decide)) (fits_shapes _) (row_has rok) rok.nodup (by rw [sizeLine_eq]; omega) hσr fun d hd => ?_
    have le5 : StLe σ4 (upd σ4 d (.dict (.tup (x.1.map shape)) r)) := (StLe.refl _).upd hd
    have S5 := S3.le le5
    have gd : upd σ4 d (.dict (.tup (x.1.map shape)) r) d = some (.dict (.tup (x.1.map shape)) r) := upd_same
    have hdF : d ≠ p.Fd := fun e => by have q : σ4 p.Fd = _ := S3.W.feed.fd; rw [e, q] at hd; cases hd
    have hσr5 := le5 _ _ hσr
    generalize upd σ4 d (.dict (.tup (x.1.map shape)) r) = σ5 at *
    have hk5 : V.has (DK.tup (x.1.map shape)).sh (.tup acc) := has_tup_of (args_has hargs)
    wtm_at "go"
    refine in_dict (hR'.uk (by decide)) (fits_shapes _) gd hk5 ⟨_, rfl, fun hb => ?_, fun hb => ?_⟩
    · obtain ⟨v', hv'⟩ := Option.isSome_iff_exists.mp hb
      wtm_at "go"
      refine item_d hR' (fits_shapes _) gd hk5 hv' ?_
      wtm_at "go"
      refine notIn_dict (hR'.uk (by decide)) (fits_shapes _) gd hk5 ⟨_, rfl, ?_⟩
      rw [hv']
      wtm_at "no"
      wtm_at "go"
      refine ⟨_, cl_meth pc_559 me_559_set_row ok G S5.M.m S5.M.md (by rfl), ?_⟩
      wtm_at "go"
      refine opc_fn ok (m_set_row G (hR'.le (by decide)) S5.M hx hr hargs (row_val rok hv') (by omega) few (.inr hv') fun σ6 tl' tg' mv M6 => ?_).call
      rw [hv'] at M6
      have e1 : p.rows.set i r = p.rows := by
        apply List.ext_getElem?
        intro j
        rw [List.getElem?_set]
        split
        · rename_i q; subst q; first | exact hr.symm | (rw [if_pos (List.getElem?_eq_some_iff.mp hr).1]; exact hr.symm)
        · rfl
      have W6 := S5.W.move (tl' := tl') mv
      have B6 := S5.B.move (tl' := tl') mv
      wtm_at "go"
      refine hK _ k' p.rows p.ow p.om tl' tg' ⟨W6, B6, ?_, hS.ag⟩ ⟨fun r hr => by have := hs.rows r hr; omega, by have := hs.ow; show p.ow.length ≤ b + 1; omega, by have := hs.om; show p.om.length ≤ b + 1; omega⟩ (by omega)
      have e2 : (((p.atK k').withRow i r).moved tl' tg') = p.of k' p.rows p.ow p.om tl' tg' := by
        unfold Ws.withRow Ws.moved Ws.atK Ws.of; dsimp only; rw [e1]
      rw [← e2]; exact M6
    · have hn : alook r (.tup acc) = none := by cases e : alook r (.tup acc) with | none => rfl | some v => rw [e] at hb; cases hb
      wtm_at "go"
      refine opc_fn ok (c_value G (hR'.le (by decide)) S5.W.feed fun v hv => ?_).call
      have S6 : St (upd σ5 p.Fd (feedC p.Lc (k' + 1))) (p.atK (k' + 1)) := S5.tick (by show k' + 1 ≤ _; omega)
      have gd6 := (upd_ne (c := feedC p.Lc (k' + 1)) hdF).trans gd
      have hσr6 := keep_tag (c := feedC p.Lc (k' + 1)) hσr5 S5.W.tFd htr (by simp)
      have hσ : upd σ5 (p.atK k').Fd (feedC (p.atK k').Lc ((p.atK k').k + 1)) = upd σ5 p.Fd (feedC p.Lc (k' + 1)) := rfl
      rw [hσ]
      replace hσr6 : upd σ5 p.Fd (feedC p.Lc (k' + 1)) ra = some (.list (itemsOf r)) := hσr6
      generalize upd σ5 p.Fd (feedC p.Lc (k' + 1)) = σ6 at *
      wtm_at "go"
      refine notIn_dict (hR'.uk (by decide)) (fits_shapes _) gd6 hk5 ⟨_, rfl, ?_⟩
      rw [hn]
      wtm_at "yes"
      wtm_at "go"
      refine item_s hR' S6.W.w (by decide +kernel) (by wtm_at "look") ?_
      wtm_at "go"
      refine item_l (v := .ref ra) S6.W.lr (by omega) (by omega) (by show (p.ra.map V.ref)[_]? = _; simp [hra]) ?_
      refine ⟨_, opg_list hσr6 PySem.F.slot_list_append PySem.F.type_list_append, ?_⟩
      wtm_at "go"
      refine ⟨by wtm_at "sz", ?_⟩
      wtm_at "go"
      refine c_append hσr6 (by unfold itemsOf; rw [List.length_map, sizeLine_eq]; omega) ?_
      have eit : itemsOf r ++ [V.tup [V.tup acc, v]] = itemsOf (r ++ [(V.tup acc, v)]) := by unfold itemsOf; rw [List.map_append]; rfl
      rw [eit]
      have W7 := S6.W.setRow hx hra hr (row_snoc rok hargs hv hn (by omega))
      have B7 := (S6.B.at (c := .list (itemsOf (r ++ [(V.tup acc, v)]))) htr (by simp) (by simp) (by simp) (by simp) (by simp))
      have M7 := (S6.M.at (c := .list (itemsOf (r ++ [(V.tup acc, v)]))) htr (by simp) (by simp) (by simp) (by simp) (by simp))
      generalize upd σ6 ra (.list (itemsOf (r ++ [(V.tup acc, v)]))) = σ7 at *
      wtm_at "go"
      refine ⟨_, cl_meth pc_559 me_559_set_row ok G M7.m M7.md (by rfl), ?_⟩
      wtm_at "go"
      refine opc_fn ok (m_set_row G (hR'.le (by decide)) M7 hx hr hargs hv (by omega) few (.inl hn) fun σ8 tl' tg' mv M8 => ?_).call
      rw [hn] at M8
      have mv' : Moved σ7 σ8 ((p.atK (k' + 1)).withRow i (r ++ [(V.tup acc, v)])) tg' := ⟨mv.keep, mv.tags⟩
      have W8 := W7.move (tl' := tl') mv'
      have B8 := (B7.move (tl' := tl') mv).withRow (i := i) (r := r ++ [(V.tup acc, v)])
      wtm_at "go"
      refine hK _ (k' + 1) (p.rows.set i (r ++ [(V.tup acc, v)])) p.ow p.om tl' tg' ⟨W8, B8, M8, hS.ag⟩ ⟨fun r' hr' => ?_, by have := hs.ow; show p.ow.length ≤ b + 1; omega, by have := hs.om; show p.om.length ≤ b + 1; omega⟩ (by omega)
      rcases List.mem_or_eq_of_mem_set hr' with hr' | rfl
      · have := hs.rows r' hr'; omega
      · rw [List.length_append, List.length_singleton]; omega
end
theorem nb_bool : (∀ w, nsIn (KK w) mainGlobals "bool" = some none) ∧ bootBuiltins "bool" = some (.type "bool") ∧ ("bool" : Str) ≠ "__name__" := ⟨fun w => by kernel_rfl, by kernel_rfl, by decide⟩
section
variable {w : World} {A : Around} {h₀ : Heap} {σ : Store} {K : V → Store → Prop} {p : Ws} {n : Nat}
theorem isi_val {C : Cx} {m : Loc} {s : Int} {v : V} (h : ValOk s v) (k : K (.bool (decide (s = 0))) σ) : OpC w C A (.builtin "isinstance") [v, .raw (.type "bool")] m σ K := by
  unfold ValOk at h
  split at h
  · rename_i q
    obtain ⟨b, rfl⟩ := h
    rw [show decide (s = 0) = true from by simp [q]] at k
    exact c_isi_bool (.inr (.inl ⟨_, rfl, rfl⟩)) k
  · rename_i q
    rw [show decide (s = 0) = false from by simp [q]] at k
    split at h
    · obtain ⟨b, rfl⟩ := h; exact c_isi_bool (.inl ⟨_, rfl, rfl⟩) k
    · obtain ⟨b, _, _, rfl⟩ := h; exact c_isi_bool (.inl ⟨_, rfl, rfl⟩) k
theorem flat_args {h : List Int × Int} {r : List (V × V)} (hr : RowOk h r) : V.flatL 50 (itemsOf r) := by
  have g : ∀ l : List (V × V), (∀ y ∈ l, ∃ vs, y.1 = .tup vs ∧ ArgsOk h.1 vs ∧ ValOk h.2 y.2) → V.pureL (itemsOf l) = true ∧ PyData.depthAll (V.pyL (itemsOf l)) ≤ 3 := fun l => by
    induction l with
    | nil => intro _; exact ⟨rfl, by simp [itemsOf, V.pyL, PyData.depthAll]⟩
    | cons y l ih =>
      intro hy
      obtain ⟨a, b⟩ := ih fun z hz => hy z (List.mem_cons_of_mem _ hz)
      obtain ⟨vs, e, h1, h2⟩ := hy y List.mem_cons_self
      have hh : V.has (.tup [.tup (h.1.map shape), shape h.2]) (.tup [y.1, y.2]) := by rw [e]; exact has_tup_of (hasL_of (has_tup_of (args_has h1)) (hasL_of (val_has h2) hasL_nil_of))
      have hd : (V.py (.tup [y.1, y.2])).depth ≤ 3 := by
        rw [depth_has _ hh]; simp only [deepS, deepL]
        have := deep_shapes h.1; have := deep_shape h.2; omega
      unfold itemsOf at a b ⊢
      refine ⟨by rw [List.map_cons, V.pureL, a, pure_has _ hh]; rfl, ?_⟩
      rw [List.map_cons, V.pyL, PyData.depthAll]
      exact Nat.max_le.mpr ⟨hd, b⟩
  obtain ⟨a, b⟩ := g r hr.args
  exact ⟨a, by omega⟩

/-- one place of each pair of a list -/
theorem ev_picks {C : Cx} {m : Loc} {iter : PySem.Expr} {scope : Scope} {pos p1 p2 p3 p4 : Pos} {kk : Nat} {ns ms : List (Str × NameKind)} {x y z : Str} (pick : V × V → V) (hh : A.handled = none) (O : C.Own) (ok : C.Ok) (hn : Nm C.env ns)
    (hclos : closureFor scope C.env = pure []) (hcell : ∀ y ∈ scope.names, y.2 ≠ .cell) (hkind : scope.kind = .function) (hnames : ∀ y ∈ scope.names, y.2 = .local → scope.names.lookup y.1 = some .local)
    (hms : relN ns scope.names = ms) (h1 : ms.lookup x = some .local) (h2 : ms.lookup y = some .local) (h3 : ms.lookup z = some .local) (hdz : (z == ("__debug__" : Str)) = false)
    (hpick : ∀ (m : Loc) a b, set (set m x a) y b z = some (pick (a, b))) (hs : ∀ x, foldedSetIterable iter C.env x = pure x)
    (h : Ev w C A (eval iter C.env) m σ (fun v σ₁ => ∃ (a : Addr) (r : List (V × V)), v = .ref a ∧ σ₁ a = some (.list (itemsOf r)) ∧ r.length ≤ 1000 ∧ ∀ D, σ₁ D = none → K (.ref D) (upd σ₁ D (.list (r.map pick))))) :
    Ev w C A (eval (.ListComp (.Name z p1) [⟨.Tuple [.Name x p2, .Name y p3] kk p4, iter, [], 0⟩] scope pos) C.env) m σ K := by
  refine ev_comp [] hh O ok hclos ⟨fun x c' e => by cases e⟩ hcell hkind hnames (.inr ⟨_, _, _, rfl⟩) hs (si_of (Gn.mono h ?_))
  rintro v σ₁ ⟨a, r, rfl, ha, hl, fin⟩
  refine ⟨true, _, _, src_list ha, .inl rfl, fun i acc σ₂ => acc = (r.take i).map pick ∧ σ₂ = σ₁, by unfold itemsOf; rw [List.length_map, sizeLine_eq]; omega, ⟨by simp, rfl⟩, fun i acc σ h => by rw [h.2]; exact ha, ?_, ?_⟩
  · rintro Cl base O' ok' i v acc σ₂ hv ⟨rfl, rfl⟩
    unfold itemsOf at hv
    rw [List.getElem?_map, Option.map_eq_some_iff] at hv
    obtain ⟨q, hq, rfl⟩ := hv
    have hnm : Nm (compEnvC scope [] Cl C.env) ms := hn.comp hkind hms
    have hcc : (compEnvC scope [] Cl C.env).cells = [] := rfl
    refine ⟨set (set (mIn [] m) x q.1) y q.2, ((LoLe.refl _).set (by unfold mIn; rw [show ([] : List (Str × Addr)).lookup x = none from rfl]; rfl)).set (by unfold mIn; rw [show ([] : List (Str × Addr)).lookup y = none from rfl]; rfl), as_tup hh (by rfl) (by rfl) (asL_cons (as_name (nm_st' (C := inner C scope [] Cl base) hnm hcc h1 rfl O')) (asL_cons (as_name (nm_st' (C := inner C scope [] Cl base) hnm hcc h2 rfl O')) asL_nil)), ts_nil ⟨fun _ => ?_, fun h => by cases h⟩⟩
    refine nm_local' (C := inner C scope [] Cl base) hnm hcc h3 rfl (hpick _ _ _) ?_ hdz
    exact ⟨by rw [List.take_add_one, hq]; simp, rfl⟩
  · rintro acc σ₂ _ ⟨rfl, rfl⟩ D hD
    have hlen : (itemsOf r).length = r.length := by unfold itemsOf; simp
    have := fin D hD
    rw [hlen, List.take_length]
    exact this

theorem c_is_called {i : Nat} {x : List Int × Int} {r : List (V × V)} (G : Gd w h₀) (hR : Room 6 A) (hW : Wld σ p) (hB : Bnk σ p) (hM : Mdl σ p) (hag : elseV p.ow i x = elseV p.om i x) (hx : p.heads[i]? = some x) (hr : p.rows[i]? = some r) (hk : p.k ≤ 990000)
    (hK : ∀ σ' k', But p.Fd σ σ' → Feed σ' p.Fd p.Lc p.cs k' → k' ≤ p.k + 10 → K (.bool true) σ') : CallC w h₀ A (.ref 744) [.ref p.Fd, .ref p.W, .ref p.M, .int i] σ K := by
  refine bodyN (n := 5) (names := ["feed", "world", "tables", "f"]) G hR (by rfl) (by rfl) (by rfl) (by rfl) (by intro us hu; obtain ⟨a, b, c, d, rfl⟩ := len4 hu; rfl) (by rfl) (by wtm_at "binds") (by rfl) (by rfl) (by rfl) (by rfl) (by rfl) ?_
  intro L q env base os A' he hnm hce hR' ok O
  dsimp only at hnm
  dsimp only at hce he
  show Ex w _ _ _ (set (set (set (set (fun _ => none) "feed" (.ref p.Fd)) "world" (.ref p.W)) "tables" (.ref p.M)) "f" (.int i)) _ _ _
  have hh := hR'.handled
  replace hce : env.cells = [(("feed" : Str), L + 1)] := hce.trans rfl
  have few := hW.few
  have hi := (List.getElem?_eq_some_iff.mp hx).1
  have xok := hW.hok x (List.mem_of_getElem? hx)
  have rok := hW.rok i r x hr hx
  have rl := rok.len
  have eo := hW.else_ok hx
  obtain ⟨pa, hpa, hza, hσa⟩ := hW.head hx
  have hpF : pa ≠ p.Fd := ne_tag (hW.phs i pa x hpa hx).2 hW.tFd (by simp)
  obtain ⟨ra, hra, hσr, htr⟩ := hW.row hr
  wtm_at "go"
  refine ev_vals (Lc := p.Lc) (cs := p.cs) G (hR'.le (by decide)) O ok hnm hce (by subst he; rfl) (by decide +kernel) (by rfl) (by decide +kernel) (by rfl) (by decide +kernel) (by decide +kernel) (by decide +kernel) (by wtm_at "fs") (by wtm_at "m") ?_
  wtm_at "go"
  refine item_s hR' hW.w (by decide +kernel) (by wtm_at "look") ?_
  wtm_at "go"
  refine item_l (v := headV pa x) hW.lh (by omega) (by omega) (by simpa using hza) ?_
  unfold headV
  wtm_at "go"
  refine item_p (v := .ref pa) (by decide) (by decide) (by rfl) ?_
  refine ⟨pa, _, x.1, rfl, hσa, hpF, by have := xok.len; omega, hW.feed, by omega, fun acc k' σ1 hargs hbut hF' hk' D hD => ?_⟩
  have accl : acc.length ≤ 3 := by rw [args_len hargs]; exact xok.len
  have b1 : But p.Fd σ (upd σ1 D (.list acc)) := hbut.trans (.le ((StLe.refl _).upd hD))
  have F1 := hF'.le ((StLe.refl σ1).upd (c := .list acc) hD)
  wtm_at "go"
  refine c_tuple_list upd_same (by wtm_at "sz") ?_
  generalize upd σ1 D (.list acc) = σ2 at *
  wtm_at "go"
  refine ⟨by wtm_at "sz", fun d1 hd1 => ?_⟩
  have b2 : But p.Fd σ (upd σ2 d1 (.list [.tup acc])) := b1.trans (.le ((StLe.refl _).upd hd1))
  have F2 := F1.le ((StLe.refl σ2).upd (c := .list [.tup acc]) hd1)
  have g1 : upd σ2 d1 (.list [.tup acc]) d1 = some (.list [.tup acc]) := upd_same
  generalize upd σ2 d1 (.list [.tup acc]) = σ3 at *
  have W3 := hW.refeed b2 F2
  have hσr3 := b2 _ _ hσr (ne_tag htr hW.tFd (by simp))
  wtm_at "go"
  refine ev_picks (x := ("args" : Str)) (y := ("value" : Str)) (fun q => q.1) hh O ok hnm (by subst he; rfl) (by decide +kernel) (by rfl) (by decide +kernel) (by rfl) (by decide +kernel) (by decide +kernel) (by decide +kernel) (by decide +kernel) (fun m a b => (set_other (by decide +kernel)).trans set_same) (by wtm_at "fs") ?_
  wtm_at "go"
  refine item_s hR' W3.w (by decide +kernel) (by wtm_at "look") ?_
  wtm_at "go"
  refine item_l (v := .ref ra) W3.lr (by omega) (by omega) (by show (p.ra.map V.ref)[_]? = _; simp [hra]) ?_
  refine ⟨ra, r, rfl, hσr3, by omega, fun D hD => ?_⟩
  refine op_addl O ((StLe.refl σ3).upd hD _ _ g1) upd_same (by rw [sizeLine_eq, List.length_map]; simp; omega) fun d2 hd2 => ?_
  have b4 : But p.Fd σ (upd (upd σ3 D (.list (r.map fun q => q.1))) d2 (.list ([.tup acc] ++ r.map fun q => q.1))) := b2.trans (.le (((StLe.refl _).upd hD).trans ((StLe.refl _).upd hd2)))
  have F4 := F2.le (((StLe.refl σ3).upd (c := .list (r.map fun q => q.1)) hD).trans ((StLe.refl _).upd (c := .list ([.tup acc] ++ r.map fun q => q.1)) hd2))
  have g4 : upd (upd σ3 D (.list (r.map fun q => q.1))) d2 (.list ([.tup acc] ++ r.map fun q => q.1)) d2 = some (.list ([.tup acc] ++ r.map fun q => q.1)) := upd_same
  generalize upd (upd σ3 D (.list (r.map fun q => q.1))) d2 (.list ([.tup acc] ++ r.map fun q => q.1)) = σ4 at *
  have W4 := hW.refeed b4 F4
  have B4 := hB.refeed hW.tFd b4 (k := k')
  have M4 := hM.refeed hW.tFd b4 (k := k')
  have hσr4 := b4 _ _ hσr (ne_tag htr hW.tFd (by simp))
  have hall : ∀ v ∈ [V.tup acc] ++ r.map fun q => q.1, ∃ vs, v = .tup vs ∧ ArgsOk x.1 vs := fun v hv => by
    rcases List.mem_append.mp hv with h | h
    · rw [List.mem_singleton.mp h]; exact ⟨acc, rfl, hargs⟩
    · obtain ⟨y, hy, rfl⟩ := List.mem_map.mp h
      obtain ⟨vs, e, h1, _⟩ := rok.args y hy
      exact ⟨vs, e, h1⟩
  have hlen4 : ([V.tup acc] ++ r.map fun q => q.1).length ≤ 21 := by simp; omega
  generalize [V.tup acc] ++ (r.map fun q => q.1) = asked at *
  wtm_at "go"
  refine ex_for hh O ok (.refl _) (by wtm_at "tg") (si_of ?_) (by wtm_at "fs")
  wtm_at "go"
  refine ⟨true, _, _, src_list g4, .inl rfl, fun i σ₁ => StLe σ4 σ₁, .refl _, fun i σ h => h _ _ g4, ?_, ?_⟩
  · rintro base' O' ok' j v σ5 hv le
    replace O' : Cx.Own ⟨h₀, base', env, os⟩ := O'
    replace ok' : Cx.Ok ⟨h₀, base', env, os⟩ := ok'
    obtain ⟨vs, rfl, hvs⟩ := hall v (List.mem_of_getElem? hv)
    have W5 := W4.le le
    have B5 := B4.le le
    have M5 := M4.le le
    have hσr5 := le _ _ hσr4
    have hk5 : V.has (DK.tup (x.1.map shape)).sh (.tup vs) := has_tup_of (args_has hvs)
    refine ⟨_, by wtm_at "asn", ?_⟩
    wtm_at "go"
    refine item_s hR' W5.w (by decide +kernel) (by wtm_at "look") ?_
    wtm_at "go"
    refine item_l (v := .ref ra) W5.lr (by omega) (by omega) (by show (p.ra.map V.ref)[_]? = _; simp [hra]) ?_
    wtm_at "go"
    refine c_dict_pairs (k := .tup (x.1.map shape)) hh (hR'.uk (by decide)) (fits_shapes _) (row_has rok) rok.nodup (by rw [sizeLine_eq]; omega) hσr5 fun d hd => ?_
    have le6 : StLe σ5 (upd σ5 d (.dict (.tup (x.1.map shape)) r)) := (StLe.refl _).upd hd
    have gd : upd σ5 d (.dict (.tup (x.1.map shape)) r) d = some (.dict (.tup (x.1.map shape)) r) := upd_same
    generalize upd σ5 d (.dict (.tup (x.1.map shape)) r) = σ6 at *
    have W6 := W5.le le6
    have B6 := B5.le le6
    have M6 := M5.le le6
    refine ⟨_, opg_dict gd PySem.F.slot_dict_get PySem.F.type_dict_get, ?_⟩
    wtm_at "go"
    refine opc_fn ok' (c_else G (hR'.le (by decide)) W6 hx ?_).call
    rw [show (p.atK k').ow = p.ow from rfl]
    wtm_at "go"
    refine c_get (hR'.uk (by decide)) (fits_shapes _) gd hk5 ?_
    have vok : ValOk x.2 ((alook r (.tup vs)).getD (elseV p.ow i x)) := by
      cases e : alook r (.tup vs) with
      | none => exact eo
      | some v => exact row_val rok e
    wtm_at "go"
    wtm_at "go"
    refine ⟨_, cl_meth pc_559 me_559_call ok' G M6.m M6.md (by rfl), ?_⟩
    wtm_at "go"
    refine opc_fn ok' (m_call G (hR'.le (by decide)) B6 M6 hx hr (by omega) xok.res hvs fun σ7 le7 => ?_).call
    rw [show (p.atK k').om = p.om from rfl, ← hag]
    have M7 := M6.le le7
    wtm_at "go"
    refine op_ned (hR'.uk (by decide)) (val_flat vok) (val_flat vok) ⟨_, rfl, ?_⟩
    rw [V.eqv_self]
    wtm_at "no"
    wtm_at "go"
    refine ⟨_, cl_meth pc_559 me_559_call ok' G M7.m M7.md (by rfl), ?_⟩
    wtm_at "go"
    refine opc_fn ok' (m_call G (hR'.le (by decide)) (B6.le le7) M7 hx hr (by omega) xok.res hvs fun σ8 le8 => ?_).call
    rw [show (p.atK k').om = p.om from rfl, ← hag]
    wtm_at "go"
    refine nm_built nb_bool (by assumption) (by assumption) (by assumption) (by decide +kernel) ?_ (by decide +kernel)
    wtm_at "go"
    refine isi_val vok ?_
    wtm_at "go"
    refine nm_built nb_bool (by assumption) (by assumption) (by assumption) (by decide +kernel) ?_ (by decide +kernel)
    wtm_at "go"
    refine isi_val vok ?_
    wtm_at "go"
    rw [show (decide (x.2 = 0) != decide (x.2 = 0)) = false from by simp]
    refine ⟨_, rfl, ?_⟩
    wtm_at "no"
    wtm_at "go"
    wtm_at "no"
    wtm_at "go"
    exact ⟨by wtm_at "lo", (le.trans le6).trans (le7.trans le8)⟩
  · rintro σ5 le
    have W5 := W4.le le
    have B5 := B4.le le
    have M5 := M4.le le
    have hσr5 := le _ _ hσr4
    wtm_at "go"
    refine ⟨_, cl_meth pc_559 me_559_rows ok G M5.m M5.md (by rfl), ?_⟩
    wtm_at "go"
    refine opc_fn ok (m_rows G (hR'.le (by decide)) M5 hx hr rok.len fun b σ6 le6 hb gb => ?_).call
    have W6 := W5.le le6
    have B6 := B5.le le6
    have M6 := M5.le le6
    wtm_at "go"
    refine item_s hR' W6.w (by decide +kernel) (by wtm_at "look") ?_
    wtm_at "go"
    refine item_l (v := .ref ra) W6.lr (by omega) (by omega) (by show (p.ra.map V.ref)[_]? = _; simp [hra]) ?_
    wtm_at "go"
    refine op_eql (hR'.uk (by decide)) gb (le6 _ _ hσr5) (flat_args rok) (flat_args rok) ⟨_, rfl, ?_⟩
    rw [eqvL_self]
    wtm_at "yes"
    wtm_at "go"
    refine ⟨_, cl_meth pc_559 me_559_other ok G M6.m M6.md (by rfl), ?_⟩
    wtm_at "go"
    refine opc_fn ok (m_other G (hR'.le (by decide)) B6 M6 hx (by omega) xok.res ?_).call
    wtm_at "go"
    refine opc_fn ok (c_else G (hR'.le (by decide)) W6 hx ?_).call
    rw [show (p.atK k').om = p.om from rfl, ← hag, show (p.atK k').ow = p.ow from rfl]
    refine op_eqd (hR'.uk (by decide)) (val_flat eo) (val_flat eo) ?_
    rw [V.eqv_self]
    exact hK _ k' (b4.trans (.le (le.trans le6))) (F4.le (le.trans le6)) hk'
end
noncomputable def cntV (l : List V) (v : V) : Nat := l.countP fun y => V.eqv y v
/-- the value that most of a list are -/
noncomputable def topV (l : List V) (v : V) : Bool := l.all fun u => decide (cntV l u ≤ cntV l v)
noncomputable def mostV (l : List V) : V := (l.filter (topV l)).head?.getD .none
section
variable {w : World} {A : Around} {h₀ : Heap} {σ : Store} {K : V → Store → Prop} {p : Ws} {n : Nat}
theorem top_ex {l : List V} (h : l ≠ []) : ∃ v ∈ l, topV l v = true := by
  have : ∀ k : List V, k ≠ [] → ∃ v ∈ k, ∀ u ∈ k, cntV l u ≤ cntV l v := fun k => by
    induction k with
    | nil => intro h; exact absurd rfl h
    | cons x k ih =>
      intro _
      by_cases hk : k = []
      · subst hk; exact ⟨x, by simp, by simp⟩
      · obtain ⟨v, hv, hm⟩ := ih hk
        by_cases hx : cntV l x ≤ cntV l v
        · exact ⟨v, List.mem_cons_of_mem _ hv, fun u hu => by rcases List.mem_cons.mp hu with rfl | hu; exact hx; exact hm u hu⟩
        · exact ⟨x, List.mem_cons_self, fun u hu => by rcases List.mem_cons.mp hu with rfl | hu; exact Nat.le_refl _; have := hm u hu; omega⟩
  obtain ⟨v, hv, hm⟩ := this l h
  exact ⟨v, hv, by unfold topV; rw [List.all_eq_true]; exact fun u hu => decide_eq_true (hm u hu)⟩
theorem most_mem {l : List V} (h : l ≠ []) : mostV l ∈ l := by
  obtain ⟨v, hv, ht⟩ := top_ex h
  unfold mostV
  cases e : l.filter (topV l) with
  | nil => exact absurd (List.mem_filter.mpr ⟨hv, ht⟩) (by rw [e]; simp)
  | cons y ys => exact (List.mem_filter.mp (by rw [e]; exact List.mem_cons_self : y ∈ l.filter (topV l))).1

theorem vals_flat {h : List Int × Int} {r : List (V × V)} (hr : RowOk h r) : V.flatL 50 (r.map (·.2)) ∧ ∀ y ∈ r.map (·.2), y.flat 60 := by
  have hv : ∀ y ∈ r.map (·.2), V.has (shape h.2) y := fun y hy => by
    obtain ⟨z, hz, rfl⟩ := List.mem_map.mp hy
    obtain ⟨vs, _, _, b⟩ := hr.args z hz
    exact val_has b
  refine ⟨?_, fun y hy => flat_has (hv y hy) (by have := deep_shape h.2; omega)⟩
  have g : ∀ l : List V, (∀ y ∈ l, V.has (shape h.2) y) → V.pureL l = true ∧ PyData.depthAll (V.pyL l) ≤ 3 := fun l => by
    induction l with
    | nil => intro _; exact ⟨rfl, by simp [V.pyL, PyData.depthAll]⟩
    | cons y l ih =>
      intro hy
      obtain ⟨a, b⟩ := ih fun z hz => hy z (List.mem_cons_of_mem _ hz)
      have q := hy y List.mem_cons_self
      refine ⟨by rw [V.pureL, a, pure_has _ q]; rfl, ?_⟩
      rw [V.pyL, PyData.depthAll]
      exact Nat.max_le.mpr ⟨by rw [depth_has _ q]; have := deep_shape h.2; omega, b⟩
  obtain ⟨a, b⟩ := g _ hv
  exact ⟨a, by omega⟩

/-- what a comprehension over one name asks -/
noncomputable def CompName (w : World) (h₀ : Heap) (os : OsState) (A : Around) (z : Str) (elt : PySem.Expr) (ifs : List PySem.Expr) (cl : List (Str × Addr)) (ms : List (Str × NameKind)) (m : Loc) (fin : List V → Store → Prop) (nm : Bool) (l : List V) (need : Store → Prop) (σ₁ : Store) : Prop :=
  nm = true ∧ ∃ Inv : Nat → List V → Store → Prop, l.length ≤ sizeLine ∧ Inv 0 [] σ₁ ∧ (∀ i acc σ, Inv i acc σ → need σ) ∧
    (∀ env base, Cx.Own ⟨h₀, base, env, os⟩ → Cx.Ok ⟨h₀, base, env, os⟩ → Nm env ms → env.cells = cl → ∀ i v acc σ₂, l[i]? = some v → Inv i acc σ₂ →
      Ts w ⟨h₀, base, env, os⟩ A ifs env (set (mIn cl m) z v) σ₂ (fun b σ₃ => (b = true → Ev w ⟨h₀, base, env, os⟩ A (eval elt env) (set (mIn cl m) z v) σ₃ (fun x σ₄ => Inv (i + 1) (acc ++ [x]) σ₄)) ∧ (b = false → Inv (i + 1) acc σ₃))) ∧
    (∀ acc σ₂, acc.length ≤ l.length → Inv l.length acc σ₂ → fin acc σ₂)
theorem ev_compN {C : Cx} {m : Loc} {elt iter : PySem.Expr} {ifs : List PySem.Expr} {scope : Scope} {pos p0 : Pos} {ns ms : List (Str × NameKind)} {z : Str} (cl : List (Str × Addr)) (hh : A.handled = none) (O : C.Own) (ok : C.Ok) (hn : Nm C.env ns)
    (hclos : closureFor scope C.env = pure cl) (hc : Capt C cl) (hcell : ∀ y ∈ scope.names, y.2 ≠ .cell) (hkind : scope.kind = .function) (hnames : ∀ y ∈ scope.names, y.2 = .local → scope.names.lookup y.1 = some .local)
    (hms : relN ns scope.names = ms) (h1 : ms.lookup z = some .local) (h2 : cl.lookup z = none) (hs : ∀ x, foldedSetIterable iter C.env x = pure x)
    (h : Ev w C A (eval iter C.env) m σ (fun v σ₁ => ∃ nm l need, Src w A σ₁ v nm l need ∧ CompName w C.h₀ C.os A z elt ifs cl ms m (fun acc σ₂ => ∀ D, σ₂ D = none → K (.ref D) (upd σ₂ D (.list acc))) nm l need σ₁)) :
    Ev w C A (eval (.ListComp elt [⟨.Name z p0, iter, ifs, 0⟩] scope pos) C.env) m σ K := by
  refine ev_comp cl hh O ok hclos hc hcell hkind hnames (.inl ⟨_, _, rfl⟩) hs (si_of (Gn.mono h ?_))
  rintro v σ₁ ⟨nm, l, need, src, hnm, Inv, hz, h0, hneed, step, fin⟩
  refine ⟨nm, l, need, src, .inl hnm, Inv, hz, h0, hneed, ?_, fin⟩
  rintro Cl base O' ok' i v acc σ₂ hv hI
  have hnm : Nm (compEnvC scope cl Cl C.env) ms := hn.comp hkind hms
  have hcc : (compEnvC scope cl Cl C.env).cells = cl := rfl
  have hmz : mIn cl m z = none := by unfold mIn; rw [h2]; rfl
  exact ⟨set (mIn cl m) z v, (LoLe.refl _).set hmz, as_name (nm_st' (C := inner C scope cl Cl base) hnm hcc h1 h2 O'), step _ base O' ok' hnm hcc i v acc σ₂ hv hI⟩

theorem c_most {a : Addr} {h : List Int × Int} {r : List (V × V)} (G : Gd w h₀) (hR : Room 1 A) (hra : σ a = some (.list (itemsOf r))) (rok : RowOk h r) (hne : r ≠ []) (hK : ∀ σ', StLe σ σ' → K (mostV (r.map (·.2))) σ') : CallC w h₀ A (.ref 754) [.ref a] σ K := by
  refine bodyN (n := 0) (names := ["rows"]) G hR (by rfl) (by rfl) (by rfl) (by rfl) (by intro us hu; obtain ⟨a, rfl⟩ := len1 hu; rfl) (by rfl) (by wtm_at "binds") (by rfl) (by rfl) (by rfl) (by rfl) (by rfl) ?_
  intro L q env base os A' he hnm hce hR' ok O
  dsimp only at hnm
  dsimp only at hce he
  show Ex w _ _ _ (set (fun _ => none) "rows" (.ref a)) _ _ _
  have hh := hR'.handled
  replace hce : env.cells = [(("most" : Str), L + 2), (("told" : Str), L + 1)] := hce.trans rfl
  have rl := rok.len
  obtain ⟨hfl, hfv⟩ := vals_flat rok
  wtm_at "go"
  refine ex_assign ?_ (by subst he; rfl)
  refine ev_picks (x := ("args" : Str)) (y := ("value" : Str)) (fun q => q.2) hh O ok hnm (by subst he; rfl) (by decide +kernel) (by rfl) (by decide +kernel) (by rfl) (by decide +kernel) (by decide +kernel) (by decide +kernel) (by decide +kernel) (fun m a b => set_same) (by wtm_at "fs") ?_
  wtm_at "go"
  refine ⟨a, r, rfl, hra, by omega, fun D hD => ?_⟩
  have le1 : StLe σ (upd σ D (.list (r.map fun q => q.2))) := (StLe.refl _).upd hD
  have g1 : upd σ D (.list (r.map fun q => q.2)) D = some (.list (r.map fun q => q.2)) := upd_same
  have hne' : (r.map fun q => q.2) ≠ [] := by simpa using hne
  have hlen : (r.map fun q => q.2).length ≤ 20 := by simpa using rl
  generalize upd σ D (.list (r.map fun q => q.2)) = σ1 at *
  generalize (r.map fun q => q.2) = told at *
  wtm_at "go"
  refine ev_compN [(("told" : Str), L + 1)] hh O ok hnm (by subst he; rfl) ⟨fun x c' e => ?_⟩ (by decide +kernel) (by rfl) (by decide +kernel) (by rfl) (by decide +kernel) (by rfl) (by wtm_at "fs") ?_
  · rw [hce]
    rw [List.lookup_cons] at e ⊢
    split at e
    · cases e
      rename_i q
      rw [eq_of_beq q]; rfl
    · cases e
  wtm_at "go"
  refine ⟨true, _, _, src_list g1, rfl, fun i acc σ₂ => acc = (told.take i).map (fun v => V.int (cntV told v)) ∧ StLe σ1 σ₂, by rw [sizeLine_eq]; omega, ⟨by simp, .refl _⟩, fun i acc σ h => h.2 _ _ g1, ?_, ?_⟩
  · rintro env' base' O' ok' hnm' hce' i v acc σ₂ hv ⟨rfl, le⟩
    refine ts_nil ⟨fun _ => ?_, fun h => by cases h⟩
    have hmt : mIn [(("told" : Str), L + 1)] (set (set (fun x => none) "rows" (.ref a)) "told" (.ref D)) "told" = some (.ref D) := by rfl
    wtm_at "go"
    refine ⟨_, opg_list (le _ _ g1) PySem.F.slot_list_count PySem.F.type_list_count, ?_⟩
    wtm_at "go"
    have hvm : v ∈ told := List.mem_of_getElem? hv
    refine c_count (hR'.uk (by decide)) (le _ _ g1) hfl (hfv v hvm) ⟨?_, le⟩
    rw [List.take_add_one, hv]; simp [cntV]
  · rintro acc σ2 _ ⟨rfl, le⟩ D2 hD2
    rw [List.take_length]
    wtm_at "go"
    refine c_max (ns := told.map fun v => (cntV told v : Int)) hh O (by rw [List.map_map]; exact upd_same) (by rw [List.length_map]; exact List.length_pos_iff.mpr hne') fun M hM1 hM2 => ?_
    have le3 := le.trans ((StLe.refl σ2).upd (c := .list (told.map fun v => V.int (cntV told v))) hD2)
    generalize upd σ2 D2 (.list (told.map fun v => V.int (cntV told v))) = σ3 at *
    wtm_at "go"
    refine ev_compN [(("told" : Str), L + 1), (("most" : Str), L + 2)] hh O ok hnm (by subst he; rfl) ⟨fun x c' e => ?_⟩ (by decide +kernel) (by rfl) (by decide +kernel) (by rfl) (by decide +kernel) (by rfl) (by wtm_at "fs") ?_
    · rw [hce]
      simp only [List.lookup_cons, List.lookup_nil] at e ⊢
      split at e
      · rename_i q
        cases e
        rw [eq_of_beq q]; rfl
      · split at e
        · cases e
          rfl
        · cases e
    wtm_at "go"
    refine ⟨true, _, _, src_list (le3 _ _ g1), rfl, fun i acc σ₂ => acc = (told.take i).filter (fun v => (cntV told v : Int) == M) ∧ StLe σ3 σ₂, by rw [sizeLine_eq]; omega, ⟨by simp, .refl _⟩, fun i acc σ h => h.2 _ _ (le3 _ _ g1), ?_, ?_⟩
    · rintro env' base' O' ok' hnm' hce' i v acc σ₂ hv ⟨rfl, le⟩
      have hvm : v ∈ told := List.mem_of_getElem? hv
      have hmt : mIn [(("told" : Str), L + 1), (("most" : Str), L + 2)] (set (set (set (fun x => none) "rows" (.ref a)) "told" (.ref D)) "most" (.int M)) "told" = some (.ref D) := by rfl
      have hmm : mIn [(("told" : Str), L + 1), (("most" : Str), L + 2)] (set (set (set (fun x => none) "rows" (.ref a)) "told" (.ref D)) "most" (.int M)) "most" = some (.int M) := by rfl
      refine ts_one ?_
      wtm_at "go"
      refine ⟨_, opg_list (le _ _ (le3 _ _ g1)) PySem.F.slot_list_count PySem.F.type_list_count, ?_⟩
      wtm_at "go"
      refine c_count (hR'.uk (by decide)) (le _ _ (le3 _ _ g1)) hfl (hfv v hvm) ?_
      wtm_at "go"
      refine ⟨_, rfl, fun hb => ?_, fun hb => ?_⟩
      · wtm_at "go"
        refine ⟨?_, le⟩
        rw [List.take_add_one, hv, List.filter_append, show ((some v).toList.filter fun v => (cntV told v : Int) == M) = [v] from by simp only [Option.toList]; rw [List.filter_cons_of_pos (by exact hb)]; rfl]
      · refine ⟨?_, le⟩
        rw [List.take_add_one, hv, List.filter_append, show ((some v).toList.filter fun v => (cntV told v : Int) == M) = [] from by simp only [Option.toList]; rw [List.filter_cons_of_neg (by rw [show ((cntV told v : Int) == M) = false from hb]; simp)]; rfl, List.append_nil]
    · rintro acc σ4 _ ⟨rfl, le⟩ D3 hD3
      rw [List.take_length]
      have hf : told.filter (fun v => (cntV told v : Int) == M) = told.filter (topV told) := by
        apply List.filter_congr
        intro v hv
        unfold topV
        rw [Bool.eq_iff_iff, List.all_eq_true]
        constructor
        · intro e u hu
          have := hM2 _ (List.mem_map.mpr ⟨u, hu, rfl⟩)
          have := eq_of_beq e
          exact decide_eq_true (by omega)
        · intro e
          obtain ⟨u, hu, he⟩ := List.mem_map.mp hM1
          have h1 := of_decide_eq_true (e u hu)
          have h2 := hM2 _ (List.mem_map.mpr ⟨v, hv, rfl⟩)
          exact beq_iff_eq.mpr (by omega)
      rw [hf]
      have hl0 : (told.filter (topV told))[0]? = some (mostV told) := by
        obtain ⟨v, hv, ht⟩ := top_ex hne'
        unfold mostV
        cases e : told.filter (topV told) with
        | nil => exact absurd (List.mem_filter.mpr ⟨hv, ht⟩) (by rw [e]; simp)
        | cons y ys => rfl
      wtm_at "go"
      refine item_l (v := mostV told) upd_same (by decide) (by decide) (by simpa using hl0) ?_
      exact hK _ ((le1.trans le3).trans (le.trans ((StLe.refl _).upd hD3)))
end
section
variable {w : World} {C : Cx} {A : Around} {m m₀ : Loc} {σ : Store} {N : Loc → Store → Prop} {R : V → Store → Prop}
end
section
variable {w : World} {A : Around} {h₀ : Heap} {σ : Store} {K : V → Store → Prop} {p : Ws} {n : Nat}
/-- two values of one sort are equal as values where they are equal -/
theorem eqv_ok {s : Int} {u v : V} (hu : ValOk s u) (hv : ValOk s v) : V.eqv u v = V.beq u v := by
  unfold ValOk at hu hv
  split at hu
  · rename_i q
    rw [if_pos q] at hv
    obtain ⟨a, rfl⟩ := hu; obtain ⟨b, rfl⟩ := hv
    rw [vb_bool]; cases a <;> cases b <;> rfl
  · rename_i q
    rw [if_neg q] at hv
    split at hu
    · rename_i q
      rw [if_pos q] at hv
      obtain ⟨a, rfl⟩ := hu; obtain ⟨b, rfl⟩ := hv
      simp [vb_tup, vbL_cons, vbL_nil, vb_str, vb_int, V.eqv, V.py, V.pyL, PyData.eqv, PyData.eqvAll]
    · rename_i q
      rw [if_neg q] at hv
      obtain ⟨a, _, _, rfl⟩ := hu; obtain ⟨b, _, _, rfl⟩ := hv
      simp [vb_tup, vbL_cons, vbL_nil, vb_str, vb_int, V.eqv, V.py, V.pyL, PyData.eqv, PyData.eqvAll]
end
noncomputable def cntB (l : List V) (v : V) : Nat := l.countP fun y => V.beq y v
theorem cntB_eq {s : Int} {l : List V} {v : V} (hl : ∀ y ∈ l, ValOk s y) (hv : ValOk s v) : cntB l v = cntV l v := by
  unfold cntB cntV
  apply List.countP_congr
  intro y hy
  rw [eqv_ok (hl y hy) hv]
theorem cntB_snoc {l : List V} {v u : V} : cntB (l ++ [v]) u = cntB l u + if V.beq v u then 1 else 0 := by
  unfold cntB
  rw [List.countP_append]
  congr 1
  rw [List.countP_cons, List.countP_nil]
  omega
/-- the dict that counts the values of a list -/
noncomputable def Many (acc : List (V × V)) (l : List V) : Prop := ∀ u, alook acc u = if cntB l u = 0 then none else some (.int (cntB l u))
theorem many_nil : Many [] [] := fun u => rfl
theorem many_get {acc : List (V × V)} {l : List V} (h : Many acc l) (v : V) : (alook acc v).getD (.int 0) = .int (cntB l v) := by
  rw [h v]
  split
  · rename_i q; rw [q]; rfl
  · rfl
theorem many_snoc {acc : List (V × V)} {l : List V} {v : V} (h : Many acc l) : Many (aput acc v (.int ((cntB l v : Int) + 1))) (l ++ [v]) := fun u => by
  rw [aput_look, cntB_snoc]
  by_cases e : V.beq v u = true
  · rw [if_pos e, if_pos e]
    obtain rfl := V.beq_eq e
    rw [if_neg (by omega)]
    push_cast; rfl
  · rw [if_neg e, if_neg e, h u, Nat.add_zero]
theorem cntB_mem {l : List V} {v : V} (h : v ∈ l) : 0 < cntB l v := List.countP_pos_iff.mpr ⟨v, h, V.beq_self v⟩
/-- the best of a list's head -/
structure Best (cnt : V → Nat) (pre : List V) (best : V) (most : Nat) : Prop where
  top : ∀ u ∈ pre, cnt u ≤ most
  zero : pre = [] → most = 0
  is : pre ≠ [] → cnt best = most ∧ (pre.filter fun v => decide (most ≤ cnt v)).head? = some best
theorem best_nil {cnt : V → Nat} : Best cnt [] .none 0 := ⟨fun u h => by simp at h, fun _ => rfl, fun h => absurd rfl h⟩
theorem best_up {cnt : V → Nat} {pre : List V} {b v : V} {n : Nat} (h : Best cnt pre b n) (hv : n < cnt v) : Best cnt (pre ++ [v]) v (cnt v) := by
  refine ⟨fun u hu => ?_, fun e => by simp at e, fun _ => ⟨rfl, ?_⟩⟩
  · rcases List.mem_append.mp hu with hu | hu
    · have := h.top u hu; omega
    · rw [List.mem_singleton.mp hu]; exact Nat.le_refl _
  · rw [List.filter_append, show (pre.filter fun u => decide (cnt v ≤ cnt u)) = [] from ?_]
    · rw [List.nil_append, List.filter_cons_of_pos (by simp)]; rfl
    · rw [List.filter_eq_nil_iff]
      intro u hu
      have := h.top u hu
      simp; omega
theorem best_keep {cnt : V → Nat} {pre : List V} {b v : V} {n : Nat} (h : Best cnt pre b n) (hv : cnt v ≤ n) (h1 : 0 < cnt v) : Best cnt (pre ++ [v]) b n := by
  have hne : pre ≠ [] := fun e => by have := h.zero e; omega
  obtain ⟨i1, i2⟩ := h.is hne
  refine ⟨fun u hu => ?_, fun e => by simp at e, fun _ => ⟨i1, ?_⟩⟩
  · rcases List.mem_append.mp hu with hu | hu
    · exact h.top u hu
    · rw [List.mem_singleton.mp hu]; exact hv
  · rw [List.filter_append, List.head?_append, i2]; rfl
theorem best_most {l : List V} {b : V} {n : Nat} (hne : l ≠ []) (h : Best (cntV l) l b n) : b = mostV l := by
  obtain ⟨i1, i2⟩ := h.is hne
  have hb : b ∈ l := by
    have := List.mem_of_mem_head? i2
    exact (List.mem_filter.mp this).1
  have : l.filter (topV l) = l.filter fun v => decide (n ≤ cntV l v) := by
    apply List.filter_congr
    intro v hv
    unfold topV
    rw [Bool.eq_iff_iff, List.all_eq_true, decide_eq_true_eq]
    constructor
    · intro e
      have := of_decide_eq_true (e b hb)
      omega
    · intro e u hu
      have := h.top u hu
      exact decide_eq_true (by omega)
  unfold mostV
  rw [this, i2]; rfl
theorem best_cnt {c c' : V → Nat} {pre : List V} {b : V} {n : Nat} (h : Best c pre b n) (e : ∀ u ∈ pre, c u = c' u) : Best c' pre b n := by
  refine ⟨fun u hu => by rw [← e u hu]; exact h.top u hu, h.zero, fun hne => ?_⟩
  obtain ⟨i1, i2⟩ := h.is hne
  have hb : b ∈ pre := (List.mem_filter.mp (List.mem_of_mem_head? i2)).1
  refine ⟨by rw [← e b hb]; exact i1, ?_⟩
  rw [← i2]
  congr 1
  apply List.filter_congr
  intro v hv
  rw [e v hv]
noncomputable def vkind (s : Int) : DK := if s = 0 then .bool else if s = 1 then .tup [.int, .int] else .tup [.str, .int, .int]
theorem vkind_sh (s : Int) : (vkind s).sh = shape s := by
  unfold vkind shape
  split
  · rfl
  · split <;> rfl
theorem vkind_fits (s : Int) : (vkind s).fits := by
  unfold vkind
  split
  · trivial
  · split
    · show deepL _ ≤ 7; decide
    · show deepL _ ≤ 7; decide
section
variable {w : World} {A : Around} {h₀ : Heap} {σ : Store} {K : V → Store → Prop} {p : Ws} {n : Nat}
theorem tab_keys (hM : Mdl σ p) (hlro : p.rows.length = p.heads.length) {is : List Nat} (hk : p.tl.map (·.1) = is.map (fun i => V.int (i : Nat))) {i : Nat} (hi : i < p.heads.length) : i ∈ is ↔ p.rows[i]? ≠ some [] := by
  have e1 : i ∈ is ↔ V.int (i : Nat) ∈ p.tl.map (·.1) := by
    rw [hk, List.mem_map]
    constructor
    · intro h; exact ⟨i, h, rfl⟩
    · rintro ⟨j, hj, e⟩
      have : (j : Int) = i := by injection e
      have : j = i := by omega
      rw [← this]; exact hj
  obtain ⟨r, hr⟩ : ∃ r, p.rows[i]? = some r := ⟨p.rows[i]'(by rw [hlro]; exact hi), by simp [hlro, hi]⟩
  obtain ⟨h, hh⟩ : ∃ h, p.heads[i]? = some h := ⟨p.heads[i], by simp [hi]⟩
  rw [e1, hr]
  by_cases hr0 : r = []
  · subst hr0
    have := hM.tno i hr
    exact ⟨fun hm => absurd this (fun q => alook_mem q hm), fun q => absurd rfl q⟩
  · obtain ⟨t, ht, _⟩ := hM.tso i r h hr hh hr0
    refine ⟨fun _ q => hr0 (by injection q), fun _ => ?_⟩
    obtain ⟨y, hy, e⟩ := Option.map_eq_some_iff.mp ht
    have := List.find?_some hy
    exact List.mem_map.mpr ⟨y, List.mem_of_find?_eq_some hy, (V.beq_eq this)⟩

theorem lo_best2 {m₁ : Loc} {b b' n n' x y : V} (h1 : m₁ "args" = none) (h2 : m₁ "value" = none) : LoLe (set (set m₁ "best" b') "most" n') (set (set (set (set (set (set m₁ "best" b) "most" n) "args" x) "value" y) "most" n') "best" b') := fun z v e => by
  unfold set at e ⊢
  split at e
  · rename_i q; rw [if_neg (by rw [q]; decide +kernel), if_pos q]; exact e
  · rename_i q
    split at e
    · rename_i q2; rw [if_pos q2]; exact e
    · rename_i q2
      rw [if_neg q2, if_neg q, if_neg (fun q3 => by rw [q3, h2] at e; cases e), if_neg (fun q3 => by rw [q3, h1] at e; cases e), if_neg q, if_neg q2]
      exact e
theorem m_choose {mk md : Addr} {l : List (V × V)} (G : Gd w h₀) (hR : Room 2 A) (hM : Mdl σ p) (hlro : p.rows.length = p.heads.length) (few : p.heads.length ≤ 4)
    (hok : ∀ (i : Nat) r x, p.rows[i]? = some r → p.heads[i]? = some x → RowOk x r)
    (hmk : σ mk = some (.inst 674 md)) (hmd : σ md = some (.dict .str l)) (hml : alook l (.str "model") = some (.ref p.M)) (n1 : mk ≠ p.O) (n2 : md ≠ p.O) (hol : p.om.length ≤ 50)
    (hK : ∀ σ' om, But p.O σ σ' → Mdl σ' (p.withOm om) → (∀ (i : Nat) r, p.rows[i]? = some r → alook om (.int i) = if r = [] then alook p.om (.int i) else some (mostV (r.map (·.2)))) → om.length ≤ p.om.length + 4 → K .none σ') :
    CallC w h₀ A (.ref 664) [.ref mk] σ K := by
  refine bodyN (n := 1) (names := ["self"]) G hR (by rfl) (by rfl) (by rfl) (by rfl) (by intro us hu; obtain ⟨a, rfl⟩ := len1 hu; rfl) (by rfl) (by wtm_at "binds") (by rfl) (by rfl) (by rfl) (by rfl) (by rfl) ?_
  intro L q env base os A' he hnm hce hR' ok O
  dsimp only at hnm
  dsimp only at hce he
  show Ex w _ _ _ (set (fun _ => none) "self" (.ref mk)) _ _ _
  have hh := hR'.handled
  replace hce : env.cells = [] := hce.trans rfl
  obtain ⟨is, hk, hlt, hnd⟩ := hM.keys
  have isl : is.length ≤ 4 := by
    have : (is.map fun i : Nat => (i : Int)).length ≤ ([0, 1, 2, 3] : List Int).length := nodup_le ((List.pairwise_map).mpr (hnd.imp fun h e => h (by omega))) fun x hx => by
      obtain ⟨i, hi, rfl⟩ := List.mem_map.mp hx
      have := hlt i hi
      simp only [List.mem_cons, List.not_mem_nil, or_false]; omega
    simpa using this
  wtm_at "go"
  refine ex_for hh O ok (.refl _) (by wtm_at "tg") (si_of ?_) (by wtm_at "fs")
  wtm_at "go"
  refine cl_get pc_674 fl_674_model ok G hmk hmd (v := .ref p.M) hml (fun r => by simp) ?_
  wtm_at "go"
  refine cl_get pc_559 fl_559_tables ok G hM.m hM.md (v := .ref p.T) (by wtm_at "look") (fun r => by simp) ?_
  wtm_at "go"
  refine c_sorted_dict hh hM.t (ns := is.map fun i : Nat => (i : Int)) (by rw [hk, List.map_map]; rfl) (by simp; omega) fun a ns ha hp hs => ?_
  obtain ⟨js, rfl, hjm, hjn⟩ : ∃ js : List Nat, ns = js.map (fun i : Nat => (i : Int)) ∧ (∀ i, i ∈ js ↔ i ∈ is) ∧ js.Nodup := by
    have hns : ns = (ns.map Int.toNat).map (fun i : Nat => (i : Int)) := by
      rw [List.map_map]
      have : ∀ x ∈ ns, ((fun i : Nat => (i : Int)) ∘ Int.toNat) x = x := fun x hx => by
        obtain ⟨i, _, rfl⟩ := List.mem_map.mp (hp.mem_iff.mp hx)
        simp
      exact (List.map_congr_left this).symm ▸ (List.map_id' ns).symm
    refine ⟨ns.map Int.toNat, hns, fun i => ?_, ?_⟩
    · rw [List.mem_map]
      constructor
      · rintro ⟨x, hx, rfl⟩
        obtain ⟨j, hj, rfl⟩ := List.mem_map.mp (hp.mem_iff.mp hx)
        simpa using hj
      · intro hi
        exact ⟨i, hp.mem_iff.mpr (List.mem_map.mpr ⟨i, hi, rfl⟩), by simp⟩
    · have h1 : (ns.map Int.toNat).Perm ((is.map fun i : Nat => (i : Int)).map Int.toNat) := hp.map _
      rw [List.map_map, show (Int.toNat ∘ fun i : Nat => (i : Int)) = id from by funext i; simp, List.map_id] at h1
      exact h1.nodup_iff.mpr hnd
  rw [List.map_map]
  have hjl : js.length ≤ 4 := by have := hp.length_eq; simp at this; omega
  refine ⟨true, _, _, src_list upd_same, .inl rfl, fun j σ₁ => But p.O σ σ₁ ∧ σ₁ a = some (.list (js.map (V.int ∘ fun i : Nat => (i : Int)))) ∧ ∃ om, Mdl σ₁ (p.withOm om) ∧ om.length ≤ p.om.length + j ∧
      ∀ (i : Nat) r, p.rows[i]? = some r → alook om (.int i) = if i ∈ js.take j then some (mostV (r.map (·.2))) else alook p.om (.int i), ?_, fun i σ h => h.2.1, ?_, ?_⟩
  · exact ⟨.le ((StLe.refl _).upd ha), upd_same, p.om, hM.le ((StLe.refl _).upd ha), by omega, fun i r _ => by simp⟩
  · rintro base' O' ok' j v σ₁ hv ⟨but, ga, om, M₁, oml, hom⟩
    replace O' : Cx.Own ⟨h₀, base', env, os⟩ := O'
    replace ok' : Cx.Ok ⟨h₀, base', env, os⟩ := ok'
    rw [List.getElem?_map, Option.map_eq_some_iff] at hv
    obtain ⟨i, hji, rfl⟩ := hv
    have hmi : i ∈ js := List.mem_of_getElem? hji
    have hi : i < p.heads.length := hlt i ((hjm i).mp hmi)
    obtain ⟨x, hx⟩ : ∃ x, p.heads[i]? = some x := ⟨p.heads[i], by simp [hi]⟩
    obtain ⟨r, hr⟩ : ∃ r, p.rows[i]? = some r := ⟨p.rows[i]'(by rw [hlro]; exact hi), by simp [hlro, hi]⟩
    have rok := hok i r x hr hx
    have rl := rok.len
    have hne : r ≠ [] := fun q => (tab_keys hM hlro hk hi).mp ((hjm i).mp hmi) (by rw [hr, q])
    refine ⟨_, by wtm_at "asn", ?_⟩
    simp only [Function.comp]
    wtm_at "go"
    refine ev_dict0 (kd := vkind x.2) fun d hd => ?_
    have told_ok : ∀ y ∈ r.map (·.2), ValOk x.2 y := fun y hy => by
      obtain ⟨z, hz, rfl⟩ := List.mem_map.mp hy
      obtain ⟨vs, _, _, b⟩ := rok.args z hz
      exact b
    have le0 : StLe σ₁ (upd σ₁ d (.dict (vkind x.2) [])) := (StLe.refl _).upd hd
    wtm_at "go"
    refine ex_for hh O' ok' (.refl _) (by wtm_at "tg") (si_of ?_) (by wtm_at "fs")
    wtm_at "go"
    have hmk1 := but _ _ hmk n1
    have hmd1 := but _ _ hmd n2
    refine cl_get pc_674 fl_674_model ok' G (le0 _ _ hmk1) (le0 _ _ hmd1) (v := .ref p.M) hml (fun r => by simp) ?_
    wtm_at "go"
    refine ⟨_, cl_meth pc_559 me_559_rows ok' G (M₁.le le0).m (M₁.le le0).md (by rfl), ?_⟩
    wtm_at "go"
    refine opc_fn ok' (m_rows G (hR'.le (by decide)) (M₁.le le0) hx hr rl fun b σ₂ le₂ hb gb => ?_).call
    have gd : σ₂ d = some (.dict (vkind x.2) []) := le₂ _ _ upd_same
    have le₁ := le0.trans le₂
    refine ⟨true, _, _, src_list gb, .inl rfl, fun k σ₃ => StLe σ₁ σ₃ ∧ σ₃ b = some (.list (itemsOf r)) ∧ ∃ acc, σ₃ d = some (.dict (vkind x.2) acc) ∧ acc.length ≤ k ∧ Many acc ((r.map (·.2)).take k), ⟨le₁, gb, [], gd, by simp, many_nil⟩, fun k σ h => h.2.1, ?_, ?_⟩
    · rintro base'' O'' ok'' k v σ₃ hv ⟨le₃, gb₃, acc, gd₃, hal, hma⟩
      replace O'' : Cx.Own ⟨h₀, base'', env, os⟩ := O''
      replace ok'' : Cx.Ok ⟨h₀, base'', env, os⟩ := ok''
      unfold itemsOf at hv
      rw [List.getElem?_map, Option.map_eq_some_iff] at hv
      obtain ⟨y, hy, rfl⟩ := hv
      have hk20 : k < r.length := (List.getElem?_eq_some_iff.mp hy).1
      have yv : ValOk x.2 y.2 := told_ok _ (List.mem_map.mpr ⟨y, List.mem_of_getElem? hy, rfl⟩)
      have hkey : V.has (vkind x.2).sh y.2 := by rw [vkind_sh]; exact val_has yv
      refine ⟨_, by wtm_at "as2", ?_⟩
      wtm_at "go"
      refine ⟨_, opg_dict gd₃ PySem.F.slot_dict_get PySem.F.type_dict_get, ?_⟩
      wtm_at "go"
      refine c_get (hR'.uk (by decide)) (vkind_fits _) gd₃ hkey ?_
      rw [many_get hma]
      wtm_at "go"
      refine seti_d hR' (vkind_fits _) gd₃ hkey (by omega) ?_
      wtm_at "go"
      have hbd : b ≠ d := fun e => by subst e; rw [gb₃] at gd₃; cases gd₃
      refine ⟨by wtm_at "lo", le₃.upd hd, (upd_ne hbd).trans gb₃, _, upd_same, ?_, ?_⟩
      · have := @aput_length acc y.2 (.int ((cntB ((r.map (·.2)).take k) y.2 : Int) + 1)); omega
      · have : ((r.map (·.2)).take (k + 1)) = (r.map (·.2)).take k ++ [y.2] := by rw [List.take_add_one, List.getElem?_map, hy]; rfl
        rw [this]
        exact many_snoc hma
    · rintro σ₃ ⟨le₃, gb₃, acc, gd₃, hal, hma⟩
      have hlen : (itemsOf r).length = r.length := by unfold itemsOf; simp
      rw [hlen, show ((r.map (·.2)).take r.length) = r.map (·.2) from by rw [← List.length_map (f := fun x : V × V => x.2), List.take_length]] at hma
      wtm_at "go"
      refine ex_tup ?_ (by rfl) (by subst he; rfl)
      wtm_at "go"
      refine ⟨by wtm_at "sz", _, by wtm_at "as2", ?_⟩
      wtm_at "go"
      refine ex_forM hh O' ok' (.refl _) (by wtm_at "tg") (si_of ?_) (by wtm_at "fs")
      wtm_at "go"
      refine cl_get pc_674 fl_674_model ok' G (le₃ _ _ hmk1) (le₃ _ _ hmd1) (v := .ref p.M) hml (fun r => by simp) ?_
      wtm_at "go"
      refine ⟨_, cl_meth pc_559 me_559_rows ok' G (M₁.le le₃).m (M₁.le le₃).md (by rfl), ?_⟩
      wtm_at "go"
      refine opc_fn ok' (m_rows G (hR'.le (by decide)) (M₁.le le₃) hx hr rl fun b2 σ₄ le₄ hb2 gb2 => ?_).call
      have gd4 := le₄ _ _ gd₃
      have le5 := le₃.trans le₄
      have hcnt : ∀ u ∈ r.map (·.2), cntB (r.map (·.2)) u = cntV (r.map (·.2)) u := fun u hu => cntB_eq told_ok (told_ok u hu)
      refine ⟨true, _, _, src_list gb2, .inl rfl, fun k m σ₅ => StLe σ₁ σ₅ ∧ σ₅ d = some (.dict (vkind x.2) acc) ∧ σ₅ b2 = some (.list (itemsOf r)) ∧ ∃ bb nn, m = set (set (set (set (set (fun _ => none) "self" (.ref mk)) "f" (.int i)) "many" (.ref d)) "best" bb) "most" (.int (nn : Nat)) ∧ Best (cntB (r.map (·.2))) ((r.map (·.2)).take k) bb nn,
        ⟨le5, gd4, gb2, .none, 0, rfl, by rw [List.take_zero]; exact best_nil⟩, fun k m σ h => h.2.2.1, ?_, ?_⟩
      · rintro base'' O'' ok'' k v m σ₅ hv ⟨le6, gd5, gb5, bb, nn, rfl, hbest⟩
        replace O'' : Cx.Own ⟨h₀, base'', env, os⟩ := O''
        replace ok'' : Cx.Ok ⟨h₀, base'', env, os⟩ := ok''
        unfold itemsOf at hv
        rw [List.getElem?_map, Option.map_eq_some_iff] at hv
        obtain ⟨y, hy, rfl⟩ := hv
        have ymem : y.2 ∈ r.map (·.2) := List.mem_map.mpr ⟨y, List.mem_of_getElem? hy, rfl⟩
        have yv : ValOk x.2 y.2 := told_ok _ ymem
        have hkey : V.has (vkind x.2).sh y.2 := by rw [vkind_sh]; exact val_has yv
        have hpos := cntB_mem ymem
        have hlk : alook acc y.2 = some (.int (cntB (r.map (·.2)) y.2)) := by rw [hma y.2, if_neg (by omega)]
        have htk : ((r.map (·.2)).take (k + 1)) = (r.map (·.2)).take k ++ [y.2] := by rw [List.take_add_one, List.getElem?_map, hy]; rfl
        refine ⟨_, by wtm_at "as2", ?_⟩
        wtm_at "go"
        refine item_d hR' (vkind_fits _) gd5 hkey hlk ?_
        wtm_at "go"
        refine ⟨_, rfl, fun hb => ?_, fun hb => ?_⟩
        · have hb' := of_decide_eq_true hb
          wtm_at "go"
          refine ex_tup_swap (names := [("best" : Str), ("most" : Str)]) hh ?_ (by rfl) (by subst he; rfl)
          wtm_at "go"
          refine item_d hR' (vkind_fits _) gd5 hkey hlk ?_
          wtm_at "go"
          refine ⟨by wtm_at "sz", _, _, rfl, rfl, asL_cons (as_bind (nm_st (C := ⟨h₀, base'', env, os⟩) hnm hce (by decide +kernel) O'')) (asL_cons (as_bind (nm_st (C := ⟨h₀, base'', env, os⟩) hnm hce (by decide +kernel) O'')) asL_nil), ?_⟩
          wtm_at "go"
          refine ⟨_, lo_best2 (by wtm_at "mn") (by wtm_at "mn"), le6, gd5, gb5, _, _, rfl, ?_⟩
          rw [htk]
          exact best_up hbest (by omega)
        · have hb' := of_decide_eq_false hb
          wtm_at "go"
          refine ⟨set (set (set (set (set (fun _ => none) "self" (.ref mk)) "f" (.int i)) "many" (.ref d)) "best" bb) "most" (.int (nn : Nat)), by wtm_at "lo", le6, gd5, gb5, bb, nn, rfl, ?_⟩
          rw [htk]
          exact best_keep hbest (by omega) hpos
      · rintro m σ₅ ⟨le6, gd5, gb5, bb, nn, rfl, hbest⟩
        rw [hlen, show ((r.map (·.2)).take r.length) = r.map (·.2) from by rw [← List.length_map (f := fun x : V × V => x.2), List.take_length]] at hbest
        obtain rfl := best_most (by simpa using hne) (best_cnt hbest hcnt)
        wtm_at "go"
        have M5 := M₁.le le6
        have hmv : ValOk x.2 (mostV (r.map (·.2))) := told_ok _ (most_mem (by simpa using hne))
        refine cl_get pc_674 fl_674_model ok' G (le6 _ _ hmk1) (le6 _ _ hmd1) (v := .ref p.M) hml (fun r => by simp) ?_
        refine ⟨_, cl_meth pc_559 me_559_set_other ok' G M5.m M5.md (by rfl), ?_⟩
        wtm_at "go"
        refine opc_fn ok' (m_set_other G (hR'.le (by decide)) M5 ?_).call
        wtm_at "go"
        have hjlt : j < js.length := (List.getElem?_eq_some_iff.mp hji).1
        have M6 := M5.setOm hx hmv (by show om.length ≤ 99; omega)
        replace M6 : Mdl (upd σ₅ p.O (.dict .int (aput om (.int i) (mostV (r.map (·.2)))))) (p.withOm (aput om (.int i) (mostV (r.map (·.2))))) := M6
        have gO : σ₁ p.O = _ := M₁.o
        have haO : a ≠ p.O := fun e => by rw [e, gO] at ga; cases ga
        refine ⟨by wtm_at "lo", (but.trans (.le le6)).upd, (upd_ne haO).trans (le6 _ _ ga), _, M6, ?_, fun l rl hrl => ?_⟩
        · have := @aput_length om (.int i) (mostV (r.map (·.2))); omega
        · rw [aput_look, List.take_add_one, hji]
          by_cases e : i = l
          · subst e
            rw [hr] at hrl; cases hrl
            rw [if_pos (V.beq_self _), if_pos (by simp)]
          · rw [if_neg (fun q => e (by have := V.beq_eq q; have : (i : Int) = l := by injection this
                                       omega)), hom l rl hrl]
            have : (l ∈ js.take j ++ (some i).toList) ↔ l ∈ js.take j := by simp [Option.toList]; exact fun q => absurd q.symm e
            simp only [this]
  · rintro σ₁ ⟨but, ga, om, M₁, oml, hom⟩
    rw [List.length_map] at oml hom
    wtm_at "go"
    refine hK _ om but M₁ (fun i r hr => ?_) (by omega)
    have hi : i < p.heads.length := by rw [← hlro]; exact (List.getElem?_eq_some_iff.mp hr).1
    rw [hom i r hr, List.take_length]
    have := tab_keys hM hlro hk hi
    rw [hr] at this
    by_cases hr0 : r = []
    · rw [if_pos hr0, if_neg (fun q => this.mp ((hjm i).mp q) (by rw [hr0]))]
    · rw [if_neg hr0, if_pos ((hjm i).mpr (this.mpr (fun q => hr0 (by injection q))))]
end
theorem x_RESERVED : ∀ w : World, nsIn (KK w) mainGlobals "RESERVED" = some (some (.ref 464)) := fun w => by kernel_rfl
noncomputable def RES : List Str := ["!", "_", "as", "BINARY", "DECIMAL", "exists", "forall", "HEXADECIMAL", "let", "match", "NUMERAL", "par", "STRING"]
theorem v_RESERVED : ∀ (w : World) (h : Heap), (KK w).In h → VIs h (.tup (RES.map .str)) (.ref 464) := fun w h X =>
  vis_tup (X 464 _ rfl) (.cons vis_str (.cons vis_str (.cons vis_str (.cons vis_str (.cons vis_str (.cons vis_str (.cons vis_str (.cons vis_str (.cons vis_str (.cons vis_str (.cons vis_str (.cons vis_str (.cons vis_str .nil)))))))))))))
theorem x_DIGITS : ∃ t, ∀ w : World, nsIn (KK w) mainGlobals "DIGITS" = some (some (.str "0123456789" t)) := ⟨_, fun w => by rfl⟩
theorem x_SIMPLE : ∃ t, ∀ w : World, nsIn (KK w) mainGlobals "SIMPLE" = some (some (.str "abcdefghijklmnopqrstuvwxyzABCDEFGHIJKLMNOPQRSTUVWXYZ0123456789~!@$%^&*_-+=<>.?/" t)) := ⟨_, fun w => by rfl⟩
noncomputable def SIG : Str := "abcdefghijklmnopqrstuvwxyzABCDEFGHIJKLMNOPQRSTUVWXYZ0123456789~!@$%^&*_-+=<>.?/"
noncomputable def resB (x : Str) : Bool := RES.any fun y => y == x
noncomputable def simpleB (x : Str) : Bool := if x == "" then false else if resB x then false else if Txt.contains "0123456789" ⟨#[x.cps[0]?.getD 0]⟩ then false else x.cps.toList.all fun c => Txt.contains SIG ⟨#[c]⟩
section
variable {w : World} {C : Cx} {A : Around} {m : Loc} {h₀ : Heap} {σ : Store} {K : V → Store → Prop} {p : Ws} {n : Nat}
theorem notIn_str {x y : Str} (h : K (.bool (!Txt.contains x y)) σ) : Op2 w C A (compareOp .NotIn) (.str y) (.str x) m σ K := fun s u₁ u₂ r a b => by
  obtain ⟨t, rfl⟩ := a.str_inv; obtain ⟨t', rfl⟩ := b.str_inv
  exact PyProof.Rows.notIn_str (.now r vis_bool h)
theorem eqv_str {a b : Str} : V.eqv (.str a) (.str b) = (a == b) := by simp [V.eqv, V.py, PyData.eqv]
theorem res_flat : V.flatL 50 (RES.map .str) := by refine ⟨by decide +kernel, by decide +kernel⟩
theorem str_flat {x : Str} (h : PyData.strOk x = true) : (V.str x).flat 60 := flat_has (has_str_of h) (by decide)
theorem in_res {x : Str} (hu : A.units + 72 < cLine) (hx : PyData.strOk x = true) (h : K (.bool (resB x)) σ) : Op2 w C A (compareOp .In) (.str x) (.tup (RES.map .str)) m σ K := by
  refine in_tup hu res_flat (str_flat hx) ?_
  rw [List.any_map, show ((fun y => V.eqv y (.str x)) ∘ V.str) = fun y => y == x from by funext y; exact eqv_str]
  exact h

theorem seq0 {n : Nat} (h : 0 < n) : seqIndex? 0 n = some 0 := by
  unfold seqIndex?
  simp [h]
theorem c_simple {x : Str} (G : Gd w h₀) (hR : Room 1 A) (ha : x.cps.all (· < 128) = true) (hx : PyData.strOk x = true) (hz : x.length ≤ 900) (hK : K (.bool (simpleB x)) σ) : CallC w h₀ A (.ref 471) [.str x] σ K := by
  refine bodyN (n := 0) (names := ["name"]) G hR (by rfl) (by rfl) (by rfl) (by rfl) (by intro us hu; obtain ⟨a, rfl⟩ := len1 hu; rfl) (by rfl) (by wtm_at "binds") (by rfl) (by rfl) (by rfl) (by rfl) (by rfl) ?_
  intro L q env base os A' he hnm hce hR' ok O
  dsimp only at hnm
  clear he
  replace hce : env.cells = [] := hce.trans rfl
  show Ex w _ _ _ (set (fun _ => none) "name" (.str x)) _ _ _
  have hh := hR'.handled
  unfold simpleB at hK
  wtm_at "go"
  refine ⟨_, rfl, fun hb => ?_, fun hb => ?_⟩
  · rw [if_pos hb] at hK
    wtm_at "yes"
    wtm_at "go"
    exact hK
  · have hne := hb
    rw [if_neg (by rw [hb]; simp)] at hK
    wtm_at "go"
    refine nm_glob x_RESERVED v_RESERVED hnm ok G (by decide +kernel) ?_ (by decide +kernel)
    refine in_res (hR'.uk (by decide)) hx ⟨_, rfl, fun hb => ?_, fun hb => ?_⟩
    · rw [if_pos hb] at hK
      wtm_at "yes"
      wtm_at "go"
      exact hK
    · rw [if_neg (by rw [hb]; simp)] at hK
      have hpos : 0 < x.cps.size := by
        rcases Nat.eq_zero_or_pos x.cps.size with h | h
        · exfalso
          have : x = (⟨#[]⟩ : Str) := by cases x; simp at h; subst h; rfl
          rw [this] at hne
          exact absurd hne (by decide)
        · exact h
      wtm_at "go"
      refine ⟨sb_str, get_str (c := x.cps[0]?.getD 0) (by decide) (by rw [show seqIndex? 0 x.length = some 0 from seq0 hpos]; simp [hpos]) ?_⟩
      obtain ⟨t, hD⟩ := x_DIGITS
      wtm_at "go"
      refine nm_glob hD (fun _ _ _ => vis_str) hnm ok G (by decide +kernel) ?_ (by decide +kernel)
      refine in_str ⟨_, rfl, fun hb => ?_, fun hb => ?_⟩
      · rw [if_pos hb] at hK
        wtm_at "yes"
        wtm_at "go"
        exact hK
      · rw [if_neg (by rw [hb]; simp)] at hK
        wtm_at "go"
        wtm_at "no"
        wtm_at "go"
        refine ex_for hh O ok (.refl _) (by wtm_at "tg") (si_of ?_) (by wtm_at "fs")
        wtm_at "go"
        refine ⟨true, _, _, src_str ha, .inl rfl, fun i σ₁ => σ₁ = σ ∧ ∀ c ∈ x.cps.toList.take i, Txt.contains SIG ⟨#[c]⟩ = true, ⟨rfl, by simp⟩, fun i σ h => trivial, ?_, ?_⟩
        · rintro base' O' ok' j v σ₁ hv ⟨rfl, hall⟩
          replace O' : Cx.Own ⟨h₀, base', env, os⟩ := O'
          replace ok' : Cx.Ok ⟨h₀, base', env, os⟩ := ok'
          unfold signs at hv
          rw [List.getElem?_map, Option.map_eq_some_iff] at hv
          obtain ⟨c, hc, rfl⟩ := hv
          refine ⟨_, by wtm_at "asn", ?_⟩
          obtain ⟨t, hS⟩ := x_SIMPLE
          wtm_at "go"
          refine nm_glob hS (fun _ _ _ => vis_str) hnm ok' G (by decide +kernel) ?_ (by decide +kernel)
          refine notIn_str ⟨_, rfl, fun hb => ?_, fun hb => ?_⟩
          · wtm_at "go"
            rw [show (x.cps.toList.all fun c => Txt.contains SIG ⟨#[c]⟩) = false from ?_] at hK
            · exact hK
            · rw [Bool.eq_false_iff]
              intro q
              rw [List.all_eq_true] at q
              have := q c (List.mem_of_getElem? hc)
              rw [show Txt.contains SIG ⟨#[c]⟩ = false from by simpa [SIG] using hb] at this
              cases this
          · wtm_at "go"
            refine ⟨by wtm_at "lo", rfl, fun d hd => ?_⟩
            rw [List.take_add_one, hc] at hd
            rcases List.mem_append.mp hd with hd | hd
            · exact hall d hd
            · rw [List.mem_singleton.mp hd]; simpa [SIG] using hb
        · rintro σ₁ ⟨rfl, hall⟩
          unfold signs at hall
          rw [List.length_map, List.take_length] at hall
          wtm_at "go"
          rw [show (x.cps.toList.all fun c => Txt.contains SIG ⟨#[c]⟩) = true from List.all_eq_true.mpr hall] at hK
          exact hK
end
noncomputable def lastC (x : Str) : Nat := x.cps[x.cps.size - 1]?.getD 0
noncomputable def barredB (x : Str) : Bool := decide (2 < (x.length : Int)) && ((⟨#[x.cps[0]?.getD 0]⟩ : Str) == "|") && ((⟨#[lastC x]⟩ : Str) == "|") && resB (strCut x (some 1) (some (-1)) none)
noncomputable def symT (x : Str) : Str := if resB x || simpleB x then x else if barredB x then x else "|" ++ x ++ "|"
/-- what a name must be for its text to be found -/
structure NameOk (x : Str) : Prop where
  asc : x.cps.all (· < 128) = true
  ok : PyData.strOk x = true
  len : x.length ≤ 90
  cut : PyData.strOk (strCut x (some 1) (some (-1)) none) = true
  cutlen : (strCut x (some 1) (some (-1)) none).length ≤ 900
  plain : resB x = false → simpleB x = false → barredB x = false → Txt.contains x "|" = false ∧ Txt.contains x "\\" = false
section
variable {w : World} {C : Cx} {A : Around} {m : Loc} {h₀ : Heap} {σ : Store} {K : V → Store → Prop} {p : Ws} {n : Nat}
theorem ev_neg {x : PySem.Expr} {pos : Pos} {env : Env} (h : Ev w C A (eval x env) m σ (fun v σ₁ => ∃ i : Int, v = .int i ∧ K (.int (-i)) σ₁)) : Ev w C A (eval (.UnaryOp .USub x pos) env) m σ K := fun s r =>
  wpAny_UnaryOp (h.use r fun u s₁ v σ₁ t y r₁ ⟨i, e, k⟩ => by
    subst e
    obtain ⟨tk, rfl⟩ := y.int_inv
    exact PyProof.Rows.neg_int ⟨t, _, _, vis_int, r₁.toks _, k⟩)
theorem c_symbol {x : Str} (G : Gd w h₀) (hR : Room 2 A) (hx : NameOk x) (hK : ∀ σ', StLe σ σ' → K (.str (symT x)) σ') : CallC w h₀ A (.ref 478) [.str x] σ K := by
  refine bodyN (n := 1) (names := ["name"]) G hR (by rfl) (by rfl) (by rfl) (by rfl) (by intro us hu; obtain ⟨a, rfl⟩ := len1 hu; rfl) (by rfl) (by wtm_at "binds") (by rfl) (by rfl) (by rfl) (by rfl) (by rfl) ?_
  intro L q env base os A' he hnm hce hR' ok O
  dsimp only at hnm
  clear he
  replace hce : env.cells = [] := hce.trans rfl
  show Ex w _ _ _ (set (fun _ => none) "name" (.str x)) _ _ _
  have hh := hR'.handled
  unfold symT at hK
  wtm_at "go"
  refine nm_glob x_RESERVED v_RESERVED hnm ok G (by decide +kernel) ?_ (by decide +kernel)
  refine in_res (hR'.uk (by decide)) hx.ok ⟨_, rfl, fun hb => ?_, fun hb => ?_⟩
  · rw [hb, Bool.true_or, if_pos rfl] at hK
    wtm_at "yes"
    wtm_at "go"
    exact hK _ (.refl _)
  · rw [hb, Bool.false_or] at hK
    wtm_at "go"
    refine opc_fn ok (c_simple G (hR'.le (by decide)) hx.asc hx.ok (by have := hx.len; omega) ?_).call
    wtm_at "go"
    refine ⟨fun hs => ?_, fun hs => ?_⟩
    · rw [if_pos hs] at hK
      wtm_at "yes"
      wtm_at "go"
      exact hK _ (.refl _)
    · rw [if_neg (by rw [hs]; simp)] at hK
      have hnb := hx.plain hb hs
      have hlen := hx.len
      wtm_at "go"
      wtm_at "no"
      wtm_at "1"
      refine ex_cons ?_
      refine ex_if (Gn.mono (K := fun b σ' => b = barredB x ∧ StLe σ σ') ?_ ?_)
      · wtm_at "go"
        refine c_len_str (by have := hx.len; omega) ?_
        wtm_at "go"
        refine ⟨_, rfl, fun hb1 => ?_, fun hb1 => ?_⟩
        · have h2 := of_decide_eq_true hb1
          have hpos : 2 < x.cps.size := by have : x.length = x.cps.size := rfl; omega
          wtm_at "go"
          refine ⟨sb_str, get_str (c := x.cps[0]?.getD 0) (by decide) (by rw [show seqIndex? 0 x.length = some 0 from seq0 (by show 0 < x.cps.size; omega)]; simp [show 0 < x.cps.size by omega]) ?_⟩
          wtm_at "go"
          refine ⟨_, rfl, fun hb2 => ?_, fun hb2 => ?_⟩
          · wtm_at "go"
            refine ev_neg ?_
            wtm_at "go"
            refine ⟨1, rfl, ?_⟩
            refine ⟨sb_str, get_str (c := lastC x) (by decide) ?_ ?_⟩
            · rw [show seqIndex? (-1) x.length = some (x.cps.size - 1) from ?_]
              · unfold lastC; simp [show x.cps.size - 1 < x.cps.size by omega]
              · unfold seqIndex?
                have : x.length = x.cps.size := rfl
                rw [this]
                simp only [show ((-1 : Int) < 0) = True from by simp, if_true]
                rw [if_pos (by simp; omega)]
                congr 1
                omega
            wtm_at "go"
            refine ⟨_, rfl, fun hb3 => ?_, fun hb3 => ?_⟩
            · wtm_at "go"
              refine ev_sub ?_ (fun o i => ⟨_, rfl⟩)
              wtm_at "go"
              refine ev_slice (part_some ?_)
              wtm_at "go"
              refine part_some (ev_neg ?_)
              wtm_at "go"
              refine ⟨1, rfl, part_none ⟨some 1, some (-1), none, rfl, rfl, rfl, fun a o ha ho => ⟨sb_str, ?_⟩⟩⟩
              have hcl := hx.cutlen
              refine get_str_slice upd_same ho (by decide) (by rw [sizeLine_eq]; omega) ?_
              wtm_at "go"
              refine nm_glob x_RESERVED v_RESERVED hnm ok G (by decide +kernel) ?_ (by decide +kernel)
              refine in_res (hR'.uk (by decide)) hx.cut ⟨_, rfl, fun hb4 => ?_, fun hb4 => ?_⟩
              · wtm_at "go"
                refine ⟨?_, (StLe.refl _).upd ha⟩
                unfold barredB; rw [hb1, hb2, hb3, hb4]; rfl
              · refine ⟨?_, (StLe.refl _).upd ha⟩
                unfold barredB; rw [hb4]; simp
            · refine ⟨?_, .refl _⟩
              unfold barredB; rw [hb3]; simp
          · refine ⟨?_, .refl _⟩
            unfold barredB; rw [hb2]; simp
        · refine ⟨?_, .refl _⟩
          unfold barredB; rw [hb1]; simp
      · rintro b σ' ⟨rfl, le⟩
        refine ⟨fun hb1 => ?_, fun hb1 => ?_⟩
        · rw [if_pos hb1] at hK
          wtm_at "go"
          exact hK _ le
        · rw [if_neg (by rw [hb1]; simp)] at hK
          obtain ⟨hp1, hp2⟩ := hnb hb1
          wtm_at "go"
          refine in_str ?_
          rw [hp1]
          refine ⟨_, rfl, ?_⟩
          wtm_at "no"
          wtm_at "go"
          refine in_str ?_
          rw [hp2]
          refine ⟨_, rfl, ?_⟩
          wtm_at "no"
          wtm_at "go"
          wtm_at "no"
          wtm_at "go"
          have e1 : ("|" : Str).length = 1 := rfl
          refine op_adds ?_ (by rw [sizeLine_eq, e1]; omega)
          wtm_at "go"
          have e2 : (("|" : Str) ++ x).length = 1 + x.length := by show (("|" : Str).cps ++ x.cps).size = _; rw [Array.size_append]; rfl
          exact op_adds (hK _ le) (by rw [sizeLine_eq, e1, e2]; omega)
end
noncomputable def nameAt (p : Ws) (s : Int) (x : Str) : Prop := ([V.str "Bool", V.str "Int", V.str "Real", V.str "U", V.str p.nm])[s.toNat]? = some (.str x)
noncomputable def elemN (x : Str) (k : Int) : Str := (Str.empty ++ (if Txt.startswith x "|" then strCut x (some 1) (some (-1)) none else x)) ++ "!val!" ++ toString k
section
variable {w : World} {C : Cx} {A : Around} {m : Loc} {h₀ : Heap} {σ : Store} {K : V → Store → Prop} {p : Ws} {n : Nat}
theorem len_app {a b : Str} : (a ++ b).length = a.length + b.length := by show (a.cps ++ b.cps).size = _; rw [Array.size_append]; rfl
theorem c_sort_text {s : Int} {x : Str} (G : Gd w h₀) (hR : Room 3 A) (hB : Bnk σ p) (hs : SortOk s) (hf : 2 < s) (hx : nameAt p s x) (hn : NameOk x) (hK : ∀ σ', StLe σ σ' → K (.str (symT x)) σ') : CallC w h₀ A (.ref 456) [.ref p.B, .int s] σ K := by
  refine bodyN (n := 2) (names := ["bank", "s"]) G hR (by rfl) (by rfl) (by rfl) (by rfl) (by intro us hu; obtain ⟨a, b, rfl⟩ := len2 hu; rfl) (by rfl) (by wtm_at "binds") (by rfl) (by rfl) (by rfl) (by rfl) (by rfl) ?_
  intro L q env base os A' he hnm hce hR' ok O
  dsimp only at hnm
  clear he
  replace hce : env.cells = [] := hce.trans rfl
  show Ex w _ _ _ (set (set (fun _ => none) "bank" (.ref p.B)) "s" (.int s)) _ _ _
  have hh := hR'.handled
  wtm_at "go"
  refine ⟨_, cl_meth pc_410 me_410_is_free_sort ok G hB.b hB.bd (hB.bno _ (by decide +kernel)), ?_⟩
  wtm_at "go"
  refine opc_fn ok (b_is_free G (hR'.le (by decide)) hB hs ?_).call
  rw [show decide (2 < s) = true from decide_eq_true hf]
  wtm_at "go"
  wtm_at "yes"
  wtm_at "go"
  refine ⟨_, cl_meth pc_410 me_410_sort_name ok G hB.b hB.bd (hB.bno _ (by decide +kernel)), ?_⟩
  wtm_at "go"
  refine opc_fn ok (b_sort_name G (hR'.le (by decide)) hB hs hx ?_).call
  wtm_at "go"
  refine opc_fn ok (c_symbol G (hR'.le (by decide)) hn fun σ' le => ?_).call
  exact hK _ le

theorem c_element_text {s k : Int} {x : Str} (G : Gd w h₀) (hR : Room 3 A) (hB : Bnk σ p) (hs : SortOk s) (hx : nameAt p s x) (hlen : x.length ≤ 50) (hcut : (strCut x (some 1) (some (-1)) none).length ≤ 50) (hk : k.natAbs.log2 < 1920) (hz : (toString k : Str).length ≤ 20) (hn : NameOk (elemN x k)) (hK : ∀ σ', StLe σ σ' → K (.str (symT (elemN x k))) σ') : CallC w h₀ A (.ref 463) [.ref p.B, .int s, .int k] σ K := by
  refine bodyN (n := 2) (names := ["bank", "s", "k"]) G hR (by rfl) (by rfl) (by rfl) (by rfl) (by intro us hu; obtain ⟨a, b, c, rfl⟩ := len3 hu; rfl) (by rfl) (by wtm_at "binds") (by rfl) (by rfl) (by rfl) (by rfl) (by rfl) ?_
  intro L q env base os A' he hnm hce hR' ok O
  dsimp only at hnm
  clear he
  replace hce : env.cells = [] := hce.trans rfl
  show Ex w _ _ _ (set (set (set (fun _ => none) "bank" (.ref p.B)) "s" (.int s)) "k" (.int k)) _ _ _
  have hh := hR'.handled
  wtm_at "go"
  refine ⟨_, cl_meth pc_410 me_410_sort_name ok G hB.b hB.bd (hB.bno _ (by decide +kernel)), ?_⟩
  wtm_at "go"
  refine opc_fn ok (b_sort_name G (hR'.le (by decide)) hB hs hx ?_).call
  wtm_at "go"
  refine ⟨_, opg_str PySem.F.slot_str_startswith PySem.F.type_str_startswith, ?_⟩
  wtm_at "go"
  refine c_startswith ?_
  wtm_at "go"
  refine ⟨fun hb => ?_, fun hb => ?_⟩
  · unfold elemN at hn hK
    rw [if_pos hb] at hn hK
    wtm_at "go"
    refine ev_sub ?_ (fun o i => ⟨_, rfl⟩)
    wtm_at "go"
    refine ev_slice (part_some ?_)
    wtm_at "go"
    refine part_some (ev_neg ?_)
    wtm_at "go"
    refine ⟨1, rfl, part_none ⟨some 1, some (-1), none, rfl, rfl, rfl, fun a o ha ho => ⟨sb_str, ?_⟩⟩⟩
    refine get_str_slice upd_same ho (by decide) (by rw [sizeLine_eq]; omega) ?_
    wtm_at "go"
    refine ev_joined (jn_cons (ev_field ?_))
    wtm_at "go"
    refine fmt_str (by rw [sizeLine_eq]; omega) ⟨_, rfl, by rw [sizeLine_eq, len_app, show Str.empty.length = 0 from rfl]; omega, ?_⟩
    refine jn_cons ?_
    wtm_at "go"
    refine ⟨_, rfl, by rw [sizeLine_eq, len_app, len_app, show Str.empty.length = 0 from rfl, show ("!val!" : Str).length = 5 from rfl]; omega, jn_cons (ev_field ?_)⟩
    wtm_at "go"
    refine fmt_int hk ⟨_, rfl, by rw [sizeLine_eq, len_app, len_app, len_app, show Str.empty.length = 0 from rfl, show ("!val!" : Str).length = 5 from rfl]; omega, jn_nil (by rw [sizeLine_eq, len_app, len_app, len_app, show Str.empty.length = 0 from rfl, show ("!val!" : Str).length = 5 from rfl]; omega) ?_⟩
    wtm_at "go"
    refine opc_fn ok (c_symbol G (hR'.le (by decide)) hn fun σ' le' => ?_).call
    exact hK _ (((StLe.refl _).upd ha).trans le')
  · unfold elemN at hn hK
    rw [if_neg (by rw [hb]; simp)] at hn hK
    wtm_at "go"
    refine ev_joined (jn_cons (ev_field ?_))
    wtm_at "go"
    refine fmt_str (by rw [sizeLine_eq]; omega) ⟨_, rfl, by rw [sizeLine_eq, len_app, show Str.empty.length = 0 from rfl]; omega, ?_⟩
    refine jn_cons ?_
    wtm_at "go"
    refine ⟨_, rfl, by rw [sizeLine_eq, len_app, len_app, show Str.empty.length = 0 from rfl, show ("!val!" : Str).length = 5 from rfl]; omega, jn_cons (ev_field ?_)⟩
    wtm_at "go"
    refine fmt_int hk ⟨_, rfl, by rw [sizeLine_eq, len_app, len_app, len_app, show Str.empty.length = 0 from rfl, show ("!val!" : Str).length = 5 from rfl]; omega, jn_nil (by rw [sizeLine_eq, len_app, len_app, len_app, show Str.empty.length = 0 from rfl, show ("!val!" : Str).length = 5 from rfl]; omega) ?_⟩
    wtm_at "go"
    refine opc_fn ok (c_symbol G (hR'.le (by decide)) hn fun σ' le' => ?_).call
    exact hK _ le'
end
noncomputable def usedB (p : Ws) (s : Int) : Bool := p.heads.any fun h => (h.1 ++ [h.2]).any (· == s)
/-- the texts of one sort's elements, from its three words -/
noncomputable def declTexts (w0 w1 w2 : Str) (ns : List Int) : List V := (if ns = [] then [0] else ns).map fun k => V.str ("(declare-fun " ++ w1 ++ toString k ++ w2 ++ " () " ++ w0 ++ ")")
section
variable {w : World} {C : Cx} {A : Around} {m : Loc} {h₀ : Heap} {σ : Store} {K : V → Store → Prop} {p : Ws} {n : Nat}
/-- a list against an empty one -/
theorem op_ne_nil {a b : Addr} {l : List V} (hu : A.units + 64 < cLine) (ha : σ a = some (.list l)) (hb : σ b = some (.list [])) (h : K (.bool (!l.isEmpty)) σ) : Op2 w C A (compareOp .NotEq) (.ref a) (.ref b) m σ K := fun s u₁ u₂ r x y => by
  rw [x.ref_inv, y.ref_inv]
  obtain ⟨vs, n, g, z⟩ := isList_of r.hp ha
  obtain ⟨vs', n', g', z'⟩ := isList_of r.hp hb
  have e' : vs'.size = 0 := by rw [← Array.length_toList, z'.length]; rfl
  have e : vs.size = l.length := by rw [← Array.length_toList]; exact z.length
  cases l with
  | nil =>
    refine PySem.SeqAt.RcNeAt.lists (e := fun _ => true) ⟨_, g, rfl, n, rfl⟩ ⟨_, g', rfl, n', rfl⟩ (by rw [e, e']; rfl) (by omega) (fun j h1 _ => ?_) P w No _ ?_
    · rw [e] at h1; exact absurd h1 (Nat.not_lt_zero _)
    · rw [e]; exact .now r vis_bool h
  | cons v l =>
    refine PySem.SeqAt.RcNeAt.lists_lengths ⟨_, g, rfl, n, rfl⟩ ⟨_, g', rfl, n', rfl⟩ (by rw [e, e']; rfl) (by omega) P w No _ ?_
    exact .now r vis_bool h

theorem met_rows {s : Int} {x : List Int × Int} {r : List (V × V)} {o : V} (rok : RowOk x r) (ho : ValOk x.2 o) : ∀ (l : List (V × V)) (acc : List Int), (∀ y ∈ l, y ∈ r) → Found acc → Found (l.foldl (metRow s o) acc)
  | [], _, _, h => h
  | y :: l, acc, hl, h => met_rows rok ho l _ (fun z hz => hl z (List.mem_cons_of_mem _ hz)) (Found.fold h (ones_vals rok (hl y List.mem_cons_self) ho))
theorem met_found {s : Int} (hW : Wld σ p) : ∀ n, n ≤ p.heads.length → Found (met p p.ow s n)
  | 0, _ => ⟨fun k hk => by simp [met] at hk, by simp [met]⟩
  | n + 1, hn => by
    rw [met_succ]
    have ih := met_found (s := s) hW n (by omega)
    obtain ⟨x, hx⟩ : ∃ x, p.heads[n]? = some x := ⟨p.heads[n], by simp⟩
    obtain ⟨r, hr⟩ : ∃ r, p.rows[n]? = some r := ⟨p.rows[n]'(by rw [hW.lro]; exact hn), by simp⟩
    have rok := hW.rok n r x hr hx
    have eo := hW.else_ok hx
    unfold metFun rwAt hdAt
    rw [hr, hx]
    exact met_rows rok eo _ _ (fun y hy => hy) ih

noncomputable def srt (l : List Int) : List Int := l.mergeSort (fun a b => decide (a ≤ b))
theorem srt_perm (l : List Int) : (srt l).Perm l := List.mergeSort_perm l _
theorem srt_sorted (l : List Int) : (srt l).Pairwise (· ≤ ·) := by
  have := List.pairwise_mergeSort (le := fun a b : Int => decide (a ≤ b)) (fun a b c h1 h2 => by simp at *; omega) (fun a b => by simp; omega) l
  exact this.imp (fun h => by simpa using h)
theorem srt_eq {ns l : List Int} (hp : ns.Perm l) (hs : ns.Pairwise (· ≤ ·)) : ns = srt l := lks_uniq (hp.trans (srt_perm l).symm) hs (srt_sorted l)

noncomputable def declOne (p : Ws) (s : Int) (w0 w1 w2 : Str) : List V := if usedB p s then declTexts w0 w1 w2 (srt (met p p.ow s p.heads.length)) else []
noncomputable def sortRow (p : Ws) : List (Int × Str × Str × Str) := [(3, "U", "U!val!", ""), (4, p.w0, p.w1, p.w2)]
noncomputable def declUpto (p : Ws) (i : Nat) : List V := ((sortRow p).take i).flatMap fun x => declOne p x.1 x.2.1 x.2.2.1 x.2.2.2
theorem declUpto_succ {j : Nat} {s : Int} {w0 w1 w2 : Str} (h : (sortRow p)[j]? = some (s, w0, w1, w2)) : declUpto p (j + 1) = declUpto p j ++ declOne p s w0 w1 w2 := by
  unfold declUpto
  rw [List.take_add_one, h, List.flatMap_append]; simp
theorem declOne_str {s : Int} {w0 w1 w2 : Str} : ∀ v ∈ declOne p s w0 w1 w2, ∃ x, v = .str x := fun v hv => by
  unfold declOne at hv
  split at hv
  · unfold declTexts at hv
    obtain ⟨k, _, rfl⟩ := List.mem_map.mp hv
    exact ⟨_, rfl⟩
  · cases hv
theorem declUpto_str {j : Nat} : ∀ v ∈ declUpto p j, ∃ x, v = .str x := fun v hv => by
  unfold declUpto at hv
  obtain ⟨x, _, h⟩ := List.mem_flatMap.mp hv
  exact declOne_str v h
noncomputable def wordsL : List (Str × Str × Str × Str) := [("V", "V!val!", "", "V"), ("|my sort|", "|my sort!val!", "|", "my sort"), ("|9|", "|9!val!", "|", "9"), ("|let|", "let!val!", "", "|let|")]
noncomputable def WordsOk (p : Ws) : Prop := (p.w0, p.w1, p.w2, p.nm) ∈ wordsL
theorem words_len (h : WordsOk p) : p.w0.length ≤ 20 ∧ p.w1.length ≤ 20 ∧ p.w2.length ≤ 20 ∧ p.nm.length ≤ 20 := by
  have : ∀ x ∈ wordsL, x.1.length ≤ 20 ∧ x.2.1.length ≤ 20 ∧ x.2.2.1.length ≤ 20 ∧ x.2.2.2.length ≤ 20 := by decide +kernel
  exact this _ h
theorem declOne_len {s : Int} {w0 w1 w2 : Str} (hW : Wld σ p) : (declOne p s w0 w1 w2).length ≤ 4 := by
  unfold declOne
  split
  · unfold declTexts
    rw [List.length_map]
    split
    · decide
    · rw [(srt_perm _).length_eq]; exact (met_found hW _ (Nat.le_refl _)).length
  · exact Nat.zero_le _
theorem declUpto_len {j : Nat} (hW : Wld σ p) : (declUpto p j).length ≤ 8 := by
  have h1 := declOne_len (s := 3) (w0 := "U") (w1 := "U!val!") (w2 := "") hW
  have h2 := declOne_len (s := 4) (w0 := p.w0) (w1 := p.w1) (w2 := p.w2) hW
  match j with
  | 0 => exact Nat.zero_le _
  | 1 => simp [declUpto, sortRow]; omega
  | j + 2 => simp [declUpto, sortRow]; omega
theorem str_small {k : Int} (h0 : 0 ≤ k) (h1 : k < 4) : (toString k : Str).length ≤ 5 := by
  have : k = 0 ∨ k = 1 ∨ k = 2 ∨ k = 3 := by omega
  rcases this with rfl | rfl | rfl | rfl <;> decide +kernel
theorem log_small {k : Int} (h0 : 0 ≤ k) (h1 : k < 4) : k.natAbs.log2 < 1920 := by
  have : k = 0 ∨ k = 1 ∨ k = 2 ∨ k = 3 := by omega
  rcases this with rfl | rfl | rfl | rfl <;> decide +kernel

theorem c_declared (G : Gd w h₀) (hR : Room 4 A) (hW : Wld σ p) (hw : WordsOk p)
    (hK : ∀ (a : Addr) (σ' : Store), StLe σ σ' → σ' a = some (.list (declUpto p 2)) → K (.ref a) σ') : CallC w h₀ A (.ref 732) [.ref p.W] σ K := by
  refine bodyN (n := 3) (names := ["world"]) G hR (by rfl) (by rfl) (by rfl) (by rfl) (by intro us hu; obtain ⟨a, rfl⟩ := len1 hu; rfl) (by rfl) (by wtm_at "binds") (by rfl) (by rfl) (by rfl) (by rfl) (by rfl) ?_
  intro L q env base os A' he hnm hce hR' ok O
  dsimp only at hnm
  dsimp only at hce he
  show Ex w _ _ _ (set (fun _ => none) "world" (.ref p.W)) _ _ _
  have hh := hR'.handled
  replace hce : env.cells = [(("s" : Str), L + 1)] := hce.trans rfl
  have few := hW.few
  obtain ⟨wl0, wl1, wl2, _⟩ := words_len hw
  wtm_at "go"
  refine ⟨by decide, fun a ha => ?_⟩
  have la : StLe σ (upd σ a (.list [])) := (StLe.refl σ).upd ha
  wtm_at "go"
  refine ex_for hh O ok (.refl _) (by wtm_at "tg") (si_of ?_) (by wtm_at "fs")
  wtm_at "go"
  refine item_s hR' (la _ _ hW.w) (by decide +kernel) (by wtm_at "look") ?_
  refine ⟨true, _, _, src_list (la _ _ hW.ls), .inl rfl, fun i σ₁ => StLe σ σ₁ ∧ σ₁ a = some (.list (declUpto p i)), ⟨la, upd_same⟩, fun i σ h => h.1 _ _ hW.ls, ?_, ?_⟩
  · rintro base' O' ok' j v σ₁ hv ⟨le, ga⟩
    replace O' : Cx.Own ⟨h₀, base', env, os⟩ := O'
    replace ok' : Cx.Ok ⟨h₀, base', env, os⟩ := ok'
    obtain ⟨s, w0, w1, w2, rfl, hl0, hl1, hl2, hj⟩ : ∃ s w0 w1 w2, v = .tup [.int s, .tup [.str w0, .str w1, .str w2]] ∧ w0.length ≤ 20 ∧ w1.length ≤ 20 ∧ w2.length ≤ 20 ∧ declUpto p (j + 1) = declUpto p j ++ declOne p s w0 w1 w2 := by
      match j, hv with
      | 0, hv => cases hv; exact ⟨_, _, _, _, rfl, by decide, by decide, by decide, declUpto_succ rfl⟩
      | 1, hv => cases hv; exact ⟨_, _, _, _, rfl, wl0, wl1, wl2, declUpto_succ rfl⟩
      | j + 2, hv => simp at hv
    refine ⟨_, by wtm_at "as2", ?_⟩
    wtm_at "go"
    refine ev_compN [(("s" : Str), L + 1)] hh O' ok' hnm (by subst he; rfl) ⟨fun x c' e => by rw [hce]; exact e⟩ (by decide +kernel) (by rfl) (by decide +kernel) (by rfl) (by decide +kernel) (by rfl) (by wtm_at "fs") ?_
    wtm_at "go"
    refine item_s hR' (le _ _ hW.w) (by decide +kernel) (by wtm_at "look") ?_
    refine ⟨true, _, _, src_list (le _ _ hW.lh), rfl, fun i acc σ₂ => StLe σ₁ σ₂ ∧ acc.isEmpty = !((p.heads.take i).any fun h => (h.1 ++ [h.2]).any (· == s)), by rw [sizeLine_eq]; simp [hW.lph]; omega, ⟨.refl _, rfl⟩, fun i acc σ h => h.1 _ _ (le _ _ hW.lh), ?_, ?_⟩
    · rintro env' base'' O'' ok'' hnm' hce' i v acc σ₂ hv ⟨le₂, hacc⟩
      have hi : i < p.heads.length := by have := (List.getElem?_eq_some_iff.mp hv).1; simp [hW.lph] at this; exact this
      obtain ⟨x, hx⟩ : ∃ x, p.heads[i]? = some x := ⟨p.heads[i], by simp⟩
      obtain ⟨pa, hpa, hza, hσa⟩ := hW.head hx
      have xok := hW.hok x (List.mem_of_getElem? hx)
      have xl := xok.len
      rw [hza] at hv; cases hv
      have hms : mIn [(("s" : Str), L + 1)] (set (set (set (set (fun x => none) "world" (.ref p.W)) "found" (.ref a)) "s" (.int s)) "words" (.tup [.str w0, .str w1, .str w2])) "s" = some (.int s) := by rfl
      refine ts_one ?_
      unfold headV
      wtm_at "go"
      refine item_p (v := .ref pa) (by decide) (by decide) (by rfl) ?_
      wtm_at "go"
      refine c_list_list (le₂ _ _ (le _ _ hσa)) (by rw [sizeLine_eq, List.length_map]; omega) fun d hd => ?_
      have le₃ : StLe σ₁ (upd σ₂ d (.list (x.1.map .int))) := le₂.trans ((StLe.refl _).upd hd)
      have g3 : upd σ₂ d (.list (x.1.map .int)) d = some (.list (x.1.map .int)) := upd_same
      generalize upd σ₂ d (.list (x.1.map .int)) = σ₃ at *
      wtm_at "go"
      refine item_p (v := .int x.2) (by decide) (by decide) (by rfl) ?_
      wtm_at "go"
      refine ⟨by wtm_at "sz", fun d2 hd2 => ?_⟩
      refine op_addl O'' ((StLe.refl σ₃).upd hd2 _ _ g3) upd_same (by rw [sizeLine_eq, List.length_map]; simp; omega) fun d3 hd3 => ?_
      rw [show x.1.map V.int ++ [V.int x.2] = (x.1 ++ [x.2]).map V.int from by simp]
      have le₄ : StLe σ₁ (upd (upd σ₃ d2 (.list [V.int x.2])) d3 (.list ((x.1 ++ [x.2]).map V.int))) := (le₃.trans ((StLe.refl _).upd hd2)).trans ((StLe.refl _).upd hd3)
      refine in_list (hR'.uk (by decide)) upd_same ints_flat (flat_has has_int_of (by decide)) ⟨_, rfl, ?_⟩
      rw [any_int]
      have htk : ((p.heads.take (i + 1)).any fun h => (h.1 ++ [h.2]).any (· == s)) = (((p.heads.take i).any fun h => (h.1 ++ [h.2]).any (· == s)) || decide (s ∈ x.1 ++ [x.2])) := by
        rw [List.take_add_one, hx, List.any_append]
        congr 1
        rw [Bool.eq_iff_iff]
        simp only [Option.toList, List.any_cons, List.any_nil, Bool.or_false, List.any_eq_true, decide_eq_true_eq]
        exact ⟨fun ⟨y, hy, e⟩ => by rw [← eq_of_beq e]; exact hy, fun h => ⟨s, h, by simp⟩⟩
      refine ⟨fun hb => ?_, fun hb => ?_⟩
      · wtm_at "go"
        refine ⟨le₄, ?_⟩
        rw [htk, hb]; simp
      · refine ⟨le₄, ?_⟩
        rw [htk, hb, Bool.or_false]; exact hacc
    · rintro acc σ₂ _ ⟨le₂, hacc⟩ D hD
      have hu : (!acc.isEmpty) = usedB p s := by
        rw [hacc, show (List.zipWith headV p.ph p.heads).length = p.heads.length from by simp [hW.lph], List.take_length, Bool.not_not]; rfl
      have le₃ : StLe σ₁ (upd σ₂ D (.list acc)) := le₂.trans ((StLe.refl _).upd hD)
      have g3 : upd σ₂ D (.list acc) D = some (.list acc) := upd_same
      generalize upd σ₂ D (.list acc) = σ₃ at *
      wtm_at "go"
      refine ⟨by decide, fun d hd => ?_⟩
      have le₄ : StLe σ₁ (upd σ₃ d (.list [])) := le₃.trans ((StLe.refl _).upd hd)
      refine op_ne_nil (hR'.uk (by decide)) ((StLe.refl σ₃).upd hd _ _ g3) upd_same ⟨_, rfl, ?_⟩
      rw [hu]
      generalize upd σ₃ d (.list []) = σ₄ at *
      refine ⟨fun hb => ?_, fun hb => ?_⟩
      · wtm_at "go"
        refine opc_fn ok' (c_met G hR' (hW.le (le.trans le₄)) fun b σ₅ ns le₅ gb hp hs => ?_).call
        obtain rfl := srt_eq hp hs
        have fnd := met_found (s := s) hW _ (Nat.le_refl _)
        have hone : declOne p s w0 w1 w2 = declTexts w0 w1 w2 (srt (met p p.ow s p.heads.length)) := by unfold declOne; rw [if_pos hb]
        have hrng : ∀ k ∈ srt (met p p.ow s p.heads.length), 0 ≤ k ∧ k < 4 := fun k hk => fnd.rng k ((srt_perm _).mem_iff.mp hk)
        have hnl : (srt (met p p.ow s p.heads.length)).length ≤ 4 := by rw [(srt_perm _).length_eq]; exact fnd.length
        unfold declTexts at hone
        generalize srt (met p p.ow s p.heads.length) = ns at *
        wtm_at "go"
        refine ex_for hh O' ok' (.refl _) (by wtm_at "tg") (si_of ?_) (by wtm_at "fs")
        refine Gn.mono (K := fun v σ₆ => ∃ c, v = .ref c ∧ StLe σ₅ σ₆ ∧ σ₆ c = some (.list ((if ns = [] then [0] else ns).map .int))) ?_ ?_
        · wtm_at "go"
          refine ⟨by decide, fun d hd => ?_⟩
          refine op_ne_nil (hR'.uk (by decide)) ((StLe.refl σ₅).upd hd _ _ gb) upd_same ⟨_, rfl, fun hb => ?_, fun hb => ?_⟩
          · have hne : ns ≠ [] := fun e => by rw [e] at hb; simp at hb
            wtm_at "go"
            rw [if_neg hne]
            exact ⟨b, rfl, (StLe.refl σ₅).upd hd, (StLe.refl σ₅).upd hd _ _ gb⟩
          · have hne : ns = [] := by cases ns with | nil => rfl | cons => simp at hb
            wtm_at "go"
            refine ⟨by decide, fun d' hd' => ?_⟩
            rw [if_pos hne]
            exact ⟨d', rfl, ((StLe.refl σ₅).upd hd).trans ((StLe.refl _).upd hd'), upd_same⟩
        · rintro v σ₆ ⟨c, rfl, le₆, gc⟩
          have hrng' : ∀ k ∈ (if ns = [] then [0] else ns), 0 ≤ k ∧ k < 4 := fun k hk => by
            split at hk
            · simp at hk; omega
            · exact hrng k hk
          have hpos : 0 < (if ns = [] then [0] else ns).length := by
            split
            · decide
            · exact List.length_pos_iff.mpr ‹_›
          have hle4 : (if ns = [] then [0] else ns).length ≤ 4 := by split; decide; exact hnl
          generalize (if ns = [] then [0] else ns) = ks at *
          have ga6 := le₆ _ _ (le₅ _ _ (le₄ _ _ ga))
          have hca : c ≠ a := fun e => by
            rw [e, ga6] at gc
            injection gc with gc; injection gc with gc
            cases ks with
            | nil => simp at hpos
            | cons k ks =>
              obtain ⟨x, hx⟩ := declUpto_str (p := p) (j := j) (.int k) (by rw [gc]; exact List.mem_cons_self)
              cases hx
          refine ⟨true, _, _, src_list gc, .inl rfl, fun i σ₇ => StLe σ σ₇ ∧ σ₇ c = some (.list (ks.map .int)) ∧ σ₇ a = some (.list (declUpto p j ++ (ks.take i).map fun k => V.str ("(declare-fun " ++ w1 ++ toString k ++ w2 ++ " () " ++ w0 ++ ")"))), ⟨((le.trans le₄).trans le₅).trans le₆, gc, by simpa using ga6⟩, fun i σ h => h.2.1, ?_, ?_⟩
          · rintro base'' O'' ok'' i v σ₇ hv ⟨le₇, gc₇, ga₇⟩
            replace O'' : Cx.Own ⟨h₀, base'', env, os⟩ := O''
            replace ok'' : Cx.Ok ⟨h₀, base'', env, os⟩ := ok''
            rw [List.getElem?_map, Option.map_eq_some_iff] at hv
            obtain ⟨k, hk, rfl⟩ := hv
            obtain ⟨k0, k1⟩ := hrng' k (List.mem_of_getElem? hk)
            have hkl := str_small k0 k1
            have hdl := declUpto_len (j := j) hW
            have e1 : ("(declare-fun " : Str).length = 13 := by decide +kernel
            have e2 : (" () " : Str).length = 4 := by decide +kernel
            have e3 : (")" : Str).length = 1 := by decide +kernel
            refine ⟨_, by wtm_at "asn", ?_⟩
            wtm_at "go"
            refine ⟨_, opg_list ga₇ PySem.F.slot_list_append PySem.F.type_list_append, ?_⟩
            wtm_at "go"
            refine item_p (v := .str w1) (by decide) (by decide) (by rfl) ?_
            refine op_adds ?_ (by simp only [sizeLine_eq, len_app, e1, e2, e3]; omega)
            wtm_at "go"
            refine c_str (log_small k0 k1) ?_
            refine op_adds ?_ (by simp only [sizeLine_eq, len_app, e1, e2, e3]; omega)
            wtm_at "go"
            refine item_p (v := .str w2) (by decide) (by decide) (by rfl) ?_
            refine op_adds ?_ (by simp only [sizeLine_eq, len_app, e1, e2, e3]; omega)
            wtm_at "go"
            refine op_adds ?_ (by simp only [sizeLine_eq, len_app, e1, e2, e3]; omega)
            wtm_at "go"
            refine item_p (v := .str w0) (by decide) (by decide) (by rfl) ?_
            refine op_adds ?_ (by simp only [sizeLine_eq, len_app, e1, e2, e3]; omega)
            wtm_at "go"
            refine op_adds ?_ (by simp only [sizeLine_eq, len_app, e1, e2, e3]; omega)
            wtm_at "go"
            refine c_append ga₇ (by rw [sizeLine_eq, List.length_append, List.length_map, List.length_take]; omega) ?_
            wtm_at "go"
            refine ⟨by wtm_at "lo", le₇.upd ha, (upd_ne hca).trans gc₇, ?_⟩
            rw [List.take_add_one, hk, List.map_append, ← List.append_assoc]
            exact upd_same
          · rintro σ₇ ⟨le₇, gc₇, ga₇⟩
            wtm_at "go"
            refine ⟨by wtm_at "lo", le₇, ?_⟩
            rw [List.length_map, List.take_length] at ga₇
            rw [hj, hone]; exact ga₇
      · wtm_at "go"
        refine ⟨by wtm_at "lo", le.trans le₄, ?_⟩
        rw [hj, show declOne p s w0 w1 w2 = [] from by unfold declOne; rw [if_neg (by rw [hb]; simp)], List.append_nil]
        exact le₄ _ _ ga
  · rintro σ₁ ⟨le, ga⟩
    wtm_at "go"
    exact hK _ _ le ga
end
noncomputable def goodB (x : Str) : Bool := x.cps.all (· < 128) && PyData.strOk x && decide (x.length ≤ 90) && PyData.strOk (strCut x (some 1) (some (-1)) none) && decide ((strCut x (some 1) (some (-1)) none).length ≤ 90) &&
  (resB x || simpleB x || barredB x || (!Txt.contains x "|" && !Txt.contains x "\\"))
theorem good_ok {x : Str} (h : goodB x = true) : NameOk x := by
  unfold goodB at h
  simp only [Bool.and_eq_true, Bool.or_eq_true, decide_eq_true_eq, Bool.not_eq_true'] at h
  obtain ⟨⟨⟨⟨⟨h1, h2⟩, h3⟩, h4⟩, h5⟩, h6⟩ := h
  exact ⟨h1, h2, h3, h4, by omega, fun e1 e2 e3 => by
    rcases h6 with ((h | h) | h) | h
    · rw [e1] at h; cases h
    · rw [e2] at h; cases h
    · rw [e3] at h; cases h
    · exact h⟩
noncomputable def wordB (q : Str × Str × Str × Str) (k : Int) : Bool := decide (q.2.2.2.length ≤ 50) && decide ((strCut q.2.2.2 (some 1) (some (-1)) none).length ≤ 50) && goodB q.2.2.2 && goodB (elemN q.2.2.2 k) && (symT q.2.2.2 == q.1) && (symT (elemN q.2.2.2 k) == q.2.1 ++ toString k ++ q.2.2.1)
theorem words_all : ∀ q ∈ (("U", "U!val!", "", "U") :: wordsL : List (Str × Str × Str × Str)), ∀ k ∈ ([0, 1, 2, 3] : List Int), wordB q k = true := by decide +kernel
structure WordOk (w0 w1 w2 x : Str) (k : Int) : Prop where
  len : x.length ≤ 50
  cut : (strCut x (some 1) (some (-1)) none).length ≤ 50
  nm : NameOk x
  el : NameOk (elemN x k)
  srt : symT x = w0
  elt : symT (elemN x k) = w1 ++ toString k ++ w2
theorem word_ok {w0 w1 w2 x : Str} {k : Int} (h : (w0, w1, w2, x) ∈ (("U", "U!val!", "", "U") :: wordsL : List (Str × Str × Str × Str))) (h0 : 0 ≤ k) (h1 : k < 4) : WordOk w0 w1 w2 x k := by
  have hk : k ∈ ([0, 1, 2, 3] : List Int) := by simp only [List.mem_cons, List.not_mem_nil, or_false]; omega
  have := words_all _ h k hk
  unfold wordB at this
  simp only [Bool.and_eq_true, decide_eq_true_eq] at this
  obtain ⟨⟨⟨⟨⟨a, b⟩, c⟩, d⟩, e⟩, f⟩ := this
  exact ⟨a, b, good_ok c, good_ok d, eq_of_beq e, eq_of_beq f⟩
theorem str_assoc (a b c : Str) : a ++ b ++ c = a ++ (b ++ c) := by
  show (⟨(a.cps ++ b.cps) ++ c.cps⟩ : Str) = ⟨a.cps ++ (b.cps ++ c.cps)⟩
  rw [Array.append_assoc]
theorem empty_app (a : Str) : Str.empty ++ a = a := by
  show (⟨#[] ++ a.cps⟩ : Str) = a
  rw [Array.empty_append]
noncomputable def rowT (q : Str × Int × List Int × Int) : V := .tup [.str q.1, .int q.2.1, .tup (q.2.2.1.map .int), .int q.2.2.2]
noncomputable def sortsQ (q : Str × Int × List Int × Int) : List Int := q.2.2.1 ++ [q.2.2.2]
structure RowQ (q : Str × Int × List Int × Int) : Prop where
  args : ∀ s ∈ sortsQ q, SortOk s
  len : q.2.2.1.length ≤ 3
/-- the free sorts found -/
structure Fnd (acc : List Int) (U : Int → Prop) : Prop where
  nodup : acc.Nodup
  mem : ∀ s, s ∈ acc ↔ 2 < s ∧ U s
  ok : ∀ s ∈ acc, s = 3 ∨ s = 4
theorem Fnd.length {acc : List Int} {U : Int → Prop} (h : Fnd acc U) : acc.length ≤ 2 :=
  nodup_le (l := [3, 4]) h.nodup fun s hs => by rcases h.ok s hs with rfl | rfl <;> simp
theorem Fnd.congr {acc : List Int} {U U' : Int → Prop} (h : Fnd acc U) (e : ∀ s, U s ↔ U' s) : Fnd acc U' := ⟨h.nodup, fun s => (h.mem s).trans (and_congr_right fun _ => e s), h.ok⟩
theorem Fnd.put {acc : List Int} {U : Int → Prop} {s : Int} (h : Fnd acc U) (h2 : 2 < s) (hs : SortOk s) : Fnd (if s ∈ acc then acc else acc ++ [s]) (fun z => U z ∨ z = s) := by
  split
  · rename_i hm
    refine ⟨h.nodup, fun z => ⟨fun hz => ⟨((h.mem z).mp hz).1, .inl ((h.mem z).mp hz).2⟩, fun hz => ?_⟩, h.ok⟩
    rcases hz.2 with q | rfl
    · exact (h.mem z).mpr ⟨hz.1, q⟩
    · exact hm
  · rename_i hm
    refine ⟨?_, fun z => ?_, fun z hz => ?_⟩
    · rw [List.nodup_append]
      refine ⟨h.nodup, by simp, fun a ha b hb e => hm ?_⟩
      rw [List.mem_singleton.mp hb] at e; rw [← e]; exact ha
    · rw [List.mem_append, List.mem_singleton]
      constructor
      · rintro (hz | rfl)
        · exact ⟨((h.mem z).mp hz).1, .inl ((h.mem z).mp hz).2⟩
        · exact ⟨h2, .inr rfl⟩
      · rintro ⟨hz, q | rfl⟩
        · exact .inl ((h.mem z).mpr ⟨hz, q⟩)
        · exact .inr rfl
    · rcases List.mem_append.mp hz with hz | hz
      · exact h.ok z hz
      · rw [List.mem_singleton.mp hz]; unfold SortOk at hs; omega
theorem Fnd.skip {acc : List Int} {U : Int → Prop} {s : Int} (h : Fnd acc U) (h2 : ¬ 2 < s) : Fnd acc (fun z => U z ∨ z = s) :=
  ⟨h.nodup, fun z => ⟨fun hz => ⟨((h.mem z).mp hz).1, .inl ((h.mem z).mp hz).2⟩, fun hz => by
    rcases hz.2 with q | rfl
    · exact (h.mem z).mpr ⟨hz.1, q⟩
    · exact absurd hz.1 h2⟩, h.ok⟩
theorem Fnd.list {acc ns : List Int} {U : Int → Bool} (h : Fnd acc (fun s => U s = true)) (hp : ns.Perm acc) (hs : ns.Pairwise (· ≤ ·)) : ns = [3, 4].filter U := by
  have nd : ([3, 4] : List Int).Nodup := by decide
  refine lks_uniq (hp.trans ((List.perm_ext_iff_of_nodup h.nodup (List.Pairwise.filter _ nd)).mpr fun s => ?_)) hs ?_
  · rw [h.mem, List.mem_filter]
    constructor
    · intro q
      refine ⟨?_, q.2⟩
      rcases h.ok s ((h.mem s).mpr q) with rfl | rfl <;> simp
    · rintro ⟨q, u⟩
      refine ⟨?_, u⟩
      simp at q; omega
  · exact List.Pairwise.filter _ (by decide)
noncomputable def declS (p : Ws) (s : Int) : List V := if s = 3 then declOne p 3 "U" "U!val!" "" else declOne p 4 p.w0 p.w1 p.w2
theorem declS_all {p : Ws} : ([3, 4].filter (usedB p)).flatMap (declS p) = declUpto p 2 := by
  unfold declUpto sortRow declS declOne
  cases h3 : usedB p 3 <;> cases h4 : usedB p 4 <;> simp [h3, h4]
theorem declS_str {p : Ws} {s : Int} : ∀ v ∈ declS p s, ∃ x, v = .str x := fun v hv => by
  unfold declS at hv
  split at hv
  · exact declOne_str v hv
  · exact declOne_str v hv
section
variable {w : World} {C : Cx} {A : Around} {m : Loc} {h₀ : Heap} {σ : Store} {K : V → Store → Prop} {p : Ws} {n : Nat}
theorem declS_len {s : Int} (hW : Wld σ p) : (declS p s).length ≤ 4 := by
  unfold declS
  split
  · exact declOne_len hW
  · exact declOne_len hW
theorem flat_len (hW : Wld σ p) : ∀ l : List Int, (l.flatMap (declS p)).length ≤ 4 * l.length
  | [] => Nat.zero_le _
  | s :: l => by
    rw [List.flatMap_cons, List.length_append, List.length_cons]
    have := declS_len (s := s) hW
    have := flat_len hW l
    omega

theorem c_texts {rl : Addr} {Rs : List (Str × Int × List Int × Int)} (G : Gd w h₀) (hR : Room 5 A) (hS : St σ p) (hw : WordsOk p) (hrl : σ rl = some (.list (Rs.map rowT))) (hL : ∀ q ∈ Rs, RowQ q)
    (hU : ∀ s, (∃ q ∈ Rs, s ∈ sortsQ q) ↔ usedB p s = true)
    (hK : ∀ (a : Addr) (σ' : Store), StLe σ σ' → σ' a = some (.list (declUpto p 2)) → K (.ref a) σ') : CallC w h₀ A (.ref 685) [.ref p.B, .ref p.M, .ref rl] σ K := by
  refine bodyN (n := 4) (names := ["bank", "model", "rows"]) G hR (by rfl) (by rfl) (by rfl) (by rfl) (by intro us hu; obtain ⟨a, b, c, rfl⟩ := len3 hu; rfl) (by rfl) (by wtm_at "binds") (by rfl) (by rfl) (by rfl) (by rfl) (by rfl) ?_
  intro L q env base os A' he hnm hce hR' ok O
  dsimp only at hnm
  dsimp only at hce he
  show Ex w _ _ _ (set (set (set (fun _ => none) "bank" (.ref p.B)) "model" (.ref p.M)) "rows" (.ref rl)) _ _ _
  have hh := hR'.handled
  replace hce : env.cells = [] := hce.trans rfl
  obtain ⟨wl0, wl1, wl2, _⟩ := words_len hw
  have hnL := Nm.names hnm
  wtm_at "go"
  refine ex_tup_swap (names := [("found" : Str), ("texts" : Str)]) hh ?_ (by rfl) (by subst he; rfl)
  wtm_at "go"
  refine ev_dict0 (kd := .int) fun d hd => ?_
  wtm_at "go"
  refine ⟨by decide, fun t ht => ?_⟩
  wtm_at "go"
  obtain ⟨ntd, ht⟩ := upd_none ht
  have le0 : StLe σ (upd (upd σ d (.dict .int [])) t (.list [])) := ((StLe.refl _).upd hd).upd ht
  have gd0 : upd (upd σ d (.dict .int [])) t (.list []) d = some (.dict .int (trues [])) := (upd_ne (Ne.symm ntd)).trans upd_same
  have gt0 : upd (upd σ d (.dict .int [])) t (.list []) t = some (.list []) := upd_same
  generalize upd (upd σ d (.dict .int [])) t (.list []) = σ0 at *
  refine ⟨by wtm_at "sz", _, _, rfl, rfl, asL_cons (as_bind (nm_st (C := ⟨h₀, base, env, os⟩) hnm hce (by decide +kernel) O)) (asL_cons (as_bind (nm_st (C := ⟨h₀, base, env, os⟩) hnm hce (by decide +kernel) O)) asL_nil), ?_⟩
  wtm_at "go"
  refine ex_for hh O ok (.refl _) (by wtm_at "tg") (si_of ?_) (by wtm_at "fs")
  wtm_at "go"
  refine ⟨true, _, _, src_list (le0 _ _ hrl), .inl rfl, fun i σ₁ => StLe σ σ₁ ∧ σ₁ t = some (.list []) ∧ ∃ acc, σ₁ d = some (.dict .int (trues acc)) ∧ Fnd acc (fun s => ∃ q ∈ Rs.take i, s ∈ sortsQ q),
    ⟨le0, gt0, [], gd0, ⟨by simp, fun s => by simp, fun s hs => by simp at hs⟩⟩, fun i σ h => h.1 _ _ hrl, ?_, ?_⟩
  · rintro base' O' ok' i v σ₁ hv ⟨le₁, gt₁, acc, gd₁, hf⟩
    replace O' : Cx.Own ⟨h₀, base', env, os⟩ := O'
    replace ok' : Cx.Ok ⟨h₀, base', env, os⟩ := ok'
    rw [List.getElem?_map, Option.map_eq_some_iff] at hv
    obtain ⟨q, hq, rfl⟩ := hv
    have qok := hL q (List.mem_of_getElem? hq)
    have qlen := qok.len
    have qs : ∀ s ∈ sortsQ q, SortOk s := qok.args
    have eqs : q.2.2.1.map V.int ++ [V.int q.2.2.2] = (sortsQ q).map V.int := by unfold sortsQ; simp
    have hU' : ∀ s, (∃ q' ∈ Rs.take (i + 1), s ∈ sortsQ q') ↔ ((∃ q' ∈ Rs.take i, s ∈ sortsQ q') ∨ s ∈ sortsQ q) := fun s => by
      rw [List.take_add_one, hq]
      simp only [Option.toList, List.mem_append, List.mem_singleton]
      constructor
      · rintro ⟨q', h1 | rfl, h2⟩
        · exact .inl ⟨q', h1, h2⟩
        · exact .inr h2
      · rintro (⟨q', h1, h2⟩ | h2)
        · exact ⟨q', .inl h1, h2⟩
        · exact ⟨q, .inr rfl, h2⟩
    unfold rowT
    refine ⟨_, by wtm_at "as4", ?_⟩
    wtm_at "go"
    refine ex_for hh O' ok' (.refl _) (by wtm_at "tg") (si_of ?_) (by wtm_at "fs")
    wtm_at "go"
    refine c_tuple_tup ?_
    wtm_at "go"
    refine ⟨by wtm_at "sz", op_addt' (by simp) (by rw [sizeLine_eq, List.length_map]; simp; omega) ?_⟩
    rw [eqs]
    refine ⟨true, _, _, src_tuple, .inl rfl, fun z σ₂ => StLe σ σ₂ ∧ σ₂ t = some (.list []) ∧ ∃ acc, σ₂ d = some (.dict .int (trues acc)) ∧ Fnd acc (fun s => (∃ q' ∈ Rs.take i, s ∈ sortsQ q') ∨ s ∈ (sortsQ q).take z),
      ⟨le₁, gt₁, acc, gd₁, hf.congr fun s => by simp⟩, fun _ _ _ => trivial, ?_, ?_⟩
    · rintro base'' O'' ok'' z v σ₂ hv ⟨le₂, gt₂, acc, gd₂, hf⟩
      replace O'' : Cx.Own ⟨h₀, base'', env, os⟩ := O''
      replace ok'' : Cx.Ok ⟨h₀, base'', env, os⟩ := ok''
      rw [List.getElem?_map, Option.map_eq_some_iff] at hv
      obtain ⟨s, hs, rfl⟩ := hv
      have sok := qs s (List.mem_of_getElem? hs)
      have hz : ∀ s', ((∃ q' ∈ Rs.take i, s' ∈ sortsQ q') ∨ s' ∈ (sortsQ q).take z) ∨ s' = s ↔ (∃ q' ∈ Rs.take i, s' ∈ sortsQ q') ∨ s' ∈ (sortsQ q).take (z + 1) := fun s' => by
        rw [List.take_add_one, hs, List.mem_append, or_assoc]
        simp
      refine ⟨_, by wtm_at "asn", ?_⟩
      wtm_at "go"
      have B2 := hS.B.le le₂
      refine ⟨_, cl_meth pc_410 me_410_is_free_sort ok'' G B2.b B2.bd (B2.bno _ (by decide +kernel)), ?_⟩
      wtm_at "go"
      refine opc_fn ok'' (b_is_free G (hR'.le (by decide)) B2 sok ?_).call
      have hal := hf.length
      wtm_at "go"
      refine ⟨fun hb => ?_, fun hb => ?_⟩
      · have h2 := of_decide_eq_true hb
        wtm_at "go"
        refine seti_d (k := .int) hR' trivial gd₂ has_int_of (by unfold trues; rw [List.length_map]; omega) ?_
        rw [trues_put]
        wtm_at "go"
        exact ⟨by wtm_at "lo", le₂.upd hd, (upd_ne ntd).trans gt₂, _, upd_same, (hf.put h2 sok).congr hz⟩
      · have h2 := of_decide_eq_false hb
        wtm_at "go"
        exact ⟨by wtm_at "lo", le₂, gt₂, _, gd₂, (hf.skip h2).congr hz⟩
    · rintro σ₂ ⟨le₂, gt₂, acc, gd₂, hf⟩
      rw [List.length_map, List.take_length] at hf
      wtm_at "go"
      exact ⟨by wtm_at "lo", le₂, gt₂, acc, gd₂, hf.congr fun s => (hU' s).symm⟩
  · rintro σ₁ ⟨le₁, gt₁, acc, gd₁, hf⟩
    rw [List.length_map, List.take_length] at hf
    have hal := hf.length
    wtm_at "go"
    refine ex_for hh O ok (.refl _) (by wtm_at "tg") (si_of ?_) (by wtm_at "fs")
    wtm_at "go"
    refine c_sorted_dict hh gd₁ trues_keys (by omega) fun c ns hc hp hs => ?_
    obtain rfl := (hf.congr (U' := fun s => usedB p s = true) hU).list hp hs
    have hct : c ≠ t := fun e => by rw [e, gt₁] at hc; cases hc
    have hnl : ([3, 4].filter (usedB p) : List Int).length ≤ 2 := by have := List.length_filter_le (usedB p) [3, 4]; simpa using this
    have hns : ∀ s ∈ ([3, 4].filter (usedB p) : List Int), (s = 3 ∨ s = 4) ∧ usedB p s = true := fun s hs => by
      have := List.mem_filter.mp hs
      simpa using this
    have hfin : ([3, 4].filter (usedB p)).flatMap (declS p) = declUpto p 2 := declS_all
    generalize ([3, 4].filter (usedB p) : List Int) = ns at *
    refine ⟨true, _, _, src_list upd_same, .inl rfl, fun i σ₂ => StLe σ σ₂ ∧ σ₂ c = some (.list (ns.map .int)) ∧ σ₂ t = some (.list ((ns.take i).flatMap (declS p))), ⟨le₁.upd (Fresh.le le₁ hc), upd_same, (upd_ne (Ne.symm hct)).trans gt₁⟩, fun i σ h => h.2.1, ?_, ?_⟩
    · rintro base' O' ok' i v σ₂ hv ⟨le₂, gc₂, gt₂⟩
      replace O' : Cx.Own ⟨h₀, base', env, os⟩ := O'
      replace ok' : Cx.Ok ⟨h₀, base', env, os⟩ := ok'
      rw [List.getElem?_map, Option.map_eq_some_iff] at hv
      obtain ⟨s, hs, rfl⟩ := hv
      obtain ⟨hs34, hus⟩ := hns s (List.mem_of_getElem? hs)
      obtain ⟨w0, w1, w2, x, hdS, hword, hl0, hl1, hl2, hnx⟩ : ∃ w0 w1 w2 x, declS p s = declOne p s w0 w1 w2 ∧ (w0, w1, w2, x) ∈ (("U", "U!val!", "", "U") :: wordsL : List (Str × Str × Str × Str)) ∧ w0.length ≤ 20 ∧ w1.length ≤ 20 ∧ w2.length ≤ 20 ∧ nameAt p s x := by
        rcases hs34 with rfl | rfl
        · exact ⟨"U", "U!val!", "", "U", rfl, List.mem_cons_self, by decide, by decide, by decide, rfl⟩
        · exact ⟨p.w0, p.w1, p.w2, p.nm, rfl, List.mem_cons_of_mem _ hw, wl0, wl1, wl2, rfl⟩
      have sok : SortOk s := by unfold SortOk; omega
      have hone : declOne p s w0 w1 w2 = declTexts w0 w1 w2 (srt (met p p.ow s p.heads.length)) := by unfold declOne; rw [if_pos hus]
      unfold declTexts at hone
      refine ⟨_, by wtm_at "asn", ?_⟩
      wtm_at "go"
      have S2 := hS.le le₂
      refine ⟨_, cl_meth pc_559 me_559_elements ok' G S2.M.m S2.M.md (by rfl), ?_⟩
      wtm_at "go"
      refine opc_fn ok' (m_elements G hR' S2.W S2.B S2.M fun b σ₃ ks le₃ gb hp' hs' => ?_).call
      rw [met_eq S2] at hp'
      obtain rfl := srt_eq hp' hs'
      have fnd := met_found (s := s) hS.W _ (Nat.le_refl _)
      have hrng : ∀ k ∈ srt (met p p.ow s p.heads.length), 0 ≤ k ∧ k < 4 := fun k hk => fnd.rng k ((srt_perm _).mem_iff.mp hk)
      have hnl4 : (srt (met p p.ow s p.heads.length)).length ≤ 4 := by rw [(srt_perm _).length_eq]; exact fnd.length
      generalize srt (met p p.ow s p.heads.length) = ks at *
      wtm_at "go"
      refine ex_for hh O' ok' (.refl _) (by wtm_at "tg") (si_of ?_) (by wtm_at "fs")
      refine Gn.mono (K := fun v σ₆ => ∃ c, v = .ref c ∧ StLe σ₃ σ₆ ∧ σ₆ c = some (.list ((if ks = [] then [0] else ks).map .int))) ?_ ?_
      · wtm_at "go"
        refine c_len_list gb (by rw [List.length_map]; omega) ?_
        wtm_at "go"
        refine ⟨_, rfl, fun hb => ?_, fun hb => ?_⟩
        · have hne : ks ≠ [] := fun e => by rw [e] at hb; simp at hb
          wtm_at "go"
          rw [if_neg hne]
          exact ⟨b, rfl, StLe.refl σ₃, gb⟩
        · have hne : ks = [] := by cases ks with | nil => rfl | cons => simp at hb
          wtm_at "go"
          refine ⟨by decide, fun d' hd' => ?_⟩
          rw [if_pos hne]
          exact ⟨d', rfl, (StLe.refl _).upd hd', upd_same⟩
      · rintro v σ₆ ⟨c', rfl, le₆, gc⟩
        have hrng' : ∀ k ∈ (if ks = [] then [0] else ks), 0 ≤ k ∧ k < 4 := fun k hk => by
          split at hk
          · simp at hk; omega
          · exact hrng k hk
        have hpos : 0 < (if ks = [] then [0] else ks).length := by
          split
          · decide
          · exact List.length_pos_iff.mpr ‹_›
        have hle4 : (if ks = [] then [0] else ks).length ≤ 4 := by split; decide; exact hnl4
        generalize (if ks = [] then [0] else ks) = ks' at *
        have gt6 := le₆ _ _ (le₃ _ _ gt₂)
        have gc6 := le₆ _ _ (le₃ _ _ gc₂)
        have hdl := flat_len hS.W (ns.take i)
        have hti : (ns.take i).length ≤ 2 := by rw [List.length_take]; omega
        have hca : c' ≠ t := fun e => by
          rw [e, gt6] at gc
          injection gc with gc; injection gc with gc
          cases ks' with
          | nil => simp at hpos
          | cons k ks =>
            have hmem : V.int k ∈ (ns.take i).flatMap (declS p) := by rw [gc]; exact List.mem_cons_self
            obtain ⟨s', _, hm⟩ := List.mem_flatMap.mp hmem
            obtain ⟨x, hx⟩ := declS_str _ hm
            cases hx
        refine ⟨true, _, _, src_list gc, .inl rfl, fun i' σ₇ => StLe σ σ₇ ∧ σ₇ c' = some (.list (ks'.map .int)) ∧ σ₇ c = some (.list (ns.map .int)) ∧ σ₇ t = some (.list ((ns.take i).flatMap (declS p) ++ (ks'.take i').map fun k => V.str ("(declare-fun " ++ w1 ++ toString k ++ w2 ++ " () " ++ w0 ++ ")"))), ⟨(le₂.trans le₃).trans le₆, gc, gc6, by simpa using gt6⟩, fun i σ h => h.2.1, ?_, ?_⟩
        · rintro base'' O'' ok'' i' v σ₇ hv ⟨le₇, gc₇, gcc₇, gt₇⟩
          replace O'' : Cx.Own ⟨h₀, base'', env, os⟩ := O''
          replace ok'' : Cx.Ok ⟨h₀, base'', env, os⟩ := ok''
          rw [List.getElem?_map, Option.map_eq_some_iff] at hv
          obtain ⟨k, hk, rfl⟩ := hv
          obtain ⟨k0, k1⟩ := hrng' k (List.mem_of_getElem? hk)
          have wok := word_ok hword k0 k1
          have hkl := str_small k0 k1
          have hkg := log_small k0 k1
          have e0 : Str.empty.length = 0 := rfl
          have e1 : ("(declare-fun " : Str).length = 13 := by decide +kernel
          have e2 : (" () " : Str).length = 4 := by decide +kernel
          have e3 : (")" : Str).length = 1 := by decide +kernel
          have B7 := hS.B.le le₇
          refine ⟨_, by wtm_at "asn", ?_⟩
          wtm_at "go"
          refine ⟨_, opg_list gt₇ PySem.F.slot_list_append PySem.F.type_list_append, ?_⟩
          wtm_at "go"
          refine ev_joined (jn_cons ?_)
          wtm_at "go"
          refine ⟨_, rfl, by simp only [sizeLine_eq, len_app, e0, e1]; omega, jn_cons (ev_field ?_)⟩
          wtm_at "go"
          refine opc_fn ok'' (c_element_text G (hR'.le (by decide)) B7 sok hnx wok.len wok.cut hkg (by omega) wok.el fun σ₈ le₈ => ?_).call
          rw [wok.elt]
          refine fmt_str (by simp only [sizeLine_eq, len_app]; omega) ⟨_, rfl, by simp only [sizeLine_eq, len_app, e0, e1]; omega, jn_cons ?_⟩
          wtm_at "go"
          refine ⟨_, rfl, by simp only [sizeLine_eq, len_app, e0, e1, e2]; omega, jn_cons (ev_field ?_)⟩
          wtm_at "go"
          refine opc_fn ok'' (c_sort_text G (hR'.le (by decide)) (B7.le le₈) sok (by omega) hnx wok.nm fun σ₉ le₉ => ?_).call
          rw [wok.srt]
          refine fmt_str (by rw [sizeLine_eq]; omega) ⟨_, rfl, by simp only [sizeLine_eq, len_app, e0, e1, e2]; omega, jn_cons ?_⟩
          wtm_at "go"
          refine ⟨_, rfl, by simp only [sizeLine_eq, len_app, e0, e1, e2, e3]; omega, jn_nil (by simp only [sizeLine_eq, len_app, e0, e1, e2, e3]; omega) ?_⟩
          wtm_at "go"
          have le89 := le₈.trans le₉
          refine c_append (le89 _ _ gt₇) (by rw [sizeLine_eq, List.length_append, List.length_map, List.length_take]; omega) ?_
          have ht9 : StLe σ (upd σ₉ t (.list ((ns.take i).flatMap (declS p) ++ (ks'.take i').map (fun k => V.str ("(declare-fun " ++ w1 ++ toString k ++ w2 ++ " () " ++ w0 ++ ")")) ++ [V.str (Str.empty ++ "(declare-fun " ++ (w1 ++ toString k ++ w2) ++ " () " ++ w0 ++ ")")]))) := (le₇.trans le89).upd ht
          wtm_at "go"
          refine ⟨by wtm_at "lo", ht9, (upd_ne hca).trans (le89 _ _ gc₇), (upd_ne hct).trans (le89 _ _ gcc₇), ?_⟩
          rw [List.take_add_one, hk, List.map_append, ← List.append_assoc, upd_same]
          simp only [Option.toList, List.map_cons, List.map_nil, empty_app, str_assoc]
        · rintro σ₇ ⟨le₇, gc₇, gcc₇, gt₇⟩
          wtm_at "go"
          refine ⟨by wtm_at "lo", le₇, gcc₇, ?_⟩
          rw [List.length_map, List.take_length] at gt₇
          rw [List.take_add_one, hs, List.flatMap_append]
          simp only [Option.toList, List.flatMap_cons, List.flatMap_nil, List.append_nil]
          rw [hdS, hone]; exact gt₇
    · rintro σ₂ ⟨le₂, gc₂, gt₂⟩
      rw [List.length_map, List.take_length, hfin] at gt₂
      wtm_at "go"
      exact hK _ _ le₂ gt₂
end
noncomputable def PAll (h : Heap) : List (V × V) → List (Value × Value) → Prop
  | [], us => us = []
  | x :: l, us => ∃ u r, us = u :: r ∧ VIs h x.1 u.1 ∧ VIs h x.2 u.2 ∧ PAll h l r
theorem PAll.mono {h h' : Heap} (k : TupLe h h') : ∀ {l : List (V × V)} {us : List (Value × Value)}, PAll h l us → PAll h' l us
  | [], _, x => x
  | _ :: _, _, ⟨u, r, a, b, c, d⟩ => ⟨u, r, a, b.mono k, c.mono k, d.mono k⟩
noncomputable def aputs (l : List (V × V)) (kvs : List (V × V)) : List (V × V) := kvs.foldl (fun l x => aput l x.1 x.2) l
theorem upd_upd {σ : Store} {a : Addr} {c c' : Cell} : upd (upd σ a c) a c' = upd σ a c' := by
  funext b; unfold upd; split <;> rfl
theorem upd_id {σ : Store} {a : Addr} {c : Cell} (h : σ a = some c) : upd σ a c = σ := by
  funext b; unfold upd; split
  · rename_i q; rw [q, h]
  · rfl
section
variable {w : World} {C : Cx} {A : Around} {m : Loc} {σ : Store} {K : V → Store → Prop}
noncomputable def Prs (w : World) (C : Cx) (A : Around) (ps : List (Sem Value × Sem Value)) (m : Loc) (σ : Store) (K : List (V × V) → Store → Prop) : Prop := Gn w C A PAll (evalPairs ps) m σ K
theorem prs_nil {env : Env} {pos : Pos} {K : List (V × V) → Store → Prop} (h : K [] σ) : Prs w C A (pairTrees [] [] env pos) m σ K := fun s r => evalPairs_nil (.now (R := PAll) (v := []) r (by unfold PAll; rfl) h)
theorem prs_cons {k v : PySem.Expr} {ks : List (Option PySem.Expr)} {vs : List PySem.Expr} {env : Env} {pos : Pos} {K : List (V × V) → Store → Prop}
    (h : Ev w C A (eval k env) m σ (fun kv σ₁ => Ev w C A (eval v env) m σ₁ (fun vv σ₂ => Prs w C A (pairTrees ks vs env pos) m σ₂ (fun l σ₃ => K ((kv, vv) :: l) σ₃)))) :
    Prs w C A (pairTrees (some k :: ks) (v :: vs) env pos) m σ K := fun s r =>
  evalPairs_cons (h.use r fun u s₁ kv σ₁ t x r₁ k₁ => wpAny_bind (k₁.use r₁ fun u₂ s₂ vv σ₂ t₂ x₂ r₂ k₂ => wpAny_bind (wpAny_standAt (wpAny_pure (k₂.use r₂ fun us s₃ l σ₃ t₃ x₃ r₃ k₃ =>
    ⟨(t.trans t₂).trans t₃, (kv, vv) :: l, σ₃, ⟨(u, u₂), us, rfl, x.mono (t₂.trans t₃), x₂.mono t₃, x₃⟩, r₃, k₃⟩)))))
theorem store_all {d : Addr} {k : DK} (hu : A.units + 64 < cLine) (hf : k.fits) : ∀ (kvs : List (V × V)) (vs : List (Value × Value)) (l : List (V × V)) (σ : Store) (s : Shared) (Q : PUnit → Shared → Prop), Rel w C m σ s → σ d = some (.dict k l) → PAll s.heap kvs vs →
    (∀ x ∈ kvs, V.has k.sh x.1) → l.length + kvs.length ≤ sizeLine → (∀ s', TupLe s.heap s'.heap → Rel w C m (upd σ d (.dict k (aputs l kvs))) s' → Q PUnit.unit s') → wpAny (model P w) A (storeAll d vs) Q No s
  | [], vs, l, σ, s, Q, r, hd, hp, hk, hz, q => by
    rw [show vs = [] from hp]
    unfold storeAll
    rw [List.forIn_nil]
    refine wpAny_pure (q s (.refl _) ?_)
    rw [show aputs l [] = l from rfl, upd_id hd]; exact r
  | x :: kvs, vs, l, σ, s, Q, r, hd, ⟨u, us, e, a, b, c⟩, hk, hz, q => by
    subst e
    unfold storeAll
    rw [List.forIn_cons]
    obtain ⟨o, g, hc⟩ := r.hp.cells d _ hd
    rw [List.length_cons] at hz
    refine wpAny_bind (wpAny_bind (set_cell hu hf g hc (hk x List.mem_cons_self) a b (by omega) fun h' o' t g' hc' sb => wpAny_pure ?_))
    obtain ⟨tl, r'⟩ := r.change (t := t) hd sb g' hc'
    refine store_all hu hf kvs us (aput l x.1 x.2) _ _ Q r' upd_same (c.mono tl) (fun y hy => hk y (List.mem_cons_of_mem _ hy)) (by have := @aput_length l x.1 x.2; omega) fun s' t' r'' => q s' (tl.trans t') ?_
    rw [upd_upd] at r''
    exact r''
/-- a written dict -/
theorem ev_dict {keys : List (Option PySem.Expr)} {values : List PySem.Expr} {pos : Pos} {env : Env} (k : DK) (hu : A.units + 64 < cLine) (hf : k.fits) (hall : keys.all (·.isSome) = true) (hl : keys.length = values.length) (h0 : keys ≠ []) (hlen : keys.length ≤ 15)
    (h : ∀ d, σ d = none → Prs w C A (pairTrees keys values env pos) m (upd σ d (.dict k [])) (fun kvs σ₁ => σ₁ d = some (.dict k []) ∧ (∀ x ∈ kvs, V.has k.sh x.1) ∧ kvs.length ≤ 100 ∧ K (.ref d) (upd σ₁ d (.dict k (aputs [] kvs))))) :
    Ev w C A (eval (.Dict keys values pos) env) m σ K := fun s r => by
  refine wpAny_Dict_any hall hl h0 hlen ?_
  obtain ⟨t₂, r₂⟩ := r.push (t := s.toks) (c := .dict k []) (o := { cls := .type "dict", data := .dict #[] }) (fun h' tl => ⟨#[], 0, rfl, by simp only [EntsAre], (fun x hx => nomatch hx), List.nodup_nil⟩) rfl
  refine (h _ (fresh_of r.hp (fresh_size _))).use r₂ fun vs s₁ kvs σ₁ t x r₁ ⟨hd, hk, hz, k₁⟩ => ?_
  exact store_all hu hf kvs vs [] σ₁ s₁ _ r₁ hd x hk (by rw [sizeLine_eq]; simp; omega) fun s' t' r' => ⟨(t₂.trans t).trans t', _, _, vis_ref, r', k₁⟩
end
/-- a part of the store, each cell with the part it plays -/
structure Has (σ : Store) (l : List (Addr × Tg × Cell)) : Prop where
  nd : (l.map (·.1)).Nodup
  mem : ∀ x ∈ l, σ x.1 = some x.2.2
theorem Has.nil {σ : Store} : Has σ [] := ⟨List.nodup_nil, fun x h => by cases h⟩
theorem Has.le {σ σ' : Store} {l : List (Addr × Tg × Cell)} (h : Has σ l) (s : StLe σ σ') : Has σ' l := ⟨h.nd, fun x hx => s _ _ (h.mem x hx)⟩
theorem Has.sub {σ : Store} {l l' : List (Addr × Tg × Cell)} (h : Has σ l) (s : l'.Sublist l) : Has σ l' := ⟨h.nd.sublist (s.map _), fun x hx => h.mem x (s.subset hx)⟩
theorem Has.perm {σ : Store} {l l' : List (Addr × Tg × Cell)} (h : Has σ l) (s : l.Perm l') : Has σ l' := ⟨(s.map _).nodup_iff.mp h.nd, fun x hx => h.mem x (s.mem_iff.mpr hx)⟩
theorem Has.get {σ : Store} {l : List (Addr × Tg × Cell)} {a : Addr} {t : Tg} {c : Cell} (h : Has σ l) (hm : (a, t, c) ∈ l) : σ a = some c := h.mem _ hm
theorem Has.new {σ : Store} {l : List (Addr × Tg × Cell)} {a : Addr} {c : Cell} (t : Tg) (h : Has σ l) (ha : σ a = none) : Has (upd σ a c) ((a, t, c) :: l) := by
  refine ⟨List.nodup_cons.mpr ⟨fun hm => ?_, h.nd⟩, fun x hx => ?_⟩
  · obtain ⟨x, hx, e⟩ := List.mem_map.mp hm
    have := h.mem x hx
    rw [e, ha] at this; cases this
  · rcases List.mem_cons.mp hx with rfl | hx
    · exact upd_same
    · refine (upd_ne fun e => ?_).trans (h.mem x hx)
      have := h.mem x hx
      rw [e, ha] at this; cases this
theorem Has.put {σ : Store} {a : Addr} {c : Cell} {t : Tg} {l₂ : List (Addr × Tg × Cell)} (l₁ : List (Addr × Tg × Cell)) (c' : Cell) (h : Has σ (l₁ ++ (a, t, c) :: l₂)) : Has (upd σ a c') (l₁ ++ (a, t, c') :: l₂) := by
  have e : (l₁ ++ (a, t, c') :: l₂).map (·.1) = (l₁ ++ (a, t, c) :: l₂).map (·.1) := by simp
  refine ⟨by rw [e]; exact h.nd, fun x hx => ?_⟩
  have nd := h.nd
  rw [List.map_append, List.map_cons, List.nodup_append] at nd
  obtain ⟨n1, n2, n3⟩ := nd
  have n4 := (List.nodup_cons.mp n2).1
  rcases List.mem_append.mp hx with hx | hx
  · refine (upd_ne fun q => n3 x.1 (List.mem_map_of_mem hx) a List.mem_cons_self q).trans (h.mem x (List.mem_append_left _ hx))
  · rcases List.mem_cons.mp hx with rfl | hx
    · exact upd_same
    · refine (upd_ne fun q => n4 ?_).trans (h.mem x (List.mem_append_right _ (List.mem_cons_of_mem _ hx)))
      rw [← q]; exact List.mem_map_of_mem (f := fun x : Addr × Tg × Cell => x.1) (a := x) hx
/-- which part an address plays -/
noncomputable def tagL (l : List (Addr × Tg × Cell)) (a : Addr) : Tg := l.foldr (fun x r => if a = x.1 then x.2.1 else r) .other
theorem tagL_cons {x : Addr × Tg × Cell} {l : List (Addr × Tg × Cell)} {a : Addr} : tagL (x :: l) a = if a = x.1 then x.2.1 else tagL l a := by unfold tagL; rw [List.foldr_cons]
theorem tagL_mem : ∀ {l : List (Addr × Tg × Cell)} {a : Addr} {t : Tg} {c : Cell}, (l.map (·.1)).Nodup → (a, t, c) ∈ l → tagL l a = t
  | [], _, _, _, _, hm => by cases hm
  | x :: l, a, t, c, hn, hm => by
    rw [tagL_cons]
    rw [List.map_cons, List.nodup_cons] at hn
    rcases List.mem_cons.mp hm with e | hm
    · subst e; exact if_pos rfl
    · rw [if_neg fun q => hn.1 (by rw [← q]; exact List.mem_map_of_mem (f := fun x : Addr × Tg × Cell => x.1) (a := (a, t, c)) hm)]
      exact tagL_mem hn.2 hm
/-- what stood stands, and these are new -/
noncomputable def Grow (σ σ' : Store) (new : List (Addr × Tg × Cell)) : Prop := ∀ l, Has σ l → Has σ' (new ++ l)
theorem Grow.nil {σ : Store} : Grow σ σ [] := fun l h => h
theorem Grow.has {σ σ' : Store} {new : List (Addr × Tg × Cell)} (h : Grow σ σ' new) : Has σ' new := by
  have := h [] Has.nil
  rw [List.append_nil] at this; exact this
theorem Grow.get {σ σ' : Store} {new : List (Addr × Tg × Cell)} {a : Addr} {t : Tg} {c : Cell} (h : Grow σ σ' new) (hm : (a, t, c) ∈ new) : σ' a = some c := h.has.get hm
theorem Grow.le {σ σ' : Store} {new : List (Addr × Tg × Cell)} (h : Grow σ σ' new) : StLe σ σ' := fun a c e =>
  (h [(a, .other, c)] ⟨by simp, fun x hx => by rw [List.mem_singleton.mp hx]; exact e⟩).get (t := .other) (List.mem_append_right _ (List.Mem.head _))
theorem Grow.new {σ σ' : Store} {l : List (Addr × Tg × Cell)} {a : Addr} {c : Cell} (t : Tg) (h : Grow σ σ' l) (ha : σ' a = none) : Grow σ (upd σ' a c) ((a, t, c) :: l) := fun l' hl => (h l' hl).new t ha
theorem Grow.new2 {σ σ' : Store} {x : Addr × Tg × Cell} {l : List (Addr × Tg × Cell)} {a : Addr} {c : Cell} (t : Tg) (h : Grow σ σ' (x :: l)) (ha : σ' a = none) : Grow σ (upd σ' a c) (x :: (a, t, c) :: l) := fun l' hl =>
  ((h l' hl).new t ha).perm (List.Perm.swap _ _ _)
theorem Grow.put {σ σ' : Store} {a : Addr} {c : Cell} {t : Tg} {l₂ : List (Addr × Tg × Cell)} (l₁ : List (Addr × Tg × Cell)) (c' : Cell) (h : Grow σ σ' (l₁ ++ (a, t, c) :: l₂)) : Grow σ (upd σ' a c') (l₁ ++ (a, t, c') :: l₂) := fun l' hl => by
  have := h l' hl
  rw [List.append_assoc, List.cons_append] at this ⊢
  exact this.put l₁ c'
theorem Grow.put1 {σ σ' : Store} {a : Addr} {c : Cell} {t : Tg} {l₂ : List (Addr × Tg × Cell)} (c' : Cell) (h : Grow σ σ' ((a, t, c) :: l₂)) : Grow σ (upd σ' a c') ((a, t, c') :: l₂) := h.put [] c'
theorem Grow.sub {σ σ' : Store} {l l' : List (Addr × Tg × Cell)} (h : Grow σ σ' l) (s : l'.Sublist l) : Grow σ σ' l' := fun k hk => (h k hk).sub (s.append_right k)
theorem Grow.up {σ σ' σ'' : Store} {l : List (Addr × Tg × Cell)} (h : Grow σ σ' l) (s : StLe σ' σ'') : Grow σ σ'' l := fun k hk => (h k hk).le s
theorem Grow.trans {σ σ' σ'' : Store} {l l' : List (Addr × Tg × Cell)} (h : Grow σ σ' l) (h' : Grow σ' σ'' l') : Grow σ σ'' (l' ++ l) := fun k hk => by
  rw [List.append_assoc]; exact h' _ (h k hk)
theorem ok_410 : ∀ w, makesIn (KK w) 410 = true := fun w => by kernel_rfl
theorem in_410 : ∀ w, findIn (KK w) (.ref 410) "__init__" = some (some (.ref 211)) := fun w => by kernel_rfl
theorem ty_211 : ∀ w, typeIn (KK w) (.ref 211) = some (.type "function") := fun w => by kernel_rfl
theorem ok_559 : ∀ w, makesIn (KK w) 559 = true := fun w => by kernel_rfl
theorem in_559 : ∀ w, findIn (KK w) (.ref 559) "__init__" = some (some (.ref 500)) := fun w => by kernel_rfl
theorem ty_500 : ∀ w, typeIn (KK w) (.ref 500) = some (.type "function") := fun w => by kernel_rfl
theorem ok_674 : ∀ w, makesIn (KK w) 674 = true := fun w => by kernel_rfl
theorem in_674 : ∀ w, findIn (KK w) (.ref 674) "__init__" = some (some (.ref 622)) := fun w => by kernel_rfl
theorem ty_622 : ∀ w, typeIn (KK w) (.ref 622) = some (.type "function") := fun w => by kernel_rfl

abbrev termK : DK := .tup [.str, .tup [], .int, .int]
section
variable {w : World} {A : Around} {h₀ : Heap} {σ σ₀ : Store} {K : V → Store → Prop} {n : Nat}

theorem b_make {B Bd Nb Td Ts Ta To : Addr} {x : Str} {bl lnb : List (V × V)} {lop lar lso lda : List V} {rest : List (Addr × Tg × Cell)} (G : Gd w h₀) (hR : Room 1 A)
    (H : Grow σ₀ σ ((Bd, .bd, .dict .str bl) :: (Nb, .other, .dict termK lnb) :: (Td, .other, .list lda) :: (Ts, .other, .list lso) :: (Ta, .other, .list lar) :: (To, .other, .list lop) :: rest)) (hB : (B, Tg.b, Cell.inst 410 Bd) ∈ rest)
    (h1 : alook bl (.str "term_ops") = some (.ref To)) (h2 : alook bl (.str "term_args") = some (.ref Ta)) (h3 : alook bl (.str "term_sorts") = some (.ref Ts)) (h4 : alook bl (.str "term_datas") = some (.ref Td)) (h5 : alook bl (.str "numbers") = some (.ref Nb))
    (hx : PyData.strOk x = true) (hn : alook lnb (.tup [.str x, .tup [], .int 0, .int 0]) = none) (z1 : lop.length ≤ 100) (z2 : lar.length ≤ 100) (z3 : lso.length ≤ 100) (z4 : lda.length ≤ 100) (z5 : lnb.length ≤ 100)
    (hK : ∀ v σ', Grow σ₀ σ' ((Bd, .bd, .dict .str bl) :: (Nb, .other, .dict termK (aput lnb (.tup [.str x, .tup [], .int 0, .int 0]) (.int v))) :: (Td, .other, .list (lda ++ [.int 0])) :: (Ts, .other, .list (lso ++ [.int 0])) :: (Ta, .other, .list (lar ++ [.tup []])) :: (To, .other, .list (lop ++ [.str x])) :: rest) → K (.int v) σ') :
    CallC w h₀ A (.ref 344) [.ref B, .str x, .tup [], .int 0, .int 0] σ K := by
  refine bodyN (n := 0) (names := ["self", "op", "args", "sort", "data"]) G hR (by rfl) (by rfl) (by rfl) (by rfl) (by intro us hu; obtain ⟨a, b, c, d, e, rfl⟩ := len5 hu; rfl) (by rfl) (by wtm_at "binds") (by rfl) (by rfl) (by rfl) (by rfl) (by rfl) ?_
  intro L q env base os A' he hnm hce hR' ok O
  dsimp only at hnm
  dsimp only at hce he
  show Ex w _ _ _ (set (set (set (set (set (fun _ => none) "self" (.ref B)) "op" (.str x)) "args" (.tup [])) "sort" (.int 0)) "data" (.int 0)) _ _ _
  have hh := hR'.handled
  replace hce : env.cells = [] := hce.trans rfl
  have hk : V.has termK.sh (.tup [.str x, .tup [], .int 0, .int 0]) := has_tup_of (hasL_of (has_str_of hx) (hasL_of (has_tup_of hasL_nil_of) (hasL_of has_int_of (hasL_of has_int_of hasL_nil_of))))
  have hf : termK.fits := by show deepL _ ≤ 7; simp [deepL, deepS]
  have gB := H.get (a := B) (t := .b) (c := .inst 410 Bd) (by wtm_at "mem")
  have gBd := H.get (a := Bd) (t := .bd) (c := .dict .str bl) (by wtm_at "mem")
  wtm_at "go"
  refine ⟨by wtm_at "sz", ?_⟩
  wtm_at "go"
  refine cl_get pc_410 fl_410_numbers ok G gB gBd h5 (fun r => by simp) ?_
  refine ⟨_, opg_dict (H.get (a := Nb) (t := .other) (c := .dict termK lnb) (by wtm_at "mem")) PySem.F.slot_dict_get PySem.F.type_dict_get, ?_⟩
  wtm_at "go"
  refine c_get (k := termK) (hR'.uk (by decide)) hf (H.get (a := Nb) (t := .other) (c := .dict termK lnb) (by wtm_at "mem")) hk ?_
  rw [hn, Option.getD_none]
  wtm_at "go"
  refine ⟨_, rfl, fun _ => ?_, fun hb => by simp at hb⟩
  wtm_at "go"
  refine cl_get pc_410 fl_410_term_ops ok G gB gBd h1 (fun r => by simp) ?_
  wtm_at "go"
  refine c_len_list (H.get (a := To) (t := .other) (c := .list lop) (by wtm_at "mem")) (by omega) ?_
  wtm_at "go"
  refine cl_get pc_410 fl_410_term_ops ok G gB gBd h1 (fun r => by simp) ?_
  refine ⟨_, opg_list (H.get (a := To) (t := .other) (c := .list lop) (by wtm_at "mem")) PySem.F.slot_list_append PySem.F.type_list_append, ?_⟩
  wtm_at "go"
  refine c_append (H.get (a := To) (t := .other) (c := .list lop) (by wtm_at "mem")) (by rw [sizeLine_eq]; omega) ?_
  replace H := H.put [_, _, _, _, _] (.list (lop ++ [.str x]))
  generalize hσ : upd _ To (.list (lop ++ [.str x])) = σn1 at H ⊢
  clear hσ gB gBd
  dsimp only [List.cons_append, List.nil_append] at H
  have gB := H.get (a := B) (t := .b) (c := .inst 410 Bd) (by wtm_at "mem")
  have gBd := H.get (a := Bd) (t := .bd) (c := .dict .str bl) (by wtm_at "mem")
  wtm_at "go"
  refine cl_get pc_410 fl_410_term_args ok G gB gBd h2 (fun r => by simp) ?_
  refine ⟨_, opg_list (H.get (a := Ta) (t := .other) (c := .list lar) (by wtm_at "mem")) PySem.F.slot_list_append PySem.F.type_list_append, ?_⟩
  wtm_at "go"
  refine c_append (H.get (a := Ta) (t := .other) (c := .list lar) (by wtm_at "mem")) (by rw [sizeLine_eq]; omega) ?_
  replace H := H.put [_, _, _, _] (.list (lar ++ [.tup []]))
  generalize hσ : upd _ Ta (.list (lar ++ [.tup []])) = σn2 at H ⊢
  clear hσ gB gBd
  dsimp only [List.cons_append, List.nil_append] at H
  have gB := H.get (a := B) (t := .b) (c := .inst 410 Bd) (by wtm_at "mem")
  have gBd := H.get (a := Bd) (t := .bd) (c := .dict .str bl) (by wtm_at "mem")
  wtm_at "go"
  refine cl_get pc_410 fl_410_term_sorts ok G gB gBd h3 (fun r => by simp) ?_
  refine ⟨_, opg_list (H.get (a := Ts) (t := .other) (c := .list lso) (by wtm_at "mem")) PySem.F.slot_list_append PySem.F.type_list_append, ?_⟩
  wtm_at "go"
  refine c_append (H.get (a := Ts) (t := .other) (c := .list lso) (by wtm_at "mem")) (by rw [sizeLine_eq]; omega) ?_
  replace H := H.put [_, _, _] (.list (lso ++ [.int 0]))
  generalize hσ : upd _ Ts (.list (lso ++ [.int 0])) = σn3 at H ⊢
  clear hσ gB gBd
  dsimp only [List.cons_append, List.nil_append] at H
  have gB := H.get (a := B) (t := .b) (c := .inst 410 Bd) (by wtm_at "mem")
  have gBd := H.get (a := Bd) (t := .bd) (c := .dict .str bl) (by wtm_at "mem")
  wtm_at "go"
  refine cl_get pc_410 fl_410_term_datas ok G gB gBd h4 (fun r => by simp) ?_
  refine ⟨_, opg_list (H.get (a := Td) (t := .other) (c := .list lda) (by wtm_at "mem")) PySem.F.slot_list_append PySem.F.type_list_append, ?_⟩
  wtm_at "go"
  refine c_append (H.get (a := Td) (t := .other) (c := .list lda) (by wtm_at "mem")) (by rw [sizeLine_eq]; omega) ?_
  replace H := H.put [_, _] (.list (lda ++ [.int 0]))
  generalize hσ : upd _ Td (.list (lda ++ [.int 0])) = σn4 at H ⊢
  clear hσ gB gBd
  dsimp only [List.cons_append, List.nil_append] at H
  have gB := H.get (a := B) (t := .b) (c := .inst 410 Bd) (by wtm_at "mem")
  have gBd := H.get (a := Bd) (t := .bd) (c := .dict .str bl) (by wtm_at "mem")
  wtm_at "go"
  refine cl_get pc_410 fl_410_numbers ok G gB gBd h5 (fun r => by simp) ?_
  wtm_at "go"
  refine seti_d (k := termK) hR' hf (H.get (a := Nb) (t := .other) (c := .dict termK lnb) (by wtm_at "mem")) hk (by omega) ?_
  replace H := H.put [_] (.dict termK (aput lnb (.tup [.str x, .tup [], .int 0, .int 0]) (.int lop.length)))
  wtm_at "go"
  exact hK _ _ H

theorem b_decl_sort {B Bd Sn Sw : Addr} {x : Str} {bl : List (V × V)} {names ws : List V} (G : Gd w h₀) (hR : Room 1 A) (gB : σ B = some (.inst 410 Bd)) (gBd : σ Bd = some (.dict .str bl))
    (h1 : alook bl (.str "sort_names") = some (.ref Sn)) (h2 : alook bl (.str "sort_widths") = some (.ref Sw)) (gn : σ Sn = some (.list names)) (gw : σ Sw = some (.list ws)) (hne : Sw ≠ Sn) (z1 : names.length ≤ 100) (z2 : ws.length ≤ 100)
    (hK : K (.int names.length) (upd (upd σ Sn (.list (names ++ [.str x]))) Sw (.list (ws ++ [.int 0])))) : CallC w h₀ A (.ref 225) [.ref B, .str x] σ K := by
  refine bodyN (n := 0) (names := ["self", "name"]) G hR (by rfl) (by rfl) (by rfl) (by rfl) (by intro us hu; obtain ⟨a, b, rfl⟩ := len2 hu; rfl) (by rfl) (by wtm_at "binds") (by rfl) (by rfl) (by rfl) (by rfl) (by rfl) ?_
  intro L q env base os A' he hnm hce hR' ok O
  dsimp only at hnm
  dsimp only at hce he
  show Ex w _ _ _ (set (set (fun _ => none) "self" (.ref B)) "name" (.str x)) _ _ _
  have hh := hR'.handled
  replace hce : env.cells = [] := hce.trans rfl
  have n1 : B ≠ Sn := fun e => by rw [e, gn] at gB; cases gB
  have n2 : Bd ≠ Sn := fun e => by rw [e, gn] at gBd; cases gBd
  have n3 : B ≠ Sw := fun e => by rw [e, gw] at gB; cases gB
  have n4 : Bd ≠ Sw := fun e => by rw [e, gw] at gBd; cases gBd
  wtm_at "go"
  refine cl_get pc_410 fl_410_sort_names ok G gB gBd h1 (fun r => by simp) ?_
  refine ⟨_, opg_list gn PySem.F.slot_list_append PySem.F.type_list_append, ?_⟩
  wtm_at "go"
  refine c_append gn (by rw [sizeLine_eq]; omega) ?_
  wtm_at "go"
  refine cl_get pc_410 fl_410_sort_widths ok G ((upd_ne n1).trans gB) ((upd_ne n2).trans gBd) h2 (fun r => by simp) ?_
  refine ⟨_, opg_list ((upd_ne hne).trans gw) PySem.F.slot_list_append PySem.F.type_list_append, ?_⟩
  wtm_at "go"
  refine c_append ((upd_ne hne).trans gw) (by rw [sizeLine_eq]; omega) ?_
  wtm_at "go"
  refine cl_get pc_410 fl_410_sort_names ok G ((upd_ne n3).trans ((upd_ne n1).trans gB)) ((upd_ne n4).trans ((upd_ne n2).trans gBd)) h1 (fun r => by simp) ?_
  wtm_at "go"
  refine c_len_list ((upd_ne (Ne.symm hne)).trans upd_same) (by rw [List.length_append, List.length_singleton]; omega) ?_
  wtm_at "go"
  rw [List.length_append, List.length_singleton, show ((names.length + 1 : Nat) : Int) - 1 = names.length from by omega]
  exact hK

theorem b_decl_fun {B Bd Fn Fa Sr : Addr} {x : Str} {args : List V} {res : V} {bl : List (V × V)} {fns fas frs : List V} (G : Gd w h₀) (hR : Room 1 A) (gB : σ B = some (.inst 410 Bd)) (gBd : σ Bd = some (.dict .str bl))
    (h1 : alook bl (.str "fun_names") = some (.ref Fn)) (h2 : alook bl (.str "fun_args") = some (.ref Fa)) (h3 : alook bl (.str "fun_results") = some (.ref Sr)) (gn : σ Fn = some (.list fns)) (ga : σ Fa = some (.list fas)) (gr : σ Sr = some (.list frs))
    (d1 : Fa ≠ Fn) (d2 : Sr ≠ Fn) (d3 : Sr ≠ Fa) (z1 : fns.length ≤ 100) (z2 : fas.length ≤ 100) (z3 : frs.length ≤ 100)
    (hK : ∀ v, K v (upd (upd (upd σ Fn (.list (fns ++ [.str x]))) Fa (.list (fas ++ [.tup args]))) Sr (.list (frs ++ [res])))) : CallC w h₀ A (.ref 253) [.ref B, .str x, .tup args, res] σ K := by
  refine bodyN (n := 0) (names := ["self", "name", "arg_sorts", "result"]) G hR (by rfl) (by rfl) (by rfl) (by rfl) (by intro us hu; obtain ⟨a, b, c, d, rfl⟩ := len4 hu; rfl) (by rfl) (by wtm_at "binds") (by rfl) (by rfl) (by rfl) (by rfl) (by rfl) ?_
  intro L q env base os A' he hnm hce hR' ok O
  dsimp only at hnm
  dsimp only at hce he
  show Ex w _ _ _ (set (set (set (set (fun _ => none) "self" (.ref B)) "name" (.str x)) "arg_sorts" (.tup args)) "result" res) _ _ _
  have hh := hR'.handled
  replace hce : env.cells = [] := hce.trans rfl
  have n1 : B ≠ Fn := fun e => by rw [e, gn] at gB; cases gB
  have n2 : Bd ≠ Fn := fun e => by rw [e, gn] at gBd; cases gBd
  have n3 : B ≠ Fa := fun e => by rw [e, ga] at gB; cases gB
  have n4 : Bd ≠ Fa := fun e => by rw [e, ga] at gBd; cases gBd
  have n5 : B ≠ Sr := fun e => by rw [e, gr] at gB; cases gB
  have n6 : Bd ≠ Sr := fun e => by rw [e, gr] at gBd; cases gBd
  wtm_at "go"
  refine cl_get pc_410 fl_410_fun_names ok G gB gBd h1 (fun r => by simp) ?_
  refine ⟨_, opg_list gn PySem.F.slot_list_append PySem.F.type_list_append, ?_⟩
  wtm_at "go"
  refine c_append gn (by rw [sizeLine_eq]; omega) ?_
  wtm_at "go"
  refine cl_get pc_410 fl_410_fun_args ok G ((upd_ne n1).trans gB) ((upd_ne n2).trans gBd) h2 (fun r => by simp) ?_
  refine ⟨_, opg_list ((upd_ne d1).trans ga) PySem.F.slot_list_append PySem.F.type_list_append, ?_⟩
  wtm_at "go"
  refine c_tuple_tup ?_
  wtm_at "go"
  refine c_append ((upd_ne d1).trans ga) (by rw [sizeLine_eq]; omega) ?_
  wtm_at "go"
  refine cl_get pc_410 fl_410_fun_results ok G ((upd_ne n3).trans ((upd_ne n1).trans gB)) ((upd_ne n4).trans ((upd_ne n2).trans gBd)) h3 (fun r => by simp) ?_
  refine ⟨_, opg_list ((upd_ne d3).trans ((upd_ne d2).trans gr)) PySem.F.slot_list_append PySem.F.type_list_append, ?_⟩
  wtm_at "go"
  refine c_append ((upd_ne d3).trans ((upd_ne d2).trans gr)) (by rw [sizeLine_eq]; omega) ?_
  wtm_at "go"
  refine cl_get pc_410 fl_410_fun_names ok G ((upd_ne n5).trans ((upd_ne n3).trans ((upd_ne n1).trans gB))) ((upd_ne n6).trans ((upd_ne n4).trans ((upd_ne n2).trans gBd))) h1 (fun r => by simp) ?_
  wtm_at "go"
  refine c_len_list ((upd_ne (Ne.symm d2)).trans ((upd_ne (Ne.symm d1)).trans upd_same)) (by rw [List.length_append, List.length_singleton]; omega) ?_
  wtm_at "go"
  exact hK _

end
section
variable {w : World} {A : Around} {h₀ : Heap} {σ σ₀ : Store} {K : V → Store → Prop} {n : Nat}
theorem b_init {B Bd : Addr} (G : Gd w h₀) (hR : Room 2 A) (H : Grow σ₀ σ [(Bd, .bd, .dict .str []), (B, .b, .inst 410 Bd)])
    (hK : ∀ Sn Sw Fn Fa Sr bl σ', alook bl (.str "sort_names") = some (.ref Sn) → alook bl (.str "sort_widths") = some (.ref Sw) → alook bl (.str "fun_names") = some (.ref Fn) → alook bl (.str "fun_args") = some (.ref Fa) → alook bl (.str "fun_results") = some (.ref Sr) → (∀ x ∈ bankMeths, alook bl (.str x) = none) →
      Grow σ₀ σ' [(Bd, .bd, .dict .str bl), (Sr, .sr, .list []), (Fa, .tab 1001, .list []), (Fn, .tab 1000, .list []), (Sw, .sw, .list [.int 0, .int 0, .int 0]), (Sn, .sn, .list [.str "Bool", .str "Int", .str "Real"]), (B, .b, .inst 410 Bd)] → K .none σ') :
    CallC w h₀ A (.ref 211) [.ref B] σ K := by
  refine bodyN (n := 1) (names := ["self"]) G hR (by rfl) (by rfl) (by rfl) (by rfl) (by intro us hu; obtain ⟨a, rfl⟩ := len1 hu; rfl) (by rfl) (by wtm_at "binds") (by rfl) (by rfl) (by rfl) (by rfl) (by rfl) ?_
  intro L q env base os A' he hnm hce hR' ok O
  dsimp only at hnm
  dsimp only at hce he
  show Ex w _ _ _ (set (fun _ => none) "self" (.ref B)) _ _ _
  have hh := hR'.handled
  replace hce : env.cells = [] := hce.trans rfl
  have gB := H.get (a := B) (t := .b) (c := .inst 410 Bd) (by wtm_at "mem")
  have gBd := H.get (a := Bd) (t := .bd) (c := .dict .str []) (by wtm_at "mem")
  wtm_at "go"
  refine ⟨by decide, fun Sn hSn => ?_⟩
  wtm_at "go"
  replace H := H.new2 (c := .list [.str "Bool", .str "Int", .str "Real"]) .sn hSn
  have gB := H.get (a := B) (t := .b) (c := .inst 410 Bd) (by wtm_at "mem")
  have gBd := H.get (a := Bd) (t := .bd) (c := .dict .str []) (by wtm_at "mem")
  clear hSn
  refine cl_set pc_410 fl_410_sort_names ok G gB gBd (by simp) ?_
  show Ex _ _ _ _ _ (upd _ Bd (Cell.dict DK.str [(.str "sort_names", .ref Sn)])) _ _
  replace H := H.put1 (.dict .str [(.str "sort_names", .ref Sn)])
  generalize hσ : upd _ Bd (.dict .str [(.str "sort_names", .ref Sn)]) = σn5 at H ⊢
  clear hσ gB gBd
  have gB := H.get (a := B) (t := .b) (c := .inst 410 Bd) (by wtm_at "mem")
  have gBd := H.get (a := Bd) (t := .bd) (c := .dict .str [(.str "sort_names", .ref Sn)]) (by wtm_at "mem")
  wtm_at "go"
  refine ⟨by decide, fun Sw hSw => ?_⟩
  wtm_at "go"
  replace H := H.new2 (c := .list [.int 0, .int 0, .int 0]) .sw hSw
  have gB := H.get (a := B) (t := .b) (c := .inst 410 Bd) (by wtm_at "mem")
  have gBd := H.get (a := Bd) (t := .bd) (c := .dict .str [(.str "sort_names", .ref Sn)]) (by wtm_at "mem")
  clear hSw
  refine cl_set pc_410 fl_410_sort_widths ok G gB gBd (by simp) ?_
  show Ex _ _ _ _ _ (upd _ Bd (Cell.dict DK.str [(.str "sort_names", .ref Sn), (.str "sort_widths", .ref Sw)])) _ _
  replace H := H.put1 (.dict .str [(.str "sort_names", .ref Sn), (.str "sort_widths", .ref Sw)])
  generalize hσ : upd _ Bd (.dict .str [(.str "sort_names", .ref Sn), (.str "sort_widths", .ref Sw)]) = σn6 at H ⊢
  clear hσ gB gBd
  have gB := H.get (a := B) (t := .b) (c := .inst 410 Bd) (by wtm_at "mem")
  have gBd := H.get (a := Bd) (t := .bd) (c := .dict .str [(.str "sort_names", .ref Sn), (.str "sort_widths", .ref Sw)]) (by wtm_at "mem")
  wtm_at "go"
  refine ⟨by decide, fun Fn hFn => ?_⟩
  wtm_at "go"
  replace H := H.new2 (c := .list []) (.tab 1000) hFn
  have gB := H.get (a := B) (t := .b) (c := .inst 410 Bd) (by wtm_at "mem")
  have gBd := H.get (a := Bd) (t := .bd) (c := .dict .str [(.str "sort_names", .ref Sn), (.str "sort_widths", .ref Sw)]) (by wtm_at "mem")
  clear hFn
  refine cl_set pc_410 fl_410_fun_names ok G gB gBd (by simp) ?_
  show Ex _ _ _ _ _ (upd _ Bd (Cell.dict DK.str [(.str "sort_names", .ref Sn), (.str "sort_widths", .ref Sw), (.str "fun_names", .ref Fn)])) _ _
  replace H := H.put1 (.dict .str [(.str "sort_names", .ref Sn), (.str "sort_widths", .ref Sw), (.str "fun_names", .ref Fn)])
  generalize hσ : upd _ Bd (.dict .str [(.str "sort_names", .ref Sn), (.str "sort_widths", .ref Sw), (.str "fun_names", .ref Fn)]) = σn7 at H ⊢
  clear hσ gB gBd
  have gB := H.get (a := B) (t := .b) (c := .inst 410 Bd) (by wtm_at "mem")
  have gBd := H.get (a := Bd) (t := .bd) (c := .dict .str [(.str "sort_names", .ref Sn), (.str "sort_widths", .ref Sw), (.str "fun_names", .ref Fn)]) (by wtm_at "mem")
  wtm_at "go"
  refine ⟨by decide, fun Fa hFa => ?_⟩
  wtm_at "go"
  replace H := H.new2 (c := .list []) (.tab 1001) hFa
  have gB := H.get (a := B) (t := .b) (c := .inst 410 Bd) (by wtm_at "mem")
  have gBd := H.get (a := Bd) (t := .bd) (c := .dict .str [(.str "sort_names", .ref Sn), (.str "sort_widths", .ref Sw), (.str "fun_names", .ref Fn)]) (by wtm_at "mem")
  clear hFa
  refine cl_set pc_410 fl_410_fun_args ok G gB gBd (by simp) ?_
  show Ex _ _ _ _ _ (upd _ Bd (Cell.dict DK.str [(.str "sort_names", .ref Sn), (.str "sort_widths", .ref Sw), (.str "fun_names", .ref Fn), (.str "fun_args", .ref Fa)])) _ _
  replace H := H.put1 (.dict .str [(.str "sort_names", .ref Sn), (.str "sort_widths", .ref Sw), (.str "fun_names", .ref Fn), (.str "fun_args", .ref Fa)])
  generalize hσ : upd _ Bd (.dict .str [(.str "sort_names", .ref Sn), (.str "sort_widths", .ref Sw), (.str "fun_names", .ref Fn), (.str "fun_args", .ref Fa)]) = σn8 at H ⊢
  clear hσ gB gBd
  have gB := H.get (a := B) (t := .b) (c := .inst 410 Bd) (by wtm_at "mem")
  have gBd := H.get (a := Bd) (t := .bd) (c := .dict .str [(.str "sort_names", .ref Sn), (.str "sort_widths", .ref Sw), (.str "fun_names", .ref Fn), (.str "fun_args", .ref Fa)]) (by wtm_at "mem")
  wtm_at "go"
  refine ⟨by decide, fun Sr hSr => ?_⟩
  wtm_at "go"
  replace H := H.new2 (c := .list []) .sr hSr
  have gB := H.get (a := B) (t := .b) (c := .inst 410 Bd) (by wtm_at "mem")
  have gBd := H.get (a := Bd) (t := .bd) (c := .dict .str [(.str "sort_names", .ref Sn), (.str "sort_widths", .ref Sw), (.str "fun_names", .ref Fn), (.str "fun_args", .ref Fa)]) (by wtm_at "mem")
  clear hSr
  refine cl_set pc_410 fl_410_fun_results ok G gB gBd (by simp) ?_
  show Ex _ _ _ _ _ (upd _ Bd (Cell.dict DK.str [(.str "sort_names", .ref Sn), (.str "sort_widths", .ref Sw), (.str "fun_names", .ref Fn), (.str "fun_args", .ref Fa), (.str "fun_results", .ref Sr)])) _ _
  replace H := H.put1 (.dict .str [(.str "sort_names", .ref Sn), (.str "sort_widths", .ref Sw), (.str "fun_names", .ref Fn), (.str "fun_args", .ref Fa), (.str "fun_results", .ref Sr)])
  generalize hσ : upd _ Bd (.dict .str [(.str "sort_names", .ref Sn), (.str "sort_widths", .ref Sw), (.str "fun_names", .ref Fn), (.str "fun_args", .ref Fa), (.str "fun_results", .ref Sr)]) = σn9 at H ⊢
  clear hσ gB gBd
  have gB := H.get (a := B) (t := .b) (c := .inst 410 Bd) (by wtm_at "mem")
  have gBd := H.get (a := Bd) (t := .bd) (c := .dict .str [(.str "sort_names", .ref Sn), (.str "sort_widths", .ref Sw), (.str "fun_names", .ref Fn), (.str "fun_args", .ref Fa), (.str "fun_results", .ref Sr)]) (by wtm_at "mem")
  wtm_at "go"
  refine cl_set pc_410 fl_410_fresh_count ok G gB gBd (by simp) ?_
  show Ex _ _ _ _ _ (upd _ Bd (Cell.dict DK.str [(.str "sort_names", .ref Sn), (.str "sort_widths", .ref Sw), (.str "fun_names", .ref Fn), (.str "fun_args", .ref Fa), (.str "fun_results", .ref Sr), (.str "fresh_count", .int 0)])) _ _
  replace H := H.put1 (.dict .str [(.str "sort_names", .ref Sn), (.str "sort_widths", .ref Sw), (.str "fun_names", .ref Fn), (.str "fun_args", .ref Fa), (.str "fun_results", .ref Sr), (.str "fresh_count", .int 0)])
  generalize hσ : upd _ Bd (.dict .str [(.str "sort_names", .ref Sn), (.str "sort_widths", .ref Sw), (.str "fun_names", .ref Fn), (.str "fun_args", .ref Fa), (.str "fun_results", .ref Sr), (.str "fresh_count", .int 0)]) = σn10 at H ⊢
  clear hσ gB gBd
  have gB := H.get (a := B) (t := .b) (c := .inst 410 Bd) (by wtm_at "mem")
  have gBd := H.get (a := Bd) (t := .bd) (c := .dict .str [(.str "sort_names", .ref Sn), (.str "sort_widths", .ref Sw), (.str "fun_names", .ref Fn), (.str "fun_args", .ref Fa), (.str "fun_results", .ref Sr), (.str "fresh_count", .int 0)]) (by wtm_at "mem")
  wtm_at "go"
  refine ⟨by decide, fun To hTo => ?_⟩
  wtm_at "go"
  replace H := H.new2 (c := .list [.str ""]) .other hTo
  have gB := H.get (a := B) (t := .b) (c := .inst 410 Bd) (by wtm_at "mem")
  have gBd := H.get (a := Bd) (t := .bd) (c := .dict .str [(.str "sort_names", .ref Sn), (.str "sort_widths", .ref Sw), (.str "fun_names", .ref Fn), (.str "fun_args", .ref Fa), (.str "fun_results", .ref Sr), (.str "fresh_count", .int 0)]) (by wtm_at "mem")
  clear hTo
  refine cl_set pc_410 fl_410_term_ops ok G gB gBd (by simp) ?_
  show Ex _ _ _ _ _ (upd _ Bd (Cell.dict DK.str [(.str "sort_names", .ref Sn), (.str "sort_widths", .ref Sw), (.str "fun_names", .ref Fn), (.str "fun_args", .ref Fa), (.str "fun_results", .ref Sr), (.str "fresh_count", .int 0), (.str "term_ops", .ref To)])) _ _
  replace H := H.put1 (.dict .str [(.str "sort_names", .ref Sn), (.str "sort_widths", .ref Sw), (.str "fun_names", .ref Fn), (.str "fun_args", .ref Fa), (.str "fun_results", .ref Sr), (.str "fresh_count", .int 0), (.str "term_ops", .ref To)])
  generalize hσ : upd _ Bd (.dict .str [(.str "sort_names", .ref Sn), (.str "sort_widths", .ref Sw), (.str "fun_names", .ref Fn), (.str "fun_args", .ref Fa), (.str "fun_results", .ref Sr), (.str "fresh_count", .int 0), (.str "term_ops", .ref To)]) = σn11 at H ⊢
  clear hσ gB gBd
  have gB := H.get (a := B) (t := .b) (c := .inst 410 Bd) (by wtm_at "mem")
  have gBd := H.get (a := Bd) (t := .bd) (c := .dict .str [(.str "sort_names", .ref Sn), (.str "sort_widths", .ref Sw), (.str "fun_names", .ref Fn), (.str "fun_args", .ref Fa), (.str "fun_results", .ref Sr), (.str "fresh_count", .int 0), (.str "term_ops", .ref To)]) (by wtm_at "mem")
  wtm_at "go"
  refine ⟨by wtm_at "sz", ?_⟩
  wtm_at "go"
  refine ⟨by decide, fun Ta hTa => ?_⟩
  wtm_at "go"
  replace H := H.new2 (c := .list [.tup []]) .other hTa
  have gB := H.get (a := B) (t := .b) (c := .inst 410 Bd) (by wtm_at "mem")
  have gBd := H.get (a := Bd) (t := .bd) (c := .dict .str [(.str "sort_names", .ref Sn), (.str "sort_widths", .ref Sw), (.str "fun_names", .ref Fn), (.str "fun_args", .ref Fa), (.str "fun_results", .ref Sr), (.str "fresh_count", .int 0), (.str "term_ops", .ref To)]) (by wtm_at "mem")
  clear hTa
  refine cl_set pc_410 fl_410_term_args ok G gB gBd (by simp) ?_
  show Ex _ _ _ _ _ (upd _ Bd (Cell.dict DK.str [(.str "sort_names", .ref Sn), (.str "sort_widths", .ref Sw), (.str "fun_names", .ref Fn), (.str "fun_args", .ref Fa), (.str "fun_results", .ref Sr), (.str "fresh_count", .int 0), (.str "term_ops", .ref To), (.str "term_args", .ref Ta)])) _ _
  replace H := H.put1 (.dict .str [(.str "sort_names", .ref Sn), (.str "sort_widths", .ref Sw), (.str "fun_names", .ref Fn), (.str "fun_args", .ref Fa), (.str "fun_results", .ref Sr), (.str "fresh_count", .int 0), (.str "term_ops", .ref To), (.str "term_args", .ref Ta)])
  generalize hσ : upd _ Bd (.dict .str [(.str "sort_names", .ref Sn), (.str "sort_widths", .ref Sw), (.str "fun_names", .ref Fn), (.str "fun_args", .ref Fa), (.str "fun_results", .ref Sr), (.str "fresh_count", .int 0), (.str "term_ops", .ref To), (.str "term_args", .ref Ta)]) = σn12 at H ⊢
  clear hσ gB gBd
  have gB := H.get (a := B) (t := .b) (c := .inst 410 Bd) (by wtm_at "mem")
  have gBd := H.get (a := Bd) (t := .bd) (c := .dict .str [(.str "sort_names", .ref Sn), (.str "sort_widths", .ref Sw), (.str "fun_names", .ref Fn), (.str "fun_args", .ref Fa), (.str "fun_results", .ref Sr), (.str "fresh_count", .int 0), (.str "term_ops", .ref To), (.str "term_args", .ref Ta)]) (by wtm_at "mem")
  wtm_at "go"
  refine ⟨by decide, fun Ts hTs => ?_⟩
  wtm_at "go"
  replace H := H.new2 (c := .list [.int 0]) .other hTs
  have gB := H.get (a := B) (t := .b) (c := .inst 410 Bd) (by wtm_at "mem")
  have gBd := H.get (a := Bd) (t := .bd) (c := .dict .str [(.str "sort_names", .ref Sn), (.str "sort_widths", .ref Sw), (.str "fun_names", .ref Fn), (.str "fun_args", .ref Fa), (.str "fun_results", .ref Sr), (.str "fresh_count", .int 0), (.str "term_ops", .ref To), (.str "term_args", .ref Ta)]) (by wtm_at "mem")
  clear hTs
  refine cl_set pc_410 fl_410_term_sorts ok G gB gBd (by simp) ?_
  show Ex _ _ _ _ _ (upd _ Bd (Cell.dict DK.str [(.str "sort_names", .ref Sn), (.str "sort_widths", .ref Sw), (.str "fun_names", .ref Fn), (.str "fun_args", .ref Fa), (.str "fun_results", .ref Sr), (.str "fresh_count", .int 0), (.str "term_ops", .ref To), (.str "term_args", .ref Ta), (.str "term_sorts", .ref Ts)])) _ _
  replace H := H.put1 (.dict .str [(.str "sort_names", .ref Sn), (.str "sort_widths", .ref Sw), (.str "fun_names", .ref Fn), (.str "fun_args", .ref Fa), (.str "fun_results", .ref Sr), (.str "fresh_count", .int 0), (.str "term_ops", .ref To), (.str "term_args", .ref Ta), (.str "term_sorts", .ref Ts)])
  generalize hσ : upd _ Bd (.dict .str [(.str "sort_names", .ref Sn), (.str "sort_widths", .ref Sw), (.str "fun_names", .ref Fn), (.str "fun_args", .ref Fa), (.str "fun_results", .ref Sr), (.str "fresh_count", .int 0), (.str "term_ops", .ref To), (.str "term_args", .ref Ta), (.str "term_sorts", .ref Ts)]) = σn13 at H ⊢
  clear hσ gB gBd
  have gB := H.get (a := B) (t := .b) (c := .inst 410 Bd) (by wtm_at "mem")
  have gBd := H.get (a := Bd) (t := .bd) (c := .dict .str [(.str "sort_names", .ref Sn), (.str "sort_widths", .ref Sw), (.str "fun_names", .ref Fn), (.str "fun_args", .ref Fa), (.str "fun_results", .ref Sr), (.str "fresh_count", .int 0), (.str "term_ops", .ref To), (.str "term_args", .ref Ta), (.str "term_sorts", .ref Ts)]) (by wtm_at "mem")
  wtm_at "go"
  refine ⟨by decide, fun Td hTd => ?_⟩
  wtm_at "go"
  replace H := H.new2 (c := .list [.int 0]) .other hTd
  have gB := H.get (a := B) (t := .b) (c := .inst 410 Bd) (by wtm_at "mem")
  have gBd := H.get (a := Bd) (t := .bd) (c := .dict .str [(.str "sort_names", .ref Sn), (.str "sort_widths", .ref Sw), (.str "fun_names", .ref Fn), (.str "fun_args", .ref Fa), (.str "fun_results", .ref Sr), (.str "fresh_count", .int 0), (.str "term_ops", .ref To), (.str "term_args", .ref Ta), (.str "term_sorts", .ref Ts)]) (by wtm_at "mem")
  clear hTd
  refine cl_set pc_410 fl_410_term_datas ok G gB gBd (by simp) ?_
  show Ex _ _ _ _ _ (upd _ Bd (Cell.dict DK.str [(.str "sort_names", .ref Sn), (.str "sort_widths", .ref Sw), (.str "fun_names", .ref Fn), (.str "fun_args", .ref Fa), (.str "fun_results", .ref Sr), (.str "fresh_count", .int 0), (.str "term_ops", .ref To), (.str "term_args", .ref Ta), (.str "term_sorts", .ref Ts), (.str "term_datas", .ref Td)])) _ _
  replace H := H.put1 (.dict .str [(.str "sort_names", .ref Sn), (.str "sort_widths", .ref Sw), (.str "fun_names", .ref Fn), (.str "fun_args", .ref Fa), (.str "fun_results", .ref Sr), (.str "fresh_count", .int 0), (.str "term_ops", .ref To), (.str "term_args", .ref Ta), (.str "term_sorts", .ref Ts), (.str "term_datas", .ref Td)])
  generalize hσ : upd _ Bd (.dict .str [(.str "sort_names", .ref Sn), (.str "sort_widths", .ref Sw), (.str "fun_names", .ref Fn), (.str "fun_args", .ref Fa), (.str "fun_results", .ref Sr), (.str "fresh_count", .int 0), (.str "term_ops", .ref To), (.str "term_args", .ref Ta), (.str "term_sorts", .ref Ts), (.str "term_datas", .ref Td)]) = σn14 at H ⊢
  clear hσ gB gBd
  have gB := H.get (a := B) (t := .b) (c := .inst 410 Bd) (by wtm_at "mem")
  have gBd := H.get (a := Bd) (t := .bd) (c := .dict .str [(.str "sort_names", .ref Sn), (.str "sort_widths", .ref Sw), (.str "fun_names", .ref Fn), (.str "fun_args", .ref Fa), (.str "fun_results", .ref Sr), (.str "fresh_count", .int 0), (.str "term_ops", .ref To), (.str "term_args", .ref Ta), (.str "term_sorts", .ref Ts), (.str "term_datas", .ref Td)]) (by wtm_at "mem")
  wtm_at "go"
  refine ev_dict0 (kd := termK) fun Nb hNb => ?_
  wtm_at "go"
  replace H := H.new2 (c := .dict termK []) .other hNb
  have gB := H.get (a := B) (t := .b) (c := .inst 410 Bd) (by wtm_at "mem")
  have gBd := H.get (a := Bd) (t := .bd) (c := .dict .str [(.str "sort_names", .ref Sn), (.str "sort_widths", .ref Sw), (.str "fun_names", .ref Fn), (.str "fun_args", .ref Fa), (.str "fun_results", .ref Sr), (.str "fresh_count", .int 0), (.str "term_ops", .ref To), (.str "term_args", .ref Ta), (.str "term_sorts", .ref Ts), (.str "term_datas", .ref Td)]) (by wtm_at "mem")
  clear hNb
  refine cl_set pc_410 fl_410_numbers ok G gB gBd (by simp) ?_
  show Ex _ _ _ _ _ (upd _ Bd (Cell.dict DK.str [(.str "sort_names", .ref Sn), (.str "sort_widths", .ref Sw), (.str "fun_names", .ref Fn), (.str "fun_args", .ref Fa), (.str "fun_results", .ref Sr), (.str "fresh_count", .int 0), (.str "term_ops", .ref To), (.str "term_args", .ref Ta), (.str "term_sorts", .ref Ts), (.str "term_datas", .ref Td), (.str "numbers", .ref Nb)])) _ _
  replace H := H.put1 (.dict .str [(.str "sort_names", .ref Sn), (.str "sort_widths", .ref Sw), (.str "fun_names", .ref Fn), (.str "fun_args", .ref Fa), (.str "fun_results", .ref Sr), (.str "fresh_count", .int 0), (.str "term_ops", .ref To), (.str "term_args", .ref Ta), (.str "term_sorts", .ref Ts), (.str "term_datas", .ref Td), (.str "numbers", .ref Nb)])
  generalize hσ : upd _ Bd (.dict .str [(.str "sort_names", .ref Sn), (.str "sort_widths", .ref Sw), (.str "fun_names", .ref Fn), (.str "fun_args", .ref Fa), (.str "fun_results", .ref Sr), (.str "fresh_count", .int 0), (.str "term_ops", .ref To), (.str "term_args", .ref Ta), (.str "term_sorts", .ref Ts), (.str "term_datas", .ref Td), (.str "numbers", .ref Nb)]) = σn15 at H ⊢
  clear hσ gB gBd
  have gB := H.get (a := B) (t := .b) (c := .inst 410 Bd) (by wtm_at "mem")
  have gBd := H.get (a := Bd) (t := .bd) (c := .dict .str [(.str "sort_names", .ref Sn), (.str "sort_widths", .ref Sw), (.str "fun_names", .ref Fn), (.str "fun_args", .ref Fa), (.str "fun_results", .ref Sr), (.str "fresh_count", .int 0), (.str "term_ops", .ref To), (.str "term_args", .ref Ta), (.str "term_sorts", .ref Ts), (.str "term_datas", .ref Td), (.str "numbers", .ref Nb)]) (by wtm_at "mem")
  wtm_at "go"
  refine ⟨_, cl_meth pc_410 me_410_make ok G gB gBd (by rfl), ?_⟩
  wtm_at "go"
  refine ⟨by wtm_at "sz", ?_⟩
  wtm_at "go"
  refine opc_fn ok (b_make G hR' H (by simp) (by rfl) (by rfl) (by rfl) (by rfl) (by rfl) (by decide +kernel) (by rfl) (by simp) (by simp) (by simp) (by simp) (by simp) fun vtrue σn16 H1 => ?_).call
  replace H := H1
  clear H1 gB gBd
  dsimp only [List.cons_append, List.nil_append] at H
  have gB := H.get (a := B) (t := .b) (c := .inst 410 Bd) (by wtm_at "mem")
  have gBd := H.get (a := Bd) (t := .bd) (c := .dict .str [(.str "sort_names", .ref Sn), (.str "sort_widths", .ref Sw), (.str "fun_names", .ref Fn), (.str "fun_args", .ref Fa), (.str "fun_results", .ref Sr), (.str "fresh_count", .int 0), (.str "term_ops", .ref To), (.str "term_args", .ref Ta), (.str "term_sorts", .ref Ts), (.str "term_datas", .ref Td), (.str "numbers", .ref Nb)]) (by wtm_at "mem")
  wtm_at "go"
  refine cl_set pc_410 fl_410_true_number ok G gB gBd (by simp) ?_
  show Ex _ _ _ _ _ (upd _ Bd (Cell.dict DK.str [(.str "sort_names", .ref Sn), (.str "sort_widths", .ref Sw), (.str "fun_names", .ref Fn), (.str "fun_args", .ref Fa), (.str "fun_results", .ref Sr), (.str "fresh_count", .int 0), (.str "term_ops", .ref To), (.str "term_args", .ref Ta), (.str "term_sorts", .ref Ts), (.str "term_datas", .ref Td), (.str "numbers", .ref Nb), (.str "true_number", .int vtrue)])) _ _
  replace H := H.put1 (.dict .str [(.str "sort_names", .ref Sn), (.str "sort_widths", .ref Sw), (.str "fun_names", .ref Fn), (.str "fun_args", .ref Fa), (.str "fun_results", .ref Sr), (.str "fresh_count", .int 0), (.str "term_ops", .ref To), (.str "term_args", .ref Ta), (.str "term_sorts", .ref Ts), (.str "term_datas", .ref Td), (.str "numbers", .ref Nb), (.str "true_number", .int vtrue)])
  generalize hσ : upd _ Bd (.dict .str [(.str "sort_names", .ref Sn), (.str "sort_widths", .ref Sw), (.str "fun_names", .ref Fn), (.str "fun_args", .ref Fa), (.str "fun_results", .ref Sr), (.str "fresh_count", .int 0), (.str "term_ops", .ref To), (.str "term_args", .ref Ta), (.str "term_sorts", .ref Ts), (.str "term_datas", .ref Td), (.str "numbers", .ref Nb), (.str "true_number", .int vtrue)]) = σn17 at H ⊢
  clear hσ gB gBd
  have gB := H.get (a := B) (t := .b) (c := .inst 410 Bd) (by wtm_at "mem")
  have gBd := H.get (a := Bd) (t := .bd) (c := .dict .str [(.str "sort_names", .ref Sn), (.str "sort_widths", .ref Sw), (.str "fun_names", .ref Fn), (.str "fun_args", .ref Fa), (.str "fun_results", .ref Sr), (.str "fresh_count", .int 0), (.str "term_ops", .ref To), (.str "term_args", .ref Ta), (.str "term_sorts", .ref Ts), (.str "term_datas", .ref Td), (.str "numbers", .ref Nb), (.str "true_number", .int vtrue)]) (by wtm_at "mem")
  wtm_at "go"
  refine ⟨_, cl_meth pc_410 me_410_make ok G gB gBd (by rfl), ?_⟩
  wtm_at "go"
  refine ⟨by wtm_at "sz", ?_⟩
  wtm_at "go"
  refine opc_fn ok (b_make G hR' H (by simp) (by rfl) (by rfl) (by rfl) (by rfl) (by rfl) (by decide +kernel) (by unfold alook; rfl) (by simp) (by simp) (by simp) (by simp) (by exact Nat.le_trans aput_length (by simp)) fun vfalse σn18 H1 => ?_).call
  replace H := H1
  clear H1 gB gBd
  dsimp only [List.cons_append, List.nil_append] at H
  have gB := H.get (a := B) (t := .b) (c := .inst 410 Bd) (by wtm_at "mem")
  have gBd := H.get (a := Bd) (t := .bd) (c := .dict .str [(.str "sort_names", .ref Sn), (.str "sort_widths", .ref Sw), (.str "fun_names", .ref Fn), (.str "fun_args", .ref Fa), (.str "fun_results", .ref Sr), (.str "fresh_count", .int 0), (.str "term_ops", .ref To), (.str "term_args", .ref Ta), (.str "term_sorts", .ref Ts), (.str "term_datas", .ref Td), (.str "numbers", .ref Nb), (.str "true_number", .int vtrue)]) (by wtm_at "mem")
  wtm_at "go"
  refine cl_set pc_410 fl_410_false_number ok G gB gBd (by simp) ?_
  show Ex _ _ _ _ _ (upd _ Bd (Cell.dict DK.str [(.str "sort_names", .ref Sn), (.str "sort_widths", .ref Sw), (.str "fun_names", .ref Fn), (.str "fun_args", .ref Fa), (.str "fun_results", .ref Sr), (.str "fresh_count", .int 0), (.str "term_ops", .ref To), (.str "term_args", .ref Ta), (.str "term_sorts", .ref Ts), (.str "term_datas", .ref Td), (.str "numbers", .ref Nb), (.str "true_number", .int vtrue), (.str "false_number", .int vfalse)])) _ _
  replace H := H.put1 (.dict .str [(.str "sort_names", .ref Sn), (.str "sort_widths", .ref Sw), (.str "fun_names", .ref Fn), (.str "fun_args", .ref Fa), (.str "fun_results", .ref Sr), (.str "fresh_count", .int 0), (.str "term_ops", .ref To), (.str "term_args", .ref Ta), (.str "term_sorts", .ref Ts), (.str "term_datas", .ref Td), (.str "numbers", .ref Nb), (.str "true_number", .int vtrue), (.str "false_number", .int vfalse)])
  generalize hσ : upd _ Bd (.dict .str [(.str "sort_names", .ref Sn), (.str "sort_widths", .ref Sw), (.str "fun_names", .ref Fn), (.str "fun_args", .ref Fa), (.str "fun_results", .ref Sr), (.str "fresh_count", .int 0), (.str "term_ops", .ref To), (.str "term_args", .ref Ta), (.str "term_sorts", .ref Ts), (.str "term_datas", .ref Td), (.str "numbers", .ref Nb), (.str "true_number", .int vtrue), (.str "false_number", .int vfalse)]) = σn19 at H ⊢
  clear hσ gB gBd
  have gB := H.get (a := B) (t := .b) (c := .inst 410 Bd) (by wtm_at "mem")
  have gBd := H.get (a := Bd) (t := .bd) (c := .dict .str [(.str "sort_names", .ref Sn), (.str "sort_widths", .ref Sw), (.str "fun_names", .ref Fn), (.str "fun_args", .ref Fa), (.str "fun_results", .ref Sr), (.str "fresh_count", .int 0), (.str "term_ops", .ref To), (.str "term_args", .ref Ta), (.str "term_sorts", .ref Ts), (.str "term_datas", .ref Td), (.str "numbers", .ref Nb), (.str "true_number", .int vtrue), (.str "false_number", .int vfalse)]) (by wtm_at "mem")
  wtm_at "go"
  refine hK Sn Sw Fn Fa Sr [(.str "sort_names", .ref Sn), (.str "sort_widths", .ref Sw), (.str "fun_names", .ref Fn), (.str "fun_args", .ref Fa), (.str "fun_results", .ref Sr), (.str "fresh_count", .int 0), (.str "term_ops", .ref To), (.str "term_args", .ref Ta), (.str "term_sorts", .ref Ts), (.str "term_datas", .ref Td), (.str "numbers", .ref Nb), (.str "true_number", .int vtrue), (.str "false_number", .int vfalse)] _ (by rfl) (by rfl) (by rfl) (by rfl) (by rfl) (fun x hx => ?_) (H.sub ?_)
  · simp only [bankMeths, List.mem_cons, List.not_mem_nil, or_false] at hx
    rcases hx with rfl | rfl | rfl | rfl | rfl | rfl | rfl | rfl | rfl <;> rfl
  · exact .cons₂ _ (.cons _ (.cons _ (.cons _ (.cons _ (.cons _ (List.Sublist.refl _))))))

end
section
variable {w : World} {A : Around} {h₀ : Heap} {σ σ₀ : Store} {K : V → Store → Prop} {n : Nat}
theorem m_init {B M Md : Addr} (G : Gd w h₀) (hR : Room 1 A) (H : Grow σ₀ σ [(Md, .md, .dict .str []), (M, .m, .inst 559 Md)])
    (hK : ∀ T O σ', Grow σ₀ σ' [(Md, .md, .dict .str [(.str "bank", .ref B), (.str "tables", .ref T), (.str "others", .ref O)]), (O, .o, .dict .int []), (T, .t, .dict .int []), (M, .m, .inst 559 Md)] → K .none σ') : CallC w h₀ A (.ref 500) [.ref M, .ref B] σ K := by
  refine bodyN (n := 0) (names := ["self", "bank"]) G hR (by rfl) (by rfl) (by rfl) (by rfl) (by intro us hu; obtain ⟨a, b, rfl⟩ := len2 hu; rfl) (by rfl) (by wtm_at "binds") (by rfl) (by rfl) (by rfl) (by rfl) (by rfl) ?_
  intro L q env base os A' he hnm hce hR' ok O
  dsimp only at hnm
  dsimp only at hce he
  show Ex w _ _ _ (set (set (fun _ => none) "self" (.ref M)) "bank" (.ref B)) _ _ _
  have hh := hR'.handled
  replace hce : env.cells = [] := hce.trans rfl
  wtm_at "go"
  refine cl_set pc_559 fl_559_bank ok G (H.get (a := M) (t := .m) (c := .inst 559 Md) (by wtm_at "mem")) (H.get (a := Md) (t := .md) (c := .dict .str []) (by wtm_at "mem")) (by simp) ?_
  show Ex _ _ _ _ _ (upd _ Md (Cell.dict DK.str [(.str "bank", .ref B)])) _ _
  replace H := H.put1 (.dict .str [(.str "bank", .ref B)])
  generalize hσ : upd _ Md (.dict .str [(.str "bank", .ref B)]) = σn20 at H ⊢
  wtm_at "go"
  refine ev_dict0 (kd := .int) fun T hT => ?_
  wtm_at "go"
  replace H := H.new2 (c := .dict .int []) .t hT
  refine cl_set pc_559 fl_559_tables ok G (H.get (a := M) (t := .m) (c := .inst 559 Md) (by wtm_at "mem")) (H.get (a := Md) (t := .md) (c := .dict .str [(.str "bank", .ref B)]) (by wtm_at "mem")) (by simp) ?_
  show Ex _ _ _ _ _ (upd _ Md (Cell.dict DK.str [(.str "bank", .ref B), (.str "tables", .ref T)])) _ _
  replace H := H.put1 (.dict .str [(.str "bank", .ref B), (.str "tables", .ref T)])
  generalize hσ2 : upd _ Md (.dict .str [(.str "bank", .ref B), (.str "tables", .ref T)]) = σ2 at H ⊢
  wtm_at "go"
  refine ev_dict0 (kd := .int) fun O' hO => ?_
  wtm_at "go"
  replace H := H.new2 (c := .dict .int []) .o hO
  refine cl_set pc_559 fl_559_others ok G (H.get (a := M) (t := .m) (c := .inst 559 Md) (by wtm_at "mem")) (H.get (a := Md) (t := .md) (c := .dict .str [(.str "bank", .ref B), (.str "tables", .ref T)]) (by wtm_at "mem")) (by simp) ?_
  rw [show aput [(.str "bank", .ref B), (.str "tables", .ref T)] (.str "others") (.ref O') = [(.str "bank", .ref B), (.str "tables", .ref T), (.str "others", .ref O')] from rfl]
  replace H := H.put1 (.dict .str [(.str "bank", .ref B), (.str "tables", .ref T), (.str "others", .ref O')])
  wtm_at "go"
  exact hK T O' _ H
end
section
variable {w : World} {C : Cx} {A : Around} {m : Loc} {h₀ : Heap} {σ σ₀ : Store} {K : V → Store → Prop} {n : Nat}
theorem grow2 {x dx Cl : Addr} {t1 t2 : Tg} (h1 : σ x = none) (h2 : σ dx = none) (h3 : x ≠ dx) : Grow σ (upd (upd σ dx (.dict .str [])) x (.inst Cl dx)) [(dx, t1, .dict .str []), (x, t2, .inst Cl dx)] := fun l hl =>
  (((hl.new t1 h2).new t2 (by rw [upd_ne h3]; exact h1))).perm (List.Perm.swap _ _ _)
theorem o_Bank (G : Gd w C.h₀) (ok : C.Ok) (hR : Room 3 A)
    (hK : ∀ B Bd Sn Sw Fn Fa Sr bl σ', alook bl (.str "sort_names") = some (.ref Sn) → alook bl (.str "sort_widths") = some (.ref Sw) → alook bl (.str "fun_names") = some (.ref Fn) → alook bl (.str "fun_args") = some (.ref Fa) → alook bl (.str "fun_results") = some (.ref Sr) → (∀ x ∈ bankMeths, alook bl (.str x) = none) →
      Grow σ σ' [(Bd, .bd, .dict .str bl), (Sr, .sr, .list []), (Fa, .tab 1001, .list []), (Fn, .tab 1000, .list []), (Sw, .sw, .list [.int 0, .int 0, .int 0]), (Sn, .sn, .list [.str "Bool", .str "Int", .str "Real"]), (B, .b, .inst 410 Bd)] → K (.ref B) σ') :
    OpC w C A (.ref 410) [] m σ K :=
  c_cls ok G (ok_410 w) (in_410 w) (ty_211 w) fun x dx us h1 h2 h3 => b_init G hR.make (grow2 h1 h2 h3) fun Sn Sw Fn Fa Sr bl σ' a1 a2 a3 a4 a5 a6 H => ⟨rfl, hK x dx Sn Sw Fn Fa Sr bl σ' a1 a2 a3 a4 a5 a6 H⟩
theorem o_Model {B : Addr} (G : Gd w C.h₀) (ok : C.Ok) (hR : Room 2 A)
    (hK : ∀ M Md T O σ', Grow σ σ' [(Md, .md, .dict .str [(.str "bank", .ref B), (.str "tables", .ref T), (.str "others", .ref O)]), (O, .o, .dict .int []), (T, .t, .dict .int []), (M, .m, .inst 559 Md)] → K (.ref M) σ') :
    OpC w C A (.ref 559) [.ref B] m σ K :=
  c_cls ok G (ok_559 w) (in_559 w) (ty_500 w) fun x dx us h1 h2 h3 => m_init G hR.make (grow2 h1 h2 h3) fun T O σ' H => ⟨rfl, hK x dx T O σ' H⟩
end
section
variable {w : World} {C : Cx} {A : Around} {m : Loc} {h₀ : Heap} {σ σ₀ : Store} {K : V → Store → Prop} {n : Nat}
theorem k_init {B M Md : Addr} (G : Gd w h₀) (hR : Room 3 A) (H : Grow σ₀ σ [(Md, .other, .dict .str []), (M, .other, .inst 674 Md)])
    (hK : ∀ l M' σ', Grow σ₀ σ' [(Md, .other, .dict .str l), (M, .other, .inst 674 Md)] → l = [(.str "bank", .ref B), (.str "hub", .none)] ++ ((.str "model", .ref M') :: l.drop 3) → l.length ≤ 10 → (∀ v, aput l (.str "model") v = [(.str "bank", .ref B), (.str "hub", .none)] ++ ((.str "model", v) :: l.drop 3)) → alook l (.str "choose_others") = none → K .none σ') : CallC w h₀ A (.ref 622) [.ref M, .ref B, .none] σ K := by
  refine bodyN (n := 2) (names := ["self", "bank", "hub"]) G hR (by rfl) (by rfl) (by rfl) (by rfl) (by intro us hu; obtain ⟨a, b, c, rfl⟩ := len3 hu; rfl) (by rfl) (by wtm_at "binds") (by rfl) (by rfl) (by rfl) (by rfl) (by rfl) ?_
  intro L q env base os A' he hnm hce hR' ok O
  dsimp only at hnm
  dsimp only at hce he
  show Ex w _ _ _ (set (set (set (fun _ => none) "self" (.ref M)) "bank" (.ref B)) "hub" .none) _ _ _
  have hh := hR'.handled
  replace hce : env.cells = [] := hce.trans rfl
  wtm_at "go"
  refine cl_set pc_674 fl_674_bank ok G (H.get (a := M) (t := .other) (c := .inst 674 Md) (by wtm_at "mem")) (H.get (a := Md) (t := .other) (c := .dict .str []) (by wtm_at "mem")) (by simp) ?_
  show Ex _ _ _ _ _ (upd _ Md (Cell.dict DK.str [(.str "bank", .ref B)])) _ _
  replace H := H.put1 (.dict .str [(.str "bank", .ref B)])
  generalize hσ : upd _ Md (.dict .str [(.str "bank", .ref B)]) = σn21 at H ⊢
  clear hσ
  wtm_at "go"
  refine cl_set pc_674 fl_674_hub ok G (H.get (a := M) (t := .other) (c := .inst 674 Md) (by wtm_at "mem")) (H.get (a := Md) (t := .other) (c := .dict .str [(.str "bank", .ref B)]) (by wtm_at "mem")) (by simp) ?_
  show Ex _ _ _ _ _ (upd _ Md (Cell.dict DK.str [(.str "bank", .ref B), (.str "hub", .none)])) _ _
  replace H := H.put1 (.dict .str [(.str "bank", .ref B), (.str "hub", .none)])
  generalize hσ : upd _ Md (.dict .str [(.str "bank", .ref B), (.str "hub", .none)]) = σn22 at H ⊢
  clear hσ
  wtm_at "go"
  refine o_Model G ok hR' fun M' Md' T' O' σn23 H1 => ?_
  replace H := H.up H1.le
  clear H1
  wtm_at "go"
  refine cl_set pc_674 fl_674_model ok G (H.get (a := M) (t := .other) (c := .inst 674 Md) (by wtm_at "mem")) (H.get (a := Md) (t := .other) (c := .dict .str [(.str "bank", .ref B), (.str "hub", .none)]) (by wtm_at "mem")) (by simp) ?_
  show Ex _ _ _ _ _ (upd _ Md (Cell.dict DK.str [(.str "bank", .ref B), (.str "hub", .none), (.str "model", .ref M')])) _ _
  replace H := H.put1 (.dict .str [(.str "bank", .ref B), (.str "hub", .none), (.str "model", .ref M')])
  generalize hσ : upd _ Md (.dict .str [(.str "bank", .ref B), (.str "hub", .none), (.str "model", .ref M')]) = σn24 at H ⊢
  clear hσ
  wtm_at "go"
  refine ev_dict0 (kd := .int) fun avalues hvalues => ?_
  wtm_at "go"
  replace H := H.up ((StLe.refl _).upd (c := .dict .int []) hvalues)
  clear hvalues
  refine cl_set pc_674 fl_674_values ok G (H.get (a := M) (t := .other) (c := .inst 674 Md) (by wtm_at "mem")) (H.get (a := Md) (t := .other) (c := .dict .str [(.str "bank", .ref B), (.str "hub", .none), (.str "model", .ref M')]) (by wtm_at "mem")) (by simp) ?_
  show Ex _ _ _ _ _ (upd _ Md (Cell.dict DK.str [(.str "bank", .ref B), (.str "hub", .none), (.str "model", .ref M'), (.str "values", .ref avalues)])) _ _
  replace H := H.put1 (.dict .str [(.str "bank", .ref B), (.str "hub", .none), (.str "model", .ref M'), (.str "values", .ref avalues)])
  generalize hσ : upd _ Md (.dict .str [(.str "bank", .ref B), (.str "hub", .none), (.str "model", .ref M'), (.str "values", .ref avalues)]) = σn25 at H ⊢
  clear hσ
  wtm_at "go"
  refine ev_dict0 (kd := .int) fun aclass_values hclass_values => ?_
  wtm_at "go"
  replace H := H.up ((StLe.refl _).upd (c := .dict .int []) hclass_values)
  clear hclass_values
  refine cl_set pc_674 fl_674_class_values ok G (H.get (a := M) (t := .other) (c := .inst 674 Md) (by wtm_at "mem")) (H.get (a := Md) (t := .other) (c := .dict .str [(.str "bank", .ref B), (.str "hub", .none), (.str "model", .ref M'), (.str "values", .ref avalues)]) (by wtm_at "mem")) (by simp) ?_
  show Ex _ _ _ _ _ (upd _ Md (Cell.dict DK.str [(.str "bank", .ref B), (.str "hub", .none), (.str "model", .ref M'), (.str "values", .ref avalues), (.str "class_values", .ref aclass_values)])) _ _
  replace H := H.put1 (.dict .str [(.str "bank", .ref B), (.str "hub", .none), (.str "model", .ref M'), (.str "values", .ref avalues), (.str "class_values", .ref aclass_values)])
  generalize hσ : upd _ Md (.dict .str [(.str "bank", .ref B), (.str "hub", .none), (.str "model", .ref M'), (.str "values", .ref avalues), (.str "class_values", .ref aclass_values)]) = σn26 at H ⊢
  clear hσ
  wtm_at "go"
  refine ev_dict0 (kd := .int) fun acounts hcounts => ?_
  wtm_at "go"
  replace H := H.up ((StLe.refl _).upd (c := .dict .int []) hcounts)
  clear hcounts
  refine cl_set pc_674 fl_674_counts ok G (H.get (a := M) (t := .other) (c := .inst 674 Md) (by wtm_at "mem")) (H.get (a := Md) (t := .other) (c := .dict .str [(.str "bank", .ref B), (.str "hub", .none), (.str "model", .ref M'), (.str "values", .ref avalues), (.str "class_values", .ref aclass_values)]) (by wtm_at "mem")) (by simp) ?_
  show Ex _ _ _ _ _ (upd _ Md (Cell.dict DK.str [(.str "bank", .ref B), (.str "hub", .none), (.str "model", .ref M'), (.str "values", .ref avalues), (.str "class_values", .ref aclass_values), (.str "counts", .ref acounts)])) _ _
  replace H := H.put1 (.dict .str [(.str "bank", .ref B), (.str "hub", .none), (.str "model", .ref M'), (.str "values", .ref avalues), (.str "class_values", .ref aclass_values), (.str "counts", .ref acounts)])
  generalize hσ : upd _ Md (.dict .str [(.str "bank", .ref B), (.str "hub", .none), (.str "model", .ref M'), (.str "values", .ref avalues), (.str "class_values", .ref aclass_values), (.str "counts", .ref acounts)]) = σn27 at H ⊢
  clear hσ
  wtm_at "go"
  refine cl_set pc_674 fl_674_free_number ok G (H.get (a := M) (t := .other) (c := .inst 674 Md) (by wtm_at "mem")) (H.get (a := Md) (t := .other) (c := .dict .str [(.str "bank", .ref B), (.str "hub", .none), (.str "model", .ref M'), (.str "values", .ref avalues), (.str "class_values", .ref aclass_values), (.str "counts", .ref acounts)]) (by wtm_at "mem")) (by simp) ?_
  show Ex _ _ _ _ _ (upd _ Md (Cell.dict DK.str [(.str "bank", .ref B), (.str "hub", .none), (.str "model", .ref M'), (.str "values", .ref avalues), (.str "class_values", .ref aclass_values), (.str "counts", .ref acounts), (.str "free_number", .int 0)])) _ _
  replace H := H.put1 (.dict .str [(.str "bank", .ref B), (.str "hub", .none), (.str "model", .ref M'), (.str "values", .ref avalues), (.str "class_values", .ref aclass_values), (.str "counts", .ref acounts), (.str "free_number", .int 0)])
  generalize hσ : upd _ Md (.dict .str [(.str "bank", .ref B), (.str "hub", .none), (.str "model", .ref M'), (.str "values", .ref avalues), (.str "class_values", .ref aclass_values), (.str "counts", .ref acounts), (.str "free_number", .int 0)]) = σn28 at H ⊢
  clear hσ
  wtm_at "go"
  exact hK _ M' _ H rfl (by simp) (fun v => rfl) rfl
theorem o_Maker {B : Addr} (G : Gd w C.h₀) (ok : C.Ok) (hR : Room 4 A)
    (hK : ∀ x dx l M' σ', Grow σ σ' [(dx, .other, .dict .str l), (x, .other, .inst 674 dx)] → l = [(.str "bank", .ref B), (.str "hub", .none)] ++ ((.str "model", .ref M') :: l.drop 3) → l.length ≤ 10 → (∀ v, aput l (.str "model") v = [(.str "bank", .ref B), (.str "hub", .none)] ++ ((.str "model", v) :: l.drop 3)) → alook l (.str "choose_others") = none → K (.ref x) σ') :
    OpC w C A (.ref 674) [.ref B, .none] m σ K :=
  c_cls ok G (ok_674 w) (in_674 w) (ty_622 w) fun x dx us h1 h2 h3 => k_init G hR.make (grow2 h1 h2 h3) fun l M' σ' H a b c d => ⟨rfl, hK x dx l M' σ' H a b c d⟩
end
section
variable {w : World} {C : Cx} {A : Around} {m : Loc} {σ : Store} {K : V → Store → Prop}
/-- an item of a list that stands since before the call -/
theorem ev_sub0 {value slice : PySem.Expr} {pos : Pos} {env : Env} {a : Addr} {ob : Obj} (hb : C.base a = some ob) (hcl : ob.cls = .type "list")
    (h : Ev w C A (eval value env) m σ (fun v₁ σ₁ => v₁ = .ref a ∧ Ev w C A (eval slice env) m σ₁ (fun v₂ σ₂ => Op2 w C A getItem (.ref a) v₂ m σ₂ K)))
    (hs : ∀ o i, ∃ ops, subscripted slice false o i = operate ops (getItem o i)) : Ev w C A (eval (.Subscript value slice pos) env) m σ K := fun s rel =>
  Subscript_ (h.use rel fun u₁ s₁ v₁ σ₁ t₁ x₁ r₁ ⟨e, k₁⟩ => k₁.use r₁ fun u₂ s₂ v₂ σ₂ t₂ x₂ r₂ k₂ => by
    subst e
    have x := x₁.ref_inv
    subst x
    obtain ⟨ops, e⟩ := hs (.ref a) u₂
    exact tail_any (T := "list") ⟨_, r₂.keep a _ hb, hcl⟩ PySem.F.slot_list_getitem.lookup (post_up (k₂ s₂ (.ref a) u₂ r₂ vis_ref x₂) (t₁.trans t₂)) e)
theorem get_base_slice {b a : Addr} {ob : Obj} {vs : Array Value} {n : Nat} {ns : List Int} {l u st : Option Int} {o : Obj} (hb : C.base b = some ob) (hcl : ob.cls = .type "list") (hda : ob.data = .seq vs n) (hI : IntsAre vs.toList ns) (ha : σ a = some (.obj o)) (ho : SliceO l u st o) (h0 : st ≠ some 0) (hz : ns.length ≤ sizeLine)
    (h : ∀ d, σ d = none → K (.ref d) (upd σ d (.list (listCut (ns.map .int) l u st)))) :
    Op2 w C A getItem (.ref b) (.ref a) m σ K := fun s u₁ u₂ r xx y => by
  rw [xx.ref_inv, y.ref_inv]
  obtain ⟨o', g, rfl, _⟩ := r.hp.cells a _ ha
  obtain ⟨l', u', st', rfl, rfl, rfl, rfl⟩ := ho
  have gb := r.keep b _ hb
  have z : VAll s.heap (ns.map .int) vs.toList := of_ints hI
  have e : vs.size = (ns.map V.int).length := by rw [← Array.length_toList]; exact z.length
  refine wpAny_getItem_list_slice ⟨_, gb, hcl, n, hda⟩ ⟨_, g, rfl, rfl⟩ (isPart_of _) (isPart_of _) (isPart_of _) h0 ?_ (by rw [e, List.length_map]; exact hz)
  have pk : VAll s.heap (listCut (ns.map .int) (l'.map (·.1)) (u'.map (·.1)) (st'.map (·.1))) (slicePick vs (l'.map (·.1)) (u'.map (·.1)) (st'.map (·.1))).toList := by
    unfold listCut slicePick
    rw [e]
    simp only [← Array.getElem?_toList]
    exact vall_pick z _
  obtain ⟨tl, r'⟩ := r.push (t := s.toks) (c := .list (listCut (ns.map .int) (l'.map (·.1)) (u'.map (·.1)) (st'.map (·.1)))) (o := { cls := .type "list", data := .seq (slicePick vs (l'.map (·.1)) (u'.map (·.1)) (st'.map (·.1))) }) (fun h' tl => ⟨_, _, rfl, pk.mono tl⟩) rfl
  exact ⟨tl, _, _, vis_ref, r', h _ (fresh_of r.hp (fresh_size _))⟩
end
theorem cut_ints {ns : List Int} {l u st : Option Int} : ∃ cs : List Int, listCut (ns.map .int) l u st = cs.map .int ∧ cs.length ≤ (sliceRange (sliceBounds l u st ns.length).1 (sliceBounds l u st ns.length).2.1 (sliceBounds l u st ns.length).2.2).length := by
  unfold listCut
  rw [List.length_map]
  refine ⟨(sliceRange (sliceBounds l u st ns.length).1 (sliceBounds l u st ns.length).2.1 (sliceBounds l u st ns.length).2.2).filterMap (ns[·]?), ?_, List.length_filterMap_le _ _⟩
  rw [List.map_filterMap]
  congr 1
  funext i
  rw [List.getElem?_map]
theorem cut40 : ∀ n ≤ 63, (sliceRange (sliceBounds none (some 40) none n).1 (sliceBounds none (some 40) none n).2.1 (sliceBounds none (some 40) none n).2.2).length ≤ 63 := by decide +kernel
theorem cut_back : ∀ n ≤ 4, (sliceRange (sliceBounds none none (some (-1)) n).1 (sliceBounds none none (some (-1)) n).2.1 (sliceBounds none none (some (-1)) n).2.2) = (List.range n).reverse := by decide +kernel
theorem listCut_back {l : List V} (h : l.length ≤ 4) : listCut l none none (some (-1)) = l.reverse := by
  unfold listCut
  rw [cut_back _ h]
  match l, h with
  | [], _ => rfl
  | [a], _ => rfl
  | [a, b], _ => rfl
  | [a, b, c], _ => rfl
  | [a, b, c, d], _ => rfl
  | a :: b :: c :: d :: e :: l, h => simp at h
theorem words_nm : ∀ q ∈ wordsL, (if q.1 == "|let|" then ("|let|" : Str) else Txt.stripChars q.1 "|") = q.2.2.2 ∧ q.1.length ≤ 20 := by decide +kernel
theorem words_at {i : Nat} {v : V} (h : ([V.tup [.str "V", .str "V!val!", .str ""], .tup [.str "|my sort|", .str "|my sort!val!", .str "|"], .tup [.str "|9|", .str "|9!val!", .str "|"], .tup [.str "|let|", .str "let!val!", .str ""]])[i]? = some v) :
    ∃ w0 w1 w2 nm, v = .tup [.str w0, .str w1, .str w2] ∧ (w0, w1, w2, nm) ∈ wordsL := by
  match i, h with
  | 0, h => cases h; exact ⟨_, _, _, "V", rfl, .head _⟩
  | 1, h => cases h; exact ⟨_, _, _, "my sort", rfl, .tail _ (.head _)⟩
  | 2, h => cases h; exact ⟨_, _, _, "9", rfl, .tail _ (.tail _ (.head _))⟩
  | 3, h => cases h; exact ⟨_, _, _, "|let|", rfl, .tail _ (.tail _ (.tail _ (.head _)))⟩
  | i + 4, h => simp at h
/-- the rest of the law's body, from its k-th row on -/
noncomputable def LawRest (w : World) (h₀ : Heap) (k : Nat) (m : Loc) (σ : Store) (K : V → Store → Prop) : Prop :=
  ∀ oc od fd osl st, (KK w).lookup 759 = some ⟨oc, od, .func fd, osl⟩ → fd.body = .stmts st → ∀ L q env base os A', env = newEnv fd.scope L mainGlobals (cellsFrom (L + 1) fd.scope.names []) q (some 759) fd.code none builtinsNs → Nm env fd.scope.names → env.cells = cellsFrom (L + 1) fd.scope.names [] →
    Room 7 A' → (Cx.mk h₀ base env os).Ok → (Cx.mk h₀ base env os).Own → Ex w ⟨h₀, base, env, os⟩ A' (execs (st.drop k) env) m σ (fun _ σ' => K .none σ') (fun v σ' => K v σ')
theorem lawRest {w : World} {h₀ : Heap} {k : Nat} {m : Loc} {σ : Store} {K : V → Store → Prop} {oc : Value} {od : Option Addr} {fd : FuncData} {osl : Array (Option Value)} {st rest : List Stmt} (pre : List Stmt)
    (hfd : (KK w).lookup 759 = some ⟨oc, od, .func fd, osl⟩) (hbody : fd.body = .stmts st) (hst : st = pre ++ rest) (hk : pre.length = k)
    (h : ∀ L q env base os A', env = newEnv fd.scope L mainGlobals (cellsFrom (L + 1) fd.scope.names []) q (some 759) fd.code none builtinsNs → Nm env fd.scope.names → env.cells = cellsFrom (L + 1) fd.scope.names [] →
      Room 7 A' → (Cx.mk h₀ base env os).Ok → (Cx.mk h₀ base env os).Own → Ex w ⟨h₀, base, env, os⟩ A' (execs rest env) m σ (fun _ σ' => K .none σ') (fun v σ' => K v σ')) : LawRest w h₀ k m σ K := by
  intro oc' od' fd' osl' st' h1 h2
  have e := hfd.symm.trans h1
  injection e with e
  injection e with _ _ e3 _
  injection e3 with e3
  subst e3
  have e4 := hbody.symm.trans h2
  injection e4 with e4
  subst e4
  have e5 : st.drop k = rest := by rw [hst, ← hk]; exact List.drop_left
  rw [e5]
  exact h
theorem Has.refeed {σ σ' : Store} {F : Addr} {c c' : Cell} {t : Tg} {l₂ : List (Addr × Tg × Cell)} (l₁ : List (Addr × Tg × Cell)) (h : Has σ (l₁ ++ (F, t, c) :: l₂)) (b : But F σ σ') (f : σ' F = some c') : Has σ' (l₁ ++ (F, t, c') :: l₂) := by
  have h1 := h.put l₁ c'
  refine ⟨h1.nd, fun x hx => ?_⟩
  by_cases e : x.1 = F
  · have := h1.mem x hx
    rw [e, upd_same] at this
    rw [e, f]; exact this
  · have := h1.mem x hx
    rw [upd_ne e] at this
    exact b _ _ this e
/-- the world while it is built -/
noncomputable def coreL (p : Ws) (Fn Fa : Addr) (fns fas : List V) : List (Addr × Tg × Cell) :=
  [(p.Do, .od, .dict .int p.ow), (p.Lr, .lr, .list (p.ra.map .ref)), (p.Lh, .lh, .list (List.zipWith headV p.ph p.heads)), (p.Ls, .ls, .list [.tup [.int 3, .tup [.str "U", .str "U!val!", .str ""]], .tup [.int 4, .tup [.str p.w0, .str p.w1, .str p.w2]]]),
    (p.W, .w, .dict .str [(.str "sorts", .ref p.Ls), (.str "heads", .ref p.Lh), (.str "rows", .ref p.Lr), (.str "others", .ref p.Do)]), (p.Bd, .bd, .dict .str p.bl), (p.Sr, .sr, .list (p.heads.map fun h => .int h.2)), (Fa, .tab 1001, .list fas), (Fn, .tab 1000, .list fns),
    (p.Sw, .sw, .list [.int 0, .int 0, .int 0, .int 0, .int 0]), (p.Sn, .sn, .list [.str "Bool", .str "Int", .str "Real", .str "U", .str p.nm]), (p.B, .b, .inst 410 p.Bd), (p.Lc, .lc, .list (p.cs.map .int)), (p.Fd, .fd, feedC p.Lc p.k)]
structure BankOk (bl : List (V × V)) (Sn Sw Sr Fn Fa : Addr) : Prop where
  sn : alook bl (.str "sort_names") = some (.ref Sn)
  sw : alook bl (.str "sort_widths") = some (.ref Sw)
  fn : alook bl (.str "fun_names") = some (.ref Fn)
  fa : alook bl (.str "fun_args") = some (.ref Fa)
  sr : alook bl (.str "fun_results") = some (.ref Sr)
  no : ∀ x ∈ bankMeths, alook bl (.str x) = none
structure Build (σ : Store) (p : Ws) (Fn Fa : Addr) (fns fas : List V) (vars : List (Addr × Tg × Cell)) (i : Nat) : Prop where
  has : Has σ (coreL p Fn Fa fns fas ++ vars)
  bank : BankOk p.bl p.Sn p.Sw p.Sr Fn Fa
  lh : p.heads.length = i
  lp : p.ph.length = i
  lr : p.ra.length = i
  ln : fns.length = i
  la : fas.length = i
  hok : ∀ h ∈ p.heads, HeadOk h
  phs : ∀ (j : Nat) (a : Addr) (h : List Int × Int), p.ph[j]? = some a → p.heads[j]? = some h → (a, Tg.ph j, Cell.list (h.1.map .int)) ∈ vars
  ras : ∀ (j : Nat) (a : Addr), p.ra[j]? = some a → (a, Tg.ra j, Cell.list []) ∈ vars
  k0 : 0 ≤ p.k
  k1 : p.k ≤ 10 + 20 * i
  cz : p.cs.length ≤ 1000
  ow : p.ow = []
  wd : WordsOk p
noncomputable def Ws.grown (p : Ws) (k : Int) (heads : List (List Int × Int)) (ph ra : List Addr) : Ws := { p with k := k, heads := heads, ph := ph, ra := ra }
theorem Build.feed {σ : Store} {p : Ws} {Fn Fa : Addr} {fns fas : List V} {vars : List (Addr × Tg × Cell)} {i : Nat} (h : Build σ p Fn Fa fns fas vars i) (hi : i ≤ 10) : Feed σ p.Fd p.Lc p.cs p.k := by
  have := h.k1
  exact ⟨h.has.get (t := .fd) (by wtm_at "mem"), h.has.get (t := .lc) (by wtm_at "mem"), h.k0, by omega, h.cz⟩
theorem perm2 {α : Type} (x y : α) (l l' : List α) : (x :: y :: (l ++ l')).Perm (l ++ (x :: y :: l')) := List.perm_append_comm_assoc [x, y] l l'
theorem Has.ne {σ : Store} {l : List (Addr × Tg × Cell)} {a a' : Addr} {t t' : Tg} {c c' : Cell} (h : Has σ l) (h1 : (a, t, c) ∈ l) (h2 : (a', t', c') ∈ l) (hn : t ≠ t') : a ≠ a' := fun e => hn (by
  rw [← tagL_mem h.nd h1, ← tagL_mem h.nd h2, e])
theorem range_at {N j : Nat} {v : V} (h : ((List.range N).map fun i => V.int (i : Nat))[j]? = some v) : j < N ∧ v = .int j := by
  rw [List.getElem?_map, Option.map_eq_some_iff] at h
  obtain ⟨a, ha, rfl⟩ := h
  obtain ⟨h1, h2⟩ := List.getElem?_eq_some_iff.mp ha
  simp at h1 h2
  exact ⟨h1, by rw [h2]⟩
theorem sorts4 : ∀ s ∈ ([3, 4, 1, 0] : List Int), SortOk s := by simp [SortOk]
theorem sorts4b : ∀ s ∈ ([4, 3, 0, 1] : List Int), SortOk s := by simp [SortOk]
theorem sorts_at {i : Nat} {v : V} {l : List Int} (hl : ∀ s ∈ l, SortOk s) (h : (l.map V.int)[i]? = some v) : ∃ s, v = .int s ∧ SortOk s := by
  rw [List.getElem?_map, Option.map_eq_some_iff] at h
  obtain ⟨a, ha, rfl⟩ := h
  exact ⟨a, rfl, hl a (List.mem_of_getElem? ha)⟩
section
variable {w : World} {A : Around} {h₀ : Heap} {σ : Store} {K : V → Store → Prop} {n : Nat} {p : Ws} {Fn Fa Sa : Addr}
theorem ex_compN {C : Cx} {m : Loc} {N : Loc → Store → Prop} {R : V → Store → Prop} {elt iter : PySem.Expr} {ifs : List PySem.Expr} {scope : Scope} {pos p0 spos py : Pos} {ns ms : List (Str × NameKind)} {z yn : Str} (cl : List (Str × Addr)) (hh : A.handled = none) (O : C.Own) (ok : C.Ok) (hn : Nm C.env ns)
    (hsw : swapsWith (.ListComp elt [⟨.Name z p0, iter, ifs, 0⟩] scope pos) (some (.Name yn py)) spos.line C.env = pure true) (hy : ns.lookup yn = some .local) (hcy : C.env.cells.lookup yn = none)
    (hclos : closureFor scope C.env = pure cl) (hc : Capt C cl) (hcell : ∀ y ∈ scope.names, y.2 ≠ .cell) (hkind : scope.kind = .function) (hnames : ∀ y ∈ scope.names, y.2 = .local → scope.names.lookup y.1 = some .local)
    (hms : relN ns scope.names = ms) (h1 : ms.lookup z = some .local) (h2 : cl.lookup z = none) (hs : ∀ x, foldedSetIterable iter C.env x = pure x)
    (h : Ev w C A (eval iter C.env) m σ (fun v σ₁ => ∃ nm l need, Src w A σ₁ v nm l need ∧ CompName w C.h₀ C.os A z elt ifs cl ms m (fun acc σ₂ => ∀ D, σ₂ D = none → N (set m yn (.ref D)) (upd σ₂ D (.list acc))) nm l need σ₁)) :
    Ex w C A (exec (.Assign [.Name yn py] (.ListComp elt [⟨.Name z p0, iter, ifs, 0⟩] scope pos) spos) C.env) m σ N R := by
  refine ex_comp cl hh O ok hsw hclos hc hcell hkind hnames (.inl ⟨_, _, rfl⟩) hs (si_of (Gn.mono h ?_))
  rintro v σ₁ ⟨nm, l, need, src, hnm, Inv, hz, h0, hneed, step, fin⟩
  refine ⟨nm, l, need, src, .inl hnm, Inv, hz, h0, hneed, ?_, fun acc σ₂ hl hi D hD => ⟨set m yn (.ref D), fun base' O' => nm_st' (C := C.with base') hn rfl hy hcy O', fin acc σ₂ hl hi D hD⟩⟩
  rintro Cl base O' ok' i v acc σ₂ hv hI
  have hnm : Nm (compEnvC scope cl Cl C.env) ms := hn.comp hkind hms
  have hcc : (compEnvC scope cl Cl C.env).cells = cl := rfl
  have hmz : mIn cl m z = none := by unfold mIn; rw [h2]; rfl
  exact ⟨set (mIn cl m) z v, (LoLe.refl _).set hmz, as_name (nm_st' (C := inner C scope cl Cl base) hnm hcc h1 h2 O'), step _ base O' ok' hnm hcc i v acc σ₂ hv hI⟩
theorem law5 (G : Gd w h₀) (hB : Build σ p Fn Fa [] [] [] 0) (hk : p.k = 1)
    (hnext : ∀ k heads ph ra fns fas vars i σ', Build σ' (p.grown k heads ph ra) Fn Fa fns fas vars i → 2 ≤ i → i ≤ 4 → LawRest w h₀ 6 (set (set (set (set (set (set (set (fun _ => none) "script" (.ref Sa)) "feed" (.ref p.Fd)) "bank" (.ref p.B)) "words" (.tup [.str p.w0, .str p.w1, .str p.w2])) "first" (.int 3)) "second" (.int 4)) "world" (.ref p.W)) σ' K) :
    LawRest w h₀ 5 (set (set (set (set (set (set (set (fun _ => none) "script" (.ref Sa)) "feed" (.ref p.Fd)) "bank" (.ref p.B)) "words" (.tup [.str p.w0, .str p.w1, .str p.w2])) "first" (.int 3)) "second" (.int 4)) "world" (.ref p.W)) σ K := by
  refine lawRest [_, _, _, _, _] (by rfl) (by rfl) (by rfl) rfl ?_
  intro L q env base os A' he hnm hce hR' ok O
  have hce0 := hce
  have hnm0 := hnm
  dsimp only at hnm
  replace hce : env.cells = [(("second" : Str), L + 3), (("first" : Str), L + 2), (("feed" : Str), L + 1)] := hce.trans rfl
  have hh := hR'.handled
  have hnL := Nm.names hnm
  refine ex_cons ?_
  refine ex_for hh O ok (.refl _) (by wtm_at "tg") (si_of ?_) (by wtm_at "fs")
  wtm_at "go"
  refine opc_fn ok (c_draw G (hR'.le (by decide)) (hB.feed (by decide)) (by decide) (by decide) fun v v0 v1 => ?_).call
  have hB1 : Build (upd σ p.Fd (feedC p.Lc (p.k + 1))) (p.grown (p.k + 1) p.heads p.ph p.ra) Fn Fa [] [] [] 0 :=
    ⟨hB.has.put [_, _, _, _, _, _, _, _, _, _, _, _, _] _, hB.bank, hB.lh, hB.lp, hB.lr, hB.ln, hB.la, hB.hok, hB.phs, hB.ras, by have := hB.k0; show 0 ≤ p.k + 1; omega, by show p.k + 1 ≤ 10 + 20 * ((0 : Nat) : Int); omega, hB.cz, hB.ow, hB.wd⟩
  generalize upd σ p.Fd (feedC p.Lc (p.k + 1)) = σ1 at hB1 ⊢
  wtm_at "go"
  obtain ⟨N, hN⟩ : ∃ N : Nat, 2 + v = N := ⟨(2 + v).toNat, by omega⟩
  rw [hN]
  refine c_range fun r o hr ho => ?_
  refine ⟨true, _, _, src_range upd_same ho (by omega), .inl rfl, fun i σ₂ => ∃ k heads ph ra fns fas vars, Build σ₂ (p.grown k heads ph ra) Fn Fa fns fas vars i, ?_, fun _ _ _ => trivial, ?_, ?_⟩
  · exact ⟨_, _, _, _, _, _, _, { hB1 with has := hB1.has.le ((StLe.refl _).upd hr) }⟩
  · rintro base' O' ok' j v σ₂ hv ⟨k, heads, ph, ra, fns, fas, vars, hB2⟩
    replace O' : Cx.Own ⟨h₀, base', env, os⟩ := O'
    replace ok' : Cx.Ok ⟨h₀, base', env, os⟩ := ok'
    obtain ⟨hj, rfl⟩ := range_at hv
    have hj4 : j < 4 := by omega
    refine ⟨_, by wtm_at "asn", ?_⟩
    wtm_at "go"
    have g4 : j ≤ 10 := by omega
    refine ex_compN (C := ⟨h₀, base', env, os⟩) [(("second" : Str), L + 3), (("first" : Str), L + 2), (("feed" : Str), L + 1)] hh O' ok' hnm (by subst he; rfl) (by decide +kernel) (by rw [hce]; rfl) (by subst he; rfl) ⟨fun x c' e => by rw [hce]; exact e⟩ (by decide +kernel) (by rfl) (by decide +kernel) (by rfl) (by decide +kernel) (by rfl) (by wtm_at "fs") ?_
    wtm_at "go"
    refine opc_fn ok' (c_draw G (hR'.le (by decide)) (hB2.feed g4) (by decide) (by decide) fun v2 u0 u1 => ?_).call
    have F2 := hB2.feed g4
    have kk0 := hB2.k0
    have kk1 := hB2.k1
    replace F2 : Feed σ₂ p.Fd p.Lc p.cs k := F2
    replace kk0 : 0 ≤ k := kk0
    replace kk1 : k ≤ 10 + 20 * (j : Int) := kk1
    have F3 : Feed (upd σ₂ p.Fd (feedC p.Lc (k + 1))) p.Fd p.Lc p.cs (k + 1) := ⟨upd_same, (upd_ne F2.ne).trans F2.lc, by omega, by omega, F2.cz⟩
    have b3 : But p.Fd σ₂ (upd σ₂ p.Fd (feedC p.Lc (k + 1))) := (But.refl _ _).upd
    have hσ : upd σ₂ (p.grown k heads ph ra).Fd (feedC (p.grown k heads ph ra).Lc ((p.grown k heads ph ra).k + 1)) = upd σ₂ p.Fd (feedC p.Lc (k + 1)) := rfl
    rw [hσ]
    clear hσ
    generalize upd σ₂ p.Fd (feedC p.Lc (k + 1)) = σ3 at F3 b3 ⊢
    wtm_at "go"
    obtain ⟨N2, hN2⟩ : ∃ N : Nat, v2 = N := ⟨v2.toNat, by omega⟩
    rw [hN2]
    refine c_range fun r2 o2 hr2 ho2 => ?_
    have le4 := (StLe.refl σ3).upd (c := .obj o2) hr2
    have F4 := F3.le le4
    have b4 := b3.trans (But.le le4)
    have src := src_range (w := w) (A := A') (a := r2) (σ := upd σ3 r2 (.obj o2)) upd_same ho2 (by omega)
    generalize upd σ3 r2 (.obj o2) = σ4 at F4 b4 src ⊢
    refine ⟨true, _, _, src, rfl, fun i acc σ₅ => ∃ k' sorts, acc = sorts.map V.int ∧ sorts.length ≤ i ∧ (∀ s ∈ sorts, SortOk s) ∧ But p.Fd σ₂ σ₅ ∧ Feed σ₅ p.Fd p.Lc p.cs k' ∧ k' ≤ k + 1 + i, by rw [List.length_map, List.length_range, sizeLine_eq]; omega, ⟨k + 1, [], rfl, Nat.le_refl _, fun s hs => (by cases hs), b4, F4, by omega⟩, fun _ _ _ _ => trivial, ?_, ?_⟩
    · rintro env' base'' O'' ok'' hnm' hce' i v3 acc σ₅ hv3 ⟨k', sorts, rfl, hsl, hso, b5, F5, hk'⟩
      obtain ⟨hi3, rfl⟩ := range_at hv3
      refine ts_nil ⟨fun _ => ?_, fun h => by cases h⟩
      have hm1 : mIn [(("second" : Str), L + 3), (("first" : Str), L + 2), (("feed" : Str), L + 1)] (set (set (set (set (set (set (set (set (fun _ => none) "script" (.ref Sa)) "feed" (.ref p.Fd)) "bank" (.ref p.B)) "words" (.tup [.str p.w0, .str p.w1, .str p.w2])) "first" (.int 3)) "second" (.int 4)) "world" (.ref p.W)) "lap" (.int j)) "feed" = some (.ref p.Fd) := by rfl
      have hm2 : mIn [(("second" : Str), L + 3), (("first" : Str), L + 2), (("feed" : Str), L + 1)] (set (set (set (set (set (set (set (set (fun _ => none) "script" (.ref Sa)) "feed" (.ref p.Fd)) "bank" (.ref p.B)) "words" (.tup [.str p.w0, .str p.w1, .str p.w2])) "first" (.int 3)) "second" (.int 4)) "world" (.ref p.W)) "lap" (.int j)) "first" = some (.int 3) := by rfl
      have hm3 : mIn [(("second" : Str), L + 3), (("first" : Str), L + 2), (("feed" : Str), L + 1)] (set (set (set (set (set (set (set (set (fun _ => none) "script" (.ref Sa)) "feed" (.ref p.Fd)) "bank" (.ref p.B)) "words" (.tup [.str p.w0, .str p.w1, .str p.w2])) "first" (.int 3)) "second" (.int 4)) "world" (.ref p.W)) "lap" (.int j)) "second" = some (.int 4) := by rfl
      generalize mIn [(("second" : Str), L + 3), (("first" : Str), L + 2), (("feed" : Str), L + 1)] _ = m9 at hm1 hm2 hm3 ⊢
      wtm_at "go"
      refine ⟨by wtm_at "sz", fun al hal => ?_⟩
      wtm_at "go"
      have le6 := (StLe.refl σ₅).upd (c := .list [.int 3, .int 4, .int 1, .int 0]) hal
      have F6 := F5.le le6
      have b6 := b5.trans (But.le le6)
      have gal : upd σ₅ al (.list [.int 3, .int 4, .int 1, .int 0]) al = some (.list [.int 3, .int 4, .int 1, .int 0]) := upd_same
      have nal : al ≠ p.Fd := fun e => by rw [e, F5.fd] at hal; cases hal
      generalize upd σ₅ al (.list [.int 3, .int 4, .int 1, .int 0]) = σ6 at F6 b6 gal ⊢
      refine opc_fn ok'' (c_any G (hR'.le (by decide)) F6 gal nal (by simp) (by simp) fun i4 v4 hv4 => ?_).call
      obtain ⟨s4, rfl, hs4⟩ := sorts_at (l := [3, 4, 1, 0]) sorts4 hv4
      refine ⟨k' + 1, sorts ++ [s4], by simp, by simp; omega, fun s hs => ?_, b6.upd, ⟨upd_same, (upd_ne F6.ne).trans F6.lc, by have := F6.lo; omega, by omega, F6.cz⟩, by omega⟩
      rcases List.mem_append.mp hs with hs | hs
      · exact hso s hs
      · rw [List.mem_singleton.mp hs]; exact hs4
    · rintro acc σ₅ hacc ⟨k', sorts, rfl, hsl, hso, b5, F5, hk'⟩ D hD
      rw [List.length_map, List.length_range] at hsl hk'
      have H : Has σ₅ (coreL (p.grown k' heads ph ra) Fn Fa fns fas ++ vars) := hB2.has.refeed [_, _, _, _, _, _, _, _, _, _, _, _, _] b5 F5.fd
      replace H := H.new (c := .list (sorts.map .int)) (.ph j) hD
      have F6 := F5.le ((StLe.refl _).upd (c := .list (sorts.map .int)) hD)
      generalize upd σ₅ D (.list (sorts.map .int)) = σ6 at H F6 ⊢
      have k0' := F5.lo
      clear F3 b3 F4 b4 src b5 F5
      have gW := H.get (a := p.W) (t := .w) (c := .dict .str [(.str "sorts", .ref p.Ls), (.str "heads", .ref p.Lh), (.str "rows", .ref p.Lr), (.str "others", .ref p.Do)]) (by wtm_at "mem")
      have gLh := H.get (a := p.Lh) (t := .lh) (c := .list (List.zipWith headV ph heads)) (by wtm_at "mem")
      have hlh := hB2.lh
      have hlp := hB2.lp
      have hlr := hB2.lr
      replace hlh : heads.length = j := hlh
      replace hlp : ph.length = j := hlp
      replace hlr : ra.length = j := hlr
      have hln := hB2.ln
      have hla := hB2.la
      have hzl : (List.zipWith headV ph heads).length = j := by simp [hlh, hlp]
      wtm_at "go"
      refine item_s hR' gW (by decide +kernel) (by wtm_at "look") ?_
      refine ⟨_, opg_list gLh PySem.F.slot_list_append PySem.F.type_list_append, ?_⟩
      wtm_at "go"
      refine ⟨by wtm_at "sz", fun al hal => ?_⟩
      wtm_at "go"
      have le7 := (StLe.refl σ6).upd (c := .list [.int 4, .int 3, .int 0, .int 1]) hal
      have F7 := F6.le le7
      have gal : upd σ6 al (.list [.int 4, .int 3, .int 0, .int 1]) al = some (.list [.int 4, .int 3, .int 0, .int 1]) := upd_same
      have nal : al ≠ p.Fd := fun e => by rw [e, F6.fd] at hal; cases hal
      replace H := H.le le7
      generalize upd σ6 al (.list [.int 4, .int 3, .int 0, .int 1]) = σ7 at F7 gal H ⊢
      refine opc_fn ok' (c_any G (hR'.le (by decide)) F7 gal nal (by simp) (by simp) fun i4 v4 hv4 => ?_).call
      obtain ⟨s, rfl, hs⟩ := sorts_at (l := [4, 3, 0, 1]) sorts4b hv4
      replace H : Has (upd σ7 p.Fd (feedC p.Lc (k' + 1))) ((D, .ph j, .list (sorts.map .int)) :: (coreL (p.grown (k' + 1) heads ph ra) Fn Fa fns fas ++ vars)) := H.put [_, _, _, _, _, _, _, _, _, _, _, _, _, _] (feedC p.Lc (k' + 1))
      generalize upd σ7 p.Fd (feedC p.Lc (k' + 1)) = σ8 at H ⊢
      clear gW gLh F6 F7 gal
      have gLh := H.get (a := p.Lh) (t := .lh) (c := .list (List.zipWith headV ph heads)) (by wtm_at "mem")
      wtm_at "go"
      refine ⟨by wtm_at "sz", ?_⟩
      wtm_at "go"
      refine c_append gLh (by rw [sizeLine_eq, hzl]; omega) ?_
      replace H := H.put [_, _, _] (.list (List.zipWith headV ph heads ++ [.tup [.ref D, .int s]]))
      dsimp only [coreL, Ws.grown, List.cons_append, List.nil_append] at H
      generalize upd σ8 p.Lh _ = σ9 at H ⊢
      clear gLh
      have gW := H.get (a := p.W) (t := .w) (c := .dict .str [(.str "sorts", .ref p.Ls), (.str "heads", .ref p.Lh), (.str "rows", .ref p.Lr), (.str "others", .ref p.Do)]) (by wtm_at "mem")
      have gLr := H.get (a := p.Lr) (t := .lr) (c := .list (ra.map .ref)) (by wtm_at "mem")
      wtm_at "go"
      refine item_s hR' gW (by decide +kernel) (by wtm_at "look") ?_
      refine ⟨_, opg_list gLr PySem.F.slot_list_append PySem.F.type_list_append, ?_⟩
      wtm_at "go"
      refine ⟨by wtm_at "sz", fun b hb => ?_⟩
      wtm_at "go"
      replace H := H.new (c := .list []) (.ra j) hb
      generalize upd σ9 b (.list []) = σ10 at H ⊢
      refine c_append (H.get (a := p.Lr) (t := .lr) (c := .list (ra.map .ref)) (by wtm_at "mem")) (by rw [sizeLine_eq, List.length_map]; omega) ?_
      replace H := H.put [_, _, _] (.list (ra.map .ref ++ [.ref b]))
      generalize upd σ10 p.Lr _ = σ11 at H ⊢
      dsimp only [List.cons_append, List.nil_append] at H
      clear gW gLr hb
      have gW := H.get (a := p.W) (t := .w) (c := .dict .str [(.str "sorts", .ref p.Ls), (.str "heads", .ref p.Lh), (.str "rows", .ref p.Lr), (.str "others", .ref p.Do)]) (by wtm_at "mem")
      have gB := H.get (a := p.B) (t := .b) (c := .inst 410 p.Bd) (by wtm_at "mem")
      have gBd := H.get (a := p.Bd) (t := .bd) (c := .dict .str p.bl) (by wtm_at "mem")
      have gD := H.get (a := D) (t := .ph j) (c := .list (sorts.map .int)) (by wtm_at "mem")
      have gLh := H.get (a := p.Lh) (t := .lh) (c := .list (List.zipWith headV ph heads ++ [.tup [.ref D, .int s]])) (by wtm_at "mem")
      have bk := hB2.bank
      replace bk : BankOk p.bl p.Sn p.Sw p.Sr Fn Fa := bk
      wtm_at "go"
      refine ⟨_, cl_meth pc_410 me_410_declare_fun ok' G gB gBd (bk.no _ (by decide +kernel)), ?_⟩
      wtm_at "go"
      refine c_str (log_small (by omega) (by omega)) ?_
      wtm_at "go"
      have hts := str_small (k := (j : Int)) (by omega) (by omega)
      refine op_adds ?_ (by rw [sizeLine_eq, show ("f" : Str).length = 1 from by decide +kernel]; omega)
      wtm_at "go"
      refine c_tuple_list gD (by rw [sizeLine_eq, List.length_map]; omega) ?_
      wtm_at "go"
      refine item_s hR' gW (by decide +kernel) (by wtm_at "look") ?_
      wtm_at "go"
      refine item_l (v := .tup [.ref D, .int s]) gLh (by omega) (by omega) (by rw [show ((j : Nat) : Int).toNat = j from by omega, List.getElem?_append_right (by omega), hzl]; simp) ?_
      wtm_at "go"
      refine item_p (v := .int s) (by decide) (by decide) (by rfl) ?_
      wtm_at "go"
      have gFn := H.get (a := Fn) (t := .tab 1000) (c := .list fns) (by wtm_at "mem")
      have gFa := H.get (a := Fa) (t := .tab 1001) (c := .list fas) (by wtm_at "mem")
      have gSr := H.get (a := p.Sr) (t := .sr) (c := .list (heads.map fun h => .int h.2)) (by wtm_at "mem")
      have d1 : Fa ≠ Fn := H.ne (t := .tab 1001) (t' := .tab 1000) (c := .list fas) (c' := .list fns) (by wtm_at "mem") (by wtm_at "mem") (by simp)
      have d2 : p.Sr ≠ Fn := H.ne (t := .sr) (t' := .tab 1000) (c := .list (heads.map fun h => .int h.2)) (c' := .list fns) (by wtm_at "mem") (by wtm_at "mem") (by simp)
      have d3 : p.Sr ≠ Fa := H.ne (t := .sr) (t' := .tab 1001) (c := .list (heads.map fun h => .int h.2)) (c' := .list fas) (by wtm_at "mem") (by wtm_at "mem") (by simp)
      refine opc_fn ok' (b_decl_fun G (hR'.le (by decide)) gB gBd bk.fn bk.fa bk.sr gFn gFa gSr d1 d2 d3 (by omega) (by omega) (by rw [List.length_map]; omega) fun vv => ?_).call
      replace H := H.put [_, _, _, _, _, _, _, _, _, _] (.list (fns ++ [.str ("f" ++ toString (j : Int))]))
      dsimp only [List.cons_append, List.nil_append] at H
      replace H := H.put [_, _, _, _, _, _, _, _, _] (.list (fas ++ [.tup (sorts.map .int)]))
      dsimp only [List.cons_append, List.nil_append] at H
      replace H := H.put [_, _, _, _, _, _, _, _] (.list ((heads.map fun h => .int h.2) ++ [.int s]))
      dsimp only [List.cons_append, List.nil_append] at H
      generalize upd (upd (upd σ11 Fn _) Fa _) p.Sr _ = σ12 at H ⊢
      wtm_at "go"
      have hzp : ∀ (l : List (List Int × Int)) (q : List Addr), q.length = l.length → List.zipWith headV (q ++ [D]) (l ++ [(sorts, s)]) = List.zipWith headV q l ++ [.tup [.ref D, .int s]] := fun l q e => by
        rw [List.zipWith_append e]; rfl
      refine ⟨by wtm_at "lo", k' + 1, heads ++ [(sorts, s)], ph ++ [D], ra ++ [b], fns ++ [.str ("f" ++ toString (j : Int))], fas ++ [.tup (sorts.map .int)], (b, .ra j, .list []) :: (D, .ph j, .list (sorts.map .int)) :: vars, ⟨Has.perm (l := (b, .ra j, .list []) :: (D, .ph j, .list (sorts.map .int)) :: (coreL (p.grown (k' + 1) (heads ++ [(sorts, s)]) (ph ++ [D]) (ra ++ [b])) Fn Fa (fns ++ [.str ("f" ++ toString (j : Int))]) (fas ++ [.tup (sorts.map .int)]) ++ vars)) ?_ (perm2 _ _ _ _), hB2.bank, by simp [Ws.grown, hlh], by simp [Ws.grown, hlp], by simp [Ws.grown, hlr], by simp [hln], by simp [hla], ?_, ?_, ?_, by show 0 ≤ k' + 1; omega, by show k' + 1 ≤ 10 + 20 * ((j + 1 : Nat) : Int); push_cast; omega, hB2.cz, hB2.ow, hB2.wd⟩⟩
      · simp only [coreL, Ws.grown, hzp heads ph (by omega), List.map_append, List.map_cons, List.map_nil]
        exact H
      · intro h hh'
        rcases List.mem_append.mp hh' with hh' | hh'
        · exact hB2.hok h hh'
        · rw [List.mem_singleton.mp hh']
          exact ⟨hso, hs, by show sorts.length ≤ 3; omega⟩
      · intro i' a h e1 e2
        replace e1 : (ph ++ [D])[i']? = some a := e1
        replace e2 : (heads ++ [(sorts, s)])[i']? = some h := e2
        rw [List.getElem?_append] at e1 e2
        by_cases hi' : i' < j
        · rw [if_pos (by omega)] at e1 e2
          exact List.mem_cons_of_mem _ (List.mem_cons_of_mem _ (hB2.phs i' a h e1 e2))
        · rw [if_neg (by omega)] at e1 e2
          have hi2 : i' = j := by
            have := (List.getElem?_eq_some_iff.mp e1).1
            simp at this; omega
          subst hi2
          rw [hlp, Nat.sub_self] at e1
          rw [hlh, Nat.sub_self] at e2
          cases e1; cases e2
          simp
      · intro i' a e1
        replace e1 : (ra ++ [b])[i']? = some a := e1
        rw [List.getElem?_append] at e1
        by_cases hi' : i' < j
        · rw [if_pos (by omega)] at e1
          exact List.mem_cons_of_mem _ (List.mem_cons_of_mem _ (hB2.ras i' a e1))
        · rw [if_neg (by omega)] at e1
          have hi2 : i' = j := by
            have := (List.getElem?_eq_some_iff.mp e1).1
            simp at this; omega
          subst hi2
          rw [hlr, Nat.sub_self] at e1
          cases e1
          simp
  · rintro σ₂ ⟨k, heads, ph, ra, fns, fas, vars, hB2⟩
    rw [List.length_map, List.length_range] at hB2
    exact hnext _ _ _ _ _ _ _ N σ₂ hB2 (by omega) (by omega) _ _ _ _ _ (by rfl) (by rfl) L q env base os A' he hnm0 hce0 hR' ok O
end
theorem Has.tag {σ : Store} {l : List (Addr × Tg × Cell)} {a : Addr} {t : Tg} {c : Cell} (h : Has σ l) (hm : (a, t, c) ∈ l) : tagL l a = t := tagL_mem h.nd hm
noncomputable def Ws.start (p : Ws) (M Md T O : Addr) (i : Nat) (tg : Addr → Tg) : Ws := { p with M := M, Md := Md, T := T, O := O, rows := List.replicate i [], om := [], tl := [], tg := tg }
theorem Build.st {σ σ' : Store} {p : Ws} {Fn Fa : Addr} {fns fas : List V} {vars : List (Addr × Tg × Cell)} {i : Nat} {M Md T O : Addr} (h : Build σ p Fn Fa fns fas vars i) (hi : i ≤ 4)
    (H : Grow σ σ' [(Md, .md, .dict .str [(.str "bank", .ref p.B), (.str "tables", .ref T), (.str "others", .ref O)]), (O, .o, .dict .int []), (T, .t, .dict .int []), (M, .m, .inst 559 Md)]) :
    ∃ tg, St σ' (p.start M Md T O i tg) := by
  have HH := H _ h.has
  have k0 := h.k0
  have k1 := h.k1
  have rep : ∀ {j : Nat} {r : List (V × V)}, (List.replicate i ([] : List (V × V)))[j]? = some r → r = [] := fun {j r} e => by
    rw [List.getElem?_replicate] at e
    split at e
    · injection e with e; exact e.symm
    · cases e
  have mem : ∀ x ∈ vars, x ∈ [(Md, Tg.md, Cell.dict .str [(.str "bank", .ref p.B), (.str "tables", .ref T), (.str "others", .ref O)]), (O, .o, .dict .int []), (T, .t, .dict .int []), (M, .m, .inst 559 Md)] ++ (coreL p Fn Fa fns fas ++ vars) := fun x hx => List.mem_append_right _ (List.mem_append_right _ hx)
  refine ⟨tagL ([(Md, .md, .dict .str [(.str "bank", .ref p.B), (.str "tables", .ref T), (.str "others", .ref O)]), (O, .o, .dict .int []), (T, .t, .dict .int []), (M, .m, .inst 559 Md)] ++ (coreL p Fn Fa fns fas ++ vars)), ⟨?_, ?_, ?_, ?_⟩⟩
  · exact { feed := ⟨HH.get (t := .fd) (by wtm_at "mem"), HH.get (t := .lc) (by wtm_at "mem"), k0, by show p.k ≤ 1000000; omega, h.cz⟩
            w := HH.get (t := .w) (by wtm_at "mem")
            ls := HH.get (t := .ls) (by wtm_at "mem")
            lh := HH.get (t := .lh) (by wtm_at "mem")
            lr := HH.get (t := .lr) (by wtm_at "mem")
            od := HH.get (t := .od) (by wtm_at "mem")
            phs := fun j a x e1 e2 => ⟨HH.get (mem _ (h.phs j a x e1 e2)), HH.tag (mem _ (h.phs j a x e1 e2))⟩
            ras := fun j a r e1 e2 => by
              obtain rfl := rep e2
              exact ⟨HH.get (mem _ (h.ras j a e1)), HH.tag (mem _ (h.ras j a e1))⟩
            lph := h.lp.trans h.lh.symm
            lra := h.lr.trans h.lh.symm
            lro := by show (List.replicate i ([] : List (V × V))).length = p.heads.length; rw [List.length_replicate, h.lh]
            few := by show p.heads.length ≤ 4; rw [h.lh]; exact hi
            hok := h.hok
            rok := fun j r x e1 e2 => by
              obtain rfl := rep e1
              exact ⟨fun y hy => (by cases hy), List.nodup_nil, by decide⟩
            wok := fun j x v e1 e2 => by
              replace e2 : alook p.ow (.int j) = some v := e2
              rw [h.ow] at e2; cases e2
            wlen := by show p.ow.length ≤ 100; rw [h.ow]; decide
            tFd := HH.tag (c := feedC p.Lc p.k) (by wtm_at "mem")
            tLc := HH.tag (c := .list (p.cs.map .int)) (by wtm_at "mem")
            tW := HH.tag (c := .dict .str [(.str "sorts", .ref p.Ls), (.str "heads", .ref p.Lh), (.str "rows", .ref p.Lr), (.str "others", .ref p.Do)]) (by wtm_at "mem")
            tLs := HH.tag (c := .list [.tup [.int 3, .tup [.str "U", .str "U!val!", .str ""]], .tup [.int 4, .tup [.str p.w0, .str p.w1, .str p.w2]]]) (by wtm_at "mem")
            tLh := HH.tag (c := .list (List.zipWith headV p.ph p.heads)) (by wtm_at "mem")
            tLr := HH.tag (c := .list (p.ra.map .ref)) (by wtm_at "mem")
            tDo := HH.tag (c := .dict .int p.ow) (by wtm_at "mem") }
  · exact { b := HH.get (t := .b) (by wtm_at "mem")
            bd := HH.get (t := .bd) (by wtm_at "mem")
            bno := h.bank.no
            bsn := h.bank.sn
            bsw := h.bank.sw
            bsr := h.bank.sr
            sn := HH.get (t := .sn) (by wtm_at "mem")
            sw := HH.get (t := .sw) (by wtm_at "mem")
            sr := HH.get (t := .sr) (by wtm_at "mem")
            tB := HH.tag (c := .inst 410 p.Bd) (by wtm_at "mem")
            tBd := HH.tag (c := .dict .str p.bl) (by wtm_at "mem")
            tSn := HH.tag (c := .list [.str "Bool", .str "Int", .str "Real", .str "U", .str p.nm]) (by wtm_at "mem")
            tSw := HH.tag (c := .list [.int 0, .int 0, .int 0, .int 0, .int 0]) (by wtm_at "mem")
            tSr := HH.tag (c := .list (p.heads.map fun h => .int h.2)) (by wtm_at "mem") }
  · exact { m := HH.get (t := .m) (by wtm_at "mem")
            md := HH.get (t := .md) (by wtm_at "mem")
            t := HH.get (t := .t) (by wtm_at "mem")
            o := HH.get (t := .o) (by wtm_at "mem")
            tno := fun j e => rfl
            tso := fun j r x e1 e2 e3 => absurd (rep e1) e3
            keys := ⟨[], rfl, fun j hj => (by cases hj), List.nodup_nil⟩
            mok := fun j x v e1 e2 => by cases e2
            mlen := by show ([] : List (V × V)).length ≤ 100; decide
            tM := HH.tag (c := .inst 559 Md) (by wtm_at "mem")
            tMd := HH.tag (c := .dict .str [(.str "bank", .ref p.B), (.str "tables", .ref T), (.str "others", .ref O)]) (by wtm_at "mem")
            tT := HH.tag (c := .dict .int []) (by wtm_at "mem")
            tO := HH.tag (c := .dict .int []) (by wtm_at "mem") }
  · intro j x hx
    show elseV p.ow j x = elseV [] j x
    rw [h.ow]
section
variable {w : World} {A : Around} {h₀ : Heap} {σ : Store} {K : V → Store → Prop} {n : Nat} {p : Ws} {Fn Fa Sa : Addr}
theorem law6 {fns fas : List V} {vars : List (Addr × Tg × Cell)} {i : Nat} (G : Gd w h₀) (hB : Build σ p Fn Fa fns fas vars i) (hi : i ≤ 4)
    (hnext : ∀ M Md T O tg σ', St σ' (p.start M Md T O i tg) → LawRest w h₀ 7 (set (set (set (set (set (set (set (set (fun _ => none) "script" (.ref Sa)) "feed" (.ref p.Fd)) "bank" (.ref p.B)) "words" (.tup [.str p.w0, .str p.w1, .str p.w2])) "first" (.int 3)) "second" (.int 4)) "world" (.ref p.W)) "tables" (.ref M)) σ' K) :
    LawRest w h₀ 6 (set (set (set (set (set (set (set (fun _ => none) "script" (.ref Sa)) "feed" (.ref p.Fd)) "bank" (.ref p.B)) "words" (.tup [.str p.w0, .str p.w1, .str p.w2])) "first" (.int 3)) "second" (.int 4)) "world" (.ref p.W)) σ K := by
  refine lawRest [_, _, _, _, _, _] (by rfl) (by rfl) (by rfl) rfl ?_
  intro L q env base os A' he hnm hce hR' ok O
  have hce0 := hce
  have hnm0 := hnm
  dsimp only at hnm
  replace hce : env.cells = [(("second" : Str), L + 3), (("first" : Str), L + 2), (("feed" : Str), L + 1)] := hce.trans rfl
  have hh := hR'.handled
  refine ex_cons ?_
  wtm_at "go"
  refine o_Model G ok (hR'.le (by decide)) fun M Md T O' σ' H => ?_
  obtain ⟨tg, S⟩ := hB.st hi H
  wtm_at "1"
  exact hnext M Md T O' tg σ' S _ _ _ _ _ (by rfl) (by rfl) L q env base os A' he hnm0 hce0 hR' ok O
end
section
variable {w : World} {A : Around} {h₀ : Heap} {σ : Store} {K : V → Store → Prop} {n : Nat} {p : Ws} {Fn Fa Sa : Addr}
theorem law7 (G : Gd w h₀) (hS : St σ p) (hs : Small p 0) (h0 : 0 < p.heads.length) (hk : p.k ≤ 200)
    (hnext : ∀ k rows ow om tl tg σ', St σ' (p.of k rows ow om tl tg) → Small (p.of k rows ow om tl tg) 9 → k ≤ 2000 → LawRest w h₀ 8 (set (set (set (set (set (set (set (set (fun _ => none) "script" (.ref Sa)) "feed" (.ref p.Fd)) "bank" (.ref p.B)) "words" (.tup [.str p.w0, .str p.w1, .str p.w2])) "first" (.int 3)) "second" (.int 4)) "world" (.ref p.W)) "tables" (.ref p.M)) σ' K) :
    LawRest w h₀ 7 (set (set (set (set (set (set (set (set (fun _ => none) "script" (.ref Sa)) "feed" (.ref p.Fd)) "bank" (.ref p.B)) "words" (.tup [.str p.w0, .str p.w1, .str p.w2])) "first" (.int 3)) "second" (.int 4)) "world" (.ref p.W)) "tables" (.ref p.M)) σ K := by
  refine lawRest [_, _, _, _, _, _, _] (by rfl) (by rfl) (by rfl) rfl ?_
  intro L q env base os A' he hnm hce hR' ok O
  have hce0 := hce
  have hnm0 := hnm
  dsimp only at hnm
  replace hce : env.cells = [(("second" : Str), L + 3), (("first" : Str), L + 2), (("feed" : Str), L + 1)] := hce.trans rfl
  have hh := hR'.handled
  refine ex_cons ?_
  refine ex_for hh O ok (.refl _) (by wtm_at "tg") (si_of ?_) (by wtm_at "fs")
  wtm_at "go"
  refine opc_fn ok (c_draw G (hR'.le (by decide)) hS.W.feed (by decide) (by decide) fun v v0 v1 => ?_).call
  have S1 := hS.tick (by omega)
  generalize upd σ p.Fd (feedC p.Lc (p.k + 1)) = σ1 at *
  wtm_at "go"
  obtain ⟨N, hN⟩ : ∃ N : Nat, 3 + v = N := ⟨(3 + v).toNat, by omega⟩
  rw [hN]
  refine c_range fun r o hr ho => ?_
  refine ⟨true, _, _, src_range upd_same ho (by omega), .inl rfl, fun i σ₂ => ∃ k rows ow om tl tg, St σ₂ (p.of k rows ow om tl tg) ∧ Small (p.of k rows ow om tl tg) i ∧ k ≤ 201 + 100 * i, ?_, fun _ _ _ => trivial, ?_, ?_⟩
  · refine ⟨p.k + 1, p.rows, p.ow, p.om, p.tl, p.tg, ?_, ⟨hs.rows, hs.ow, hs.om⟩, by omega⟩
    have : St σ1 (p.of (p.k + 1) p.rows p.ow p.om p.tl p.tg) := S1
    exact this.le ((StLe.refl _).upd hr)
  · rintro base' O' ok' j v σ₂ hv ⟨k, rows, ow, om, tl, tg, S2, hs2, hk2⟩
    replace O' : Cx.Own ⟨h₀, base', env, os⟩ := O'
    replace ok' : Cx.Ok ⟨h₀, base', env, os⟩ := ok'
    obtain ⟨hj, rfl⟩ := range_at hv
    refine ⟨_, by wtm_at "asn", ?_⟩
    wtm_at "go"
    refine opc_fn ok' (c_deed (p := p.of k rows ow om tl tg) G (hR'.le (by decide)) S2 hs2 (by omega) h0 (by show k ≤ 900000; omega) fun σ₃ k' rows' ow' om' tl' tg' S3 hs3 hk3 => ?_).call
    replace S3 : St σ₃ (p.of k' rows' ow' om' tl' tg') := S3
    replace hs3 : Small (p.of k' rows' ow' om' tl' tg') (j + 1) := hs3
    replace hk3 : k' ≤ k + 100 := hk3
    wtm_at "go"
    refine opc_fn ok' (c_are (p := p.of k' rows' ow' om' tl' tg') G (hR'.le (by decide)) S3 fun σ₄ le₄ => ?_).call
    wtm_at "go"
    wtm_at "no"
    wtm_at "go"
    exact ⟨by wtm_at "lo", k', rows', ow', om', tl', tg', S3.le le₄, hs3, by push_cast; omega⟩
  · rintro σ₂ ⟨k, rows, ow, om, tl, tg, S2, hs2, hk2⟩
    rw [List.length_map, List.length_range] at hs2 hk2
    exact hnext k rows ow om tl tg σ₂ S2 ⟨fun r hr => Nat.le_trans (hs2.rows r hr) (by omega), Nat.le_trans hs2.ow (by omega), Nat.le_trans hs2.om (by omega)⟩ (by omega) _ _ _ _ _ (by rfl) (by rfl) L q env base os A' he hnm0 hce0 hR' ok O
end
noncomputable def RsL (hs : List (List Int × Int)) : List (Str × Int × List Int × Int) := hs.zipIdx.map fun x => (("f" : Str) ++ toString ((x.2 : Nat) : Int), (x.2 : Int), x.1.1, x.1.2)
theorem RsL_length {hs : List (List Int × Int)} : (RsL hs).length = hs.length := by unfold RsL; simp
theorem RsL_get {hs : List (List Int × Int)} {i : Nat} {x : List Int × Int} (h : hs[i]? = some x) : (RsL hs)[i]? = some (("f" : Str) ++ toString (i : Int), (i : Int), x.1, x.2) := by
  unfold RsL
  rw [List.getElem?_map, List.getElem?_zipIdx, h]
  simp
theorem RsL_mem {hs : List (List Int × Int)} {q : Str × Int × List Int × Int} (h : q ∈ RsL hs) : (q.2.2.1, q.2.2.2) ∈ hs := by
  obtain ⟨i, hi⟩ := List.mem_iff_getElem?.mp h
  have hl := (List.getElem?_eq_some_iff.mp hi).1
  rw [RsL_length] at hl
  have e := RsL_get (hs := hs) (i := i) (x := hs[i]) (by simp [hl])
  rw [hi] at e
  injection e with e
  rw [e]; exact List.getElem_mem hl
theorem RsL_of {hs : List (List Int × Int)} {x : List Int × Int} (h : x ∈ hs) : ∃ q ∈ RsL hs, q.2.2.1 = x.1 ∧ q.2.2.2 = x.2 := by
  obtain ⟨i, hi⟩ := List.mem_iff_getElem?.mp h
  exact ⟨_, List.mem_of_getElem? (RsL_get hi), rfl, rfl⟩
section
variable {w : World} {A : Around} {h₀ : Heap} {σ : Store} {K : V → Store → Prop} {n : Nat} {p : Ws} {Fn Fa Sa : Addr}
theorem compAs2 {C : Cx} {m : Loc} {scope : Scope} {Cl : Addr} {base : Addr → Option Obj} {ms : List (Str × NameKind)} {x y : Str} {p2 p3 p4 : Pos} {kk : Nat} {v1 v2 : V} (hh : A.handled = none) (hn : Nm (compEnvC scope [] Cl C.env) ms) (h1 : ms.lookup x = some .local) (h2 : ms.lookup y = some .local)
    (O' : (inner C scope [] Cl base).Own) :
    As w (inner C scope [] Cl base) A (assign (.Tuple [.Name x p2, .Name y p3] kk p4) (compEnvC scope [] Cl C.env)) (.tup [v1, v2]) (mIn [] m) σ (set (set (mIn [] m) x v1) y v2) :=
  as_tup hh (by rfl) (by rfl) (asL_cons (as_name (nm_st' (C := inner C scope [] Cl base) hn rfl h1 rfl O')) (asL_cons (as_name (nm_st' (C := inner C scope [] Cl base) hn rfl h2 rfl O')) asL_nil))
theorem loIn2 {m : Loc} {x y : Str} {v1 v2 : V} : LoLe (mIn [] m) (set (set (mIn [] m) x v1) y v2) :=
  ((LoLe.refl _).set (by unfold mIn; rw [show ([] : List (Str × Addr)).lookup x = none from rfl]; rfl)).set (by unfold mIn; rw [show ([] : List (Str × Addr)).lookup y = none from rfl]; rfl)
theorem nm_of {scope : Scope} {Cl : Addr} {env env' : Env} {ns ms : List (Str × NameKind)} (hE : compEnvC scope [] Cl env = env') (hn : Nm env ns) (hk : scope.kind = .function) (hm : relN ns scope.names = ms) : Nm env' ms ∧ env'.cells = [] := by
  subst hE; exact ⟨hn.comp hk hm, rfl⟩
theorem law8 (G : Gd w h₀) (hS : St σ p)
    (hnext : ∀ Ll σ', StLe σ σ' → σ' Ll = some (.list ((RsL p.heads).map rowT)) → Ll ≠ p.Fd → LawRest w h₀ 9 (set (set (set (set (set (set (set (set (set (fun _ => none) "script" (.ref Sa)) "feed" (.ref p.Fd)) "bank" (.ref p.B)) "words" (.tup [.str p.w0, .str p.w1, .str p.w2])) "first" (.int 3)) "second" (.int 4)) "world" (.ref p.W)) "tables" (.ref p.M)) "listed" (.ref Ll)) σ' K) :
    LawRest w h₀ 8 (set (set (set (set (set (set (set (set (fun _ => none) "script" (.ref Sa)) "feed" (.ref p.Fd)) "bank" (.ref p.B)) "words" (.tup [.str p.w0, .str p.w1, .str p.w2])) "first" (.int 3)) "second" (.int 4)) "world" (.ref p.W)) "tables" (.ref p.M)) σ K := by
  refine lawRest [_, _, _, _, _, _, _, _] (by rfl) (by rfl) (by rfl) rfl ?_
  intro L q env base os A' he hnm hce hR' ok O
  have hce0 := hce
  have hnm0 := hnm
  dsimp only at hnm
  replace hce : env.cells = [(("second" : Str), L + 3), (("first" : Str), L + 2), (("feed" : Str), L + 1)] := hce.trans rfl
  have hh := hR'.handled
  have few := hS.W.few
  refine ex_cons ?_
  refine ex_comp (C := ⟨h₀, base, env, os⟩) [] hh O ok (by subst he; rfl) (by subst he; rfl) ⟨fun x c' e => by cases e⟩ (by decide +kernel) (by rfl) (by decide +kernel) (.inr ⟨_, _, _, rfl⟩) (by wtm_at "fs") ?_
  refine si_enum ?_ (by with_unfolding_all rfl) (star_plain (by with_unfolding_all rfl)) (by with_unfolding_all rfl)
  wtm_at "go"
  refine ⟨rfl, ?_⟩
  wtm_at "go"
  refine item_s hR' hS.W.w (by decide +kernel) (by wtm_at "look") ?_
  wtm_at "go"
  have hzl : (List.zipWith headV p.ph p.heads).length = p.heads.length := by simp [hS.W.lph]
  refine ⟨p.Lh, _, rfl, hS.W.lh, .inr ⟨_, _, _, rfl⟩, fun i acc σ₂ => acc = ((RsL p.heads).take i).map rowT ∧ StLe σ σ₂, by rw [enumV_length, hzl, sizeLine_eq]; omega, ⟨rfl, .refl _⟩, fun i acc σ h => h.2 _ _ hS.W.lh, ?_, ?_⟩
  · rintro Cl base' O' ok' i v acc σ₂ hv ⟨rfl, le⟩
    obtain ⟨v', hv', rfl⟩ := enumV_get hv
    rw [Nat.zero_add]
    have hi : i < p.heads.length := by have := (List.getElem?_eq_some_iff.mp hv').1; omega
    obtain ⟨x, hx⟩ : ∃ x, p.heads[i]? = some x := ⟨p.heads[i], by simp [hi]⟩
    obtain ⟨a, ha, hza, hσa⟩ := hS.W.head hx
    rw [hza] at hv'
    injection hv' with hv'
    subst hv'
    have xok := hS.W.hok x (List.mem_of_getElem? hx)
    refine ⟨_, loIn2, compAs2 (C := ⟨h₀, base, env, os⟩) hh (hnm.comp (by rfl) (by rfl)) (by decide +kernel) (by decide +kernel) O', ?_⟩
    have O'' : Cx.Own ⟨h₀, base', compEnvC _ [] Cl env, os⟩ := O'
    have ok'' : Cx.Ok ⟨h₀, base', compEnvC _ [] Cl env, os⟩ := ok'
    dsimp only [inner]
    generalize hE : compEnvC _ [] Cl env = env' at O'' ok'' ⊢
    obtain ⟨hnm', hce'⟩ := nm_of hE hnm (by rfl) (by rfl)
    refine ts_nil ⟨fun _ => ?_, fun h => by cases h⟩
    wtm_at "go"
    refine c_str (log_small (by omega) (by omega)) ?_
    wtm_at "go"
    have hts := str_small (k := (i : Int)) (by omega) (by omega)
    refine op_adds ?_ (by rw [sizeLine_eq, show ("f" : Str).length = 1 from by decide +kernel]; omega)
    unfold headV
    wtm_at "go"
    refine item_p (v := .ref a) (by decide) (by decide) (by rfl) ?_
    wtm_at "go"
    refine c_tuple_list (le _ _ hσa) (by have := xok.len; rw [sizeLine_eq, List.length_map]; omega) ?_
    wtm_at "go"
    refine item_p (v := .int x.2) (by decide) (by decide) (by rfl) ?_
    wtm_at "go"
    refine ⟨by wtm_at "sz", ?_, le⟩
    rw [List.take_add_one, RsL_get hx]
    simp [rowT]
  · rintro acc σ₂ hacc ⟨rfl, le⟩ D hD
    rw [enumV_length, hzl, ← RsL_length, List.take_length]
    have nD : D ≠ p.Fd := fun e => by have q := le _ _ hS.W.feed.fd; rw [← e, hD] at q; cases q
    have h := hnext D (upd σ₂ D (.list ((RsL p.heads).map rowT))) (le.trans ((StLe.refl _).upd hD)) upd_same nD
    refine ⟨_, fun base' O' => nm_st' (C := ⟨h₀, base', env, os⟩) hnm hce (by decide +kernel) (by rfl) O', ?_⟩
    exact h _ _ _ _ _ (by rfl) (by rfl) L q env base os A' he hnm0 hce0 hR' ok O
end
theorem text_ok : ∀ q ∈ (("U", "U!val!", "", "U") :: wordsL : List (Str × Str × Str × Str)), ∀ k ∈ ([0, 1, 2, 3] : List Int), PyData.strOk (("(declare-fun " : Str) ++ q.2.1 ++ toString k ++ q.2.2.1 ++ " () " ++ q.1 ++ ")") = true := by decide +kernel
theorem strs_flat : ∀ {l : List V}, (∀ v ∈ l, ∃ x, v = .str x ∧ PyData.strOk x = true) → V.flatL 50 l
  | [], _ => ⟨rfl, by decide⟩
  | v :: l, h => by
    obtain ⟨h1, h2⟩ := strs_flat (l := l) fun u hu => h u (List.mem_cons_of_mem _ hu)
    obtain ⟨x, rfl, hx⟩ := h v List.mem_cons_self
    refine ⟨?_, ?_⟩
    · simp only [V.pureL, V.pure, hx, h1, Bool.and_self]
    · simp only [V.pyL, V.py, PyData.depthAll, PyData.depth]
      exact Nat.max_le.mpr ⟨by decide, h2⟩
theorem declOne_ok {σ : Store} {p : Ws} {s : Int} {w0 w1 w2 x : Str} (hW : Wld σ p) (hq : (w0, w1, w2, x) ∈ (("U", "U!val!", "", "U") :: wordsL : List (Str × Str × Str × Str))) : ∀ v ∈ declOne p s w0 w1 w2, ∃ x, v = .str x ∧ PyData.strOk x = true := fun v hv => by
  unfold declOne at hv
  split at hv
  · unfold declTexts at hv
    obtain ⟨k, hk, rfl⟩ := List.mem_map.mp hv
    have fnd := met_found (s := s) hW _ (Nat.le_refl _)
    have hr : 0 ≤ k ∧ k < 4 := by
      split at hk
      · simp at hk; omega
      · exact fnd.rng k ((srt_perm _).mem_iff.mp hk)
    exact ⟨_, rfl, text_ok _ hq k (by simp only [List.mem_cons, List.not_mem_nil, or_false]; omega)⟩
  · cases hv
theorem decl_flat {σ : Store} {p : Ws} (hW : Wld σ p) (hw : WordsOk p) : V.flatL 50 (declUpto p 2) := strs_flat fun v hv => by
  unfold declUpto sortRow at hv
  obtain ⟨x, hx, h⟩ := List.mem_flatMap.mp hv
  simp only [List.take, List.mem_cons, List.not_mem_nil, or_false] at hx
  rcases hx with rfl | rfl
  · exact declOne_ok hW (x := "U") List.mem_cons_self v h
  · exact declOne_ok hW (x := p.nm) (List.mem_cons_of_mem _ hw) v h
theorem used_iff {p : Ws} {s : Int} : (∃ q ∈ (RsL p.heads).reverse, s ∈ sortsQ q) ↔ usedB p s = true := by
  unfold usedB
  rw [List.any_eq_true]
  constructor
  · rintro ⟨q, hq, hs⟩
    refine ⟨_, RsL_mem (List.mem_reverse.mp hq), ?_⟩
    rw [List.any_eq_true]
    exact ⟨s, hs, by simp⟩
  · rintro ⟨x, hx, h⟩
    rw [List.any_eq_true] at h
    obtain ⟨z, hz, e⟩ := h
    obtain rfl : z = s := by simpa using e
    obtain ⟨q, hq, e1, e2⟩ := RsL_of hx
    exact ⟨q, List.mem_reverse.mpr hq, by unfold sortsQ; rw [e1, e2]; exact hz⟩
section
variable {w : World} {A : Around} {h₀ : Heap} {σ : Store} {K : V → Store → Prop} {n : Nat} {p : Ws} {Fn Fa Sa Ll : Addr}
theorem law9 (G : Gd w h₀) (hS : St σ p) (hw : WordsOk p) (hl : σ Ll = some (.list ((RsL p.heads).map rowT)))
    (hnext : ∀ σ', StLe σ σ' → LawRest w h₀ 10 (set (set (set (set (set (set (set (set (set (fun _ => none) "script" (.ref Sa)) "feed" (.ref p.Fd)) "bank" (.ref p.B)) "words" (.tup [.str p.w0, .str p.w1, .str p.w2])) "first" (.int 3)) "second" (.int 4)) "world" (.ref p.W)) "tables" (.ref p.M)) "listed" (.ref Ll)) σ' K) :
    LawRest w h₀ 9 (set (set (set (set (set (set (set (set (set (fun _ => none) "script" (.ref Sa)) "feed" (.ref p.Fd)) "bank" (.ref p.B)) "words" (.tup [.str p.w0, .str p.w1, .str p.w2])) "first" (.int 3)) "second" (.int 4)) "world" (.ref p.W)) "tables" (.ref p.M)) "listed" (.ref Ll)) σ K := by
  refine lawRest [_, _, _, _, _, _, _, _, _] (by rfl) (by rfl) (by rfl) rfl ?_
  intro L q env base os A' he hnm hce hR' ok O
  have hce0 := hce
  have hnm0 := hnm
  dsimp only at hnm
  replace hce : env.cells = [(("second" : Str), L + 3), (("first" : Str), L + 2), (("feed" : Str), L + 1)] := hce.trans rfl
  have hh := hR'.handled
  have few := hS.W.few
  have hll : ((RsL p.heads).map rowT).length ≤ 4 := by rw [List.length_map, RsL_length]; exact few
  refine ex_cons ?_
  wtm_at "go"
  refine ev_sub ?_ (fun o i => ⟨_, rfl⟩)
  wtm_at "go"
  refine ev_slice (part_none (part_none (part_some (ev_neg ?_))))
  wtm_at "go"
  refine ⟨1, rfl, none, none, some (-1), rfl, rfl, rfl, fun sl o hsl ho => ⟨sb_list (((StLe.refl _).upd hsl) _ _ hl), ?_⟩⟩
  have le1 := (StLe.refl σ).upd (c := .obj o) hsl
  refine get_list_slice (le1 _ _ hl) upd_same ho (by simp) (by rw [sizeLine_eq]; omega) fun d hd => ?_
  rw [listCut_back hll, ← List.map_reverse]
  have le2 := le1.trans ((StLe.refl _).upd (c := .list ((RsL p.heads).reverse.map rowT)) hd)
  have gd : upd (upd σ sl (.obj o)) d (.list ((RsL p.heads).reverse.map rowT)) d = some (.list ((RsL p.heads).reverse.map rowT)) := upd_same
  generalize upd (upd σ sl (.obj o)) d (.list ((RsL p.heads).reverse.map rowT)) = σ1 at le2 gd ⊢
  have S1 := hS.le le2
  wtm_at "go"
  refine opc_fn ok (c_texts G (hR'.le (by decide)) S1 hw gd (fun q hq => ?_) (fun s => used_iff) fun a σ2 le3 ga => ?_).call
  · have hm := RsL_mem (List.mem_reverse.mp hq)
    have hk := hS.W.hok _ hm
    refine ⟨fun s hs => ?_, hk.len⟩
    unfold sortsQ at hs
    rcases List.mem_append.mp hs with hs | hs
    · exact hk.args s hs
    · rw [List.mem_singleton.mp hs]; exact hk.res
  wtm_at "go"
  refine opc_fn ok (c_declared G (hR'.le (by decide)) (S1.le le3).W hw fun b σ3 le4 gb => ?_).call
  refine op_nel (hR'.uk (by decide)) (le4 _ _ ga) gb (decl_flat hS.W hw) (decl_flat hS.W hw) ⟨_, rfl, ?_⟩
  rw [eqvL_self]
  wtm_at "no"
  refine ex_nil ?_
  exact hnext σ3 ((le2.trans le3).trans le4) _ _ _ _ _ (by rfl) (by rfl) L q env base os A' he hnm0 hce0 hR' ok O
end
section
variable {w : World} {A : Around} {h₀ : Heap} {σ : Store} {K : V → Store → Prop} {n : Nat} {p : Ws} {Fn Fa Sa Ll : Addr}
theorem law10 (G : Gd w h₀) (hS : St σ p) (hl : σ Ll = some (.list ((RsL p.heads).map rowT))) (hlf : Ll ≠ p.Fd) (hk : p.k ≤ 2000)
    (hnext : ∀ k σ', St σ' (p.atK k) → k ≤ 2100 → σ' Ll = some (.list ((RsL p.heads).map rowT)) → LawRest w h₀ 11 (set (set (set (set (set (set (set (set (set (fun _ => none) "script" (.ref Sa)) "feed" (.ref p.Fd)) "bank" (.ref p.B)) "words" (.tup [.str p.w0, .str p.w1, .str p.w2])) "first" (.int 3)) "second" (.int 4)) "world" (.ref p.W)) "tables" (.ref p.M)) "listed" (.ref Ll)) σ' K) :
    LawRest w h₀ 10 (set (set (set (set (set (set (set (set (set (fun _ => none) "script" (.ref Sa)) "feed" (.ref p.Fd)) "bank" (.ref p.B)) "words" (.tup [.str p.w0, .str p.w1, .str p.w2])) "first" (.int 3)) "second" (.int 4)) "world" (.ref p.W)) "tables" (.ref p.M)) "listed" (.ref Ll)) σ K := by
  refine lawRest [_, _, _, _, _, _, _, _, _, _] (by rfl) (by rfl) (by rfl) rfl ?_
  intro L q env base os A' he hnm hce hR' ok O
  have hce0 := hce
  have hnm0 := hnm
  dsimp only at hnm
  replace hce : env.cells = [(("second" : Str), L + 3), (("first" : Str), L + 2), (("feed" : Str), L + 1)] := hce.trans rfl
  have hh := hR'.handled
  have few := hS.W.few
  have hll : ((RsL p.heads).map rowT).length = p.heads.length := by rw [List.length_map, RsL_length]
  refine ex_cons ?_
  refine ex_for hh O ok (.refl _) (by wtm_at "tg") (si_of ?_) (by wtm_at "fs")
  wtm_at "go"
  refine c_len_list hl (by rw [hll]; omega) ?_
  rw [hll]
  wtm_at "go"
  refine c_range fun r o hr ho => ?_
  refine ⟨true, _, _, src_range upd_same ho (by omega), .inl rfl, fun i σ₂ => ∃ k, St σ₂ (p.atK k) ∧ k ≤ p.k + 10 * i ∧ σ₂ Ll = some (.list ((RsL p.heads).map rowT)), ?_, fun _ _ _ => trivial, ?_, ?_⟩
  · have : St σ (p.atK p.k) := hS
    exact ⟨p.k, this.le ((StLe.refl _).upd hr), by omega, ((StLe.refl _).upd hr) _ _ hl⟩
  · rintro base' O' ok' j v σ₂ hv ⟨k, S2, hk2, hl2⟩
    replace O' : Cx.Own ⟨h₀, base', env, os⟩ := O'
    replace ok' : Cx.Ok ⟨h₀, base', env, os⟩ := ok'
    obtain ⟨hj, rfl⟩ := range_at hv
    obtain ⟨x, hx⟩ : ∃ x, p.heads[j]? = some x := ⟨p.heads[j], by simp [hj]⟩
    obtain ⟨r, hr⟩ : ∃ r, p.rows[j]? = some r := ⟨p.rows[j]'(by rw [hS.W.lro]; exact hj), by simp [hS.W.lro, hj]⟩
    refine ⟨_, by wtm_at "asn", ?_⟩
    wtm_at "go"
    refine opc_fn ok' (c_is_called (p := p.atK k) G (hR'.le (by decide)) S2.W S2.B S2.M (S2.ag j x hx) hx hr (by show k ≤ 990000; omega) fun σ₃ k' b3 F3 hk3 => ?_).call
    have S3 : St σ₃ (p.atK k') := S2.refeed b3 F3
    replace hk3 : k' ≤ k + 10 := hk3
    wtm_at "go"
    wtm_at "no"
    wtm_at "go"
    exact ⟨by wtm_at "lo", k', S3, by push_cast; omega, b3 _ _ hl2 hlf⟩
  · rintro σ₂ ⟨k, S2, hk2, hl2⟩
    rw [List.length_map, List.length_range] at hk2
    exact hnext k σ₂ S2 (by omega) hl2 _ _ _ _ _ (by rfl) (by rfl) L q env base os A' he hnm0 hce0 hR' ok O
end
theorem Wld.butO {σ σ' : Store} {p : Ws} {om : List (V × V)} (h : Wld σ p) (hO : p.tg p.O = .o) (b : But p.O σ σ') : Wld σ' (p.withOm om) := by
  have q : ∀ {a c τ}, σ a = some c → p.tg a = τ → τ ≠ .o → σ' a = some c := fun e t n => b _ _ e (ne_tag t hO n)
  have hf := h.feed
  exact ⟨⟨q hf.fd h.tFd (by simp), q hf.lc h.tLc (by simp), hf.lo, hf.hi, hf.cz⟩, q h.w h.tW (by simp), q h.ls h.tLs (by simp), q h.lh h.tLh (by simp), q h.lr h.tLr (by simp), q h.od h.tDo (by simp),
    fun i a x e1 e2 => let ⟨u, v⟩ := h.phs i a x e1 e2; ⟨q u v (by simp), v⟩, fun i a x e1 e2 => let ⟨u, v⟩ := h.ras i a x e1 e2; ⟨q u v (by simp), v⟩,
    h.lph, h.lra, h.lro, h.few, h.hok, h.rok, h.wok, h.wlen, h.tFd, h.tLc, h.tW, h.tLs, h.tLh, h.tLr, h.tDo⟩
theorem Bnk.butO {σ σ' : Store} {p : Ws} {om : List (V × V)} (h : Bnk σ p) (hO : p.tg p.O = .o) (b : But p.O σ σ') : Bnk σ' (p.withOm om) := by
  have q : ∀ {a c τ}, σ a = some c → p.tg a = τ → τ ≠ .o → σ' a = some c := fun e t n => b _ _ e (ne_tag t hO n)
  exact ⟨q h.b h.tB (by simp), q h.bd h.tBd (by simp), h.bno, h.bsn, h.bsw, h.bsr, q h.sn h.tSn (by simp), q h.sw h.tSw (by simp), q h.sr h.tSr (by simp), h.tB, h.tBd, h.tSn, h.tSw, h.tSr⟩
theorem alook_maker {l : List (V × V)} {b u v : V} : alook ([((.str "bank" : V), b), (.str "hub", .none)] ++ ((.str "model", u) :: l)) (.str "choose_others") = alook ([((.str "bank" : V), b), (.str "hub", .none)] ++ ((.str "model", v) :: l)) (.str "choose_others") := by
  dsimp only [List.cons_append, List.nil_append]
  rw [alook_next (beq_str (by decide +kernel)), alook_next (beq_str (by decide +kernel)), alook_next (beq_str (by decide +kernel)), alook_next (beq_str (by decide +kernel)), alook_next (beq_str (by decide +kernel)), alook_next (beq_str (by decide +kernel))]
theorem alook_model {l : List (V × V)} {b u : V} : alook ([((.str "bank" : V), b), (.str "hub", .none)] ++ ((.str "model", u) :: l)) (.str "model") = some u := by
  dsimp only [List.cons_append, List.nil_append]
  rw [alook_next (beq_str (by decide +kernel)), alook_next (beq_str (by decide +kernel)), alook_same]
section
variable {w : World} {A : Around} {h₀ : Heap} {σ : Store} {K : V → Store → Prop} {n : Nat} {p : Ws} {Fn Fa Sa Ll : Addr}
theorem law11 (G : Gd w h₀) (hS : St σ p) (hl : σ Ll = some (.list ((RsL p.heads).map rowT))) (hol : p.om.length ≤ 50)
    (hnext : ∀ mk om σ', Wld σ' (p.withOm om) → Bnk σ' (p.withOm om) → Mdl σ' (p.withOm om) → (∀ (i : Nat) r, p.rows[i]? = some r → alook om (.int i) = if r = [] then alook p.om (.int i) else some (mostV (r.map (·.2)))) → σ' Ll = some (.list ((RsL p.heads).map rowT)) → LawRest w h₀ 14 (set (set (set (set (set (set (set (set (set (set (fun _ => none) "script" (.ref Sa)) "feed" (.ref p.Fd)) "bank" (.ref p.B)) "words" (.tup [.str p.w0, .str p.w1, .str p.w2])) "first" (.int 3)) "second" (.int 4)) "world" (.ref p.W)) "tables" (.ref p.M)) "listed" (.ref Ll)) "maker" (.ref mk)) σ' K) :
    LawRest w h₀ 11 (set (set (set (set (set (set (set (set (set (fun _ => none) "script" (.ref Sa)) "feed" (.ref p.Fd)) "bank" (.ref p.B)) "words" (.tup [.str p.w0, .str p.w1, .str p.w2])) "first" (.int 3)) "second" (.int 4)) "world" (.ref p.W)) "tables" (.ref p.M)) "listed" (.ref Ll)) σ K := by
  refine lawRest [_, _, _, _, _, _, _, _, _, _, _] (by rfl) (by rfl) (by rfl) rfl ?_
  intro L q env base os A' he hnm hce hR' ok O
  have hce0 := hce
  have hnm0 := hnm
  dsimp only at hnm
  replace hce : env.cells = [(("second" : Str), L + 3), (("first" : Str), L + 2), (("feed" : Str), L + 1)] := hce.trans rfl
  have hh := hR'.handled
  refine ex_cons ?_
  wtm_at "go"
  refine o_Maker G ok (hR'.le (by decide)) fun mk dx l M' σ1 H e1 z e2 e3 => ?_
  have le1 := H.le
  wtm_at "go"
  have gm := H.get (a := mk) (t := .other) (c := .inst 674 dx) (by wtm_at "mem")
  have gd := H.get (a := dx) (t := .other) (c := .dict .str l) (by wtm_at "mem")
  refine cl_set pc_674 fl_674_model ok G gm gd (by omega) ?_
  rw [e2]
  replace H := H.put1 (.dict .str ([((.str "bank" : V), V.ref p.B), (.str "hub", .none)] ++ ((.str "model", .ref p.M) :: l.drop 3)))
  have S2 := hS.le H.le
  have hl2 := H.le _ _ hl
  clear gm gd
  have gm := H.get (a := mk) (t := .other) (c := .inst 674 dx) (by wtm_at "mem")
  have gd := H.get (a := dx) (t := .other) (c := .dict .str ([((.str "bank" : V), V.ref p.B), (.str "hub", .none)] ++ ((.str "model", .ref p.M) :: l.drop 3))) (by wtm_at "mem")
  generalize upd σ1 dx _ = σ2 at S2 hl2 gm gd ⊢
  rw [e1, alook_maker (v := .ref p.M)] at e3
  wtm_at "go"
  refine ⟨_, cl_meth pc_674 me_674_choose_others ok G gm gd e3, ?_⟩
  wtm_at "go"
  have n1 : mk ≠ p.O := fun e => by rw [e, S2.M.o] at gm; cases gm
  have n2 : dx ≠ p.O := fun e => by rw [e, S2.M.o] at gd; cases gd
  have n3 : Ll ≠ p.O := fun e => by rw [e, S2.M.o] at hl2; cases hl2
  refine opc_fn ok (m_choose G (hR'.le (by decide)) S2.M S2.W.lro S2.W.few S2.W.rok gm gd alook_model n1 n2 hol fun σ3 om hb hM hom hlen => ?_).call
  exact hnext mk om σ3 (S2.W.butO S2.M.tO hb) (S2.B.butO S2.M.tO hb) hM hom (hb _ _ hl2 n3) _ _ _ _ _ (by rfl) (by rfl) L q env base os A' he hnm0 hce0 hR' ok O
end
section
variable {w : World} {A : Around} {h₀ : Heap} {σ : Store} {K : V → Store → Prop} {n : Nat} {p : Ws} {Fn Fa Sa Ll mk : Addr}
theorem law14 (G : Gd w h₀) (hW : Wld σ p) (hB : Bnk σ p) (hM : Mdl σ p) (hl : σ Ll = some (.list ((RsL p.heads).map rowT))) (hwl : p.ow.length ≤ 50) (hk : p.k ≤ 3000)
    (h1 : ∀ (i : Nat) x, p.heads[i]? = some x → p.rows[i]? = some [] → elseV p.ow i x = elseV p.om i x)
    (h2 : ∀ (i : Nat) r, p.rows[i]? = some r → r ≠ [] → alook p.om (.int i) = some (mostV (r.map (·.2))))
    (hK : ∀ σ', K (.bool true) σ') : LawRest w h₀ 14 (set (set (set (set (set (set (set (set (set (set (fun _ => none) "script" (.ref Sa)) "feed" (.ref p.Fd)) "bank" (.ref p.B)) "words" (.tup [.str p.w0, .str p.w1, .str p.w2])) "first" (.int 3)) "second" (.int 4)) "world" (.ref p.W)) "tables" (.ref p.M)) "listed" (.ref Ll)) "maker" (.ref mk)) σ K := by
  refine lawRest [_, _, _, _, _, _, _, _, _, _, _, _, _, _] (by rfl) (by rfl) (by rfl) rfl ?_
  intro L q env base os A' he hnm hce hR' ok O
  have hce0 := hce
  have hnm0 := hnm
  dsimp only at hnm
  replace hce : env.cells = [(("second" : Str), L + 3), (("first" : Str), L + 2), (("feed" : Str), L + 1)] := hce.trans rfl
  have hh := hR'.handled
  have few := hW.few
  have hll : ((RsL p.heads).map rowT).length = p.heads.length := by rw [List.length_map, RsL_length]
  refine ex_cons ?_
  refine ex_for hh O ok (.refl _) (by wtm_at "tg") (si_of ?_) (by wtm_at "fs")
  wtm_at "go"
  refine c_len_list hl (by rw [hll]; omega) ?_
  rw [hll]
  wtm_at "go"
  refine c_range fun r o hr ho => ?_
  refine ⟨true, _, _, src_range upd_same ho (by omega), .inl rfl, fun i σ₂ => ∃ k ow, Wld σ₂ ((p.atK k).withOw ow) ∧ Bnk σ₂ ((p.atK k).withOw ow) ∧ Mdl σ₂ ((p.atK k).withOw ow) ∧ (∀ (j : Nat) x, p.heads[j]? = some x → j < i → elseV ow j x = elseV p.om j x) ∧
    (∀ (j : Nat), i ≤ j → alook ow (.int j) = alook p.ow (.int j)) ∧ ow.length ≤ 50 + i ∧ k ≤ 3000 + 10 * i, ?_, fun _ _ _ => trivial, ?_, ?_⟩
  · have le := (StLe.refl σ).upd (c := .obj o) hr
    have W1 : Wld σ ((p.atK p.k).withOw p.ow) := hW
    have B1 : Bnk σ ((p.atK p.k).withOw p.ow) := hB
    have M1 : Mdl σ ((p.atK p.k).withOw p.ow) := hM
    exact ⟨p.k, p.ow, W1.le le, B1.le le, M1.le le, fun j x hx hj => absurd hj (Nat.not_lt_zero _), fun j hj => rfl, by omega, by omega⟩
  · rintro base' O' ok' j v σ₂ hv ⟨k, ow, W2, B2, M2, i1, i2, i3, i4⟩
    replace O' : Cx.Own ⟨h₀, base', env, os⟩ := O'
    replace ok' : Cx.Ok ⟨h₀, base', env, os⟩ := ok'
    obtain ⟨hj, rfl⟩ := range_at hv
    obtain ⟨x, hx⟩ : ∃ x, p.heads[j]? = some x := ⟨p.heads[j], by simp [hj]⟩
    obtain ⟨r, hr⟩ : ∃ r, p.rows[j]? = some r := ⟨p.rows[j]'(by rw [hW.lro]; exact hj), by simp [hW.lro, hj]⟩
    obtain ⟨ra, hra, hσr, htr⟩ := W2.row hr
    replace hra : p.ra[j]? = some ra := hra
    have rok := hW.rok j r x hr hx
    refine ⟨_, by wtm_at "asn", ?_⟩
    wtm_at "go"
    refine item_s hR' W2.w (by decide +kernel) (by wtm_at "look") ?_
    wtm_at "go"
    refine item_l (v := .ref ra) W2.lr (by omega) (by omega) (by show (p.ra.map V.ref)[_]? = _; simp [hra]) ?_
    wtm_at "go"
    refine ⟨by decide, fun e he' => ?_⟩
    have le3 := (StLe.refl σ₂).upd (c := .list []) he'
    have W3 := W2.le le3
    have B3 := B2.le le3
    have M3 := M2.le le3
    have hσr3 := le3 _ _ hσr
    have ge : upd σ₂ e (.list []) e = some (.list []) := upd_same
    generalize upd σ₂ e (.list []) = σ₃ at W3 B3 M3 hσr3 ge ⊢
    refine op_ne_nil (hR'.uk (by decide)) hσr3 ge ?_
    refine ⟨_, rfl, fun hb => ?_, fun hb => ?_⟩
    · have hne : r ≠ [] := fun e => by subst e; simp [itemsOf] at hb
      wtm_at "go"
      refine item_s hR' W3.w (by decide +kernel) (by wtm_at "look") ?_
      wtm_at "go"
      refine item_l (v := .ref ra) W3.lr (by omega) (by omega) (by show (p.ra.map V.ref)[_]? = _; simp [hra]) ?_
      wtm_at "go"
      refine opc_fn ok' (c_most G (hR'.le (by decide)) hσr3 rok hne fun σ₄ le4 => ?_).call
      have W4 := W3.le le4
      have B4 := B3.le le4
      have M4 := M3.le le4
      have hmv : ValOk x.2 (mostV (r.map (·.2))) := by
        obtain ⟨y, hy, e⟩ := List.mem_map.mp (most_mem (l := r.map (·.2)) (by simpa using hne))
        obtain ⟨vs, _, _, hv⟩ := rok.args y hy
        rw [← e]; exact hv
      have hmost := h2 j r hr hne
      generalize mostV (r.map (·.2)) = mv at hmv hmost ⊢
      wtm_at "go"
      refine item_s hR' W4.w (by decide +kernel) (by wtm_at "look") ?_
      wtm_at "go"
      refine seti_d (k := .int) hR' trivial W4.od has_int_of (by show ow.length ≤ 900; omega) ?_
      have W5 : Wld (upd σ₄ p.Do (.dict .int (aput ow (.int j) mv))) ((p.atK k).withOw (aput ow (.int j) mv)) := W4.setOw hx hmv (by show ow.length ≤ 99; omega)
      have B5 : Bnk (upd σ₄ p.Do (.dict .int (aput ow (.int j) mv))) ((p.atK k).withOw (aput ow (.int j) mv)) := ((B4.at (c := .dict .int (aput ow (.int j) mv)) W4.tDo (by simp) (by simp) (by simp) (by simp) (by simp)).withOw (l := aput ow (.int j) mv))
      have M5 : Mdl (upd σ₄ p.Do (.dict .int (aput ow (.int j) mv))) ((p.atK k).withOw (aput ow (.int j) mv)) := ((M4.at (c := .dict .int (aput ow (.int j) mv)) W4.tDo (by simp) (by simp) (by simp) (by simp) (by simp)).withOw (l := aput ow (.int j) mv))
      have hσ : upd σ₄ ((p.atK k).withOw ow).Do (.dict .int (aput ((p.atK k).withOw ow).ow (.int j) mv)) = upd σ₄ p.Do (.dict .int (aput ow (.int j) mv)) := rfl
      rw [hσ]
      generalize upd σ₄ p.Do (.dict .int (aput ow (.int j) mv)) = σ₅ at W5 B5 M5 ⊢
      have ag5 : elseV (aput ow (.int j) mv) j x = elseV p.om j x := by
        unfold elseV
        rw [aput_look, V.beq_self, hmost]; rfl
      wtm_at "go"
      refine opc_fn ok' (c_is_called (p := (p.atK k).withOw (aput ow (.int j) mv)) G (hR'.le (by decide)) W5 B5 M5 ag5 hx hr (by show k ≤ 990000; omega) fun σ₉ k' b9 F9 hk9 => ?_).call
      have W9 : Wld σ₉ ((p.atK k').withOw (aput ow (.int j) mv)) := W5.refeed b9 F9
      have B9 : Bnk σ₉ ((p.atK k').withOw (aput ow (.int j) mv)) := B5.refeed W5.tFd b9
      have M9 : Mdl σ₉ ((p.atK k').withOw (aput ow (.int j) mv)) := M5.refeed W5.tFd b9
      replace hk9 : k' ≤ k + 10 := hk9
      wtm_at "go"
      wtm_at "no"
      wtm_at "go"
      refine ⟨by wtm_at "lo", k', (aput ow (.int j) mv), W9, B9, M9, fun j' x' hx' hj' => ?_, fun j' hj' => ?_, ?_, by push_cast; omega⟩
      · by_cases e : j' = j
        · subst e; rw [hx] at hx'; cases hx'; exact ag5
        · rw [← i1 j' x' hx' (by omega)]
          unfold elseV
          rw [aput_look, if_neg (by rw [V.beq_false.mpr (fun q => e (by injection q with q; omega))]; simp)]
      · rw [← i2 j' (by omega), aput_look, if_neg (by rw [V.beq_false.mpr (fun q => by injection q with q; omega)]; simp)]
      · have := @aput_length ow (.int j) mv; omega
    · have hne : r = [] := by
        cases r with
        | nil => rfl
        | cons y l => simp [itemsOf] at hb
      subst hne
      have ag5 : elseV ow j x = elseV p.om j x := by
        rw [← h1 j x hx hr]
        unfold elseV
        rw [i2 j (Nat.le_refl _)]
      wtm_at "go"
      refine opc_fn ok' (c_is_called (p := (p.atK k).withOw ow) G (hR'.le (by decide)) W3 B3 M3 ag5 hx hr (by show k ≤ 990000; omega) fun σ₉ k' b9 F9 hk9 => ?_).call
      have W9 : Wld σ₉ ((p.atK k').withOw ow) := W3.refeed b9 F9
      have B9 : Bnk σ₉ ((p.atK k').withOw ow) := B3.refeed W3.tFd b9
      have M9 : Mdl σ₉ ((p.atK k').withOw ow) := M3.refeed W3.tFd b9
      replace hk9 : k' ≤ k + 10 := hk9
      wtm_at "go"
      wtm_at "no"
      wtm_at "go"
      refine ⟨by wtm_at "lo", k', ow, W9, B9, M9, fun j' x' hx' hj' => ?_, fun j' hj' => ?_, ?_, by push_cast; omega⟩
      · by_cases e : j' = j
        · subst e; rw [hx] at hx'; cases hx'; exact ag5
        · exact i1 j' x' hx' (by omega)
      · exact i2 j' (by omega)
      · omega
  · rintro σ₂ ⟨k, ow, W2, B2, M2, i1, i2, i3, i4⟩
    rw [List.length_map, List.length_range] at i1
    have S2 : St σ₂ ((p.atK k).withOw ow) := ⟨W2, B2, M2, fun j x hx => i1 j x hx (List.getElem?_eq_some_iff.mp hx).1⟩
    wtm_at "go"
    exact opc_fn ok (c_are G (hR'.le (by decide)) S2 fun σ₃ le => hK σ₃).call
end
section
variable {w : World} {A : Around} {h₀ : Heap} {σ : Store} {K : V → Store → Prop} {n : Nat}
theorem c_law {Sa : Addr} {ob : Obj} {vs : Array Value} {nn : Nat} {ns : List Int} (G : Gd w h₀) (hR : Room 8 A) (hS : h₀.get? Sa = some ob) (hcl : ob.cls = .type "list") (hda : ob.data = .seq vs nn) (hI : IntsAre vs.toList ns) (hz : ns.length ≤ 63)
    (hnext : ∀ (p : Ws) Fn Fa σ', Build σ' p Fn Fa [] [] [] 0 → p.k = 1 → LawRest w h₀ 5 (set (set (set (set (set (set (set (fun _ => none) "script" (.ref Sa)) "feed" (.ref p.Fd)) "bank" (.ref p.B)) "words" (.tup [.str p.w0, .str p.w1, .str p.w2])) "first" (.int 3)) "second" (.int 4)) "world" (.ref p.W)) σ' K) : CallC w h₀ A (.ref 759) [.ref Sa] σ K := by
  refine bodyN (n := 7) (names := ["script"]) G hR (by rfl) (by rfl) (by rfl) (by rfl) (by intro us hu; obtain ⟨a, rfl⟩ := len1 hu; rfl) (by rfl) (by wtm_at "binds") (by rfl) (by rfl) (by rfl) (by rfl) (by rfl) ?_
  intro L q env base os A' he hnm hce hR' ok O
  dsimp only at hnm
  dsimp only at hce he
  show Ex w _ _ _ (set (fun _ => none) "script" (.ref Sa)) _ _ _
  have hh := hR'.handled
  have hnL := Nm.names hnm
  have hce0 := hce
  replace hce : env.cells = [(("second" : Str), L + 3), (("first" : Str), L + 2), (("feed" : Str), L + 1)] := hce.trans rfl
  have hbS : base Sa = some ob := ok _ _ hS
  have H : Grow σ σ [] := Grow.nil
  wtm_at "go"
  refine ev_dict .str (hR'.uk (by decide)) trivial (by rfl) (by rfl) (by simp) (by decide) fun Fd hFd => ?_
  replace H := H.new (c := .dict .str []) .fd hFd
  generalize hσ : upd σ Fd (.dict .str []) = σ1 at H ⊢
  clear hσ hFd
  refine prs_cons ?_
  wtm_at "go"
  refine ev_compN [] hh O ok hnm (by subst he; rfl) ⟨fun x c' e => by cases e⟩ (by decide +kernel) (by rfl) (by decide +kernel) (by rfl) (by decide +kernel) (by rfl) (by wtm_at "fs") ?_
  refine ev_sub0 (C := ⟨h₀, base, env, os⟩) hbS hcl ?_ (fun o i => ⟨_, rfl⟩)
  wtm_at "go"
  refine ⟨rfl, ?_⟩
  refine ev_slice (part_none (part_some ?_))
  wtm_at "go"
  refine part_none ⟨none, some 40, none, rfl, rfl, rfl, fun sl o hsl ho => ?_⟩
  replace H := H.up ((StLe.refl _).upd (c := .obj o) hsl)
  refine get_base_slice (C := ⟨h₀, base, env, os⟩) hbS hcl hda hI upd_same ho (by simp) (by rw [sizeLine_eq]; omega) fun Li hLi => ?_
  obtain ⟨cs, hcs, hcle⟩ := @cut_ints ns none (some 40) none
  replace hcle := Nat.le_trans hcle (cut40 _ hz)
  rw [hcs]
  replace H := H.up ((StLe.refl _).upd (c := .list (cs.map .int)) hLi)
  generalize hσ : upd (upd σ1 sl (.obj o)) Li (.list (cs.map .int)) = σ2 at H ⊢
  have gLi : σ2 Li = some (.list (cs.map .int)) := by rw [← hσ]; exact upd_same
  clear hσ hLi hsl
  refine ⟨true, _, _, src_list gLi, rfl, fun i acc σ₂ => StLe σ2 σ₂ ∧ ∃ ds : List Int, acc = ds.map .int ∧ ds.length ≤ i, by rw [List.length_map, sizeLine_eq]; omega, ⟨.refl _, [], rfl, Nat.le_refl _⟩, fun i acc σ h => h.1 _ _ gLi, ?_, ?_⟩
  · rintro env' base' O' ok' hnm' hce' i v acc σ₂ hv ⟨le, ds, rfl, hds⟩
    rw [List.getElem?_map, Option.map_eq_some_iff] at hv
    obtain ⟨x, hx, rfl⟩ := hv
    refine ts_nil ⟨fun _ => ?_, fun h => by cases h⟩
    wtm_at "go"
    refine c_int ?_
    wtm_at "go"
    refine op_mod (by decide) ⟨le, ds ++ [x.fmod 1000003], by simp, by simp; omega⟩
  · rintro acc σ₂ hacc ⟨le, ds, rfl, hds⟩ Lc hLc
    replace H := H.up le
    replace H := H.new (c := .list (ds.map .int)) .lc hLc
    rw [List.length_map] at hds
    generalize hσ : upd σ₂ Lc (.list (ds.map .int)) = σ3 at H ⊢
    clear hσ hLc le
    refine prs_cons ?_
    wtm_at "go"
    refine prs_nil ⟨H.get (t := .fd) (by wtm_at "mem"), fun x hx => ?_, by simp, ?_⟩
    · rcases List.mem_cons.mp hx with rfl | hx
      · exact has_str_of (by decide +kernel)
      · rw [List.mem_singleton.mp hx]; exact has_str_of (by decide +kernel)
    rw [show aputs [] [((.str "cells" : V), V.ref Lc), (.str "at", .int 0)] = [(.str "cells", .ref Lc), (.str "at", .int 0)] from rfl]
    replace H := H.put [_] (feedC Lc 0)
    generalize hσ : upd σ3 Fd (.dict .str [(.str "cells", .ref Lc), (.str "at", .int 0)]) = σ4 at H ⊢
    clear hσ
    wtm_at "go"
    refine o_Bank G ok (hR'.le (by decide)) fun B Bd Sn Sw Fn Fa Sr bl σ5 b1 b2 b3 b4 b5 b6 H5 => ?_
    replace H := H.trans H5
    dsimp only [List.cons_append, List.nil_append] at H
    clear H5
    wtm_at "go"
    refine ⟨by wtm_at "sz", ?_⟩
    wtm_at "go"
    refine ⟨by wtm_at "sz", ?_⟩
    wtm_at "go"
    refine ⟨by wtm_at "sz", ?_⟩
    wtm_at "go"
    refine ⟨by wtm_at "sz", ?_⟩
    wtm_at "go"
    refine ⟨by wtm_at "sz", fun Wl hWl => ?_⟩
    wtm_at "go"
    replace H := H.new (c := .list [.tup [.str "V", .str "V!val!", .str ""], .tup [.str "|my sort|", .str "|my sort!val!", .str "|"], .tup [.str "|9|", .str "|9!val!", .str "|"], .tup [.str "|let|", .str "let!val!", .str ""]]) .other hWl
    generalize hσ : upd σ5 Wl _ = σ6 at H ⊢
    clear hσ hWl
    have gWl := H.get (a := Wl) (t := .other) (List.mem_cons_self)
    refine opc_fn ok (c_any (Lc := Lc) (cs := ds) (k := 0) G (hR'.le (by decide)) ⟨H.get (t := .fd) (by wtm_at "mem"), H.get (t := .lc) (by wtm_at "mem"), by decide, by decide, by omega⟩ gWl (fun e => by have q := H.get (a := Fd) (t := .fd) (c := feedC Lc 0) (by wtm_at "mem"); rw [← e, gWl] at q; cases q) (by simp) (by simp) fun i v hv => ?_).call
    obtain ⟨w0, w1, w2, nm, rfl, hw⟩ := words_at hv
    replace H := H.put [_, _, _, _, _, _, _, _, _] (feedC Lc 1)
    dsimp only [List.cons_append, List.nil_append] at H
    replace H := H.sub (List.sublist_cons_self _ _)
    clear gWl hv
    rw [show (0 : Int) + 1 = 1 from rfl]
    generalize upd σ6 Fd (feedC Lc 1) = σ7 at H ⊢
    obtain ⟨hnm1, hnm2⟩ := words_nm _ hw
    dsimp only at hnm1 hnm2
    wtm_at "go"
    have z5 : Sw ≠ Sn := fun e => by
      have := H.has.nd
      simp [e] at this
    refine ex_tup (Gn.mono (K := fun v σ' => v = .tup [.int 3, .int 4] ∧ Grow σ σ' [(Bd, .bd, .dict .str bl), (Sr, .sr, .list []), (Fa, .tab 1001, .list []), (Fn, .tab 1000, .list []), (Sw, .sw, .list [.int 0, .int 0, .int 0, .int 0, .int 0]), (Sn, .sn, .list [.str "Bool", .str "Int", .str "Real", .str "U", .str nm]), (B, .b, .inst 410 Bd), (Lc, .lc, .list (ds.map .int)), (Fd, .fd, feedC Lc 1)]) ?_ ?_) (by rfl) (by subst he; rfl)
    · wtm_at "go"
      have gB := H.get (a := B) (t := .b) (c := .inst 410 Bd) (by wtm_at "mem")
      have gBd := H.get (a := Bd) (t := .bd) (c := .dict .str bl) (by wtm_at "mem")
      refine ⟨_, cl_meth pc_410 me_410_declare_sort ok G gB gBd (b6 _ (by decide +kernel)), ?_⟩
      wtm_at "go"
      refine opc_fn ok (b_decl_sort G (hR'.le (by decide)) gB gBd b1 b2 (H.get (t := .sn) (c := .list [.str "Bool", .str "Int", .str "Real"]) (by wtm_at "mem")) (H.get (t := .sw) (c := .list [.int 0, .int 0, .int 0]) (by wtm_at "mem")) z5 (by simp) (by simp) ?_).call
      replace H := H.put [_, _, _, _, _] (.list ([.str "Bool", .str "Int", .str "Real"] ++ [.str "U"]))
      dsimp only [List.cons_append, List.nil_append] at H
      replace H := H.put [_, _, _, _] (.list ([.int 0, .int 0, .int 0] ++ [.int 0]))
      dsimp only [List.cons_append, List.nil_append] at H
      dsimp only [List.cons_append, List.nil_append]
      clear gB gBd
      generalize upd (upd σ7 Sn _) Sw _ = σ8 at H ⊢
      have gB := H.get (a := B) (t := .b) (c := .inst 410 Bd) (by wtm_at "mem")
      have gBd := H.get (a := Bd) (t := .bd) (c := .dict .str bl) (by wtm_at "mem")
      wtm_at "go"
      refine ⟨_, cl_meth pc_410 me_410_declare_sort ok G gB gBd (b6 _ (by decide +kernel)), ?_⟩
      wtm_at "go"
      refine item_p (v := .str w0) (by decide) (by decide) (by rfl) ?_
      wtm_at "go"
      refine ⟨_, rfl, fun hb => ?_, fun hb => ?_⟩
      · rw [if_pos hb] at hnm1
        subst hnm1
        wtm_at "go"
        refine opc_fn ok (b_decl_sort G (hR'.le (by decide)) gB gBd b1 b2 (H.get (t := .sn) (c := .list [.str "Bool", .str "Int", .str "Real", .str "U"]) (by wtm_at "mem")) (H.get (t := .sw) (c := .list [.int 0, .int 0, .int 0, .int 0]) (by wtm_at "mem")) z5 (by simp) (by simp) ?_).call
        replace H := H.put [_, _, _, _, _] (.list ([.str "Bool", .str "Int", .str "Real", .str "U"] ++ [.str "|let|"]))
        dsimp only [List.cons_append, List.nil_append] at H
        replace H := H.put [_, _, _, _] (.list ([.int 0, .int 0, .int 0, .int 0] ++ [.int 0]))
        dsimp only [List.cons_append, List.nil_append] at H
        wtm_at "go"
        exact ⟨by wtm_at "sz", rfl, H⟩
      · rw [if_neg (by rw [hb]; decide)] at hnm1
        wtm_at "go"
        refine item_p (v := .str w0) (by decide) (by decide) (by rfl) ?_
        refine ⟨_, opg_str PySem.F.slot_str_strip PySem.F.type_str_strip, ?_⟩
        wtm_at "go"
        refine c_strip (by rw [sizeLine_eq]; omega) ?_
        rw [hnm1]
        wtm_at "go"
        refine opc_fn ok (b_decl_sort G (hR'.le (by decide)) gB gBd b1 b2 (H.get (t := .sn) (c := .list [.str "Bool", .str "Int", .str "Real", .str "U"]) (by wtm_at "mem")) (H.get (t := .sw) (c := .list [.int 0, .int 0, .int 0, .int 0]) (by wtm_at "mem")) z5 (by simp) (by simp) ?_).call
        replace H := H.put [_, _, _, _, _] (.list ([.str "Bool", .str "Int", .str "Real", .str "U"] ++ [.str nm]))
        dsimp only [List.cons_append, List.nil_append] at H
        replace H := H.put [_, _, _, _] (.list ([.int 0, .int 0, .int 0, .int 0] ++ [.int 0]))
        dsimp only [List.cons_append, List.nil_append] at H
        wtm_at "go"
        exact ⟨by wtm_at "sz", rfl, H⟩
    · rintro v σ8 ⟨rfl, H8⟩
      clear H
      refine ⟨_, by wtm_at "as2", ?_⟩
      wtm_at "go"
      refine ev_dict .str (hR'.uk (by decide)) trivial (by rfl) (by rfl) (by simp) (by decide) fun W hW => ?_
      have H := H8
      clear H8
      replace H := H.new (c := .dict .str []) .w hW
      generalize upd σ8 W (.dict .str []) = σ9 at H ⊢
      clear hW
      refine prs_cons ?_
      wtm_at "go"
      refine ⟨by wtm_at "sz", ?_⟩
      wtm_at "go"
      refine ⟨by wtm_at "sz", ?_⟩
      wtm_at "go"
      refine ⟨by wtm_at "sz", ?_⟩
      wtm_at "go"
      refine ⟨by wtm_at "sz", fun Ls hLs => ?_⟩
      replace H := H.new (c := .list [.tup [.int 3, .tup [.str "U", .str "U!val!", .str ""]], .tup [.int 4, .tup [.str w0, .str w1, .str w2]]]) .ls hLs
      generalize upd σ9 Ls _ = σ10 at H ⊢
      clear hLs
      refine prs_cons ?_
      wtm_at "go"
      refine ⟨by wtm_at "sz", fun Lh hLh => ?_⟩
      replace H := H.new (c := .list []) .lh hLh
      generalize upd σ10 Lh _ = σ11 at H ⊢
      clear hLh
      refine prs_cons ?_
      wtm_at "go"
      refine ⟨by wtm_at "sz", fun Lr hLr => ?_⟩
      replace H := H.new (c := .list []) .lr hLr
      generalize upd σ11 Lr _ = σ12 at H ⊢
      clear hLr
      refine prs_cons ?_
      wtm_at "go"
      refine ev_dict0 (kd := .int) fun Do hDo => ?_
      replace H := H.new (c := .dict .int []) .od hDo
      generalize upd σ12 Do _ = σ13 at H ⊢
      clear hDo
      refine prs_nil ⟨H.get (t := .w) (by wtm_at "mem"), fun x hx => ?_, by simp, ?_⟩
      · simp only [List.mem_cons, List.not_mem_nil, or_false] at hx
        rcases hx with rfl | rfl | rfl | rfl <;> exact has_str_of (by decide +kernel)
      rw [show aputs [] [((.str "sorts" : V), V.ref Ls), (.str "heads", .ref Lh), (.str "rows", .ref Lr), (.str "others", .ref Do)] = [(.str "sorts", .ref Ls), (.str "heads", .ref Lh), (.str "rows", .ref Lr), (.str "others", .ref Do)] from rfl]
      replace H := H.put [_, _, _, _] (.dict .str [(.str "sorts", .ref Ls), (.str "heads", .ref Lh), (.str "rows", .ref Lr), (.str "others", .ref Do)])
      dsimp only [List.cons_append, List.nil_append] at H
      generalize upd σ13 W _ = σ14 at H ⊢
      wtm_at "1"
      have hB : Build σ14 { Fd := Fd, Lc := Lc, W := W, Ls := Ls, Lh := Lh, Lr := Lr, Do := Do, B := B, Bd := Bd, Sn := Sn, Sw := Sw, Sr := Sr, M := 0, Md := 0, T := 0, O := 0, cs := ds, k := 1, ph := [], heads := [], ra := [], rows := [], ow := [], om := [], tl := [], bl := bl, w0 := w0, w1 := w1, w2 := w2, nm := nm, tg := fun _ => .other } Fn Fa [] [] [] 0 :=
        ⟨H.has, ⟨b1, b2, b3, b4, b5, b6⟩, rfl, rfl, rfl, rfl, rfl, fun h hh => (by cases hh), fun j a h e => (by simp at e), fun j a e => (by simp at e), (by show (0 : Int) ≤ 1; decide), (by show (1 : Int) ≤ 10 + 20 * ((0 : Nat) : Int); decide), by show ds.length ≤ 1000; omega, rfl, hw⟩
      exact hnext _ Fn Fa σ14 hB rfl _ _ _ _ _ (by rfl) (by rfl) L q env base os A' he hnm hce0 hR' ok O
end
section
variable {w : World} {A : Around} {h₀ : Heap} {σ : Store} {K : V → Store → Prop}
theorem c_whole {Sa : Addr} {ob : Obj} {vs : Array Value} {nn : Nat} {ns : List Int} (G : Gd w h₀) (hR : Room 8 A) (hS : h₀.get? Sa = some ob) (hcl : ob.cls = .type "list") (hda : ob.data = .seq vs nn) (hI : IntsAre vs.toList ns) (hz : ns.length ≤ 63) (hK : ∀ σ', K (.bool true) σ') : CallC w h₀ A (.ref 759) [.ref Sa] σ K := by
  refine c_law G hR hS hcl hda hI hz fun p Fn Fa σ1 hB hk => law5 G hB hk fun k heads ph ra fns fas vars i σ2 hB2 i2 i4 => law6 (p := p.grown k heads ph ra) G hB2 i4 fun M Md T O tg σ3 S3 => ?_
  have hlen : heads.length = i := hB2.lh
  have how : p.ow = [] := hB2.ow
  have hk1 : k ≤ 10 + 20 * i := hB2.k1
  refine law7 (p := (p.grown k heads ph ra).start M Md T O i tg) G S3 ⟨fun r hr => ?_, ?_, ?_⟩ (by show 0 < heads.length; omega) (by show k ≤ 200; omega) fun k4 rows ow om tl tg4 σ4 S4 s4 hk4 => ?_
  · rw [(List.mem_replicate.mp hr).2]; exact Nat.le_refl _
  · show p.ow.length ≤ 0
    rw [how]; exact Nat.le_refl _
  · exact Nat.le_refl _
  replace S4 : St σ4 (((p.grown k heads ph ra).start M Md T O i tg).of k4 rows ow om tl tg4) := S4
  refine law8 (p := ((p.grown k heads ph ra).start M Md T O i tg).of k4 rows ow om tl tg4) G S4 fun Ll σ5 le5 hl5 hlf => law9 (p := ((p.grown k heads ph ra).start M Md T O i tg).of k4 rows ow om tl tg4) G (S4.le le5) hB2.wd hl5 fun σ6 le6 =>
    law10 (p := ((p.grown k heads ph ra).start M Md T O i tg).of k4 rows ow om tl tg4) G ((S4.le le5).le le6) (le6 _ _ hl5) hlf hk4 fun k7 σ7 S7 hk7 hl7 => ?_
  have hom50 : om.length ≤ 50 := Nat.le_trans s4.om (by omega)
  have how50 : ow.length ≤ 50 := Nat.le_trans s4.ow (by omega)
  refine law11 (p := (((p.grown k heads ph ra).start M Md T O i tg).of k4 rows ow om tl tg4).atK k7) G S7 hl7 hom50 fun mk om8 σ8 W8 B8 M8 hom hl8 =>
    law14 (p := ((((p.grown k heads ph ra).start M Md T O i tg).of k4 rows ow om tl tg4).atK k7).withOm om8) G W8 B8 M8 hl8 how50 (by show k7 ≤ 3000; omega) (fun j x hx hr => ?_) (fun j r hr hne => ?_) hK
  · have e1 := S7.ag j x hx
    have e2 := hom j [] hr
    rw [if_pos rfl] at e2
    replace e1 : elseV ow j x = elseV om j x := e1
    replace e2 : alook om8 (.int j) = alook om (.int j) := e2
    show elseV ow j x = elseV om8 j x
    rw [e1]
    unfold elseV
    rw [e2]
  · have e2 := hom j r hr
    rw [if_neg hne] at e2
    exact e2
end
theorem x_law : ∀ w : World, nsIn (KK w) mainGlobals "law" = some (some (.ref 759)) := fun w => by kernel_rfl
theorem law_good {w : World} {s₁ : Shared} {mg mb : Str → Option Value} {loose : List Str} {mean : ExcName → Option Value} {pr : Program} {ns : List Int} {us : List Value} {a : Addr} (T : Top pr loose mean mg mb s₁.heap) (KX : (KK w).In s₁.heap) (hg : s₁.gens = #[])
    (hL : s₁.heap.IsList a us.toArray) (hI : IntsAre us ns) (hz : ns.length ≤ 63) (cl : Str → Option Addr) (mean' : ExcName → Option Value) (E : Value → Shared → Prop) :
    wpAny (model P w) callerA (call (.ref 759) [.ref a]) (fun v s' => GoodWG PySem.Challenge.rw_nz0157_01.row.claim cl mean' [ofPy (PyData.list (List.map PyData.int ns))] s₁ (.ok (.ret v)) s') E s₁ := by
  obtain ⟨ob, g, hc, nn, hd⟩ := hL
  have G : Gd w s₁.heap := ⟨KX, ⟨mg, T.g⟩, ⟨mb, T.b, fun x v e hx => (T.builtins x hx).trans e⟩, T.nolimit⟩
  have hR : Room 8 callerA := ⟨by decide, by decide, rfl⟩
  have top : sysModules < s₁.heap.objs.size := by
    have := Heap.lt_size (KX 759 _ rfl)
    exact Nat.lt_of_le_of_lt (by decide) this
  refine wpAny_mono ((c_whole (σ := fun _ => none) (K := fun v _ => v = .bool true) G hR g hc hd (by simpa using hI) hz fun _ => rfl).call s₁ [.ref a] ⟨fun _ _ e => (by cases e), fun _ _ e => (by cases e), hg⟩ (fun b o e => ⟨e, rfl⟩) top (.cons vis_ref .nil)) (fun v s' ⟨kp, os, v', σ', hv, hp', _, e⟩ => ?_) (fun _ _ e => e.elim)
  subst e
  rw [hv.bool_inv]
  refine GoodW.toG ⟨.inl ⟨.bool true, .bool true, [], rfl, fun cls => by rfl, ?_, ?_, ?_⟩, fun b o e => kp b o e rfl, os, hp'.gens⟩
  · exact .bool true
  · wrow_post
  · exact fun _ => ⟨List.nodup_nil, fun a ha => by cases ha⟩
theorem peek : PySem.Challenge.rw_nz0157_01.Holds := hd (by
  intro d kwd hdn w s₀ s₁ mg mb G Y fa o pm cd doc dV kV ho hd hcd hD hmg hg args vals as hpre hlay hrd hwl hlo
  have KX : (KK w).In s₁.heap := Y
  refine Ground.open G ?_
  intro T B D TE TW
  have hfa : fa = 759 := by
    have h1 := mg_of KX T.g (x_law w)
    have h2 : mg "law" = some (.ref fa) := by rw [← hdn]; exact hmg
    rw [h1] at h2
    injection h2 with h2
    injection h2 with h2
    exact h2.symm
  clear hdn Y G hd hcd hD hmg ho D B TE TW
  wrow_args hpre hlay hrd hwl hlo
  subst hfa
  exact law_good T KX hg (by assumption) (by assumption) (by omega) _ _ _)
end Nz
theorem PySem.Challenge.cw_nz0157_01_holds : PySem.Challenge.rw_nz0157_01.Holds :=
  Nz.peek
