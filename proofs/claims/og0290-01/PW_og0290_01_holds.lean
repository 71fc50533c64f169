import PyProof.Rows.All
import Wide.All
import OpenK.AllK
import Wide.FinOn
import PySem.Challenge.RW_og0290_01
open PySem PySem.W PyProof.Rows
set_option Elab.async false
set_option maxRecDepth 100000
set_option autoImplicit false
set_option compiler.extract_closed false
namespace Mine
theorem hSaid : OpenLaw.wellSaid PySem.Challenge.rw_og0290_01 = true := by rw [PySem.W.Fast.te9446332074065402090]; kernel_rfl

/-! ## The written part of the top -/
abbrev pw : Program := PySem.Challenge.pw_og0290_01
def fnParts : Stmt → Option (Arguments × List Stmt × Scope)
  | .FunctionDef _ a b _ _ _ s _ _ _ => some (a, b, s)
  | _ => none
def clsParts : Stmt → List Stmt
  | .ClassDef _ _ _ b _ _ _ _ _ _ _ => b
  | _ => []
def tS (i : Nat) : Option Stmt := pw.main.body[i]?
def tM (i j : Nat) : Option Stmt := (tS i).bind fun s => (clsParts s)[j]?
abbrev fo (name qual : Str) (dV pm : Value) (c : Addr) {st : Option Stmt} {a : Arguments} {b : List Stmt} {s : Scope} (_h : st.bind fnParts = some (a, b, s)) : Obj :=
  { cls := .type "function", data := .func (fnOf name qual a b s dV .none .none pm none (.ref c) .none) }
noncomputable def hK (P : Params) : Frag :=
  (nat_lit 2, { cls := Value.none, data := Data.dict #[{ hash := PyData.keyHash P (Str.ofString "type.__subclasses__.Exception.0"), key := Value.str (Str.ofString "type.__subclasses__.Exception.0") 233, val := Value.int 40 0 }, { hash := PyData.keyHash P (Str.ofString "type.__subclasses__.Exception.n"), key := Value.str (Str.ofString "type.__subclasses__.Exception.n") 234, val := Value.int 1 0 }] 2 }) ::
  (nat_lit 3, { cls := Value.type "dict", data := Data.dict #[{ hash := PyData.keyHash P (Str.ofString "__name__"), key := Value.str (Str.ofString "__name__") 165, val := Value.str (Str.ofString "law_og0290_01") 1712 }, { hash := PyData.keyHash P (Str.ofString "__doc__"), key := Value.str (Str.ofString "__doc__") 166, val := Value.none }, { hash := PyData.keyHash P (Str.ofString "__package__"), key := Value.str (Str.ofString "__package__") 167, val := Value.none }, { hash := PyData.keyHash P (Str.ofString "__loader__"), key := Value.str (Str.ofString "__loader__") 168, val := Value.builtin "__main__.__loader__#opaque" }, { hash := PyData.keyHash P (Str.ofString "__spec__"), key := Value.str (Str.ofString "__spec__") 169, val := Value.none }, { hash := PyData.keyHash P (Str.ofString "__annotations__"), key := Value.str (Str.ofString "__annotations__") 170, val := Value.ref 6 }, { hash := PyData.keyHash P (Str.ofString "__builtins__"), key := Value.str (Str.ofString "__builtins__") 171, val := Value.ref 4 }, { hash := PyData.keyHash P (Str.ofString "__file__"), key := Value.str (Str.ofString "__file__") 173, val := Value.str (Str.ofString "/claim/cut.py") 172 }, { hash := PyData.keyHash P (Str.ofString "__cached__"), key := Value.str (Str.ofString "__cached__") 174, val := Value.none }, { hash := PyData.keyHash P (Str.ofString "_wall"), key := Value.str (Str.ofString "_wall") 193, val := Value.ref 21 }, { hash := PyData.keyHash P (Str.ofString "NO_COLOUR"), key := Value.str (Str.ofString "NO_COLOUR") 198, val := Value.int (-1) 197 }, { hash := PyData.keyHash P (Str.ofString "PLAIN"), key := Value.str (Str.ofString "PLAIN") 201, val := Value.ref 22 }, { hash := PyData.keyHash P (Str.ofString "BACK"), key := Value.str (Str.ofString "BACK") 203, val := Value.int 2 202 }, { hash := PyData.keyHash P (Str.ofString "LINE_FEED"), key := Value.str (Str.ofString "LINE_FEED") 205, val := Value.int 10 204 }, { hash := PyData.keyHash P (Str.ofString "BLANK"), key := Value.str (Str.ofString "BLANK") 207, val := Value.int 32 206 }, { hash := PyData.keyHash P (Str.ofString "TermError"), key := Value.str (Str.ofString "TermError") 236, val := Value.ref 40 }, { hash := PyData.keyHash P (Str.ofString "BadSize"), key := Value.str (Str.ofString "BadSize") 252, val := Value.ref 53 }, { hash := PyData.keyHash P (Str.ofString "BadCommand"), key := Value.str (Str.ofString "BadCommand") 268, val := Value.ref 65 }, { hash := PyData.keyHash P (Str.ofString "erased_pen"), key := Value.str (Str.ofString "erased_pen") 275, val := Value.ref 74 }, { hash := PyData.keyHash P (Str.ofString "blank_cell"), key := Value.str (Str.ofString "blank_cell") 282, val := Value.ref 81 }, { hash := PyData.keyHash P (Str.ofString "is_blank"), key := Value.str (Str.ofString "is_blank") 289, val := Value.ref 88 }, { hash := PyData.keyHash P (Str.ofString "LINE_SIZES"), key := Value.str (Str.ofString "LINE_SIZES") 296, val := Value.ref 89 }, { hash := PyData.keyHash P (Str.ofString "line_blanks"), key := Value.str (Str.ofString "line_blanks") 304, val := Value.ref 96 }, { hash := PyData.keyHash P (Str.ofString "right_half"), key := Value.str (Str.ofString "right_half") 311, val := Value.ref 103 }, { hash := PyData.keyHash P (Str.ofString "line_part"), key := Value.str (Str.ofString "line_part") 319, val := Value.ref 110 }, { hash := PyData.keyHash P (Str.ofString "line_slice"), key := Value.str (Str.ofString "line_slice") 329, val := Value.ref 117 }, { hash := PyData.keyHash P (Str.ofString "line_codes"), key := Value.str (Str.ofString "line_codes") 339, val := Value.ref 124 }, { hash := PyData.keyHash P (Str.ofString "Line"), key := Value.str (Str.ofString "Line") 509, val := Value.ref 249 }, { hash := PyData.keyHash P (Str.ofString "line_place"), key := Value.str (Str.ofString "line_place") 517, val := Value.ref 260 }, { hash := PyData.keyHash P (Str.ofString "WORD_SEPARATORS"), key := Value.str (Str.ofString "WORD_SEPARATORS") 521, val := Value.bytes #[32, 33, 34, 35, 36, 37, 38, 39, 40, 41, 42, 43, 44, 45, 46, 47, 58, 59, 60, 61, 62, 63, 64, 91, 93, 94, 96, 123, 124, 125, 126, 92] 520 }, { hash := PyData.keyHash P (Str.ofString "SIGNS"), key := Value.str (Str.ofString "SIGNS") 523, val := Value.str (Str.ofString "signs") 522 }, { hash := PyData.keyHash P (Str.ofString "WORDS"), key := Value.str (Str.ofString "WORDS") 525, val := Value.str (Str.ofString "words") 524 }, { hash := PyData.keyHash P (Str.ofString "LINES"), key := Value.str (Str.ofString "LINES") 527, val := Value.str (Str.ofString "lines") 526 }, { hash := PyData.keyHash P (Str.ofString "BLOCK"), key := Value.str (Str.ofString "BLOCK") 529, val := Value.str (Str.ofString "block") 528 }, { hash := PyData.keyHash P (Str.ofString "View"), key := Value.str (Str.ofString "View") 607, val := Value.ref 319 }, { hash := PyData.keyHash P (Str.ofString "view_width"), key := Value.str (Str.ofString "view_width") 619, val := Value.ref 330 }, { hash := PyData.keyHash P (Str.ofString "cell_codes"), key := Value.str (Str.ofString "cell_codes") 626, val := Value.ref 337 }, { hash := PyData.keyHash P (Str.ofString "view_part"), key := Value.str (Str.ofString "view_part") 638, val := Value.ref 344 }, { hash := PyData.keyHash P (Str.ofString "view_held"), key := Value.str (Str.ofString "view_held") 647, val := Value.ref 351 }, { hash := PyData.keyHash P (Str.ofString "sign_begin"), key := Value.str (Str.ofString "sign_begin") 655, val := Value.ref 358 }, { hash := PyData.keyHash P (Str.ofString "sign_end"), key := Value.str (Str.ofString "sign_end") 665, val := Value.ref 365 }, { hash := PyData.keyHash P (Str.ofString "sign_behind"), key := Value.str (Str.ofString "sign_behind") 676, val := Value.ref 372 }, { hash := PyData.keyHash P (Str.ofString "sign_ahead"), key := Value.str (Str.ofString "sign_ahead") 686, val := Value.ref 379 }, { hash := PyData.keyHash P (Str.ofString "word_sort_at"), key := Value.str (Str.ofString "word_sort_at") 698, val := Value.ref 386 }, { hash := PyData.keyHash P (Str.ofString "word_at"), key := Value.str (Str.ofString "word_at") 712, val := Value.ref 394 }, { hash := PyData.keyHash P (Str.ofString "Selection"), key := Value.str (Str.ofString "Selection") 811, val := Value.ref 455 }, { hash := PyData.keyHash P (Str.ofString "block_part"), key := Value.str (Str.ofString "block_part") 824, val := Value.ref 466 }, { hash := PyData.keyHash P (Str.ofString "folded_code"), key := Value.str (Str.ofString "folded_code") 831, val := Value.ref 473 }, { hash := PyData.keyHash P (Str.ofString "view_codes"), key := Value.str (Str.ofString "view_codes") 837, val := Value.ref 478 }, { hash := PyData.keyHash P (Str.ofString "found_places"), key := Value.str (Str.ofString "found_places") 843, val := Value.ref 484 }, { hash := PyData.keyHash P (Str.ofString "find"), key := Value.str (Str.ofString "find") 849, val := Value.ref 490 }, { hash := PyData.keyHash P (Str.ofString "OPENERS"), key := Value.str (Str.ofString "OPENERS") 853, val := Value.bytes #[40, 91, 123] 852 }, { hash := PyData.keyHash P (Str.ofString "CLOSERS"), key := Value.str (Str.ofString "CLOSERS") 855, val := Value.bytes #[41, 93, 125] 854 }, { hash := PyData.keyHash P (Str.ofString "CopyMode"), key := Value.str (Str.ofString "CopyMode") 974, val := Value.ref 566 }, { hash := PyData.keyHash P (Str.ofString "copy_held"), key := Value.str (Str.ofString "copy_held") 985, val := Value.ref 577 }, { hash := PyData.keyHash P (Str.ofString "copy_last"), key := Value.str (Str.ofString "copy_last") 993, val := Value.ref 584 }, { hash := PyData.keyHash P (Str.ofString "copy_signs"), key := Value.str (Str.ofString "copy_signs") 1004, val := Value.ref 591 }, { hash := PyData.keyHash P (Str.ofString "copy_index"), key := Value.str (Str.ofString "copy_index") 1015, val := Value.ref 598 }, { hash := PyData.keyHash P (Str.ofString "copy_sort"), key := Value.str (Str.ofString "copy_sort") 1023, val := Value.ref 605 }, { hash := PyData.keyHash P (Str.ofString "next_word"), key := Value.str (Str.ofString "next_word") 1035, val := Value.ref 612 }, { hash := PyData.keyHash P (Str.ofString "next_word_end"), key := Value.str (Str.ofString "next_word_end") 1046, val := Value.ref 619 }, { hash := PyData.keyHash P (Str.ofString "previous_word"), key := Value.str (Str.ofString "previous_word") 1057, val := Value.ref 626 }, { hash := PyData.keyHash P (Str.ofString "matching_bracket"), key := Value.str (Str.ofString "matching_bracket") 1072, val := Value.ref 633 }, { hash := PyData.keyHash P (Str.ofString "jump_place"), key := Value.str (Str.ofString "jump_place") 1087, val := Value.ref 640 }, { hash := PyData.keyHash P (Str.ofString "paragraph_row"), key := Value.str (Str.ofString "paragraph_row") 1097, val := Value.ref 647 }, { hash := PyData.keyHash P (Str.ofString "copy_left"), key := Value.str (Str.ofString "copy_left") 1107, val := Value.ref 654 }, { hash := PyData.keyHash P (Str.ofString "copy_right"), key := Value.str (Str.ofString "copy_right") 1119, val := Value.ref 661 }, { hash := PyData.keyHash P (Str.ofString "copy_up"), key := Value.str (Str.ofString "copy_up") 1127, val := Value.ref 668 }, { hash := PyData.keyHash P (Str.ofString "copy_down"), key := Value.str (Str.ofString "copy_down") 1135, val := Value.ref 675 }, { hash := PyData.keyHash P (Str.ofString "copy_line_start"), key := Value.str (Str.ofString "copy_line_start") 1143, val := Value.ref 682 }, { hash := PyData.keyHash P (Str.ofString "copy_line_end"), key := Value.str (Str.ofString "copy_line_end") 1152, val := Value.ref 689 }, { hash := PyData.keyHash P (Str.ofString "copy_indentation"), key := Value.str (Str.ofString "copy_indentation") 1162, val := Value.ref 696 }, { hash := PyData.keyHash P (Str.ofString "copy_shown"), key := Value.str (Str.ofString "copy_shown") 1171, val := Value.ref 703 }, { hash := PyData.keyHash P (Str.ofString "copy_history_top"), key := Value.str (Str.ofString "copy_history_top") 1179, val := Value.ref 710 }, { hash := PyData.keyHash P (Str.ofString "copy_history_bottom"), key := Value.str (Str.ofString "copy_history_bottom") 1188, val := Value.ref 717 }, { hash := PyData.keyHash P (Str.ofString "copy_scrolled"), key := Value.str (Str.ofString "copy_scrolled") 1198, val := Value.ref 724 }, { hash := PyData.keyHash P (Str.ofString "copy_page"), key := Value.str (Str.ofString "copy_page") 1209, val := Value.ref 731 }, { hash := PyData.keyHash P (Str.ofString "copy_scroll"), key := Value.str (Str.ofString "copy_scroll") 1218, val := Value.ref 738 }, { hash := PyData.keyHash P (Str.ofString "copy_by_word"), key := Value.str (Str.ofString "copy_by_word") 1229, val := Value.ref 745 }, { hash := PyData.keyHash P (Str.ofString "copy_bracket"), key := Value.str (Str.ofString "copy_bracket") 1238, val := Value.ref 752 }, { hash := PyData.keyHash P (Str.ofString "copy_paragraph"), key := Value.str (Str.ofString "copy_paragraph") 1247, val := Value.ref 759 }, { hash := PyData.keyHash P (Str.ofString "copy_goto"), key := Value.str (Str.ofString "copy_goto") 1257, val := Value.ref 766 }, { hash := PyData.keyHash P (Str.ofString "copy_jump"), key := Value.str (Str.ofString "copy_jump") 1268, val := Value.ref 773 }, { hash := PyData.keyHash P (Str.ofString "copy_jumped"), key := Value.str (Str.ofString "copy_jumped") 1277, val := Value.ref 780 }, { hash := PyData.keyHash P (Str.ofString "copy_jump_again"), key := Value.str (Str.ofString "copy_jump_again") 1285, val := Value.ref 787 }, { hash := PyData.keyHash P (Str.ofString "copy_jump_reverse"), key := Value.str (Str.ofString "copy_jump_reverse") 1293, val := Value.ref 794 }, { hash := PyData.keyHash P (Str.ofString "copy_search"), key := Value.str (Str.ofString "copy_search") 1302, val := Value.ref 801 }, { hash := PyData.keyHash P (Str.ofString "copy_found"), key := Value.str (Str.ofString "copy_found") 1308, val := Value.ref 806 }, { hash := PyData.keyHash P (Str.ofString "copy_search_again"), key := Value.str (Str.ofString "copy_search_again") 1316, val := Value.ref 813 }, { hash := PyData.keyHash P (Str.ofString "copy_search_reverse"), key := Value.str (Str.ofString "copy_search_reverse") 1324, val := Value.ref 820 }, { hash := PyData.keyHash P (Str.ofString "copy_set_mark"), key := Value.str (Str.ofString "copy_set_mark") 1332, val := Value.ref 827 }, { hash := PyData.keyHash P (Str.ofString "copy_to_mark"), key := Value.str (Str.ofString "copy_to_mark") 1341, val := Value.ref 834 }, { hash := PyData.keyHash P (Str.ofString "copy_begin"), key := Value.str (Str.ofString "copy_begin") 1350, val := Value.ref 841 }, { hash := PyData.keyHash P (Str.ofString "copy_block"), key := Value.str (Str.ofString "copy_block") 1358, val := Value.ref 848 }, { hash := PyData.keyHash P (Str.ofString "copy_other_end"), key := Value.str (Str.ofString "copy_other_end") 1366, val := Value.ref 855 }, { hash := PyData.keyHash P (Str.ofString "copy_clear"), key := Value.str (Str.ofString "copy_clear") 1374, val := Value.ref 862 }, { hash := PyData.keyHash P (Str.ofString "copy_cancel"), key := Value.str (Str.ofString "copy_cancel") 1382, val := Value.ref 869 }, { hash := PyData.keyHash P (Str.ofString "copy_take"), key := Value.str (Str.ofString "copy_take") 1391, val := Value.ref 876 }, { hash := PyData.keyHash P (Str.ofString "copy_search_word"), key := Value.str (Str.ofString "copy_search_word") 1400, val := Value.ref 883 }, { hash := PyData.keyHash P (Str.ofString "copy_commands"), key := Value.str (Str.ofString "copy_commands") 1411, val := Value.ref 890 }, { hash := PyData.keyHash P (Str.ofString "copy_plain_moves"), key := Value.str (Str.ofString "copy_plain_moves") 1417, val := Value.ref 897 }, { hash := PyData.keyHash P (Str.ofString "copy_far_moves"), key := Value.str (Str.ofString "copy_far_moves") 1423, val := Value.ref 904 }, { hash := PyData.keyHash P (Str.ofString "copy_choices"), key := Value.str (Str.ofString "copy_choices") 1429, val := Value.ref 911 }, { hash := PyData.keyHash P (Str.ofString "Grid"), key := Value.str (Str.ofString "Grid") 1627, val := Value.ref 1056 }, { hash := PyData.keyHash P (Str.ofString "History"), key := Value.str (Str.ofString "History") 1711, val := Value.ref 1124 }, { hash := PyData.keyHash P (Str.ofString "_law_deck"), key := Value.str (Str.ofString "_law_deck") 1719, val := Value.ref 1133 }, { hash := PyData.keyHash P (Str.ofString "_law_draw"), key := Value.str (Str.ofString "_law_draw") 1727, val := Value.ref 1140 }, { hash := PyData.keyHash P (Str.ofString "_law_cell"), key := Value.str (Str.ofString "_law_cell") 1734, val := Value.ref 1147 }, { hash := PyData.keyHash P (Str.ofString "_law_shown_right"), key := Value.str (Str.ofString "_law_shown_right") 1746, val := Value.ref 1154 }, { hash := PyData.keyHash P (Str.ofString "law"), key := Value.str (Str.ofString "law") 1752, val := Value.ref 1159 }] 110 }) ::
  (nat_lit 22, { cls := Value.type "tuple", data := Data.seq #[Value.int 0 199, Value.int (-1) 197, Value.int (-1) 197, Value.int (-1) 197, Value.int 0 200] }) ::
  (nat_lit 68, { cls := Value.type "tuple", data := Data.seq #[] }) ::
  (nat_lit 70, { cls := Value.type "tuple", data := Data.seq #[Value.str (Str.ofString "pen") 272] }) ::
  (nat_lit 71, { cls := Value.type "tuple", data := Data.seq #[] }) ::
  (nat_lit 73, { cls := Value.type "code", data := Data.fields #[Value.str (Str.ofString "erased_pen") 269, Value.str (Str.ofString "erased_pen") 270, Value.str (Str.ofString "/claim/cut.py") 271, Value.int 18 0, Value.int 1 0, Value.int 0 0, Value.int 0 0, Value.int 3 0, Value.ref 68, Value.bool Bool.true, Value.int 181 0, Value.ref 69, Value.none, Value.ref 70, Value.ref 71, Value.ref 72, Value.int 273 0, Value.int 18 0, Value.str (Str.ofString "/claim/cut.py") 274] }) ::
  (nat_lit 74, fo (Str.ofString "erased_pen") (Str.ofString "erased_pen") (Value.none) (Value.str (Str.ofString "termcore.base") 194) 73 (st := (tS 10)) rfl) ::
  (nat_lit 75, { cls := Value.type "tuple", data := Data.seq #[] }) ::
  (nat_lit 77, { cls := Value.type "tuple", data := Data.seq #[Value.str (Str.ofString "pen") 279] }) ::
  (nat_lit 78, { cls := Value.type "tuple", data := Data.seq #[] }) ::
  (nat_lit 80, { cls := Value.type "code", data := Data.fields #[Value.str (Str.ofString "blank_cell") 276, Value.str (Str.ofString "blank_cell") 277, Value.str (Str.ofString "/claim/cut.py") 278, Value.int 20 0, Value.int 1 0, Value.int 0 0, Value.int 0 0, Value.int 3 0, Value.ref 75, Value.bool Bool.true, Value.int 181 0, Value.ref 76, Value.none, Value.ref 77, Value.ref 78, Value.ref 79, Value.int 280 0, Value.int 20 0, Value.str (Str.ofString "/claim/cut.py") 281] }) ::
  (nat_lit 81, fo (Str.ofString "blank_cell") (Str.ofString "blank_cell") (Value.none) (Value.str (Str.ofString "termcore.base") 194) 80 (st := (tS 11)) rfl) ::
  (nat_lit 82, { cls := Value.type "tuple", data := Data.seq #[] }) ::
  (nat_lit 84, { cls := Value.type "tuple", data := Data.seq #[Value.str (Str.ofString "cell") 286] }) ::
  (nat_lit 85, { cls := Value.type "tuple", data := Data.seq #[] }) ::
  (nat_lit 87, { cls := Value.type "code", data := Data.fields #[Value.str (Str.ofString "is_blank") 283, Value.str (Str.ofString "is_blank") 284, Value.str (Str.ofString "/claim/cut.py") 285, Value.int 22 0, Value.int 1 0, Value.int 0 0, Value.int 0 0, Value.int 3 0, Value.ref 82, Value.bool Bool.true, Value.int 181 0, Value.ref 83, Value.none, Value.ref 84, Value.ref 85, Value.ref 86, Value.int 287 0, Value.int 22 0, Value.str (Str.ofString "/claim/cut.py") 288] }) ::
  (nat_lit 88, fo (Str.ofString "is_blank") (Str.ofString "is_blank") (Value.none) (Value.str (Str.ofString "termcore.base") 194) 87 (st := (tS 12)) rfl) ::
  (nat_lit 89, { cls := Value.type "tuple", data := Data.seq #[Value.str (Str.ofString "single") 292, Value.str (Str.ofString "wide") 293, Value.str (Str.ofString "top") 294, Value.str (Str.ofString "bottom") 295] }) ::
  (nat_lit 90, { cls := Value.type "tuple", data := Data.seq #[] }) ::
  (nat_lit 92, { cls := Value.type "tuple", data := Data.seq #[Value.str (Str.ofString "many") 300, Value.str (Str.ofString "pen") 301] }) ::
  (nat_lit 93, { cls := Value.type "tuple", data := Data.seq #[] }) ::
  (nat_lit 95, { cls := Value.type "code", data := Data.fields #[Value.str (Str.ofString "line_blanks") 297, Value.str (Str.ofString "line_blanks") 298, Value.str (Str.ofString "/claim/cut.py") 299, Value.int 26 0, Value.int 2 0, Value.int 0 0, Value.int 0 0, Value.int 3 0, Value.ref 90, Value.bool Bool.true, Value.int 181 0, Value.ref 91, Value.none, Value.ref 92, Value.ref 93, Value.ref 94, Value.int 302 0, Value.int 26 0, Value.str (Str.ofString "/claim/cut.py") 303] }) ::
  (nat_lit 96, fo (Str.ofString "line_blanks") (Str.ofString "line_blanks") (Value.none) (Value.str (Str.ofString "termcore.lines") 290) 95 (st := (tS 15)) rfl) ::
  (nat_lit 104, { cls := Value.type "tuple", data := Data.seq #[] }) ::
  (nat_lit 106, { cls := Value.type "tuple", data := Data.seq #[Value.str (Str.ofString "cells") 315, Value.str (Str.ofString "at") 316] }) ::
  (nat_lit 107, { cls := Value.type "tuple", data := Data.seq #[] }) ::
  (nat_lit 109, { cls := Value.type "code", data := Data.fields #[Value.str (Str.ofString "line_part") 312, Value.str (Str.ofString "line_part") 313, Value.str (Str.ofString "/claim/cut.py") 314, Value.int 30 0, Value.int 2 0, Value.int 0 0, Value.int 0 0, Value.int 3 0, Value.ref 104, Value.bool Bool.true, Value.int 181 0, Value.ref 105, Value.none, Value.ref 106, Value.ref 107, Value.ref 108, Value.int 317 0, Value.int 30 0, Value.str (Str.ofString "/claim/cut.py") 318] }) ::
  (nat_lit 110, fo (Str.ofString "line_part") (Str.ofString "line_part") (Value.none) (Value.str (Str.ofString "termcore.lines") 290) 109 (st := (tS 17)) rfl) ::
  (nat_lit 111, { cls := Value.type "tuple", data := Data.seq #[] }) ::
  (nat_lit 113, { cls := Value.type "tuple", data := Data.seq #[Value.str (Str.ofString "cells") 323, Value.str (Str.ofString "left") 324, Value.str (Str.ofString "right") 325, Value.str (Str.ofString "found") 326] }) ::
  (nat_lit 114, { cls := Value.type "tuple", data := Data.seq #[] }) ::
  (nat_lit 116, { cls := Value.type "code", data := Data.fields #[Value.str (Str.ofString "line_slice") 320, Value.str (Str.ofString "line_slice") 321, Value.str (Str.ofString "/claim/cut.py") 322, Value.int 34 0, Value.int 3 0, Value.int 0 0, Value.int 0 0, Value.int 3 0, Value.ref 111, Value.bool Bool.true, Value.int 181 0, Value.ref 112, Value.none, Value.ref 113, Value.ref 114, Value.ref 115, Value.int 327 0, Value.int 34 0, Value.str (Str.ofString "/claim/cut.py") 328] }) ::
  (nat_lit 117, fo (Str.ofString "line_slice") (Str.ofString "line_slice") (Value.none) (Value.str (Str.ofString "termcore.lines") 290) 116 (st := (tS 18)) rfl) ::
  (nat_lit 118, { cls := Value.type "tuple", data := Data.seq #[] }) ::
  (nat_lit 120, { cls := Value.type "tuple", data := Data.seq #[Value.str (Str.ofString "cells") 333, Value.str (Str.ofString "last") 334, Value.str (Str.ofString "found") 335, Value.str (Str.ofString "cell") 336] }) ::
  (nat_lit 121, { cls := Value.type "tuple", data := Data.seq #[] }) ::
  (nat_lit 123, { cls := Value.type "code", data := Data.fields #[Value.str (Str.ofString "line_codes") 330, Value.str (Str.ofString "line_codes") 331, Value.str (Str.ofString "/claim/cut.py") 332, Value.int 41 0, Value.int 1 0, Value.int 0 0, Value.int 0 0, Value.int 3 0, Value.ref 118, Value.bool Bool.true, Value.int 181 0, Value.ref 119, Value.none, Value.ref 120, Value.ref 121, Value.ref 122, Value.int 337 0, Value.int 41 0, Value.str (Str.ofString "/claim/cut.py") 338] }) ::
  (nat_lit 124, fo (Str.ofString "line_codes") (Str.ofString "line_codes") (Value.none) (Value.str (Str.ofString "termcore.lines") 290) 123 (st := (tS 19)) rfl) ::
  (nat_lit 132, { cls := Value.type "tuple", data := Data.seq #[] }) ::
  (nat_lit 134, { cls := Value.type "tuple", data := Data.seq #[Value.str (Str.ofString "self") 355, Value.str (Str.ofString "columns") 356, Value.str (Str.ofString "pen") 357] }) ::
  (nat_lit 135, { cls := Value.type "tuple", data := Data.seq #[] }) ::
  (nat_lit 137, { cls := Value.type "code", data := Data.fields #[Value.str (Str.ofString "__init__") 352, Value.str (Str.ofString "Line.__init__") 353, Value.str (Str.ofString "/claim/cut.py") 354, Value.int 52 0, Value.int 3 0, Value.int 0 0, Value.int 0 0, Value.int 3 0, Value.ref 132, Value.bool Bool.true, Value.int 181 0, Value.ref 133, Value.none, Value.ref 134, Value.ref 135, Value.ref 136, Value.int 358 0, Value.int 52 0, Value.str (Str.ofString "/claim/cut.py") 359] }) ::
  (nat_lit 138, fo (Str.ofString "__init__") (Str.ofString "Line.__init__") (Value.none) (Value.str (Str.ofString "termcore.lines") 290) 137 (st := (tM 20 0)) rfl) ::
  (nat_lit 146, { cls := Value.type "property", data := Data.fields #[Value.ref 145, Value.none, Value.none, Value.none, Value.str (Str.ofString "columns") 368, Value.bool Bool.false] }) ::
  (nat_lit 154, { cls := Value.type "tuple", data := Data.seq #[] }) ::
  (nat_lit 156, { cls := Value.type "tuple", data := Data.seq #[Value.str (Str.ofString "self") 379, Value.str (Str.ofString "at") 380] }) ::
  (nat_lit 157, { cls := Value.type "tuple", data := Data.seq #[] }) ::
  (nat_lit 159, { cls := Value.type "code", data := Data.fields #[Value.str (Str.ofString "part") 376, Value.str (Str.ofString "Line.part") 377, Value.str (Str.ofString "/claim/cut.py") 378, Value.int 64 0, Value.int 2 0, Value.int 0 0, Value.int 0 0, Value.int 3 0, Value.ref 154, Value.bool Bool.true, Value.int 181 0, Value.ref 155, Value.none, Value.ref 156, Value.ref 157, Value.ref 158, Value.int 381 0, Value.int 64 0, Value.str (Str.ofString "/claim/cut.py") 382] }) ::
  (nat_lit 160, fo (Str.ofString "part") (Str.ofString "Line.part") (Value.none) (Value.str (Str.ofString "termcore.lines") 290) 159 (st := (tM 20 3)) rfl) ::
  (nat_lit 161, { cls := Value.type "tuple", data := Data.seq #[] }) ::
  (nat_lit 163, { cls := Value.type "tuple", data := Data.seq #[Value.str (Str.ofString "self") 387, Value.str (Str.ofString "column") 388, Value.str (Str.ofString "cell") 389] }) ::
  (nat_lit 164, { cls := Value.type "tuple", data := Data.seq #[] }) ::
  (nat_lit 166, { cls := Value.type "code", data := Data.fields #[Value.str (Str.ofString "put") 384, Value.str (Str.ofString "Line.put") 385, Value.str (Str.ofString "/claim/cut.py") 386, Value.int 67 0, Value.int 3 0, Value.int 0 0, Value.int 0 0, Value.int 3 0, Value.ref 161, Value.bool Bool.true, Value.int 181 0, Value.ref 162, Value.none, Value.ref 163, Value.ref 164, Value.ref 165, Value.int 390 0, Value.int 67 0, Value.str (Str.ofString "/claim/cut.py") 391] }) ::
  (nat_lit 167, fo (Str.ofString "put") (Str.ofString "Line.put") (Value.none) (Value.str (Str.ofString "termcore.lines") 290) 166 (st := (tM 20 4)) rfl) ::
  (nat_lit 218, { cls := Value.type "tuple", data := Data.seq #[Value.int 0 465, Value.none] }) ::
  (nat_lit 219, { cls := Value.type "tuple", data := Data.seq #[] }) ::
  (nat_lit 221, { cls := Value.type "tuple", data := Data.seq #[Value.str (Str.ofString "self") 469, Value.str (Str.ofString "left") 470, Value.str (Str.ofString "right") 471] }) ::
  (nat_lit 222, { cls := Value.type "tuple", data := Data.seq #[] }) ::
  (nat_lit 224, { cls := Value.type "code", data := Data.fields #[Value.str (Str.ofString "codes") 466, Value.str (Str.ofString "Line.codes") 467, Value.str (Str.ofString "/claim/cut.py") 468, Value.int 103 0, Value.int 3 0, Value.int 0 0, Value.int 0 0, Value.int 3 0, Value.ref 219, Value.bool Bool.true, Value.int 181 0, Value.ref 220, Value.none, Value.ref 221, Value.ref 222, Value.ref 223, Value.int 472 0, Value.int 103 0, Value.str (Str.ofString "/claim/cut.py") 473] }) ::
  (nat_lit 225, fo (Str.ofString "codes") (Str.ofString "Line.codes") (Value.ref 218) (Value.str (Str.ofString "termcore.lines") 290) 224 (st := (tM 20 12)) rfl) ::
  (nat_lit 247, { cls := Value.type "tuple", data := Data.seq #[Value.str (Str.ofString "cells") 499, Value.str (Str.ofString "is_wrapped") 500, Value.str (Str.ofString "size") 501] }) ::
  (nat_lit 248, { cls := Value.type "dict", data := Data.dict #[{ hash := PyData.keyHash P (Str.ofString "__module__"), key := Value.str (Str.ofString "__module__") 347, val := Value.str (Str.ofString "termcore.lines") 290 }, { hash := PyData.keyHash P (Str.ofString "__firstlineno__"), key := Value.str (Str.ofString "__firstlineno__") 351, val := Value.int 50 350 }, { hash := PyData.keyHash P (Str.ofString "__init__"), key := Value.str (Str.ofString "__init__") 360, val := Value.ref 138 }, { hash := PyData.keyHash P (Str.ofString "columns"), key := Value.str (Str.ofString "columns") 368, val := Value.ref 146 }, { hash := PyData.keyHash P (Str.ofString "shown"), key := Value.str (Str.ofString "shown") 375, val := Value.ref 153 }, { hash := PyData.keyHash P (Str.ofString "part"), key := Value.str (Str.ofString "part") 383, val := Value.ref 160 }, { hash := PyData.keyHash P (Str.ofString "put"), key := Value.str (Str.ofString "put") 392, val := Value.ref 167 }, { hash := PyData.keyHash P (Str.ofString "put_cells"), key := Value.str (Str.ofString "put_cells") 401, val := Value.ref 174 }, { hash := PyData.keyHash P (Str.ofString "erase"), key := Value.str (Str.ofString "erase") 412, val := Value.ref 182 }, { hash := PyData.keyHash P (Str.ofString "shift"), key := Value.str (Str.ofString "shift") 424, val := Value.ref 189 }, { hash := PyData.keyHash P (Str.ofString "insert"), key := Value.str (Str.ofString "insert") 435, val := Value.ref 196 }, { hash := PyData.keyHash P (Str.ofString "delete"), key := Value.str (Str.ofString "delete") 446, val := Value.ref 203 }, { hash := PyData.keyHash P (Str.ofString "fill"), key := Value.str (Str.ofString "fill") 456, val := Value.ref 210 }, { hash := PyData.keyHash P (Str.ofString "copy"), key := Value.str (Str.ofString "copy") 464, val := Value.ref 217 }, { hash := PyData.keyHash P (Str.ofString "codes"), key := Value.str (Str.ofString "codes") 474, val := Value.ref 225 }, { hash := PyData.keyHash P (Str.ofString "used"), key := Value.str (Str.ofString "used") 481, val := Value.ref 232 }, { hash := PyData.keyHash P (Str.ofString "resized"), key := Value.str (Str.ofString "resized") 490, val := Value.ref 239 }, { hash := PyData.keyHash P (Str.ofString "equals"), key := Value.str (Str.ofString "equals") 498, val := Value.ref 246 }, { hash := PyData.keyHash P (Str.ofString "__static_attributes__"), key := Value.str (Str.ofString "__static_attributes__") 502, val := Value.ref 247 }, { hash := PyData.keyHash P (Str.ofString "__dict__"), key := Value.str (Str.ofString "__dict__") 504, val := Value.ref 250 }, { hash := PyData.keyHash P (Str.ofString "__weakref__"), key := Value.str (Str.ofString "__weakref__") 506, val := Value.ref 251 }, { hash := PyData.keyHash P (Str.ofString "__doc__"), key := Value.str (Str.ofString "__doc__") 507, val := Value.none }] 4 }) ::
  (nat_lit 249, { cls := Value.type "type", data := Data.cls { name := Str.ofString "Line", bases := [Value.type "object"], mro := [Value.ref 249, Value.type "object"], ns := 248, qualname := Str.ofString "Line" }, slots := #[Option.none, Option.none, Option.some (Value.str (Str.ofString "Line") 340), Option.some (Value.str (Str.ofString "Line") 348), Option.some (Value.builtin "object.__new__"), Option.some (Value.bool Bool.true)] }) ::
  (nat_lit 250, { cls := Value.type "getset_descriptor", data := Data.fields #[Value.str (Str.ofString "__dict__") 503, Value.ref 249, Value.builtin "function.__dict__", Value.builtin "function.__dict__#set"] }) ::
  (nat_lit 251, { cls := Value.type "getset_descriptor", data := Data.fields #[Value.str (Str.ofString "__weakref__") 505, Value.ref 249, Value.builtin "ExceptionGroup.__weakref__", Value.none] }) ::
  (nat_lit 254, { cls := Value.type "tuple", data := Data.seq #[] }) ::
  (nat_lit 256, { cls := Value.type "tuple", data := Data.seq #[Value.str (Str.ofString "line") 513, Value.str (Str.ofString "column") 514] }) ::
  (nat_lit 257, { cls := Value.type "tuple", data := Data.seq #[] }) ::
  (nat_lit 259, { cls := Value.type "code", data := Data.fields #[Value.str (Str.ofString "line_place") 510, Value.str (Str.ofString "line_place") 511, Value.str (Str.ofString "/claim/cut.py") 512, Value.int 114 0, Value.int 2 0, Value.int 0 0, Value.int 0 0, Value.int 3 0, Value.ref 254, Value.bool Bool.true, Value.int 181 0, Value.ref 255, Value.none, Value.ref 256, Value.ref 257, Value.ref 258, Value.int 515 0, Value.int 114 0, Value.str (Str.ofString "/claim/cut.py") 516] }) ::
  (nat_lit 260, fo (Str.ofString "line_place") (Str.ofString "line_place") (Value.none) (Value.str (Str.ofString "termcore.lines") 290) 259 (st := (tS 21)) rfl) ::
  (nat_lit 268, { cls := Value.type "tuple", data := Data.seq #[] }) ::
  (nat_lit 270, { cls := Value.type "tuple", data := Data.seq #[Value.str (Str.ofString "self") 545, Value.str (Str.ofString "history") 546, Value.str (Str.ofString "grid") 547] }) ::
  (nat_lit 271, { cls := Value.type "tuple", data := Data.seq #[] }) ::
  (nat_lit 273, { cls := Value.type "code", data := Data.fields #[Value.str (Str.ofString "__init__") 542, Value.str (Str.ofString "View.__init__") 543, Value.str (Str.ofString "/claim/cut.py") 544, Value.int 126 0, Value.int 3 0, Value.int 0 0, Value.int 0 0, Value.int 3 0, Value.ref 268, Value.bool Bool.true, Value.int 181 0, Value.ref 269, Value.none, Value.ref 270, Value.ref 271, Value.ref 272, Value.int 548 0, Value.int 126 0, Value.str (Str.ofString "/claim/cut.py") 549] }) ::
  (nat_lit 274, fo (Str.ofString "__init__") (Str.ofString "View.__init__") (Value.none) (Value.str (Str.ofString "termcore.selection") 518) 273 (st := (tM 28 0)) rfl) ::
  (nat_lit 275, { cls := Value.type "tuple", data := Data.seq #[] }) ::
  (nat_lit 277, { cls := Value.type "tuple", data := Data.seq #[Value.str (Str.ofString "self") 554] }) ::
  (nat_lit 278, { cls := Value.type "tuple", data := Data.seq #[] }) ::
  (nat_lit 280, { cls := Value.type "code", data := Data.fields #[Value.str (Str.ofString "above") 551, Value.str (Str.ofString "View.above") 552, Value.str (Str.ofString "/claim/cut.py") 553, Value.int 130 0, Value.int 1 0, Value.int 0 0, Value.int 0 0, Value.int 3 0, Value.ref 275, Value.bool Bool.true, Value.int 181 0, Value.ref 276, Value.none, Value.ref 277, Value.ref 278, Value.ref 279, Value.int 555 0, Value.int 130 0, Value.str (Str.ofString "/claim/cut.py") 556] }) ::
  (nat_lit 281, fo (Str.ofString "above") (Str.ofString "View.above") (Value.none) (Value.str (Str.ofString "termcore.selection") 518) 280 (st := (tM 28 1)) rfl) ::
  (nat_lit 282, { cls := Value.type "tuple", data := Data.seq #[] }) ::
  (nat_lit 284, { cls := Value.type "tuple", data := Data.seq #[Value.str (Str.ofString "self") 561] }) ::
  (nat_lit 285, { cls := Value.type "tuple", data := Data.seq #[] }) ::
  (nat_lit 287, { cls := Value.type "code", data := Data.fields #[Value.str (Str.ofString "rows") 558, Value.str (Str.ofString "View.rows") 559, Value.str (Str.ofString "/claim/cut.py") 560, Value.int 133 0, Value.int 1 0, Value.int 0 0, Value.int 0 0, Value.int 3 0, Value.ref 282, Value.bool Bool.true, Value.int 181 0, Value.ref 283, Value.none, Value.ref 284, Value.ref 285, Value.ref 286, Value.int 562 0, Value.int 133 0, Value.str (Str.ofString "/claim/cut.py") 563] }) ::
  (nat_lit 288, fo (Str.ofString "rows") (Str.ofString "View.rows") (Value.none) (Value.str (Str.ofString "termcore.selection") 518) 287 (st := (tM 28 2)) rfl) ::
  (nat_lit 289, { cls := Value.type "tuple", data := Data.seq #[] }) ::
  (nat_lit 291, { cls := Value.type "tuple", data := Data.seq #[Value.str (Str.ofString "self") 568, Value.str (Str.ofString "row") 569, Value.str (Str.ofString "above") 570] }) ::
  (nat_lit 292, { cls := Value.type "tuple", data := Data.seq #[] }) ::
  (nat_lit 294, { cls := Value.type "code", data := Data.fields #[Value.str (Str.ofString "line") 565, Value.str (Str.ofString "View.line") 566, Value.str (Str.ofString "/claim/cut.py") 567, Value.int 136 0, Value.int 2 0, Value.int 0 0, Value.int 0 0, Value.int 3 0, Value.ref 289, Value.bool Bool.true, Value.int 181 0, Value.ref 290, Value.none, Value.ref 291, Value.ref 292, Value.ref 293, Value.int 571 0, Value.int 136 0, Value.str (Str.ofString "/claim/cut.py") 572] }) ::
  (nat_lit 295, fo (Str.ofString "line") (Str.ofString "View.line") (Value.none) (Value.str (Str.ofString "termcore.selection") 518) 294 (st := (tM 28 3)) rfl) ::
  (nat_lit 296, { cls := Value.type "tuple", data := Data.seq #[] }) ::
  (nat_lit 298, { cls := Value.type "tuple", data := Data.seq #[Value.str (Str.ofString "self") 577, Value.str (Str.ofString "row") 578] }) ::
  (nat_lit 299, { cls := Value.type "tuple", data := Data.seq #[] }) ::
  (nat_lit 301, { cls := Value.type "code", data := Data.fields #[Value.str (Str.ofString "is_joined") 574, Value.str (Str.ofString "View.is_joined") 575, Value.str (Str.ofString "/claim/cut.py") 576, Value.int 140 0, Value.int 2 0, Value.int 0 0, Value.int 0 0, Value.int 3 0, Value.ref 296, Value.bool Bool.true, Value.int 181 0, Value.ref 297, Value.none, Value.ref 298, Value.ref 299, Value.ref 300, Value.int 579 0, Value.int 140 0, Value.str (Str.ofString "/claim/cut.py") 580] }) ::
  (nat_lit 302, fo (Str.ofString "is_joined") (Str.ofString "View.is_joined") (Value.none) (Value.str (Str.ofString "termcore.selection") 518) 301 (st := (tM 28 4)) rfl) ::
  (nat_lit 317, { cls := Value.type "tuple", data := Data.seq #[Value.str (Str.ofString "grid") 598, Value.str (Str.ofString "history") 599] }) ::
  (nat_lit 318, { cls := Value.type "dict", data := Data.dict #[{ hash := PyData.keyHash P (Str.ofString "__module__"), key := Value.str (Str.ofString "__module__") 537, val := Value.str (Str.ofString "termcore.selection") 518 }, { hash := PyData.keyHash P (Str.ofString "__firstlineno__"), key := Value.str (Str.ofString "__firstlineno__") 541, val := Value.int 124 540 }, { hash := PyData.keyHash P (Str.ofString "__init__"), key := Value.str (Str.ofString "__init__") 550, val := Value.ref 274 }, { hash := PyData.keyHash P (Str.ofString "above"), key := Value.str (Str.ofString "above") 557, val := Value.ref 281 }, { hash := PyData.keyHash P (Str.ofString "rows"), key := Value.str (Str.ofString "rows") 564, val := Value.ref 288 }, { hash := PyData.keyHash P (Str.ofString "line"), key := Value.str (Str.ofString "line") 573, val := Value.ref 295 }, { hash := PyData.keyHash P (Str.ofString "is_joined"), key := Value.str (Str.ofString "is_joined") 581, val := Value.ref 302 }, { hash := PyData.keyHash P (Str.ofString "first_of"), key := Value.str (Str.ofString "first_of") 589, val := Value.ref 309 }, { hash := PyData.keyHash P (Str.ofString "last_of"), key := Value.str (Str.ofString "last_of") 597, val := Value.ref 316 }, { hash := PyData.keyHash P (Str.ofString "__static_attributes__"), key := Value.str (Str.ofString "__static_attributes__") 600, val := Value.ref 317 }, { hash := PyData.keyHash P (Str.ofString "__dict__"), key := Value.str (Str.ofString "__dict__") 602, val := Value.ref 320 }, { hash := PyData.keyHash P (Str.ofString "__weakref__"), key := Value.str (Str.ofString "__weakref__") 604, val := Value.ref 321 }, { hash := PyData.keyHash P (Str.ofString "__doc__"), key := Value.str (Str.ofString "__doc__") 605, val := Value.none }] 4 }) ::
  (nat_lit 319, { cls := Value.type "type", data := Data.cls { name := Str.ofString "View", bases := [Value.type "object"], mro := [Value.ref 319, Value.type "object"], ns := 318, qualname := Str.ofString "View" }, slots := #[Option.none, Option.none, Option.some (Value.str (Str.ofString "View") 530), Option.some (Value.str (Str.ofString "View") 538), Option.some (Value.builtin "object.__new__"), Option.some (Value.bool Bool.true)] }) ::
  (nat_lit 320, { cls := Value.type "getset_descriptor", data := Data.fields #[Value.str (Str.ofString "__dict__") 601, Value.ref 319, Value.builtin "function.__dict__", Value.builtin "function.__dict__#set"] }) ::
  (nat_lit 321, { cls := Value.type "getset_descriptor", data := Data.fields #[Value.str (Str.ofString "__weakref__") 603, Value.ref 319, Value.builtin "ExceptionGroup.__weakref__", Value.none] }) ::
  (nat_lit 324, { cls := Value.type "tuple", data := Data.seq #[] }) ::
  (nat_lit 326, { cls := Value.type "tuple", data := Data.seq #[Value.str (Str.ofString "view") 611, Value.str (Str.ofString "row") 612, Value.str (Str.ofString "cells") 613, Value.str (Str.ofString "behind") 614, Value.str (Str.ofString "is_free") 615, Value.str (Str.ofString "last") 616] }) ::
  (nat_lit 327, { cls := Value.type "tuple", data := Data.seq #[] }) ::
  (nat_lit 329, { cls := Value.type "code", data := Data.fields #[Value.str (Str.ofString "view_width") 608, Value.str (Str.ofString "view_width") 609, Value.str (Str.ofString "/claim/cut.py") 610, Value.int 152 0, Value.int 2 0, Value.int 0 0, Value.int 0 0, Value.int 3 0, Value.ref 324, Value.bool Bool.true, Value.int 181 0, Value.ref 325, Value.none, Value.ref 326, Value.ref 327, Value.ref 328, Value.int 617 0, Value.int 152 0, Value.str (Str.ofString "/claim/cut.py") 618] }) ::
  (nat_lit 330, fo (Str.ofString "view_width") (Str.ofString "view_width") (Value.none) (Value.str (Str.ofString "termcore.selection") 518) 329 (st := (tS 29)) rfl) ::
  (nat_lit 345, { cls := Value.type "tuple", data := Data.seq #[] }) ::
  (nat_lit 347, { cls := Value.type "tuple", data := Data.seq #[Value.str (Str.ofString "view") 642, Value.str (Str.ofString "place") 643, Value.str (Str.ofString "row") 644] }) ::
  (nat_lit 348, { cls := Value.type "tuple", data := Data.seq #[] }) ::
  (nat_lit 350, { cls := Value.type "code", data := Data.fields #[Value.str (Str.ofString "view_held") 639, Value.str (Str.ofString "view_held") 640, Value.str (Str.ofString "/claim/cut.py") 641, Value.int 171 0, Value.int 2 0, Value.int 0 0, Value.int 0 0, Value.int 3 0, Value.ref 345, Value.bool Bool.true, Value.int 181 0, Value.ref 346, Value.none, Value.ref 347, Value.ref 348, Value.ref 349, Value.int 645 0, Value.int 171 0, Value.str (Str.ofString "/claim/cut.py") 646] }) ::
  (nat_lit 351, fo (Str.ofString "view_held") (Str.ofString "view_held") (Value.none) (Value.str (Str.ofString "termcore.selection") 518) 350 (st := (tS 32)) rfl) ::
  (nat_lit 352, { cls := Value.type "tuple", data := Data.seq #[] }) ::
  (nat_lit 354, { cls := Value.type "tuple", data := Data.seq #[Value.str (Str.ofString "view") 651, Value.str (Str.ofString "place") 652] }) ::
  (nat_lit 355, { cls := Value.type "tuple", data := Data.seq #[] }) ::
  (nat_lit 357, { cls := Value.type "code", data := Data.fields #[Value.str (Str.ofString "sign_begin") 648, Value.str (Str.ofString "sign_begin") 649, Value.str (Str.ofString "/claim/cut.py") 650, Value.int 174 0, Value.int 2 0, Value.int 0 0, Value.int 0 0, Value.int 3 0, Value.ref 352, Value.bool Bool.true, Value.int 181 0, Value.ref 353, Value.none, Value.ref 354, Value.ref 355, Value.ref 356, Value.int 653 0, Value.int 174 0, Value.str (Str.ofString "/claim/cut.py") 654] }) ::
  (nat_lit 358, fo (Str.ofString "sign_begin") (Str.ofString "sign_begin") (Value.none) (Value.str (Str.ofString "termcore.selection") 518) 357 (st := (tS 33)) rfl) ::
  (nat_lit 498, { cls := Value.type "tuple", data := Data.seq #[Value.none, Value.bytes #[32, 33, 34, 35, 36, 37, 38, 39, 40, 41, 42, 43, 44, 45, 46, 47, 58, 59, 60, 61, 62, 63, 64, 91, 93, 94, 96, 123, 124, 125, 126, 92] 520] }) ::
  (nat_lit 499, { cls := Value.type "tuple", data := Data.seq #[] }) ::
  (nat_lit 501, { cls := Value.type "tuple", data := Data.seq #[Value.str (Str.ofString "self") 871, Value.str (Str.ofString "view") 872, Value.str (Str.ofString "rows") 873, Value.str (Str.ofString "start") 874, Value.str (Str.ofString "separators") 875] }) ::
  (nat_lit 502, { cls := Value.type "tuple", data := Data.seq #[] }) ::
  (nat_lit 504, { cls := Value.type "code", data := Data.fields #[Value.str (Str.ofString "__init__") 868, Value.str (Str.ofString "CopyMode.__init__") 869, Value.str (Str.ofString "/claim/cut.py") 870, Value.int 305 0, Value.int 5 0, Value.int 0 0, Value.int 0 0, Value.int 3 0, Value.ref 499, Value.bool Bool.true, Value.int 181 0, Value.ref 500, Value.none, Value.ref 501, Value.ref 502, Value.ref 503, Value.int 876 0, Value.int 305 0, Value.str (Str.ofString "/claim/cut.py") 877] }) ::
  (nat_lit 505, fo (Str.ofString "__init__") (Str.ofString "CopyMode.__init__") (Value.ref 498) (Value.str (Str.ofString "termcore.copymode") 850) 504 (st := (tM 48 0)) rfl) ::
  (nat_lit 506, { cls := Value.type "tuple", data := Data.seq #[] }) ::
  (nat_lit 508, { cls := Value.type "tuple", data := Data.seq #[Value.str (Str.ofString "self") 882, Value.str (Str.ofString "most") 883] }) ::
  (nat_lit 509, { cls := Value.type "tuple", data := Data.seq #[] }) ::
  (nat_lit 511, { cls := Value.type "code", data := Data.fields #[Value.str (Str.ofString "show") 879, Value.str (Str.ofString "CopyMode.show") 880, Value.str (Str.ofString "/claim/cut.py") 881, Value.int 322 0, Value.int 1 0, Value.int 0 0, Value.int 0 0, Value.int 3 0, Value.ref 506, Value.bool Bool.true, Value.int 181 0, Value.ref 507, Value.none, Value.ref 508, Value.ref 509, Value.ref 510, Value.int 884 0, Value.int 322 0, Value.str (Str.ofString "/claim/cut.py") 885] }) ::
  (nat_lit 512, fo (Str.ofString "show") (Str.ofString "CopyMode.show") (Value.none) (Value.str (Str.ofString "termcore.copymode") 850) 511 (st := (tM 48 1)) rfl) ::
  (nat_lit 513, { cls := Value.type "tuple", data := Data.seq #[Value.bool Bool.true] }) ::
  (nat_lit 514, { cls := Value.type "tuple", data := Data.seq #[] }) ::
  (nat_lit 516, { cls := Value.type "tuple", data := Data.seq #[Value.str (Str.ofString "self") 890, Value.str (Str.ofString "place") 891, Value.str (Str.ofString "is_wish") 892] }) ::
  (nat_lit 517, { cls := Value.type "tuple", data := Data.seq #[] }) ::
  (nat_lit 519, { cls := Value.type "code", data := Data.fields #[Value.str (Str.ofString "go") 887, Value.str (Str.ofString "CopyMode.go") 888, Value.str (Str.ofString "/claim/cut.py") 889, Value.int 330 0, Value.int 3 0, Value.int 0 0, Value.int 0 0, Value.int 3 0, Value.ref 514, Value.bool Bool.true, Value.int 181 0, Value.ref 515, Value.none, Value.ref 516, Value.ref 517, Value.ref 518, Value.int 893 0, Value.int 330 0, Value.str (Str.ofString "/claim/cut.py") 894] }) ::
  (nat_lit 520, fo (Str.ofString "go") (Str.ofString "CopyMode.go") (Value.ref 513) (Value.str (Str.ofString "termcore.copymode") 850) 519 (st := (tM 48 2)) rfl) ::
  (nat_lit 521, { cls := Value.type "tuple", data := Data.seq #[] }) ::
  (nat_lit 523, { cls := Value.type "tuple", data := Data.seq #[Value.str (Str.ofString "self") 899, Value.str (Str.ofString "row") 900] }) ::
  (nat_lit 524, { cls := Value.type "tuple", data := Data.seq #[] }) ::
  (nat_lit 526, { cls := Value.type "code", data := Data.fields #[Value.str (Str.ofString "go_row") 896, Value.str (Str.ofString "CopyMode.go_row") 897, Value.str (Str.ofString "/claim/cut.py") 898, Value.int 338 0, Value.int 2 0, Value.int 0 0, Value.int 0 0, Value.int 3 0, Value.ref 521, Value.bool Bool.true, Value.int 181 0, Value.ref 522, Value.none, Value.ref 523, Value.ref 524, Value.ref 525, Value.int 901 0, Value.int 338 0, Value.str (Str.ofString "/claim/cut.py") 902] }) ::
  (nat_lit 527, fo (Str.ofString "go_row") (Str.ofString "CopyMode.go_row") (Value.none) (Value.str (Str.ofString "termcore.copymode") 850) 526 (st := (tM 48 3)) rfl) ::
  (nat_lit 535, { cls := Value.type "tuple", data := Data.seq #[] }) ::
  (nat_lit 537, { cls := Value.type "tuple", data := Data.seq #[Value.str (Str.ofString "self") 914, Value.str (Str.ofString "row") 915, Value.str (Str.ofString "there") 916] }) ::
  (nat_lit 538, { cls := Value.type "tuple", data := Data.seq #[] }) ::
  (nat_lit 540, { cls := Value.type "code", data := Data.fields #[Value.str (Str.ofString "line") 911, Value.str (Str.ofString "CopyMode.line") 912, Value.str (Str.ofString "/claim/cut.py") 913, Value.int 345 0, Value.int 2 0, Value.int 0 0, Value.int 0 0, Value.int 3 0, Value.ref 535, Value.bool Bool.true, Value.int 181 0, Value.ref 536, Value.none, Value.ref 537, Value.ref 538, Value.ref 539, Value.int 917 0, Value.int 345 0, Value.str (Str.ofString "/claim/cut.py") 918] }) ::
  (nat_lit 541, fo (Str.ofString "line") (Str.ofString "CopyMode.line") (Value.none) (Value.str (Str.ofString "termcore.copymode") 850) 540 (st := (tM 48 5)) rfl) ::
  (nat_lit 549, { cls := Value.type "tuple", data := Data.seq #[] }) ::
  (nat_lit 551, { cls := Value.type "tuple", data := Data.seq #[Value.str (Str.ofString "self") 932, Value.str (Str.ofString "above") 933] }) ::
  (nat_lit 552, { cls := Value.type "tuple", data := Data.seq #[] }) ::
  (nat_lit 554, { cls := Value.type "code", data := Data.fields #[Value.str (Str.ofString "position") 929, Value.str (Str.ofString "CopyMode.position") 930, Value.str (Str.ofString "/claim/cut.py") 931, Value.int 352 0, Value.int 1 0, Value.int 0 0, Value.int 0 0, Value.int 3 0, Value.ref 549, Value.bool Bool.true, Value.int 181 0, Value.ref 550, Value.none, Value.ref 551, Value.ref 552, Value.ref 553, Value.int 934 0, Value.int 352 0, Value.str (Str.ofString "/claim/cut.py") 935] }) ::
  (nat_lit 555, fo (Str.ofString "position") (Str.ofString "CopyMode.position") (Value.none) (Value.str (Str.ofString "termcore.copymode") 850) 554 (st := (tM 48 7)) rfl) ::
  (nat_lit 556, { cls := Value.type "tuple", data := Data.seq #[Value.none, Value.int 1 937, Value.none] }) ::
  (nat_lit 557, { cls := Value.type "tuple", data := Data.seq #[] }) ::
  (nat_lit 559, { cls := Value.type "tuple", data := Data.seq #[Value.str (Str.ofString "self") 941, Value.str (Str.ofString "name") 942, Value.str (Str.ofString "argument") 943, Value.str (Str.ofString "count") 944, Value.str (Str.ofString "commands") 945, Value.str (Str.ofString "table") 946, Value.str (Str.ofString "act") 947, Value.str (Str.ofString "is_asking") 948, Value.str (Str.ofString "turn") 949] }) ::
  (nat_lit 560, { cls := Value.type "tuple", data := Data.seq #[] }) ::
  (nat_lit 562, { cls := Value.type "code", data := Data.fields #[Value.str (Str.ofString "run") 938, Value.str (Str.ofString "CopyMode.run") 939, Value.str (Str.ofString "/claim/cut.py") 940, Value.int 356 0, Value.int 5 0, Value.int 0 0, Value.int 0 0, Value.int 3 0, Value.ref 557, Value.bool Bool.true, Value.int 181 0, Value.ref 558, Value.none, Value.ref 559, Value.ref 560, Value.ref 561, Value.int 950 0, Value.int 356 0, Value.str (Str.ofString "/claim/cut.py") 951] }) ::
  (nat_lit 563, fo (Str.ofString "run") (Str.ofString "CopyMode.run") (Value.ref 556) (Value.str (Str.ofString "termcore.copymode") 850) 562 (st := (tM 48 8)) rfl) ::
  (nat_lit 564, { cls := Value.type "tuple", data := Data.seq #[Value.str (Str.ofString "asks") 953, Value.str (Str.ofString "copied") 954, Value.str (Str.ofString "is_block") 955, Value.str (Str.ofString "is_done") 956, Value.str (Str.ofString "jumped") 957, Value.str (Str.ofString "mark") 958, Value.str (Str.ofString "place") 959, Value.str (Str.ofString "rows") 960, Value.str (Str.ofString "searched") 961, Value.str (Str.ofString "selection") 962, Value.str (Str.ofString "separators") 963, Value.str (Str.ofString "top") 964, Value.str (Str.ofString "view") 965, Value.str (Str.ofString "wished") 966] }) ::
  (nat_lit 565, { cls := Value.type "dict", data := Data.dict #[{ hash := PyData.keyHash P (Str.ofString "__module__"), key := Value.str (Str.ofString "__module__") 863, val := Value.str (Str.ofString "termcore.copymode") 850 }, { hash := PyData.keyHash P (Str.ofString "__firstlineno__"), key := Value.str (Str.ofString "__firstlineno__") 867, val := Value.int 303 866 }, { hash := PyData.keyHash P (Str.ofString "__init__"), key := Value.str (Str.ofString "__init__") 878, val := Value.ref 505 }, { hash := PyData.keyHash P (Str.ofString "show"), key := Value.str (Str.ofString "show") 886, val := Value.ref 512 }, { hash := PyData.keyHash P (Str.ofString "go"), key := Value.str (Str.ofString "go") 895, val := Value.ref 520 }, { hash := PyData.keyHash P (Str.ofString "go_row"), key := Value.str (Str.ofString "go_row") 903, val := Value.ref 527 }, { hash := PyData.keyHash P (Str.ofString "cursor"), key := Value.str (Str.ofString "cursor") 910, val := Value.ref 534 }, { hash := PyData.keyHash P (Str.ofString "line"), key := Value.str (Str.ofString "line") 919, val := Value.ref 541 }, { hash := PyData.keyHash P (Str.ofString "is_chosen"), key := Value.str (Str.ofString "is_chosen") 928, val := Value.ref 548 }, { hash := PyData.keyHash P (Str.ofString "position"), key := Value.str (Str.ofString "position") 936, val := Value.ref 555 }, { hash := PyData.keyHash P (Str.ofString "run"), key := Value.str (Str.ofString "run") 952, val := Value.ref 563 }, { hash := PyData.keyHash P (Str.ofString "__static_attributes__"), key := Value.str (Str.ofString "__static_attributes__") 967, val := Value.ref 564 }, { hash := PyData.keyHash P (Str.ofString "__dict__"), key := Value.str (Str.ofString "__dict__") 969, val := Value.ref 567 }, { hash := PyData.keyHash P (Str.ofString "__weakref__"), key := Value.str (Str.ofString "__weakref__") 971, val := Value.ref 568 }, { hash := PyData.keyHash P (Str.ofString "__doc__"), key := Value.str (Str.ofString "__doc__") 972, val := Value.none }] 4 }) ::
  (nat_lit 566, { cls := Value.type "type", data := Data.cls { name := Str.ofString "CopyMode", bases := [Value.type "object"], mro := [Value.ref 566, Value.type "object"], ns := 565, qualname := Str.ofString "CopyMode" }, slots := #[Option.none, Option.none, Option.some (Value.str (Str.ofString "CopyMode") 856), Option.some (Value.str (Str.ofString "CopyMode") 864), Option.some (Value.builtin "object.__new__"), Option.some (Value.bool Bool.true)] }) ::
  (nat_lit 567, { cls := Value.type "getset_descriptor", data := Data.fields #[Value.str (Str.ofString "__dict__") 968, Value.ref 566, Value.builtin "function.__dict__", Value.builtin "function.__dict__#set"] }) ::
  (nat_lit 568, { cls := Value.type "getset_descriptor", data := Data.fields #[Value.str (Str.ofString "__weakref__") 970, Value.ref 566, Value.builtin "ExceptionGroup.__weakref__", Value.none] }) ::
  (nat_lit 571, { cls := Value.type "tuple", data := Data.seq #[] }) ::
  (nat_lit 573, { cls := Value.type "tuple", data := Data.seq #[Value.str (Str.ofString "view") 978, Value.str (Str.ofString "place") 979, Value.str (Str.ofString "row") 980, Value.str (Str.ofString "column") 981, Value.str (Str.ofString "most") 982] }) ::
  (nat_lit 574, { cls := Value.type "tuple", data := Data.seq #[] }) ::
  (nat_lit 576, { cls := Value.type "code", data := Data.fields #[Value.str (Str.ofString "copy_held") 975, Value.str (Str.ofString "copy_held") 976, Value.str (Str.ofString "/claim/cut.py") 977, Value.int 367 0, Value.int 2 0, Value.int 0 0, Value.int 0 0, Value.int 3 0, Value.ref 571, Value.bool Bool.true, Value.int 181 0, Value.ref 572, Value.none, Value.ref 573, Value.ref 574, Value.ref 575, Value.int 983 0, Value.int 367 0, Value.str (Str.ofString "/claim/cut.py") 984] }) ::
  (nat_lit 577, fo (Str.ofString "copy_held") (Str.ofString "copy_held") (Value.none) (Value.str (Str.ofString "termcore.copymode") 850) 576 (st := (tS 49)) rfl) ::
  (nat_lit 578, { cls := Value.type "tuple", data := Data.seq #[] }) ::
  (nat_lit 580, { cls := Value.type "tuple", data := Data.seq #[Value.str (Str.ofString "view") 989, Value.str (Str.ofString "row") 990] }) ::
  (nat_lit 581, { cls := Value.type "tuple", data := Data.seq #[] }) ::
  (nat_lit 583, { cls := Value.type "code", data := Data.fields #[Value.str (Str.ofString "copy_last") 986, Value.str (Str.ofString "copy_last") 987, Value.str (Str.ofString "/claim/cut.py") 988, Value.int 371 0, Value.int 2 0, Value.int 0 0, Value.int 0 0, Value.int 3 0, Value.ref 578, Value.bool Bool.true, Value.int 181 0, Value.ref 579, Value.none, Value.ref 580, Value.ref 581, Value.ref 582, Value.int 991 0, Value.int 371 0, Value.str (Str.ofString "/claim/cut.py") 992] }) ::
  (nat_lit 584, fo (Str.ofString "copy_last") (Str.ofString "copy_last") (Value.none) (Value.str (Str.ofString "termcore.copymode") 850) 583 (st := (tS 50)) rfl) ::
  (nat_lit 697, { cls := Value.type "tuple", data := Data.seq #[] }) ::
  (nat_lit 699, { cls := Value.type "tuple", data := Data.seq #[Value.str (Str.ofString "row_of") 1166, Value.str (Str.ofString "act") 1167] }) ::
  (nat_lit 700, { cls := Value.type "tuple", data := Data.seq #[Value.str (Str.ofString "row_of") 1168] }) ::
  (nat_lit 702, { cls := Value.type "code", data := Data.fields #[Value.str (Str.ofString "copy_shown") 1163, Value.str (Str.ofString "copy_shown") 1164, Value.str (Str.ofString "/claim/cut.py") 1165, Value.int 488 0, Value.int 1 0, Value.int 0 0, Value.int 0 0, Value.int 3 0, Value.ref 697, Value.bool Bool.true, Value.int 181 0, Value.ref 698, Value.none, Value.ref 699, Value.ref 700, Value.ref 701, Value.int 1169 0, Value.int 488 0, Value.str (Str.ofString "/claim/cut.py") 1170] }) ::
  (nat_lit 703, fo (Str.ofString "copy_shown") (Str.ofString "copy_shown") (Value.none) (Value.str (Str.ofString "termcore.copymode") 850) 702 (st := (tS 67)) rfl) ::
  (nat_lit 704, { cls := Value.type "tuple", data := Data.seq #[] }) ::
  (nat_lit 706, { cls := Value.type "tuple", data := Data.seq #[Value.str (Str.ofString "mode") 1175, Value.str (Str.ofString "argument") 1176] }) ::
  (nat_lit 707, { cls := Value.type "tuple", data := Data.seq #[] }) ::
  (nat_lit 709, { cls := Value.type "code", data := Data.fields #[Value.str (Str.ofString "copy_history_top") 1172, Value.str (Str.ofString "copy_history_top") 1173, Value.str (Str.ofString "/claim/cut.py") 1174, Value.int 494 0, Value.int 2 0, Value.int 0 0, Value.int 0 0, Value.int 3 0, Value.ref 704, Value.bool Bool.true, Value.int 181 0, Value.ref 705, Value.none, Value.ref 706, Value.ref 707, Value.ref 708, Value.int 1177 0, Value.int 494 0, Value.str (Str.ofString "/claim/cut.py") 1178] }) ::
  (nat_lit 710, fo (Str.ofString "copy_history_top") (Str.ofString "copy_history_top") (Value.none) (Value.str (Str.ofString "termcore.copymode") 850) 709 (st := (tS 68)) rfl) ::
  (nat_lit 711, { cls := Value.type "tuple", data := Data.seq #[] }) ::
  (nat_lit 713, { cls := Value.type "tuple", data := Data.seq #[Value.str (Str.ofString "mode") 1183, Value.str (Str.ofString "argument") 1184, Value.str (Str.ofString "last") 1185] }) ::
  (nat_lit 714, { cls := Value.type "tuple", data := Data.seq #[] }) ::
  (nat_lit 716, { cls := Value.type "code", data := Data.fields #[Value.str (Str.ofString "copy_history_bottom") 1180, Value.str (Str.ofString "copy_history_bottom") 1181, Value.str (Str.ofString "/claim/cut.py") 1182, Value.int 496 0, Value.int 2 0, Value.int 0 0, Value.int 0 0, Value.int 3 0, Value.ref 711, Value.bool Bool.true, Value.int 181 0, Value.ref 712, Value.none, Value.ref 713, Value.ref 714, Value.ref 715, Value.int 1186 0, Value.int 496 0, Value.str (Str.ofString "/claim/cut.py") 1187] }) ::
  (nat_lit 717, fo (Str.ofString "copy_history_bottom") (Str.ofString "copy_history_bottom") (Value.none) (Value.str (Str.ofString "termcore.copymode") 850) 716 (st := (tS 69)) rfl) ::
  (nat_lit 725, { cls := Value.type "tuple", data := Data.seq #[] }) ::
  (nat_lit 727, { cls := Value.type "tuple", data := Data.seq #[Value.str (Str.ofString "share") 1202, Value.str (Str.ofString "sign") 1203, Value.str (Str.ofString "act") 1204] }) ::
  (nat_lit 728, { cls := Value.type "tuple", data := Data.seq #[Value.str (Str.ofString "share") 1205, Value.str (Str.ofString "sign") 1206] }) ::
  (nat_lit 730, { cls := Value.type "code", data := Data.fields #[Value.str (Str.ofString "copy_page") 1199, Value.str (Str.ofString "copy_page") 1200, Value.str (Str.ofString "/claim/cut.py") 1201, Value.int 507 0, Value.int 2 0, Value.int 0 0, Value.int 0 0, Value.int 3 0, Value.ref 725, Value.bool Bool.true, Value.int 181 0, Value.ref 726, Value.none, Value.ref 727, Value.ref 728, Value.ref 729, Value.int 1207 0, Value.int 507 0, Value.str (Str.ofString "/claim/cut.py") 1208] }) ::
  (nat_lit 731, fo (Str.ofString "copy_page") (Str.ofString "copy_page") (Value.none) (Value.str (Str.ofString "termcore.copymode") 850) 730 (st := (tS 71)) rfl) ::
  (nat_lit 732, { cls := Value.type "tuple", data := Data.seq #[] }) ::
  (nat_lit 734, { cls := Value.type "tuple", data := Data.seq #[Value.str (Str.ofString "sign") 1213, Value.str (Str.ofString "act") 1214] }) ::
  (nat_lit 735, { cls := Value.type "tuple", data := Data.seq #[Value.str (Str.ofString "sign") 1215] }) ::
  (nat_lit 737, { cls := Value.type "code", data := Data.fields #[Value.str (Str.ofString "copy_scroll") 1210, Value.str (Str.ofString "copy_scroll") 1211, Value.str (Str.ofString "/claim/cut.py") 1212, Value.int 513 0, Value.int 1 0, Value.int 0 0, Value.int 0 0, Value.int 3 0, Value.ref 732, Value.bool Bool.true, Value.int 181 0, Value.ref 733, Value.none, Value.ref 734, Value.ref 735, Value.ref 736, Value.int 1216 0, Value.int 513 0, Value.str (Str.ofString "/claim/cut.py") 1217] }) ::
  (nat_lit 738, fo (Str.ofString "copy_scroll") (Str.ofString "copy_scroll") (Value.none) (Value.str (Str.ofString "termcore.copymode") 850) 737 (st := (tS 72)) rfl) ::
  (nat_lit 739, { cls := Value.type "tuple", data := Data.seq #[] }) ::
  (nat_lit 741, { cls := Value.type "tuple", data := Data.seq #[Value.str (Str.ofString "move") 1222, Value.str (Str.ofString "is_bare") 1223, Value.str (Str.ofString "act") 1224] }) ::
  (nat_lit 742, { cls := Value.type "tuple", data := Data.seq #[Value.str (Str.ofString "move") 1225, Value.str (Str.ofString "is_bare") 1226] }) ::
  (nat_lit 744, { cls := Value.type "code", data := Data.fields #[Value.str (Str.ofString "copy_by_word") 1219, Value.str (Str.ofString "copy_by_word") 1220, Value.str (Str.ofString "/claim/cut.py") 1221, Value.int 521 0, Value.int 2 0, Value.int 0 0, Value.int 0 0, Value.int 3 0, Value.ref 739, Value.bool Bool.true, Value.int 181 0, Value.ref 740, Value.none, Value.ref 741, Value.ref 742, Value.ref 743, Value.int 1227 0, Value.int 521 0, Value.str (Str.ofString "/claim/cut.py") 1228] }) ::
  (nat_lit 745, fo (Str.ofString "copy_by_word") (Str.ofString "copy_by_word") (Value.none) (Value.str (Str.ofString "termcore.copymode") 850) 744 (st := (tS 73)) rfl) ::
  (nat_lit 753, { cls := Value.type "tuple", data := Data.seq #[] }) ::
  (nat_lit 755, { cls := Value.type "tuple", data := Data.seq #[Value.str (Str.ofString "step") 1242, Value.str (Str.ofString "act") 1243] }) ::
  (nat_lit 756, { cls := Value.type "tuple", data := Data.seq #[Value.str (Str.ofString "step") 1244] }) ::
  (nat_lit 758, { cls := Value.type "code", data := Data.fields #[Value.str (Str.ofString "copy_paragraph") 1239, Value.str (Str.ofString "copy_paragraph") 1240, Value.str (Str.ofString "/claim/cut.py") 1241, Value.int 530 0, Value.int 1 0, Value.int 0 0, Value.int 0 0, Value.int 3 0, Value.ref 753, Value.bool Bool.true, Value.int 181 0, Value.ref 754, Value.none, Value.ref 755, Value.ref 756, Value.ref 757, Value.int 1245 0, Value.int 530 0, Value.str (Str.ofString "/claim/cut.py") 1246] }) ::
  (nat_lit 759, fo (Str.ofString "copy_paragraph") (Str.ofString "copy_paragraph") (Value.none) (Value.str (Str.ofString "termcore.copymode") 850) 758 (st := (tS 75)) rfl) ::
  (nat_lit 760, { cls := Value.type "tuple", data := Data.seq #[] }) ::
  (nat_lit 762, { cls := Value.type "tuple", data := Data.seq #[Value.str (Str.ofString "mode") 1251, Value.str (Str.ofString "argument") 1252, Value.str (Str.ofString "above") 1253, Value.str (Str.ofString "row") 1254] }) ::
  (nat_lit 763, { cls := Value.type "tuple", data := Data.seq #[] }) ::
  (nat_lit 765, { cls := Value.type "code", data := Data.fields #[Value.str (Str.ofString "copy_goto") 1248, Value.str (Str.ofString "copy_goto") 1249, Value.str (Str.ofString "/claim/cut.py") 1250, Value.int 535 0, Value.int 2 0, Value.int 0 0, Value.int 0 0, Value.int 3 0, Value.ref 760, Value.bool Bool.true, Value.int 181 0, Value.ref 761, Value.none, Value.ref 762, Value.ref 763, Value.ref 764, Value.int 1255 0, Value.int 535 0, Value.str (Str.ofString "/claim/cut.py") 1256] }) ::
  (nat_lit 766, fo (Str.ofString "copy_goto") (Str.ofString "copy_goto") (Value.none) (Value.str (Str.ofString "termcore.copymode") 850) 765 (st := (tS 76)) rfl) ::
  (nat_lit 767, { cls := Value.type "tuple", data := Data.seq #[] }) ::
  (nat_lit 769, { cls := Value.type "tuple", data := Data.seq #[Value.str (Str.ofString "is_back") 1261, Value.str (Str.ofString "is_near") 1262, Value.str (Str.ofString "act") 1263] }) ::
  (nat_lit 770, { cls := Value.type "tuple", data := Data.seq #[Value.str (Str.ofString "is_back") 1264, Value.str (Str.ofString "is_near") 1265] }) ::
  (nat_lit 772, { cls := Value.type "code", data := Data.fields #[Value.str (Str.ofString "copy_jump") 1258, Value.str (Str.ofString "copy_jump") 1259, Value.str (Str.ofString "/claim/cut.py") 1260, Value.int 540 0, Value.int 2 0, Value.int 0 0, Value.int 0 0, Value.int 3 0, Value.ref 767, Value.bool Bool.true, Value.int 181 0, Value.ref 768, Value.none, Value.ref 769, Value.ref 770, Value.ref 771, Value.int 1266 0, Value.int 540 0, Value.str (Str.ofString "/claim/cut.py") 1267] }) ::
  (nat_lit 773, fo (Str.ofString "copy_jump") (Str.ofString "copy_jump") (Value.none) (Value.str (Str.ofString "termcore.copymode") 850) 772 (st := (tS 77)) rfl) ::
  (nat_lit 795, { cls := Value.type "tuple", data := Data.seq #[] }) ::
  (nat_lit 797, { cls := Value.type "tuple", data := Data.seq #[Value.str (Str.ofString "is_back") 1297, Value.str (Str.ofString "act") 1298] }) ::
  (nat_lit 798, { cls := Value.type "tuple", data := Data.seq #[Value.str (Str.ofString "is_back") 1299] }) ::
  (nat_lit 800, { cls := Value.type "code", data := Data.fields #[Value.str (Str.ofString "copy_search") 1294, Value.str (Str.ofString "copy_search") 1295, Value.str (Str.ofString "/claim/cut.py") 1296, Value.int 555 0, Value.int 1 0, Value.int 0 0, Value.int 0 0, Value.int 3 0, Value.ref 795, Value.bool Bool.true, Value.int 181 0, Value.ref 796, Value.none, Value.ref 797, Value.ref 798, Value.ref 799, Value.int 1300 0, Value.int 555 0, Value.str (Str.ofString "/claim/cut.py") 1301] }) ::
  (nat_lit 801, fo (Str.ofString "copy_search") (Str.ofString "copy_search") (Value.none) (Value.str (Str.ofString "termcore.copymode") 850) 800 (st := (tS 81)) rfl) ::
  (nat_lit 835, { cls := Value.type "tuple", data := Data.seq #[] }) ::
  (nat_lit 837, { cls := Value.type "tuple", data := Data.seq #[Value.str (Str.ofString "kind") 1345, Value.str (Str.ofString "act") 1346] }) ::
  (nat_lit 838, { cls := Value.type "tuple", data := Data.seq #[Value.str (Str.ofString "kind") 1347] }) ::
  (nat_lit 840, { cls := Value.type "code", data := Data.fields #[Value.str (Str.ofString "copy_begin") 1342, Value.str (Str.ofString "copy_begin") 1343, Value.str (Str.ofString "/claim/cut.py") 1344, Value.int 583 0, Value.int 1 0, Value.int 0 0, Value.int 0 0, Value.int 3 0, Value.ref 835, Value.bool Bool.true, Value.int 181 0, Value.ref 836, Value.none, Value.ref 837, Value.ref 838, Value.ref 839, Value.int 1348 0, Value.int 583 0, Value.str (Str.ofString "/claim/cut.py") 1349] }) ::
  (nat_lit 841, fo (Str.ofString "copy_begin") (Str.ofString "copy_begin") (Value.none) (Value.str (Str.ofString "termcore.copymode") 850) 840 (st := (tS 87)) rfl) ::
  (nat_lit 870, { cls := Value.type "tuple", data := Data.seq #[] }) ::
  (nat_lit 872, { cls := Value.type "tuple", data := Data.seq #[Value.str (Str.ofString "is_ending") 1386, Value.str (Str.ofString "act") 1387] }) ::
  (nat_lit 873, { cls := Value.type "tuple", data := Data.seq #[Value.str (Str.ofString "is_ending") 1388] }) ::
  (nat_lit 875, { cls := Value.type "code", data := Data.fields #[Value.str (Str.ofString "copy_take") 1383, Value.str (Str.ofString "copy_take") 1384, Value.str (Str.ofString "/claim/cut.py") 1385, Value.int 601 0, Value.int 1 0, Value.int 0 0, Value.int 0 0, Value.int 3 0, Value.ref 870, Value.bool Bool.true, Value.int 181 0, Value.ref 871, Value.none, Value.ref 872, Value.ref 873, Value.ref 874, Value.int 1389 0, Value.int 601 0, Value.str (Str.ofString "/claim/cut.py") 1390] }) ::
  (nat_lit 876, fo (Str.ofString "copy_take") (Str.ofString "copy_take") (Value.none) (Value.str (Str.ofString "termcore.copymode") 850) 875 (st := (tS 92)) rfl) ::
  (nat_lit 877, { cls := Value.type "tuple", data := Data.seq #[] }) ::
  (nat_lit 879, { cls := Value.type "tuple", data := Data.seq #[Value.str (Str.ofString "is_back") 1395, Value.str (Str.ofString "act") 1396] }) ::
  (nat_lit 880, { cls := Value.type "tuple", data := Data.seq #[Value.str (Str.ofString "is_back") 1397] }) ::
  (nat_lit 882, { cls := Value.type "code", data := Data.fields #[Value.str (Str.ofString "copy_search_word") 1392, Value.str (Str.ofString "copy_search_word") 1393, Value.str (Str.ofString "/claim/cut.py") 1394, Value.int 611 0, Value.int 1 0, Value.int 0 0, Value.int 0 0, Value.int 3 0, Value.ref 877, Value.bool Bool.true, Value.int 181 0, Value.ref 878, Value.none, Value.ref 879, Value.ref 880, Value.ref 881, Value.int 1398 0, Value.int 611 0, Value.str (Str.ofString "/claim/cut.py") 1399] }) ::
  (nat_lit 883, fo (Str.ofString "copy_search_word") (Str.ofString "copy_search_word") (Value.none) (Value.str (Str.ofString "termcore.copymode") 850) 882 (st := (tS 93)) rfl) ::
  (nat_lit 884, { cls := Value.type "tuple", data := Data.seq #[] }) ::
  (nat_lit 886, { cls := Value.type "tuple", data := Data.seq #[Value.str (Str.ofString "found") 1404, Value.str (Str.ofString "name") 1405, Value.str (Str.ofString "act") 1406, Value.str (Str.ofString "is_back") 1407, Value.str (Str.ofString "is_near") 1408] }) ::
  (nat_lit 887, { cls := Value.type "tuple", data := Data.seq #[] }) ::
  (nat_lit 889, { cls := Value.type "code", data := Data.fields #[Value.str (Str.ofString "copy_commands") 1401, Value.str (Str.ofString "copy_commands") 1402, Value.str (Str.ofString "/claim/cut.py") 1403, Value.int 620 0, Value.int 0 0, Value.int 0 0, Value.int 0 0, Value.int 3 0, Value.ref 884, Value.bool Bool.true, Value.int 181 0, Value.ref 885, Value.none, Value.ref 886, Value.ref 887, Value.ref 888, Value.int 1409 0, Value.int 620 0, Value.str (Str.ofString "/claim/cut.py") 1410] }) ::
  (nat_lit 890, fo (Str.ofString "copy_commands") (Str.ofString "copy_commands") (Value.none) (Value.str (Str.ofString "termcore.copymode") 850) 889 (st := (tS 94)) rfl) ::
  (nat_lit 891, { cls := Value.type "tuple", data := Data.seq #[] }) ::
  (nat_lit 893, { cls := Value.type "tuple", data := Data.seq #[] }) ::
  (nat_lit 894, { cls := Value.type "tuple", data := Data.seq #[] }) ::
  (nat_lit 896, { cls := Value.type "code", data := Data.fields #[Value.str (Str.ofString "copy_plain_moves") 1412, Value.str (Str.ofString "copy_plain_moves") 1413, Value.str (Str.ofString "/claim/cut.py") 1414, Value.int 630 0, Value.int 0 0, Value.int 0 0, Value.int 0 0, Value.int 3 0, Value.ref 891, Value.bool Bool.true, Value.int 181 0, Value.ref 892, Value.none, Value.ref 893, Value.ref 894, Value.ref 895, Value.int 1415 0, Value.int 630 0, Value.str (Str.ofString "/claim/cut.py") 1416] }) ::
  (nat_lit 897, fo (Str.ofString "copy_plain_moves") (Str.ofString "copy_plain_moves") (Value.none) (Value.str (Str.ofString "termcore.copymode") 850) 896 (st := (tS 95)) rfl) ::
  (nat_lit 898, { cls := Value.type "tuple", data := Data.seq #[] }) ::
  (nat_lit 900, { cls := Value.type "tuple", data := Data.seq #[] }) ::
  (nat_lit 901, { cls := Value.type "tuple", data := Data.seq #[] }) ::
  (nat_lit 903, { cls := Value.type "code", data := Data.fields #[Value.str (Str.ofString "copy_far_moves") 1418, Value.str (Str.ofString "copy_far_moves") 1419, Value.str (Str.ofString "/claim/cut.py") 1420, Value.int 632 0, Value.int 0 0, Value.int 0 0, Value.int 0 0, Value.int 3 0, Value.ref 898, Value.bool Bool.true, Value.int 181 0, Value.ref 899, Value.none, Value.ref 900, Value.ref 901, Value.ref 902, Value.int 1421 0, Value.int 632 0, Value.str (Str.ofString "/claim/cut.py") 1422] }) ::
  (nat_lit 904, fo (Str.ofString "copy_far_moves") (Str.ofString "copy_far_moves") (Value.none) (Value.str (Str.ofString "termcore.copymode") 850) 903 (st := (tS 96)) rfl) ::
  (nat_lit 905, { cls := Value.type "tuple", data := Data.seq #[] }) ::
  (nat_lit 907, { cls := Value.type "tuple", data := Data.seq #[] }) ::
  (nat_lit 908, { cls := Value.type "tuple", data := Data.seq #[] }) ::
  (nat_lit 910, { cls := Value.type "code", data := Data.fields #[Value.str (Str.ofString "copy_choices") 1424, Value.str (Str.ofString "copy_choices") 1425, Value.str (Str.ofString "/claim/cut.py") 1426, Value.int 637 0, Value.int 0 0, Value.int 0 0, Value.int 0 0, Value.int 3 0, Value.ref 905, Value.bool Bool.true, Value.int 181 0, Value.ref 906, Value.none, Value.ref 907, Value.ref 908, Value.ref 909, Value.int 1427 0, Value.int 637 0, Value.str (Str.ofString "/claim/cut.py") 1428] }) ::
  (nat_lit 911, fo (Str.ofString "copy_choices") (Str.ofString "copy_choices") (Value.none) (Value.str (Str.ofString "termcore.copymode") 850) 910 (st := (tS 97)) rfl) ::
  (nat_lit 919, { cls := Value.type "tuple", data := Data.seq #[] }) ::
  (nat_lit 922, { cls := Value.type "code", data := Data.fields #[Value.str (Str.ofString "__init__") 1444, Value.str (Str.ofString "Grid.__init__") 1445, Value.str (Str.ofString "/claim/cut.py") 1446, Value.int 642 0, Value.int 3 0, Value.int 0 0, Value.int 0 0, Value.int 3 0, Value.ref 919, Value.bool Bool.true, Value.int 181 0, Value.ref 920, Value.none, Value.none, Value.none, Value.ref 921, Value.int 1447 0, Value.int 642 0, Value.str (Str.ofString "/claim/cut.py") 1448] }) ::
  (nat_lit 923, fo (Str.ofString "__init__") (Str.ofString "Grid.__init__") (Value.none) (Value.str (Str.ofString "termcore.grid") 1430) 922 (st := (tM 99 0)) rfl) ::
  (nat_lit 1054, { cls := Value.type "tuple", data := Data.seq #[Value.str (Str.ofString "columns") 1617, Value.str (Str.ofString "lines") 1618, Value.str (Str.ofString "rows") 1619] }) ::
  (nat_lit 1055, { cls := Value.type "dict", data := Data.dict #[{ hash := PyData.keyHash P (Str.ofString "__module__"), key := Value.str (Str.ofString "__module__") 1439, val := Value.str (Str.ofString "termcore.grid") 1430 }, { hash := PyData.keyHash P (Str.ofString "__firstlineno__"), key := Value.str (Str.ofString "__firstlineno__") 1443, val := Value.int 640 1442 }, { hash := PyData.keyHash P (Str.ofString "__init__"), key := Value.str (Str.ofString "__init__") 1449, val := Value.ref 923 }, { hash := PyData.keyHash P (Str.ofString "line"), key := Value.str (Str.ofString "line") 1457, val := Value.ref 930 }, { hash := PyData.keyHash P (Str.ofString "whole_area"), key := Value.str (Str.ofString "whole_area") 1464, val := Value.ref 937 }, { hash := PyData.keyHash P (Str.ofString "is_wide"), key := Value.str (Str.ofString "is_wide") 1472, val := Value.ref 944 }, { hash := PyData.keyHash P (Str.ofString "fresh"), key := Value.str (Str.ofString "fresh") 1481, val := Value.ref 951 }, { hash := PyData.keyHash P (Str.ofString "part_above"), key := Value.str (Str.ofString "part_above") 1489, val := Value.ref 958 }, { hash := PyData.keyHash P (Str.ofString "scroll_up"), key := Value.str (Str.ofString "scroll_up") 1499, val := Value.ref 965 }, { hash := PyData.keyHash P (Str.ofString "scroll_down"), key := Value.str (Str.ofString "scroll_down") 1509, val := Value.ref 972 }, { hash := PyData.keyHash P (Str.ofString "unwrap"), key := Value.str (Str.ofString "unwrap") 1517, val := Value.ref 979 }, { hash := PyData.keyHash P (Str.ofString "insert_columns"), key := Value.str (Str.ofString "insert_columns") 1528, val := Value.ref 986 }, { hash := PyData.keyHash P (Str.ofString "delete_columns"), key := Value.str (Str.ofString "delete_columns") 1539, val := Value.ref 993 }, { hash := PyData.keyHash P (Str.ofString "cells_of"), key := Value.str (Str.ofString "cells_of") 1549, val := Value.ref 1000 }, { hash := PyData.keyHash P (Str.ofString "put_cells"), key := Value.str (Str.ofString "put_cells") 1559, val := Value.ref 1007 }, { hash := PyData.keyHash P (Str.ofString "erase_area"), key := Value.str (Str.ofString "erase_area") 1569, val := Value.ref 1015 }, { hash := PyData.keyHash P (Str.ofString "fill_area"), key := Value.str (Str.ofString "fill_area") 1578, val := Value.ref 1022 }, { hash := PyData.keyHash P (Str.ofString "copy_area"), key := Value.str (Str.ofString "copy_area") 1588, val := Value.ref 1029 }, { hash := PyData.keyHash P (Str.ofString "cells_in"), key := Value.str (Str.ofString "cells_in") 1596, val := Value.ref 1036 }, { hash := PyData.keyHash P (Str.ofString "copy"), key := Value.str (Str.ofString "copy") 1602, val := Value.ref 1041 }, { hash := PyData.keyHash P (Str.ofString "equals"), key := Value.str (Str.ofString "equals") 1610, val := Value.ref 1048 }, { hash := PyData.keyHash P (Str.ofString "text"), key := Value.str (Str.ofString "text") 1616, val := Value.ref 1053 }, { hash := PyData.keyHash P (Str.ofString "__static_attributes__"), key := Value.str (Str.ofString "__static_attributes__") 1620, val := Value.ref 1054 }, { hash := PyData.keyHash P (Str.ofString "__dict__"), key := Value.str (Str.ofString "__dict__") 1622, val := Value.ref 1057 }, { hash := PyData.keyHash P (Str.ofString "__weakref__"), key := Value.str (Str.ofString "__weakref__") 1624, val := Value.ref 1058 }, { hash := PyData.keyHash P (Str.ofString "__doc__"), key := Value.str (Str.ofString "__doc__") 1625, val := Value.none }] 4 }) ::
  (nat_lit 1056, { cls := Value.type "type", data := Data.cls { name := Str.ofString "Grid", bases := [Value.type "object"], mro := [Value.ref 1056, Value.type "object"], ns := 1055, qualname := Str.ofString "Grid" }, slots := #[Option.none, Option.none, Option.some (Value.str (Str.ofString "Grid") 1432), Option.some (Value.str (Str.ofString "Grid") 1440), Option.some (Value.builtin "object.__new__"), Option.some (Value.bool Bool.true)] }) ::
  (nat_lit 1057, { cls := Value.type "getset_descriptor", data := Data.fields #[Value.str (Str.ofString "__dict__") 1621, Value.ref 1056, Value.builtin "function.__dict__", Value.builtin "function.__dict__#set"] }) ::
  (nat_lit 1058, { cls := Value.type "getset_descriptor", data := Data.fields #[Value.str (Str.ofString "__weakref__") 1623, Value.ref 1056, Value.builtin "ExceptionGroup.__weakref__", Value.none] }) ::
  (nat_lit 1068, { cls := Value.type "tuple", data := Data.seq #[] }) ::
  (nat_lit 1070, { cls := Value.type "tuple", data := Data.seq #[Value.str (Str.ofString "self") 1645, Value.str (Str.ofString "most") 1646] }) ::
  (nat_lit 1071, { cls := Value.type "tuple", data := Data.seq #[] }) ::
  (nat_lit 1073, { cls := Value.type "code", data := Data.fields #[Value.str (Str.ofString "__init__") 1642, Value.str (Str.ofString "History.__init__") 1643, Value.str (Str.ofString "/claim/cut.py") 1644, Value.int 710 0, Value.int 2 0, Value.int 0 0, Value.int 0 0, Value.int 3 0, Value.ref 1068, Value.bool Bool.true, Value.int 181 0, Value.ref 1069, Value.none, Value.ref 1070, Value.ref 1071, Value.ref 1072, Value.int 1647 0, Value.int 710 0, Value.str (Str.ofString "/claim/cut.py") 1648] }) ::
  (nat_lit 1074, fo (Str.ofString "__init__") (Str.ofString "History.__init__") (Value.none) (Value.str (Str.ofString "termcore.reflow") 1628) 1073 (st := (tM 101 0)) rfl) ::
  (nat_lit 1082, { cls := Value.type "tuple", data := Data.seq #[] }) ::
  (nat_lit 1084, { cls := Value.type "tuple", data := Data.seq #[Value.str (Str.ofString "self") 1660, Value.str (Str.ofString "line") 1661] }) ::
  (nat_lit 1085, { cls := Value.type "tuple", data := Data.seq #[] }) ::
  (nat_lit 1087, { cls := Value.type "code", data := Data.fields #[Value.str (Str.ofString "push") 1657, Value.str (Str.ofString "History.push") 1658, Value.str (Str.ofString "/claim/cut.py") 1659, Value.int 718 0, Value.int 2 0, Value.int 0 0, Value.int 0 0, Value.int 3 0, Value.ref 1082, Value.bool Bool.true, Value.int 181 0, Value.ref 1083, Value.none, Value.ref 1084, Value.ref 1085, Value.ref 1086, Value.int 1662 0, Value.int 718 0, Value.str (Str.ofString "/claim/cut.py") 1663] }) ::
  (nat_lit 1088, fo (Str.ofString "push") (Str.ofString "History.push") (Value.none) (Value.str (Str.ofString "termcore.reflow") 1628) 1087 (st := (tM 101 2)) rfl) ::
  (nat_lit 1122, { cls := Value.type "tuple", data := Data.seq #[Value.str (Str.ofString "gone") 1701, Value.str (Str.ofString "lines") 1702, Value.str (Str.ofString "most") 1703] }) ::
  (nat_lit 1123, { cls := Value.type "dict", data := Data.dict #[{ hash := PyData.keyHash P (Str.ofString "__module__"), key := Value.str (Str.ofString "__module__") 1637, val := Value.str (Str.ofString "termcore.reflow") 1628 }, { hash := PyData.keyHash P (Str.ofString "__firstlineno__"), key := Value.str (Str.ofString "__firstlineno__") 1641, val := Value.int 708 1640 }, { hash := PyData.keyHash P (Str.ofString "__init__"), key := Value.str (Str.ofString "__init__") 1649, val := Value.ref 1074 }, { hash := PyData.keyHash P (Str.ofString "many"), key := Value.str (Str.ofString "many") 1656, val := Value.ref 1081 }, { hash := PyData.keyHash P (Str.ofString "push"), key := Value.str (Str.ofString "push") 1664, val := Value.ref 1088 }, { hash := PyData.keyHash P (Str.ofString "pop"), key := Value.str (Str.ofString "pop") 1671, val := Value.ref 1095 }, { hash := PyData.keyHash P (Str.ofString "clear"), key := Value.str (Str.ofString "clear") 1678, val := Value.ref 1102 }, { hash := PyData.keyHash P (Str.ofString "trimmed"), key := Value.str (Str.ofString "trimmed") 1686, val := Value.ref 1109 }, { hash := PyData.keyHash P (Str.ofString "copy"), key := Value.str (Str.ofString "copy") 1692, val := Value.ref 1114 }, { hash := PyData.keyHash P (Str.ofString "equals"), key := Value.str (Str.ofString "equals") 1700, val := Value.ref 1121 }, { hash := PyData.keyHash P (Str.ofString "__static_attributes__"), key := Value.str (Str.ofString "__static_attributes__") 1704, val := Value.ref 1122 }, { hash := PyData.keyHash P (Str.ofString "__dict__"), key := Value.str (Str.ofString "__dict__") 1706, val := Value.ref 1125 }, { hash := PyData.keyHash P (Str.ofString "__weakref__"), key := Value.str (Str.ofString "__weakref__") 1708, val := Value.ref 1126 }, { hash := PyData.keyHash P (Str.ofString "__doc__"), key := Value.str (Str.ofString "__doc__") 1709, val := Value.none }] 4 }) ::
  (nat_lit 1124, { cls := Value.type "type", data := Data.cls { name := Str.ofString "History", bases := [Value.type "object"], mro := [Value.ref 1124, Value.type "object"], ns := 1123, qualname := Str.ofString "History" }, slots := #[Option.none, Option.none, Option.some (Value.str (Str.ofString "History") 1630), Option.some (Value.str (Str.ofString "History") 1638), Option.some (Value.builtin "object.__new__"), Option.some (Value.bool Bool.true)] }) ::
  (nat_lit 1125, { cls := Value.type "getset_descriptor", data := Data.fields #[Value.str (Str.ofString "__dict__") 1705, Value.ref 1124, Value.builtin "function.__dict__", Value.builtin "function.__dict__#set"] }) ::
  (nat_lit 1126, { cls := Value.type "getset_descriptor", data := Data.fields #[Value.str (Str.ofString "__weakref__") 1707, Value.ref 1124, Value.builtin "ExceptionGroup.__weakref__", Value.none] }) ::
  (nat_lit 1129, { cls := Value.type "tuple", data := Data.seq #[] }) ::
  (nat_lit 1132, { cls := Value.type "code", data := Data.fields #[Value.str (Str.ofString "_law_deck") 1714, Value.str (Str.ofString "_law_deck") 1715, Value.str (Str.ofString "/claim/cut.py") 1716, Value.int 743 0, Value.int 1 0, Value.int 0 0, Value.int 0 0, Value.int 3 0, Value.ref 1129, Value.bool Bool.true, Value.int 181 0, Value.ref 1130, Value.none, Value.none, Value.none, Value.ref 1131, Value.int 1717 0, Value.int 743 0, Value.str (Str.ofString "/claim/cut.py") 1718] }) ::
  (nat_lit 1133, fo (Str.ofString "_law_deck") (Str.ofString "_law_deck") (Value.none) (Value.str (Str.ofString "law_og0290_01") 1712) 1132 (st := (tS 103)) rfl) ::
  (nat_lit 1134, { cls := Value.type "tuple", data := Data.seq #[] }) ::
  (nat_lit 1136, { cls := Value.type "tuple", data := Data.seq #[Value.str (Str.ofString "deck") 1723, Value.str (Str.ofString "many") 1724] }) ::
  (nat_lit 1137, { cls := Value.type "tuple", data := Data.seq #[] }) ::
  (nat_lit 1139, { cls := Value.type "code", data := Data.fields #[Value.str (Str.ofString "_law_draw") 1720, Value.str (Str.ofString "_law_draw") 1721, Value.str (Str.ofString "/claim/cut.py") 1722, Value.int 748 0, Value.int 2 0, Value.int 0 0, Value.int 0 0, Value.int 3 0, Value.ref 1134, Value.bool Bool.true, Value.int 181 0, Value.ref 1135, Value.none, Value.ref 1136, Value.ref 1137, Value.ref 1138, Value.int 1725 0, Value.int 748 0, Value.str (Str.ofString "/claim/cut.py") 1726] }) ::
  (nat_lit 1140, fo (Str.ofString "_law_draw") (Str.ofString "_law_draw") (Value.none) (Value.str (Str.ofString "law_og0290_01") 1712) 1139 (st := (tS 104)) rfl) ::
  (nat_lit 1141, { cls := Value.type "tuple", data := Data.seq #[] }) ::
  (nat_lit 1143, { cls := Value.type "tuple", data := Data.seq #[Value.str (Str.ofString "number") 1731] }) ::
  (nat_lit 1144, { cls := Value.type "tuple", data := Data.seq #[] }) ::
  (nat_lit 1146, { cls := Value.type "code", data := Data.fields #[Value.str (Str.ofString "_law_cell") 1728, Value.str (Str.ofString "_law_cell") 1729, Value.str (Str.ofString "/claim/cut.py") 1730, Value.int 753 0, Value.int 1 0, Value.int 0 0, Value.int 0 0, Value.int 3 0, Value.ref 1141, Value.bool Bool.true, Value.int 181 0, Value.ref 1142, Value.none, Value.ref 1143, Value.ref 1144, Value.ref 1145, Value.int 1732 0, Value.int 753 0, Value.str (Str.ofString "/claim/cut.py") 1733] }) ::
  (nat_lit 1147, fo (Str.ofString "_law_cell") (Str.ofString "_law_cell") (Value.none) (Value.str (Str.ofString "law_og0290_01") 1712) 1146 (st := (tS 105)) rfl) ::
  (nat_lit 1148, { cls := Value.type "tuple", data := Data.seq #[] }) ::
  (nat_lit 1150, { cls := Value.type "tuple", data := Data.seq #[Value.str (Str.ofString "mode") 1738, Value.str (Str.ofString "above") 1739, Value.str (Str.ofString "many") 1740, Value.str (Str.ofString "rows") 1741, Value.str (Str.ofString "row") 1742, Value.str (Str.ofString "line") 1743] }) ::
  (nat_lit 1151, { cls := Value.type "tuple", data := Data.seq #[] }) ::
  (nat_lit 1153, { cls := Value.type "code", data := Data.fields #[Value.str (Str.ofString "_law_shown_right") 1735, Value.str (Str.ofString "_law_shown_right") 1736, Value.str (Str.ofString "/claim/cut.py") 1737, Value.int 755 0, Value.int 4 0, Value.int 0 0, Value.int 0 0, Value.int 3 0, Value.ref 1148, Value.bool Bool.true, Value.int 181 0, Value.ref 1149, Value.none, Value.ref 1150, Value.ref 1151, Value.ref 1152, Value.int 1744 0, Value.int 755 0, Value.str (Str.ofString "/claim/cut.py") 1745] }) ::
  (nat_lit 1154, fo (Str.ofString "_law_shown_right") (Str.ofString "_law_shown_right") (Value.none) (Value.str (Str.ofString "law_og0290_01") 1712) 1153 (st := (tS 106)) rfl) ::
  (nat_lit 1155, { cls := Value.type "tuple", data := Data.seq #[] }) ::
  (nat_lit 1158, { cls := Value.type "code", data := Data.fields #[Value.str (Str.ofString "law") 1747, Value.str (Str.ofString "law") 1748, Value.str (Str.ofString "/claim/cut.py") 1749, Value.int 763 0, Value.int 1 0, Value.int 0 0, Value.int 0 0, Value.int 3 0, Value.ref 1155, Value.bool Bool.true, Value.int 181 0, Value.ref 1156, Value.none, Value.none, Value.none, Value.ref 1157, Value.int 1750 0, Value.int 763 0, Value.str (Str.ofString "/claim/cut.py") 1751] }) ::
  (nat_lit 1159, fo (Str.ofString "law") (Str.ofString "law") (Value.none) (Value.str (Str.ofString "law_og0290_01") 1712) 1158 (st := (tS 107)) rfl) :: []
noncomputable def hAs : List Addr := 2 :: 3 :: 22 :: 68 :: 70 :: 71 :: 73 :: 74 :: 75 :: 77 :: 78 :: 80 :: 81 :: 82 :: 84 :: 85 :: 87 :: 88 :: 89 :: 90 :: 92 :: 93 :: 95 :: 96 :: 104 :: 106 :: 107 :: 109 :: 110 :: 111 :: 113 :: 114 :: 116 :: 117 :: 118 :: 120 :: 121 :: 123 :: 124 :: 132 :: 134 :: 135 :: 137 :: 138 :: 146 :: 154 :: 156 :: 157 :: 159 :: 160 :: 161 :: 163 :: 164 :: 166 :: 167 :: 218 :: 219 :: 221 :: 222 :: 224 :: 225 :: 247 :: 248 :: 249 :: 250 :: 251 :: 254 :: 256 :: 257 :: 259 :: 260 :: 268 :: 270 :: 271 :: 273 :: 274 :: 275 :: 277 :: 278 :: 280 :: 281 :: 282 :: 284 :: 285 :: 287 :: 288 :: 289 :: 291 :: 292 :: 294 :: 295 :: 296 :: 298 :: 299 :: 301 :: 302 :: 317 :: 318 :: 319 :: 320 :: 321 :: 324 :: 326 :: 327 :: 329 :: 330 :: 345 :: 347 :: 348 :: 350 :: 351 :: 352 :: 354 :: 355 :: 357 :: 358 :: 498 :: 499 :: 501 :: 502 :: 504 :: 505 :: 506 :: 508 :: 509 :: 511 :: 512 :: 513 :: 514 :: 516 :: 517 :: 519 :: 520 :: 521 :: 523 :: 524 :: 526 :: 527 :: 535 :: 537 :: 538 :: 540 :: 541 :: 549 :: 551 :: 552 :: 554 :: 555 :: 556 :: 557 :: 559 :: 560 :: 562 :: 563 :: 564 :: 565 :: 566 :: 567 :: 568 :: 571 :: 573 :: 574 :: 576 :: 577 :: 578 :: 580 :: 581 :: 583 :: 584 :: 697 :: 699 :: 700 :: 702 :: 703 :: 704 :: 706 :: 707 :: 709 :: 710 :: 711 :: 713 :: 714 :: 716 :: 717 :: 725 :: 727 :: 728 :: 730 :: 731 :: 732 :: 734 :: 735 :: 737 :: 738 :: 739 :: 741 :: 742 :: 744 :: 745 :: 753 :: 755 :: 756 :: 758 :: 759 :: 760 :: 762 :: 763 :: 765 :: 766 :: 767 :: 769 :: 770 :: 772 :: 773 :: 795 :: 797 :: 798 :: 800 :: 801 :: 835 :: 837 :: 838 :: 840 :: 841 :: 870 :: 872 :: 873 :: 875 :: 876 :: 877 :: 879 :: 880 :: 882 :: 883 :: 884 :: 886 :: 887 :: 889 :: 890 :: 891 :: 893 :: 894 :: 896 :: 897 :: 898 :: 900 :: 901 :: 903 :: 904 :: 905 :: 907 :: 908 :: 910 :: 911 :: 919 :: 922 :: 923 :: 1054 :: 1055 :: 1056 :: 1057 :: 1058 :: 1068 :: 1070 :: 1071 :: 1073 :: 1074 :: 1082 :: 1084 :: 1085 :: 1087 :: 1088 :: 1122 :: 1123 :: 1124 :: 1125 :: 1126 :: 1129 :: 1132 :: 1133 :: 1134 :: 1136 :: 1137 :: 1139 :: 1140 :: 1141 :: 1143 :: 1144 :: 1146 :: 1147 :: 1148 :: 1150 :: 1151 :: 1153 :: 1154 :: 1155 :: 1158 :: 1159 :: []
noncomputable def hLoose : List Str := [Str.ofString "_wall", Str.ofString "NO_COLOUR", Str.ofString "PLAIN", Str.ofString "BACK", Str.ofString "LINE_FEED", Str.ofString "BLANK", Str.ofString "TermError", Str.ofString "BadSize", Str.ofString "BadCommand", Str.ofString "erased_pen", Str.ofString "blank_cell", Str.ofString "is_blank", Str.ofString "LINE_SIZES", Str.ofString "line_blanks", Str.ofString "right_half", Str.ofString "line_part", Str.ofString "line_slice", Str.ofString "line_codes", Str.ofString "Line", Str.ofString "line_place", Str.ofString "WORD_SEPARATORS", Str.ofString "SIGNS", Str.ofString "WORDS", Str.ofString "LINES", Str.ofString "BLOCK", Str.ofString "View", Str.ofString "view_width", Str.ofString "cell_codes", Str.ofString "view_part", Str.ofString "view_held", Str.ofString "sign_begin", Str.ofString "sign_end", Str.ofString "sign_behind", Str.ofString "sign_ahead", Str.ofString "word_sort_at", Str.ofString "word_at", Str.ofString "Selection", Str.ofString "block_part", Str.ofString "folded_code", Str.ofString "view_codes", Str.ofString "found_places", Str.ofString "find", Str.ofString "OPENERS", Str.ofString "CLOSERS", Str.ofString "CopyMode", Str.ofString "copy_held", Str.ofString "copy_last", Str.ofString "copy_signs", Str.ofString "copy_index", Str.ofString "copy_sort", Str.ofString "next_word", Str.ofString "next_word_end", Str.ofString "previous_word", Str.ofString "matching_bracket", Str.ofString "jump_place", Str.ofString "paragraph_row", Str.ofString "copy_left", Str.ofString "copy_right", Str.ofString "copy_up", Str.ofString "copy_down", Str.ofString "copy_line_start", Str.ofString "copy_line_end", Str.ofString "copy_indentation", Str.ofString "copy_shown", Str.ofString "copy_history_top", Str.ofString "copy_history_bottom", Str.ofString "copy_scrolled", Str.ofString "copy_page", Str.ofString "copy_scroll", Str.ofString "copy_by_word", Str.ofString "copy_bracket", Str.ofString "copy_paragraph", Str.ofString "copy_goto", Str.ofString "copy_jump", Str.ofString "copy_jumped", Str.ofString "copy_jump_again", Str.ofString "copy_jump_reverse", Str.ofString "copy_search", Str.ofString "copy_found", Str.ofString "copy_search_again", Str.ofString "copy_search_reverse", Str.ofString "copy_set_mark", Str.ofString "copy_to_mark", Str.ofString "copy_begin", Str.ofString "copy_block", Str.ofString "copy_other_end", Str.ofString "copy_clear", Str.ofString "copy_cancel", Str.ofString "copy_take", Str.ofString "copy_search_word", Str.ofString "copy_commands", Str.ofString "copy_plain_moves", Str.ofString "copy_far_moves", Str.ofString "copy_choices", Str.ofString "Grid", Str.ofString "History", Str.ofString "_law_deck", Str.ofString "_law_draw", Str.ofString "_law_cell", Str.ofString "_law_shown_right"]
noncomputable def hTs : List Addr := [740, 698, 726, 733, 754, 878, 836, 871, 768, 796, 899]

/-! ## The top's run, in one check of the kernel -/
noncomputable def hEnv : Env := { scope := pw.main.scope, locals := mainNs, globals := mainNs, cells := [], code := .ref 13, frame := some 14 }
abbrev hPos : Pos := ⟨0, 0, 0, 0⟩
abbrev hEnd : Pos := ⟨763, 0, 791, 115⟩
noncomputable def hCode : Code := .body (behindTheImports pw) hEnv
noncomputable def hTree (P : Params) : BT :=
  (((((((((((((((BT.nil.ins 0 (boot_o_0 P)).ins 1 (boot_o_1 P)).ins 2 (boot_o_2 P)).ins 3 (boot_o_3 P)).ins 4 (boot_o_4 P)).ins 5 (boot_o_5 P)).ins 6 (boot_o_6 P)).ins 7 (boot_o_7 P)).ins 8 (boot_o_8 P)).ins 9 (boot_o_9 P)).ins 10 (boot_o_10 P)).ins
    11 { cls := .type "tuple", data := .seq #[] }).ins
    12 { cls := .none, data := .fields #[] }).ins
    13 { cls := .type "code", data := .fields #[.str (Str.ofString "<module>") 182, .str (Str.ofString "<module>") 183, .str (Str.ofString "/claim/cut.py") 184, .int 1 0, .int 0 0, .int 0 0, .int 0 0, .int 0 0, .ref 11, .bool false, .int 181 0, .ref 12, .none, .none, .none, .none, .int 185 0, .int 1 0, .str (Str.ofString "/claim/cut.py") 186] }).ins
    14 { cls := .type "frame", slots := #[some (.ref 13), some (.ref 3), some (.ref 3), none, some (.str (Str.ofString "__main__") 164), none, some (.ref 0)] })
noncomputable def hS (w : World) (os : OsState) : SharedT := ⟨hTree w.params, 15, {}, #[], {}, 187, os⟩
noncomputable def hBoot (w : World) (os : OsState) : Shared := ⟨boot_heap w.params, Array.mk [], boot_drawn, boot_toks, os⟩

theorem hPre' (w : World) (os : OsState) : PySem.W.Fast.tw15667345088766844465 PySem.W.Fast.tw14364793385576792824 pw w 11 (some (.ref 6)) 12 (hBoot w os) (topStub pw) =
    some ((hS w os).abs, ⟨PySem.W.Fast.tw11892475500146522536 PySem.W.Fast.tw14364793385576792824 hCode, hCode, hPos, [topFrame hPos]⟩) := by kernel_rfl
theorem hPre (w : World) (os : OsState) : topGo treeTable pw w 11 (some (.ref 6)) 12 (hBoot w os) (topStub pw) = some ((hS w os).abs, ⟨denote treeTable hCode, hCode, hPos, [topFrame hPos]⟩) := by
  rw [PySem.W.Fast.te15667345088766844465, PySem.W.Fast.te14364793385576792824, PySem.W.Fast.te11892475500146522536]
  exact hPre' w os
theorem hBlock (w : World) (s : Shared) : segRun treeTable pw w 11 (some (.ref 6)) 1 1 s (blockOf (behindTheImports pw) hEnv hCode hPos [topFrame hPos]) = some (.next, s, hCode, hPos) := by kernel_rfl
theorem hFin (w : World) (s : Shared) : topRun treeTable pw w 11 (some (.ref 6)) 2 s ⟨doneF .next, hCode, hEnd, [topFrame hPos]⟩ = some s := by
  obtain ⟨h, g, d, t, os⟩ := s
  kernel_rfl

noncomputable def hQ : Program := { pw with main := { pw.main with body := (tS 107).toList } }
/-- what is asked of the state at the run's end -/
noncomputable def hSees (w : World) (s : SharedT) :=
  ((staticsOk [] (boot_heap w.params) s.abs.heap && namesBound pw s.abs.heap && gensDone s.abs && laidKept (boot_heap w.params) s.abs.heap),
   PySem.W.Fast.tw4187177175401517315 hQ hLoose [] (fun s => xlAt hQ [] s && recOk [] s) true s.abs,
   hAs.map fun a => match Nat.blt a s.n with | true => (s.tree.get a).bind alive | false => none, hTs.map fun a => match Nat.blt a s.n with | true => (s.tree.get a).bind alive | false => none)
theorem hRun' (w : World) (os : OsState) : (PySem.W.Fast.tw10110043849684766642 PySem.W.Fast.tw14364793385576792824 pw w 11 (some (.ref 6)) 1 6738 (hS w os)
      ⟨(PySem.W.Fast.tw12563942051412417395 (behindTheImports pw) hEnv).wrap doneF deadEnd id id, hCode, hPos, [topFrame hPos]⟩).map (fun r => (r.1, r.2.2.1, r.2.2.2, hSees w r.2.1)) =
    some (Flow.next, hCode, hEnd, true, openGood hQ hLoose, (hK w.params).map (fun p => some p.2), hTs.map fun _ => some (tabObj #[])) := by kernel_rfl

theorem hRun (w : World) (os : OsState) : ∃ s : SharedT, segRun treeTable pw w 11 (some (.ref 6)) 1 6738 (hS w os).abs (piecesOf (behindTheImports pw) hEnv hCode hPos [topFrame hPos]) = some (.next, s.abs, hCode, hEnd) ∧
    hSees w s = (true, openGood hQ hLoose, (hK w.params).map (fun p => some p.2), hTs.map fun _ => some (tabObj #[])) := by
  have h := hRun' w os
  rw [← PySem.W.Fast.te10110043849684766642, ← PySem.W.Fast.te14364793385576792824, ← PySem.W.Fast.te12563942051412417395] at h
  obtain ⟨⟨f, s, c, q⟩, h1, h2⟩ := Option.map_eq_some_iff.mp h
  have e1 : f = Flow.next := congrArg (fun x => x.1) h2
  have e2 : c = hCode := congrArg (fun x => x.2.1) h2
  have e3 : q = hEnd := congrArg (fun x => x.2.2.1) h2
  have e4 := congrArg (fun x => x.2.2.2) h2
  subst e1 e2 e3
  exact ⟨s, segRun_of h1, e4⟩
theorem hTop (w : World) (os : OsState) : ∃ s : SharedT, topRun treeTable pw w 11 (some (.ref 6)) (12 + (1 + (6738 + 2))) (hBoot w os) (topStub pw) = some s.abs ∧
    hSees w s = (true, openGood hQ hLoose, (hK w.params).map (fun p => some p.2), hTs.map fun _ => some (tabObj #[])) := by
  obtain ⟨s, h, e⟩ := hRun w os
  refine ⟨s, go_top (hPre w os) (piece_block (hBlock w _) ?_), e⟩
  have := piece_app (rest := []) h (piece_nil (hFin w s.abs))
  rw [List.append_nil] at this
  exact this
theorem hGet (s : SharedT) (a : Nat) {o : Obj} (h : (match Nat.blt a s.n with | true => (s.tree.get a).bind alive | false => none) = some o) : s.abs.heap.get? a = some o := by
  cases q : Nat.blt a s.n with
  | false => rw [q] at h; cases h
  | true =>
    rw [q] at h
    obtain ⟨o', h1, h2⟩ := Option.bind_eq_some_iff.mp h
    exact (abs_get (Nat.le_of_ble_eq_true q) h1).trans h2
theorem hGets (s : SharedT) : ∀ {l : List Addr} {l' : List Obj}, (l.map fun a => match Nat.blt a s.n with | true => (s.tree.get a).bind alive | false => none) = l'.map some → l.map s.abs.heap.get? = l'.map some
  | [], [], _ => rfl
  | [], _ :: _, h => by cases h
  | _ :: _, [], h => by cases h
  | a :: l, o :: l', h => by
    rw [List.map_cons, List.map_cons, List.cons.injEq] at h
    rw [List.map_cons, List.map_cons, hGet s a h.1, hGets s h.2]
theorem hKas : ∀ P, hAs = (hK P).map (·.1) := fun _ => by kernel_rfl
noncomputable abbrev hHook : Hook := kmHook hK hAs hKas hTs
theorem hOpening : opening pw = plainProg pw.main.scope.names := by kernel_rfl
theorem hFence (s : Shared) : fenceModules? pw s = some s := by kernel_rfl
theorem hMods : importedModules pw.main.body = [] := by kernel_rfl
theorem hSize (w : World) : ((boot_heap w.params).isNs mainGlobals && (Array.mk [] : Array GenState).size == 0, (boot_heap w.params).objs.size, (boot_heap w.params).nsMap mainGlobals "__annotations__") = (true, 11, some (Value.ref 6)) := by kernel_rfl
theorem hLeft : LeftO pw hQ hLoose (fun s => xlAt hQ [] s && recOk [] s) (Hook.obs hHook) (Hook.val hHook) 20000 true := fun w => by
  obtain ⟨⟨h, gs, d, k, os⟩, e, e'⟩ := Option.map_eq_some_iff.mp (boot_open (p := pw) (N := 20000) hOpening (by decide) hFence w)
  obtain ⟨rfl, rfl, rfl, rfl⟩ : h = boot_heap w.params ∧ gs = Array.mk [] ∧ d = boot_drawn ∧ k = boot_toks := by simpa using e'
  obtain ⟨z1, z2, z3⟩ : _ ∧ _ ∧ _ := by simpa only [Prod.mk.injEq] using hSize w
  obtain ⟨s, r, hs⟩ := hTop w os
  obtain ⟨l1, l2, l3, l4⟩ : _ ∧ _ ∧ _ ∧ _ := by simpa only [hSees, Prod.mk.injEq] using hs
  rw [← PySem.W.Fast.te4187177175401517315] at l2
  have r := topRun_mono (20000 - (12 + (1 + (6738 + 2)))) _ _ _ _ r
  rw [show 12 + (1 + (6738 + 2)) + (20000 - (12 + (1 + (6738 + 2)))) = 20000 by omega] at r
  have t : topFrom treeTable pw w 20000 (hBoot w os) = some s.abs := by
    unfold topFrom hBoot
    dsimp only
    rw [z1, z2, z3, hMods]
    dsimp only
    rw [show topRun treeTable pw w 11 (some (Value.ref 6)) 20000 ⟨boot_heap w.params, Array.mk [], boot_drawn, boot_toks, os⟩ (topStub pw) = some s.abs from r, Option.bind_some, l1]
  unfold openEnds
  rw [e, Option.bind_some]
  rw [show topFrom treeTable pw w 20000 ⟨boot_heap w.params, Array.mk [], boot_drawn, boot_toks, os⟩ = some s.abs from t, Option.map_some, hMods, l2]
  have g1 : hAs.map s.abs.heap.get? = (hK w.params).map fun p => some p.2 := by
    have := hGets s (l := hAs) (l' := (hK w.params).map (·.2)) (by rw [List.map_map]; exact l3)
    rw [this, List.map_map]; rfl
  have g2 : hTs.map s.abs.heap.get? = hTs.map fun _ => some (tabObj #[]) := by
    have := hGets s (l := hTs) (l' := hTs.map fun _ => tabObj #[]) (by rw [List.map_map]; exact l4)
    rw [this, List.map_map]; rfl
  exact congrArg some (Prod.ext rfl (Prod.ext g1 g2))

/-! ## What the ledger bears -/
abbrev ent (w : World) (x : Str) (t : Tok) (v : Value) : DictEntry := ⟨PyData.keyHash w.params x, .str x t, v⟩
abbrev tup (vs : List Value) : Obj := { cls := .type "tuple", data := .seq vs.toArray }
/-- a line of three cells, the letter 97 + n in the first (told by what follows from it: small terms) -/
def LineIn (w : World) (news : List (Addr × Obj)) (v : Value) (n : Int) : Prop :=
  ∀ P : Value → Prop, (∀ (x d lc c0 cd b e pen : Addr) (t1 t2 t3 t4 t5 t6 : Tok) (k : Nat), (x, instObj 249 d) ∈ news → (d, dictOf [ent w (Str.ofString "cells") t1 (.ref lc), ent w (Str.ofString "is_wrapped") t2 (.bool false), ent w (Str.ofString "size") t3 (.str (Str.ofString "single") 292)] 3) ∈ news → (lc, listOf [Value.ref c0, .ref b, .ref b].toArray k) ∈ news → (c0, tup [.ref cd, .int 1 t4, .ref 22, .bool false]) ∈ news → (cd, tup [.int (97 + n) t5]) ∈ news → (b, tup [.ref e, .int 1 t6, .ref pen, .bool false]) ∈ news → (e, tup []) ∈ news → P (.ref x)) → P v
def ViewIn (w : World) (news : List (Addr × Obj)) (vw : Addr) (hs : List Value) (g0 g1 : Value) : Prop :=
  ∀ P : Prop, (∀ (vd hi hd hl g gd gl : Addr) (t1 t2 t3 t4 t5 t6 t7 t8 u1 u2 u3 u4 : Tok) (n1 n2 : Nat), (vw, instObj 319 vd) ∈ news → (vd, dictOf [ent w (Str.ofString "history") t1 (.ref hi), ent w (Str.ofString "grid") t2 (.ref g)] 2) ∈ news → (hi, instObj 1124 hd) ∈ news → (hd, dictOf [ent w (Str.ofString "most") t3 (.int 9 u1), ent w (Str.ofString "lines") t4 (.ref hl), ent w (Str.ofString "gone") t5 (.int 0 u2)] 3) ∈ news → (hl, listOf hs.toArray n1) ∈ news → (g, instObj 1056 gd) ∈ news → (gd, dictOf [ent w (Str.ofString "rows") t6 (.int 2 u3), ent w (Str.ofString "columns") t7 (.int 3 u4), ent w (Str.ofString "lines") t8 (.ref gl)] 3) ∈ news → (gl, listOf [g0, g1].toArray n2) ∈ news → hs.length ≤ 6 → (∀ (i : Nat) (v : Value), hs[i]? = some v → LineIn w news v i) → LineIn w news g0 hs.length → LineIn w news g1 (hs.length + 1) → P) → P
theorem LineIn.mk {w : World} {news : List (Addr × Obj)} {n : Int} {x d lc c0 cd b e pen : Addr} {t1 t2 t3 t4 t5 t6 : Tok} {k : Nat} (l1 : (x, instObj 249 d) ∈ news) (l2 : (d, dictOf [ent w (Str.ofString "cells") t1 (.ref lc), ent w (Str.ofString "is_wrapped") t2 (.bool false), ent w (Str.ofString "size") t3 (.str (Str.ofString "single") 292)] 3) ∈ news) (l3 : (lc, listOf [Value.ref c0, .ref b, .ref b].toArray k) ∈ news) (l4 : (c0, tup [.ref cd, .int 1 t4, .ref 22, .bool false]) ∈ news) (l5 : (cd, tup [.int (97 + n) t5]) ∈ news) (l6 : (b, tup [.ref e, .int 1 t6, .ref pen, .bool false]) ∈ news) (l7 : (e, tup []) ∈ news) : LineIn w news (.ref x) n := fun _ z => z x d lc c0 cd b e pen t1 t2 t3 t4 t5 t6 k l1 l2 l3 l4 l5 l6 l7
theorem LineIn.all {w : World} {news : List (Addr × Obj)} {n : Int} {P : Value → Prop}
  (z : ∀ (x d lc c0 cd b e pen : Addr) (t1 t2 t3 t4 t5 t6 : Tok) (k : Nat), LineIn w news (.ref x) n → (x, instObj 249 d) ∈ news → (d, dictOf [ent w (Str.ofString "cells") t1 (.ref lc), ent w (Str.ofString "is_wrapped") t2 (.bool false), ent w (Str.ofString "size") t3 (.str (Str.ofString "single") 292)] 3) ∈ news → (lc, listOf [Value.ref c0, .ref b, .ref b].toArray k) ∈ news → (c0, tup [.ref cd, .int 1 t4, .ref 22, .bool false]) ∈ news → (cd, tup [.int (97 + n) t5]) ∈ news → (b, tup [.ref e, .int 1 t6, .ref pen, .bool false]) ∈ news → (e, tup []) ∈ news → P (.ref x)) : ∀ v, LineIn w news v n → P v :=
  fun v h => h P fun x d lc c0 cd b e pen t1 t2 t3 t4 t5 t6 k l1 l2 l3 l4 l5 l6 l7 => z x d lc c0 cd b e pen t1 t2 t3 t4 t5 t6 k (LineIn.mk l1 l2 l3 l4 l5 l6 l7) l1 l2 l3 l4 l5 l6 l7
theorem LineIn.out {w : World} {news : List (Addr × Obj)} {v : Value} {n : Int} (h : LineIn w news v n) {P : Prop} (z : ∀ (x d lc c0 cd b e pen : Addr) (t1 t2 t3 t4 t5 t6 : Tok) (k : Nat), v = .ref x → (x, instObj 249 d) ∈ news → (d, dictOf [ent w (Str.ofString "cells") t1 (.ref lc), ent w (Str.ofString "is_wrapped") t2 (.bool false), ent w (Str.ofString "size") t3 (.str (Str.ofString "single") 292)] 3) ∈ news → (lc, listOf [Value.ref c0, .ref b, .ref b].toArray k) ∈ news → (c0, tup [.ref cd, .int 1 t4, .ref 22, .bool false]) ∈ news → (cd, tup [.int (97 + n) t5]) ∈ news → (b, tup [.ref e, .int 1 t6, .ref pen, .bool false]) ∈ news → (e, tup []) ∈ news → P) : P :=
  h (fun u => v = u → P) (fun x d lc c0 cd b e pen t1 t2 t3 t4 t5 t6 k l1 l2 l3 l4 l5 l6 l7 q => z x d lc c0 cd b e pen t1 t2 t3 t4 t5 t6 k q l1 l2 l3 l4 l5 l6 l7) rfl
theorem LineIn.at {w : World} {news : List (Addr × Obj)} {x : Addr} {n : Int} (h : LineIn w news (.ref x) n) {P : Prop} (z : ∀ (d lc c0 cd b e pen : Addr) (t1 t2 t3 t4 t5 t6 : Tok) (k : Nat), (x, instObj 249 d) ∈ news → (d, dictOf [ent w (Str.ofString "cells") t1 (.ref lc), ent w (Str.ofString "is_wrapped") t2 (.bool false), ent w (Str.ofString "size") t3 (.str (Str.ofString "single") 292)] 3) ∈ news → (lc, listOf [Value.ref c0, .ref b, .ref b].toArray k) ∈ news → (c0, tup [.ref cd, .int 1 t4, .ref 22, .bool false]) ∈ news → (cd, tup [.int (97 + n) t5]) ∈ news → (b, tup [.ref e, .int 1 t6, .ref pen, .bool false]) ∈ news → (e, tup []) ∈ news → P) : P :=
  h.out fun x' d lc c0 cd b e pen t1 t2 t3 t4 t5 t6 k q l1 l2 l3 l4 l5 l6 l7 => by cases q; exact z d lc c0 cd b e pen t1 t2 t3 t4 t5 t6 k l1 l2 l3 l4 l5 l6 l7
theorem ViewIn.elim {w : World} {news : List (Addr × Obj)} {vw : Addr} {hs : List Value} {g0 g1 : Value} (h : ViewIn w news vw hs g0 g1) {P : Prop} (k : ∀ (vd hi hd hl g gd gl : Addr) (t1 t2 t3 t4 t5 t6 t7 t8 u1 u2 u3 u4 : Tok) (n1 n2 : Nat), (vw, instObj 319 vd) ∈ news → (vd, dictOf [ent w (Str.ofString "history") t1 (.ref hi), ent w (Str.ofString "grid") t2 (.ref g)] 2) ∈ news → (hi, instObj 1124 hd) ∈ news → (hd, dictOf [ent w (Str.ofString "most") t3 (.int 9 u1), ent w (Str.ofString "lines") t4 (.ref hl), ent w (Str.ofString "gone") t5 (.int 0 u2)] 3) ∈ news → (hl, listOf hs.toArray n1) ∈ news → (g, instObj 1056 gd) ∈ news → (gd, dictOf [ent w (Str.ofString "rows") t6 (.int 2 u3), ent w (Str.ofString "columns") t7 (.int 3 u4), ent w (Str.ofString "lines") t8 (.ref gl)] 3) ∈ news → (gl, listOf [g0, g1].toArray n2) ∈ news → hs.length ≤ 6 → (∀ (i : Nat) (v : Value), hs[i]? = some v → LineIn w news v i) → LineIn w news g0 hs.length → LineIn w news g1 (hs.length + 1) → P) : P := h P k
theorem ViewIn.mk {w : World} {news : List (Addr × Obj)} {vw : Addr} {hs : List Value} {g0 g1 : Value} {vd hi hd hl g gd gl : Addr} {t1 t2 t3 t4 t5 t6 t7 t8 u1 u2 u3 u4 : Tok} {n1 n2 : Nat} (m1 : (vw, instObj 319 vd) ∈ news) (m2 : (vd, dictOf [ent w (Str.ofString "history") t1 (.ref hi), ent w (Str.ofString "grid") t2 (.ref g)] 2) ∈ news) (m3 : (hi, instObj 1124 hd) ∈ news) (m4 : (hd, dictOf [ent w (Str.ofString "most") t3 (.int 9 u1), ent w (Str.ofString "lines") t4 (.ref hl), ent w (Str.ofString "gone") t5 (.int 0 u2)] 3) ∈ news) (m5 : (hl, listOf hs.toArray n1) ∈ news) (m6 : (g, instObj 1056 gd) ∈ news) (m7 : (gd, dictOf [ent w (Str.ofString "rows") t6 (.int 2 u3), ent w (Str.ofString "columns") t7 (.int 3 u4), ent w (Str.ofString "lines") t8 (.ref gl)] 3) ∈ news) (m8 : (gl, listOf [g0, g1].toArray n2) ∈ news) (h6 : hs.length ≤ 6) (V1 : (∀ (i : Nat) (v : Value), hs[i]? = some v → LineIn w news v i)) (V2 : LineIn w news g0 hs.length) (V3 : LineIn w news g1 (hs.length + 1)) : ViewIn w news vw hs g0 g1 := fun _ z => z vd hi hd hl g gd gl t1 t2 t3 t4 t5 t6 t7 t8 u1 u2 u3 u4 n1 n2 m1 m2 m3 m4 m5 m6 m7 m8 h6 V1 V2 V3
theorem LineIn.mono {w : World} {news news' : List (Addr × Obj)} {v : Value} {n : Int} (h : LineIn w news v n) (hs : ∀ p ∈ news, p ∈ news') : LineIn w news' v n :=
  h (fun v => LineIn w news' v n) fun x d lc c0 cd b e pen t1 t2 t3 t4 t5 t6 k l1 l2 l3 l4 l5 l6 l7 => LineIn.mk (hs _ l1) (hs _ l2) (hs _ l3) (hs _ l4) (hs _ l5) (hs _ l6) (hs _ l7)
theorem ViewIn.mono {w : World} {news news' : List (Addr × Obj)} {vw : Addr} {hs : List Value} {g0 g1 : Value} (h : ViewIn w news vw hs g0 g1) (hsub : ∀ p ∈ news, p ∈ news') : ViewIn w news' vw hs g0 g1 :=
  h _ fun vd hi hd hl g gd gl t1 t2 t3 t4 t5 t6 t7 t8 u1 u2 u3 u4 n1 n2 m1 m2 m3 m4 m5 m6 m7 m8 h6 V1 V2 V3 => ViewIn.mk (hsub _ m1) (hsub _ m2) (hsub _ m3) (hsub _ m4) (hsub _ m5) (hsub _ m6) (hsub _ m7) (hsub _ m8) h6 (fun i v e => (V1 i v e).mono hsub) (V2.mono hsub) (V3.mono hsub)
theorem ViewIn.short {w : World} {news : List (Addr × Obj)} {vw : Addr} {hs : List Value} {g0 g1 : Value} (h : ViewIn w news vw hs g0 g1) : hs.length ≤ 6 := h _ fun _ _ _ _ _ _ _ _ _ _ _ _ _ _ _ _ _ _ _ _ _ _ _ _ _ _ _ _ _ h6 _ _ _ => h6
theorem my_item {prog : Program} {w : World} {A : Around} {E : Value → Shared → Prop} {s : Shared} {h₀ : Heap} {L D : Addr} {news : List (Addr × Obj)} {value slice : PySem.Expr} {vs : List Value} {n : Nat} {k : Int} {u : Tok} {v : Value} {Q : Value → Shared → Prop}
    (N : News h₀ L s.heap news) (hm : (D, listOf vs.toArray n) ∈ news) (h0 : 0 ≤ k) (hhi : k < 2 ^ 63) (hx : vs[k.toNat]? = some v) (h : Q v s)
    (hs : subscripted slice false (.ref D) (.int k u) = operate [.ref D, .int k u] (getItem (.ref D) (.int k u))) :
    wpAny (model prog w) A (subscriptTail value slice (.ref D) (.int k u)) Q E s :=
  have hl : s.heap.IsList D vs.toArray := News.isList N hm
  tail_any hl.typeIs slot_list_getitem.lookup (wpAny_getItem_list hl h0 hhi (by simpa using hx) h) hs
theorem my_titem {prog : Program} {w : World} {A : Around} {E : Value → Shared → Prop} {s : Shared} {h₀ : Heap} {L D : Addr} {news : List (Addr × Obj)} {value slice : PySem.Expr} {vs : List Value} {k : Int} {j : Nat} {u : Tok} {v : Value} {Q : Value → Shared → Prop}
    (N : News h₀ L s.heap news) (hm : (D, tup vs) ∈ news) (hlo : -(2 ^ 63) ≤ k) (hhi : k < 2 ^ 63) (hj : seqIndex? k vs.length = some j) (hx : vs[j]? = some v) (h : Q v s)
    (hs : subscripted slice false (.ref D) (.int k u) = operate [.ref D, .int k u] (getItem (.ref D) (.int k u))) :
    wpAny (model prog w) A (subscriptTail value slice (.ref D) (.int k u)) Q E s :=
  item_tupleT (l := vs) ⟨_, (N _ hm).1, rfl, 0, rfl⟩ hlo hhi hj hx h hs
section
variable {prog : Program} {w : World} {A : Around} {E : Value → Shared → Prop} {s : Shared} {h₀ : Heap} {L : Addr} {m : Str → Option Value} {news : List (Addr × Obj)} {a b : Int} {t u : Tok} {Q : Value → Shared → Prop}
theorem my_maxG (hh : A.handled = none) (F : Fr h₀ L s.heap m) (N : News h₀ L s.heap news) (h : ∀ v h' tk, Fr h₀ L h' m → News h₀ L h' news → Q (.int (max a b) v) { s with heap := h', toks := tk }) :
    wpAny (model prog w) A (call (.builtin "max") [.int a t, .int b u]) Q E s := max_two_N hh F N fun h' tk F' N' => by rw [show (if b > a then b else a) = max a b by split <;> omega]; exact h _ h' tk F' N'
theorem my_minG (hh : A.handled = none) (F : Fr h₀ L s.heap m) (N : News h₀ L s.heap news) (h : ∀ v h' tk, Fr h₀ L h' m → News h₀ L h' news → Q (.int (min a b) v) { s with heap := h', toks := tk }) :
    wpAny (model prog w) A (call (.builtin "min") [.int a t, .int b u]) Q E s := min_two_N hh F N fun h' tk F' N' => by rw [show (if b < a then b else a) = min a b by split <;> omega]; exact h _ h' tk F' N'
theorem my_max1 (c : b ≤ a) (hh : A.handled = none) (F : Fr h₀ L s.heap m) (N : News h₀ L s.heap news) (h : ∀ v h' tk, Fr h₀ L h' m → News h₀ L h' news → Q (.int a v) { s with heap := h', toks := tk }) :
    wpAny (model prog w) A (call (.builtin "max") [.int a t, .int b u]) Q E s := my_maxG hh F N (by rw [show max a b = a by omega]; exact h)
theorem my_max2 (c : a ≤ b) (hh : A.handled = none) (F : Fr h₀ L s.heap m) (N : News h₀ L s.heap news) (h : ∀ v h' tk, Fr h₀ L h' m → News h₀ L h' news → Q (.int b v) { s with heap := h', toks := tk }) :
    wpAny (model prog w) A (call (.builtin "max") [.int a t, .int b u]) Q E s := my_maxG hh F N (by rw [show max a b = b by omega]; exact h)
theorem my_min1 (c : a ≤ b) (hh : A.handled = none) (F : Fr h₀ L s.heap m) (N : News h₀ L s.heap news) (h : ∀ v h' tk, Fr h₀ L h' m → News h₀ L h' news → Q (.int a v) { s with heap := h', toks := tk }) :
    wpAny (model prog w) A (call (.builtin "min") [.int a t, .int b u]) Q E s := my_minG hh F N (by rw [show min a b = a by omega]; exact h)
theorem my_min2 (c : b ≤ a) (hh : A.handled = none) (F : Fr h₀ L s.heap m) (N : News h₀ L s.heap news) (h : ∀ v h' tk, Fr h₀ L h' m → News h₀ L h' news → Q (.int b v) { s with heap := h', toks := tk }) :
    wpAny (model prog w) A (call (.builtin "min") [.int a t, .int b u]) Q E s := my_minG hh F N (by rw [show min a b = b by omega]; exact h)
end
theorem sub1 {q : Addr × Obj} {l l' : List (Addr × Obj)} (h : ∀ p ∈ l, p ∈ l') : ∀ p ∈ q :: l, p ∈ q :: l' := fun p hp => (List.mem_cons.mp hp).elim (fun e => e ▸ List.mem_cons_self) fun e => List.mem_cons_of_mem _ (h p e)
/-- the mode's dict -/
abbrev modeD (w : World) (vw : Addr) (sep : Value) (tp : Int) (pl : Addr) (tr tt tw k1 k2 k3 k4 k5 k6 k7 k8 k9 k10 k11 k12 k13 k14 : Tok) : Obj :=
  dictOf [ent w (Str.ofString "view") k1 (.ref vw), ent w (Str.ofString "rows") k2 (.int 2 tr), ent w (Str.ofString "separators") k3 sep, ent w (Str.ofString "top") k4 (.int tp tt), ent w (Str.ofString "place") k5 (.ref pl), ent w (Str.ofString "wished") k6 (.int 0 tw), ent w (Str.ofString "selection") k7 .none, ent w (Str.ofString "is_block") k8 (.bool false), ent w (Str.ofString "mark") k9 .none, ent w (Str.ofString "searched") k10 .none, ent w (Str.ofString "jumped") k11 .none, ent w (Str.ofString "asks") k12 .none, ent w (Str.ofString "copied") k13 .none, ent w (Str.ofString "is_done") k14 (.bool false)] 14
theorem News.order {h₀ h : Heap} {L : Addr} {l l' : List (Addr × Obj)} (N : News h₀ L h l) (k : ∀ p ∈ l', p ∈ l) : News h₀ L h l' := fun p hp => N p (k p hp)
/-! ## Small terms -/
theorem room0 {d n R : Nat} (h : d + n < R) : d < R := by omega
theorem room1 {d n a R : Nat} (h : d + n < R) (k : Nat.ble a n = true) : d + a < R := Nat.lt_of_le_of_lt (Nat.add_le_add_left (Nat.le_of_ble_eq_true k) d) h
theorem room2 {d n a b R : Nat} (h : d + n < R) (k : Nat.ble (a + b) n = true) : d + a + b < R := by rw [Nat.add_assoc]; exact room1 h k
theorem room3 {d n a b c R : Nat} (h : d + n < R) (k : Nat.ble (a + b + c) n = true) : d + a + b + c < R := by rw [Nat.add_assoc d, Nat.add_assoc d]; exact room1 h k
theorem room4 {d n a b c e R : Nat} (h : d + n < R) (k : Nat.ble (a + b + c + e) n = true) : d + a + b + c + e < R := by rw [Nat.add_assoc d, Nat.add_assoc d, Nat.add_assoc d]; exact room1 h k
theorem ne_allLt {l : List (Addr × Obj)} {a D : Nat} {o : Obj} (h : AllLt D l) (m : ((a : Addr), o) ∈ l) : a ≠ D := Nat.ne_of_lt (tb_ltOf h _ m)
theorem ne_allLt' {l : List (Addr × Obj)} {a D : Nat} {o : Obj} (h : AllLt D l) (m : ((a : Addr), o) ∈ l) : D ≠ a := Nat.ne_of_gt (tb_ltOf h _ m)
theorem ne_allLtS {l : List (Addr × Obj)} {a D k : Nat} {o : Obj} (h : AllLt D l) (m : ((a : Addr), o) ∈ l) : D + k ≠ a := Nat.ne_of_gt (Nat.lt_add_right k (tb_ltOf h _ m))
theorem lt_allLt {l : List (Addr × Obj)} {a D : Nat} {o : Obj} (h : AllLt D l) (m : ((a : Addr), o) ∈ l) : @LT.lt Nat _ a D := tb_ltOf h _ m
theorem below_drop {D : Addr} {l l' : List (Addr × Obj)} (n : Nat) (h : AllLt D l') (e : (l'.drop n).map Prod.fst = l.map Prod.fst) : ∀ p ∈ l, p.1 < D := fun p hp => by
  have k : p.1 ∈ (l'.drop n).map Prod.fst := by rw [e]; exact List.mem_map_of_mem hp
  obtain ⟨q, hq, e'⟩ := List.mem_map.mp k
  exact e' ▸ tb_ltOf h q (List.mem_of_mem_drop hq)
theorem ne_lit {a b : Nat} (h : Nat.beq a b = false) : a ≠ b := Nat.ne_of_beq_eq_false h

theorem filled : PySem.Challenge.rw_og0290_01 = PySem.Challenge.rw_og0290_01 ∧ hK = hK := by
  k_fill
  exact ⟨rfl, rfl⟩
open Lean in
/-- a use line: the call's address, the contract, its premises and how each falls, the names of what comes behind -/
def useM (n : Nat) (c : Name) (pre : String) (post : String) : MacroM Syntax := do
  let mut ts : Array (TSyntax `tactic) := #[← `(tactic| apply $(mkIdent c))]
  for p in pre.splitOn " " do
    match p.splitOn ":" with
    | [a, k] =>
      let t ← match k with
        | "o" => `(tactic| omega)
        | "m" => `(tactic| k_mem)
        | "a" => `(tactic| assumption)
        | "l" => `(tactic| k_all)
        | "u" => `(tactic| k_updF)
        | "r" => `(tactic| rfl)
        | "i" => `(tactic| first | assumption | exact LineIn.mono (by assumption) (by ktd_sub))
        | "k" => `(tactic| exact $(mkIdent `Mine.CodeAll.keeps) (Fr.keep (by assumption)) (by assumption))
        | "s" => `(tactic| first | k_asm | exact $(mkIdent `Mine.news_swap) (by k_asm) | exact $(mkIdent `Mine.news_swap3) (by k_asm))
        | "q" => `(tactic| first | k_asm | exact $(mkIdent `Mine.news_swap) (by k_asm) | exact $(mkIdent `Mine.news_swap3) (by k_asm) | exact $(mkIdent `Mine.news_md4) (by k_asm))
        | _ => match (k.splitOn "_").map (·.toNat?) with
          | [none, some i, some u, some v] => `(tactic| exact $(mkIdent `Mine.CodeAll.at) (l := $(mkIdent `Mine.tCs)) (i := $(quote i)) (q := ($(quote u), $(quote v))) ($(mkIdent `Mine.CodeAll.keeps) (Fr.keep (by assumption)) (by assumption)) rfl)
          | _ => `(tactic| exact $(mkIdent (.str `Mine k)) (by k_asm))
      ts := ts.push (← `(tactic| case $(mkIdent (.mkSimple a)):ident => $t:tactic))
    | _ => ts := ts.push (← `(tactic| walk_at $(Syntax.mkStrLit s!"c {p}")))
  let mut is : Array (TSyntax `ident) := #[]
  let mut ls : Array (TSyntax `tactic) := #[← `(tactic| skip)]
  for x in post.splitOn " " do
    if x == "@L" then
      let (v, h) := (is[0]!, is[3]!)
      ls := ls.push (← `(tactic| (revert $h:ident; revert $v:ident; refine LineIn.all ?_; intro _ _ _ _ _ _ _ _ _ _ _ _ _ _ _ _ _ _ _ _ _ _ _)))
      continue
    if x == "@M" then
      let i := is.back!
      ls := ls.push (← `(tactic| replace $i:ident := $(mkIdent `Mine.md_back) $i))
      continue
    let i := mkIdent (← Macro.addMacroScope (.mkSimple ((x.splitOn "!").headD "")))
    is := is.push i
    if x.endsWith "!" then ls := ls.push (← `(tactic| (try k_lt $i)))
    if x.endsWith "!N" then ls := ls.push (← `(tactic| (try dsimp only at $i:ident)))
  `(tactic| (k_here; (with_reducible show wpAny _ _ (call (Value.ref $(quote n)) _) _ _ _); k_dflt ($[$ts:tactic];*); k_dflt (intro $[$is:ident]*; $[$ls:tactic];*); walk_at "c end"))
open Lean in
def belowM : MacroM Syntax := do
  let ts ← (List.range 26).toArray.mapM fun k => `(tactic| exact below_drop $(quote k) (by assumption) (by rfl))
  `(tactic| first | assumption | (focus (intro p9 hp9; refine tb_ltOf (by assumption) p9 ?_; (repeat (first | exact hp9 | apply List.Mem.tail)); done)) $[| $ts:tactic]*)
local macro_rules | `(tactic| walk_at "c enter0") => `(tactic| (refine' code_defC ?k1 ?k2 ?k3 ?k4 ?k5 ?kA ?kF ?kK ?k6 ?k7 ?k8 ?k9 ?kB ?kD ?_ ?c2 ?c3 ?c4; (case kA => exact rfl); (case kF => exact rfl); (case kK => assumption); (case k1 => k_asm); (case k2 => k_asm); (case k3 => k_asm); (case k4 => k_asm); (case k5 => k_asm); (case k6 => k_is); (case k7 => k_is); (case k8 => k_room); (case k9 => exact BindsTo.of_eq rfl); (case kB => exact rfl); (case kD => decide +kernel); (case c2 => exact rfl); (case c3 => exact rfl); (case c4 => exact rfl); k_whole; intro g' L' h' tk' cells' FG' F' N' Y' B' X' T' l1; (try k_lt l1); k_cells Y'; (try simp only [List.cons_append, List.nil_append] at N'); (try dsimp only); (try k_fold)))
local macro_rules | `(tactic| walk_at "c enter1") => `(tactic| (refine' code_def ?k1 ?k2 ?k3 ?k4 ?k5 ?kA ?kF ?kK ?k6 ?k7 ?k8 ?k9 ?kB ?_ ?c2 ?c3 ?c4 ?c5; (case kA => exact rfl); (case kF => exact rfl); (case kK => first | exact rfl | assumption); (case k1 => k_asm); (case k2 => k_asm); (case k3 => k_asm); (case k4 => k_asm); (case k5 => k_asm); (case k6 => k_is); (case k7 => k_is); (case k8 => k_room); (case k9 => first | exact BindsTo.of_eq rfl | exact binds_K (by k_in) rfl (by k_is) rfl rfl rfl); (case c5 => decide); (case kB => exact locs rfl); (case c2 => exact rfl); (case c3 => exact rfl); (case c4 => exact rfl); k_whole; intro g' L' h' FG' F' N' B' X' T'; (try dsimp only); (try k_fold)))
local macro_rules | `(tactic| walk_at "c enter2") => `(tactic| (refine' code_def ?k1 ?k2 ?k3 ?k4 ?k5 ?kA ?kF ?kK ?k6 ?k7 ?k8 ?k9 ?kB ?_ ?c2 ?c3 ?c4 ?c5; (case kA => exact rfl); (case kF => exact rfl); (case kK => first | exact rfl | assumption); (case k1 => k_asm); (case k2 => k_asm); (case k3 => k_asm); (case k4 => k_asm); (case k5 => k_asm); (case k6 => k_is); (case k7 => k_is); (case k8 => k_room); (case k9 => first | exact BindsTo.of_eq rfl | exact binds_K (by k_in) rfl (by k_is) rfl rfl rfl); (case c5 => decide); (case kB => exact locs rfl); (case c2 => exact rfl); (case c3 => exact rfl); (case c4 => exact rfl); k_whole; intro g' L' h' FG' F' N' B' X' T'; (try dsimp only); (try k_lift B'); (try k_fold)))
local macro_rules | `(tactic| walk_at "c enter3") => `(tactic| (refine' code_defC ?k1 ?k2 ?k3 ?k4 ?k5 ?kA ?kF ?kK ?k6 ?k7 ?k8 ?k9 ?kB ?kD ?_ ?c2 ?c3 ?c4; (case kA => exact rfl); (case kF => exact rfl); (case kK => first | exact rfl | assumption); (case k1 => k_asm); (case k2 => k_asm); (case k3 => k_asm); (case k4 => k_asm); (case k5 => k_asm); (case k6 => k_is); (case k7 => k_is); (case k8 => k_room); (case k9 => exact BindsTo.of_eq rfl); (case kB => exact rfl); (case kD => decide +kernel); (case c2 => exact rfl); (case c3 => exact rfl); (case c4 => exact rfl); k_whole; intro g' L' h' tk' cells' FG' F' N' Y' B' X' T' l1; (try k_lt l1); k_cells Y'; (try simp only [List.cons_append, List.nil_append] at N'); (try dsimp only); (try k_fold)))
local macro_rules | `(tactic| walk_at "c room") => `(tactic| (first | exact room1 (by assumption) (by rfl) | exact room2 (by assumption) (by rfl) | exact room3 (by assumption) (by rfl) | exact room4 (by assumption) (by rfl) | exact room0 (by assumption) | omega))
local macro_rules | `(tactic| walk_at "c dep") => `(tactic| ((try dsimp only [depth_mark, depth_under_make, depth_under_kw, depth_in1, depth_deeper, depth_caller, ktrTop]); walk_at "c room"))
local macro_rules | `(tactic| walk_at "c uni") => `(tactic| ((try dsimp only [units_under_make, units_in1, units_deeper, units_caller, ktrTop]); (try simp only [Around.mark_units]); (try dsimp only [units_under_make, units_in1, units_deeper, units_caller, ktrTop]); walk_at "c room"))
local macro_rules | `(tactic| walk_at "c below") => belowM
local macro_rules | `(tactic| walk_at "c perm") => `(tactic| ((repeat (refine List.forall_mem_cons.mpr ⟨by k_dflt k_mem, ?_⟩)); first | exact List.forall_mem_nil _ | (focus (intro q9 hq9; (repeat (first | exact hq9 | apply List.Mem.tail)); done))))
local macro_rules | `(tactic| k_all) => `(tactic| first | exact List.forall_mem_nil _ | (refine' List.forall_mem_cons.mpr ⟨?kallh, ?kallt⟩; (case kallh => k_ne); (case kallt => k_all)))
local macro_rules | `(tactic| k_upd) => `(tactic| first | (refine' Upd.head ?kuah; (case kuah => k_all)) | (refine' Upd.tail ?kuat ?kubt; (case kuat => k_ne); (case kubt => k_upd)))
local macro_rules | `(tactic| k_updF) => `(tactic| first | (refine' UpdF.head ?kuah; (case kuah => k_all)) | (refine' UpdF.tail ?kuat ?kubt; (case kuat => k_ne); (case kubt => k_updF)))
local macro_rules | `(tactic| k_all) => `(tactic| (focus (intro p9 h9; refine Nat.ne_of_lt (tb_ltOf (by assumption) p9 ?_); (repeat (first | exact h9 | apply List.Mem.tail)); done)))
local macro_rules | `(tactic| k_in) => `(tactic| first | with_reducible assumption | exact Frag.In.keeps (by with_reducible assumption) (Fr.keep (by with_reducible assumption)))
local macro_rules | `(tactic| walk_at "c lt") => `(tactic| (first | with_reducible assumption | exact lt_allLt (by assumption) (by k_mem)))
local macro_rules | `(tactic| k_ne) => `(tactic| first | exact ne_lit (by rfl) | exact ne_allLt (by assumption) (by k_mem) | exact ne_allLt' (by assumption) (by k_mem) | exact ne_allLtS (by assumption) (by k_mem) | exact Nat.ne_of_gt (by assumption) | exact Nat.ne_of_lt (by assumption) | ((try dsimp only); (refine neN ?_); (try simp only [AllLt, and_true] at *); omega))
local macro_rules | `(tactic| k_lt $h:ident) => `(tactic| replace $h := allLt_of (l := _ :: _) $h)
local macro_rules | `(tactic| walk_at "c V") => `(tactic| (case V => first | assumption | exact ViewIn.mono (by assumption) (by ktd_sub)))
local macro_rules | `(tactic| walk_at "c hun") => `(tactic| (case hun => walk_at "c uni"))
local macro_rules | `(tactic| walk_at "c std") => `(tactic| ((case B => k_asm); (case F => k_asm); (case X => k_asm); (case N => k_asm); (case T => k_asm); (case hk => first | exact rfl | assumption); (case hdp => k_room); walk_at "c hun"))
local macro_rules | `(tactic| walk_at "c stn") => `(tactic| ((case B => k_asm); (case F => k_asm); (case X => k_asm); (case T => k_asm); (case hk => first | exact rfl | assumption); (case hdp => k_room); walk_at "c hun"))
local macro_rules | `(tactic| walk_at "c end") => `(tactic| ((try dsimp only); (try k_sweep)))
local macro_rules | `(tactic| k_room) => `(tactic| walk_at "c dep")
local macro_rules | `(tactic| ktr_room) => `(tactic| walk_at "c dep")
local macro_rules | `(tactic| k_enter) => `(tactic| ktr_enter)
local macro_rules | `(tactic| k_all) => `(tactic| assumption)
local macro_rules | `(tactic| walk_at "binaryOp Mult ref int") => `(tactic| (k_here; (with_reducible show wpAny _ _ (binaryOp Operator.Mult (Value.ref _) (Value.int (ite _ _ _) _)) _ _ _); (first | rw [if_pos (by decide)] | rw [if_neg (by decide)])))
local macro_rules | `(tactic| walk_at "binaryOp Mult ref int") => `(tactic| (k_here; (with_reducible show wpAny _ _ (binaryOp Operator.Mult (Value.ref _) (Value.int 3 _)) _ _ _); k_dflt (refine' KMa.mul (vs := [_]) ?F ?N ?l ?lo ?hi ?z rfl ?_; (case F => k_asm); (case N => k_asm); (case l => exact News.isList (by k_asm) (by k_mem)); (case lo => decide); (case hi => decide); (case z => (simp only [List.length_cons, List.length_nil]; decide)); k_whole); intro D' h' F' N' l1; (try k_lt l1); (try k_sweep)))
local macro_rules | `(tactic| walk_at "call builtin:len") => `(tactic| (k_here; (with_reducible show wpAny _ _ (call (Value.builtin "len") [Value.ref _]) _ _ _); k_dflt (refine' KM.len_K ?N ?m ?s ?f ?_; (case N => k_asm); (case m => k_mem); (case s => first | exact (show _ = 3 from rfl) | exact (show _ = 2 from rfl) | exact (show _ = 1 from rfl) | exact (show _ = 0 from rfl) | exact List.size_toArray); (case f => first | (simp only [List.length_cons, List.length_nil]; decide) | omega))))
local macro_rules | `(tactic| walk_at "exec While BoolOp cons nil") => `(tactic| (k_here; k_dflt (refine whl_start 100 ?_)))
local macro_rules | `(tactic| walk_at "exec While BoolOp") => `(tactic| (k_here; k_dflt (refine whl_start 100 ?_)))
local macro_rules | `(tactic| walk_at "subscriptTail") => `(tactic| (k_here; (with_reducible show wpAny _ _ (subscriptTail _ _ (Value.ref _) (Value.int _ _)) _ _ _); k_dflt (refine' my_titem ?N ?m ?a ?b ?j ?x ?_ ?hs; (case N => k_asm); (case m => k_mem); (case a => decide); (case b => decide); (case j => rfl); (case x => rfl); (case hs => with_unfolding_all rfl); k_whole)))
local macro_rules | `(tactic| walk_at "subscriptTail") => `(tactic| (k_here; (with_reducible show wpAny _ _ (subscriptTail _ _ (Value.ref _) (Value.int _ _)) _ _ _); k_dflt (refine' my_item ?N ?m ?a ?b ?x ?_ ?hs; (case N => k_asm); (case m => k_mem); (case a => decide); (case b => decide); (case x => rfl); (case hs => with_unfolding_all rfl); k_whole)))
local macro_rules | `(tactic| units_room) => `(tactic| walk_at "c uni")
local macro_rules | `(tactic| k_mem) => `(tactic| (show (_ : Addr × Obj) ∈ (_ : List (Addr × Obj)); ktr_member))
local macro_rules | `(tactic| walk_at "call builtin:max") => `(tactic| (k_here; (with_reducible show wpAny _ _ (call (Value.builtin _) [Value.int _ _, Value.int _ _]) _ _ _); k_dflt (first
  | (refine' my_max1 ?c ?hh ?F ?N ?_; (case c => omega); (case hh => with_unfolding_all rfl); (case F => k_asm); (case N => k_asm); intro _ _ _ F' N')
  | (refine' my_max2 ?c ?hh ?F ?N ?_; (case c => omega); (case hh => with_unfolding_all rfl); (case F => k_asm); (case N => k_asm); intro _ _ _ F' N')
  | (refine' my_maxG ?hh ?F ?N ?_; (case hh => with_unfolding_all rfl); (case F => k_asm); (case N => k_asm); intro _ _ _ F' N')); (try k_sweep)))
local macro_rules | `(tactic| walk_at "call builtin:min") => `(tactic| (k_here; (with_reducible show wpAny _ _ (call (Value.builtin _) [Value.int _ _, Value.int _ _]) _ _ _); k_dflt (first
  | (refine' my_min1 ?c ?hh ?F ?N ?_; (case c => omega); (case hh => with_unfolding_all rfl); (case F => k_asm); (case N => k_asm); intro _ _ _ F' N')
  | (refine' my_min2 ?c ?hh ?F ?N ?_; (case c => omega); (case hh => with_unfolding_all rfl); (case F => k_asm); (case N => k_asm); intro _ _ _ F' N')
  | (refine' my_minG ?hh ?F ?N ?_; (case hh => with_unfolding_all rfl); (case F => k_asm); (case N => k_asm); intro _ _ _ F' N')); (try k_sweep)))
section
variable {w : World} {p : Program} {loose : List Str} {mean : ExcName → Option Value} {mg mb : Str → Option Value}
  {dp un : Nat} {gd : Option (List Code)} {cn : Str} {cs : Scope} {a : Addr} {ccd : Value} {cl : List (Str × Addr)} {outer : List Env} {A₀ : Around} {base h₀ : Heap} {L : Addr} {m : Str → Option Value} {news : List (Addr × Obj)} {s : Shared} {Q E : Value → Shared → Prop}

section
set_option maxHeartbeats 4000000 in
theorem c_above (B : Below A₀ base outer h₀) (F : Fr h₀ L s.heap m) (X : (hK w.params).In h₀) (N : News h₀ L s.heap news) (T : Top p loose mean mg mb h₀) (hk : cs.kind = .function) (hdp : dp + 4 < recursionLimit) (hun : un + 20 < cLine)
  {vw : Addr} {hs : List Value} {g0 g1 : Value} (V : ViewIn w news vw hs g0 g1)
  (hret : ∀ t h' tk', Fr h₀ L h' m → News h₀ L h' news → Q (.int hs.length t) { s with heap := h', toks := tk' }) :
  wpAny (model PySem.Challenge.rw_og0290_01.row.prog w) (ktrTop dp un gd cn cs L a ccd cl outer) (call (.ref 281) [.ref vw]) Q E s := by
  refine ViewIn.elim V ?_
  clear V
  intro vd hi hd hl g gd gl t1 t2 t3 t4 t5 t6 t7 t8 u1 u2 u3 u4 n1 n2 m1 m2 m3 m4 m5 m6 m7 m8 h6 V1 V2 V3
  w_on
  w_top on
  k_steps
  exact hret _ _ _ (by k_asm) (by k_asm)
set_option maxHeartbeats 4000000 in
theorem c_rows (B : Below A₀ base outer h₀) (F : Fr h₀ L s.heap m) (X : (hK w.params).In h₀) (N : News h₀ L s.heap news) (T : Top p loose mean mg mb h₀) (hk : cs.kind = .function) (hdp : dp + 8 < recursionLimit) (hun : un + 40 < cLine)
  {vw : Addr} {hs : List Value} {g0 g1 : Value} (V : ViewIn w news vw hs g0 g1)
  (hret : ∀ t h' tk', Fr h₀ L h' m → News h₀ L h' news → Q (.int (hs.length + 2) t) { s with heap := h', toks := tk' }) :
  wpAny (model PySem.Challenge.rw_og0290_01.row.prog w) (ktrTop dp un gd cn cs L a ccd cl outer) (call (.ref 288) [.ref vw]) Q E s := by
  refine ViewIn.elim V ?_
  clear V
  intro vd hi hd hl g gd gl t1 t2 t3 t4 t5 t6 t7 t8 u1 u2 u3 u4 n1 n2 m1 m2 m3 m4 m5 m6 m7 m8 h6 V1 V2 V3
  w_on
  w_top on
  k_steps
  exact hret _ _ _ (by k_asm) (by k_asm)
set_option maxHeartbeats 4000000 in
theorem c_line (B : Below A₀ base outer h₀) (F : Fr h₀ L s.heap m) (X : (hK w.params).In h₀) (N : News h₀ L s.heap news) (T : Top p loose mean mg mb h₀) (hk : cs.kind = .function) (hdp : dp + 8 < recursionLimit) (hun : un + 40 < cLine)
  {vw : Addr} {hs : List Value} {g0 g1 : Value} (V : ViewIn w news vw hs g0 g1) {r : Int} {t : Tok} (r0 : 0 ≤ r) (r1 : r < hs.length + 2)
  (hret : ∀ v h' tk', LineIn w news v r → Fr h₀ L h' m → News h₀ L h' news → Q v { s with heap := h', toks := tk' }) :
  wpAny (model PySem.Challenge.rw_og0290_01.row.prog w) (ktrTop dp un gd cn cs L a ccd cl outer) (call (.ref 295) [.ref vw, .int r t]) Q E s := by
  refine ViewIn.elim V ?_
  clear V
  intro vd hi hd hl g gd gl t1 t2 t3 t4 t5 t6 t7 t8 u1 u2 u3 u4 n1 n2 m1 m2 m3 m4 m5 m6 m7 m8 h6 V1 V2 V3
  have key : ∃ v, LineIn w news v r ∧ (r < hs.length → hs[r.toNat]? = some v) ∧ (¬ r < hs.length → [g0, g1][(r - hs.length).toNat]? = some v) := by
    by_cases q : r < hs.length
    · have q2 : r.toNat < hs.length := by omega
      refine ⟨hs[r.toNat], ?_, fun _ => List.getElem?_eq_getElem q2, fun z => absurd q z⟩
      have := V1 r.toNat _ (List.getElem?_eq_getElem q2)
      rwa [Int.toNat_of_nonneg r0] at this
    · by_cases q2 : r = hs.length
      · subst q2; exact ⟨g0, V2, fun z => absurd z q, fun _ => by rw [Int.sub_self]; rfl⟩
      · have q3 : r = hs.length + 1 := by omega
        subst q3; exact ⟨g1, V3, fun z => absurd z q, fun _ => by rw [show ((hs.length : Int) + 1 - hs.length) = 1 by omega]; rfl⟩
  obtain ⟨v, hv, e1, e2⟩ := key
  w_on
  w_top on
  k_steps
  · k_dflt (refine' my_item ?N ?m ?a ?b ?x ?_ ?hs; (case N => k_asm); (case m => k_mem); (case a => omega); (case b => omega); (case x => exact e1 (by omega)); (case hs => with_unfolding_all rfl))
    k_steps
    exact hret _ _ _ hv (by k_asm) (by k_asm)
  · k_dflt (refine' my_item ?N ?m ?a ?b ?x ?_ ?hs; (case N => k_asm); (case m => k_mem); (case a => omega); (case b => omega); (case x => exact e2 (by omega)); (case hs => with_unfolding_all rfl))
    k_steps
    exact hret _ _ _ hv (by k_asm) (by k_asm)
end
local macro_rules | `(tactic| walk_at "call ref") => useM 281 `Mine.c_above "std V" "t' h' tk' F' N'"
local macro_rules | `(tactic| walk_at "call ref") => useM 288 `Mine.c_rows "std V" "t' h' tk' F' N'"
local macro_rules | `(tactic| walk_at "call ref") => useM 295 `Mine.c_line "std V r0:o r1:o" "v' h' tk' hv' F' N' @L"

section
set_option maxHeartbeats 4000000 in
theorem c_joined {vw : Addr} {hs : List Value} {g0 g1 : Value} (V : ViewIn w news vw hs g0 g1) {r : Int} {t : Tok} (r0 : 0 ≤ r) (r1 : r < hs.length + 2)
  (B : Below A₀ base outer h₀) (F : Fr h₀ L s.heap m) (X : (hK w.params).In h₀) (N : News h₀ L s.heap (news)) (T : Top p loose mean mg mb h₀) (hk : cs.kind = .function) (hdp : dp + 12 < recursionLimit) (hun : un + 60 < cLine)
  (hret : ∀  h' tk', Fr h₀ L h' m → News h₀ L h' (news) → Q (.bool false) { s with heap := h', toks := tk' }) :
  wpAny (model PySem.Challenge.rw_og0290_01.row.prog w) (ktrTop dp un gd cn cs L a ccd cl outer) (call (.ref 302) [.ref vw, .int r t]) Q E s := by
  refine ViewIn.elim V ?_
  intro vd hi hd hl g gd gl t1 t2 t3 t4 t5 t6 t7 t8 u1 u2 u3 u4 n1 n2 m1 m2 m3 m4 m5 m6 m7 m8 h6 V1 V2 V3
  w_on
  w_top on
  k_steps
  all_goals (first | exact hret _ _ (by k_asm) (by k_asm) | (rw [decide_eq_false (by first | omega | (simp only [decide_eq_true_eq] at *; omega))]; exact hret _ _ (by k_asm) (by k_asm)))
end
local macro_rules | `(tactic| walk_at "call ref") => useM 295 `Mine.c_line "std V r0:o r1:o" "v' h' tk' hv' F' N' @L"
local macro_rules | `(tactic| walk_at "call ref") => useM 302 `Mine.c_joined "std V r0:o r1:o" "h' tk' F' N'"

section
set_option maxHeartbeats 4000000 in
theorem c_width {vw : Addr} {hs : List Value} {g0 g1 : Value} (V : ViewIn w news vw hs g0 g1) {r : Int} {t : Tok} (r0 : 0 ≤ r) (r1 : r < hs.length + 2)
  (B : Below A₀ base outer h₀) (F : Fr h₀ L s.heap m) (X : (hK w.params).In h₀) (N : News h₀ L s.heap (news)) (T : Top p loose mean mg mb h₀) (hk : cs.kind = .function) (hdp : dp + 16 < recursionLimit) (hun : un + 160 < cLine)
  (hret : ∀ t h' tk', Fr h₀ L h' m → News h₀ L h' (news) → Q (.int 1 t) { s with heap := h', toks := tk' }) :
  wpAny (model PySem.Challenge.rw_og0290_01.row.prog w) (ktrTop dp un gd cn cs L a ccd cl outer) (call (.ref 330) [.ref vw, .int r t]) Q E s := by
  refine ViewIn.elim V ?_
  intro vd hi hd hl g gd gl t1 t2 t3 t4 t5 t6 t7 t8 u1 u2 u3 u4 n1 n2 m1 m2 m3 m4 m5 m6 m7 m8 h6 V1 V2 V3
  w_on
  w_top on
  k_steps
  exact hret _ _ _ (by k_asm) (by first | k_asm | exact cb_drop (by assumption) (by ktd_sub))
end
local macro_rules | `(tactic| walk_at "call ref") => useM 302 `Mine.c_joined "std V r0:o r1:o" "h' tk' F' N'"
local macro_rules | `(tactic| walk_at "call ref") => useM 330 `Mine.c_width "std V r0:o r1:o" "t' h' tk' F' N'"

section
set_option maxHeartbeats 4000000 in
theorem c_held {vw : Addr} {hs : List Value} {g0 g1 : Value} (V : ViewIn w news vw hs g0 g1) {pl : Addr} {r : Int} {t0 t1 : Tok} (hp : (pl, tup [.int r t0, .int 0 t1]) ∈ news) (r0 : 0 ≤ r) (r1 : r < hs.length + 2)
  (B : Below A₀ base outer h₀) (F : Fr h₀ L s.heap m) (X : (hK w.params).In h₀) (N : News h₀ L s.heap (news)) (T : Top p loose mean mg mb h₀) (hk : cs.kind = .function) (hdp : dp + 24 < recursionLimit) (hun : un + 240 < cLine)
  (hret : ∀ q t t' h' tk', (∀ p ∈ news, p.1 < q) → Fr h₀ L h' m → News h₀ L h' ((q, tup [.int r t, .int 0 t']) :: news) → Q (.ref q) { s with heap := h', toks := tk' }) :
  wpAny (model PySem.Challenge.rw_og0290_01.row.prog w) (ktrTop dp un gd cn cs L a ccd cl outer) (call (.ref 577) [.ref vw, .ref pl]) Q E s := by
  refine ViewIn.elim V ?_
  intro vd hi hd hl g gd gl t1 t2 t3 t4 t5 t6 t7 t8 u1 u2 u3 u4 n1 n2 m1 m2 m3 m4 m5 m6 m7 m8 h6 V1 V2 V3
  w_on
  w_top on
  k_steps
  exact hret _ _ _ _ _ ((by walk_at "c below")) (by k_asm) (cb_drop (by assumption) (sub1 (by ktd_sub)))
end
local macro_rules | `(tactic| walk_at "call ref") => useM 330 `Mine.c_width "std V r0:o r1:o" "t' h' tk' F' N'"
local macro_rules | `(tactic| walk_at "call ref") => useM 577 `Mine.c_held "std V hp:m r0:o r1:o" "q' t' u' h' tk' l1! F' N'"

section
set_option maxHeartbeats 4000000 in
theorem c_last {vw : Addr} {hs : List Value} {g0 g1 : Value} (V : ViewIn w news vw hs g0 g1) {r : Int} {t : Tok} (r0 : 0 ≤ r) (r1 : r < hs.length + 2)
  (B : Below A₀ base outer h₀) (F : Fr h₀ L s.heap m) (X : (hK w.params).In h₀) (N : News h₀ L s.heap (news)) (T : Top p loose mean mg mb h₀) (hk : cs.kind = .function) (hdp : dp + 20 < recursionLimit) (hun : un + 200 < cLine)
  (hret : ∀ t h' tk', Fr h₀ L h' m → News h₀ L h' (news) → Q (.int 0 t) { s with heap := h', toks := tk' }) :
  wpAny (model PySem.Challenge.rw_og0290_01.row.prog w) (ktrTop dp un gd cn cs L a ccd cl outer) (call (.ref 584) [.ref vw, .int r t]) Q E s := by
  refine ViewIn.elim V ?_
  intro vd hi hd hl g gd gl t1 t2 t3 t4 t5 t6 t7 t8 u1 u2 u3 u4 n1 n2 m1 m2 m3 m4 m5 m6 m7 m8 h6 V1 V2 V3
  w_on
  w_top on
  k_steps
  exact hret _ _ _ (by k_asm) (by first | k_asm | exact cb_drop (by assumption) (by ktd_sub))
set_option maxHeartbeats 4000000 in
theorem c_show {vw : Addr} {hs : List Value} {g0 g1 : Value} (V : ViewIn w news vw hs g0 g1) {mo md : Addr} {sep : Value} {tp : Int} {tr tt tw k1 k2 k3 k4 k5 k6 k7 k8 k9 k10 k11 k12 k13 k14 : Tok} (hmo : (mo, instObj 566 md) ∈ news) (hne : ∀ p ∈ news, p.1 ≠ md) {pl : Addr} {r : Int} {t0 t1 : Tok} (hp : (pl, tup [.int r t0, .int 0 t1]) ∈ news) (r0 : 0 ≤ r) (r1 : r < hs.length + 2) (p0 : 0 ≤ tp) (p1 : tp ≤ hs.length)
  (B : Below A₀ base outer h₀) (F : Fr h₀ L s.heap m) (X : (hK w.params).In h₀) (N : News h₀ L s.heap ((md, modeD w vw sep tp pl tr tt tw k1 k2 k3 k4 k5 k6 k7 k8 k9 k10 k11 k12 k13 k14) :: news)) (T : Top p loose mean mg mb h₀) (hk : cs.kind = .function) (hdp : dp + 20 < recursionLimit) (hun : un + 200 < cLine)
  (hret : ∀ (tp' : Int) (tt' : Tok) h' tk', 0 ≤ tp' → tp' ≤ hs.length → tp' ≤ r → r < tp' + 2 → (tp ≤ r → r < tp + 2 → tp' = tp) → Fr h₀ L h' m → News h₀ L h' ((md, modeD w vw sep tp' pl tr tt' tw k1 k2 k3 k4 k5 k6 k7 k8 k9 k10 k11 k12 k13 k14) :: news) → Q .none { s with heap := h', toks := tk' }) :
  wpAny (model PySem.Challenge.rw_og0290_01.row.prog w) (ktrTop dp un gd cn cs L a ccd cl outer) (call (.ref 512) [.ref mo]) Q E s := by
  refine ViewIn.elim V ?_
  intro vd hi hd hl g gd gl t1 t2 t3 t4 t5 t6 t7 t8 u1 u2 u3 u4 n1 n2 m1 m2 m3 m4 m5 m6 m7 m8 h6 V1 V2 V3
  w_on
  w_top on
  k_steps
  all_goals (refine hret _ _ _ _ ?_ ?_ ?_ ?_ ?_ (by k_asm) (by k_asm) <;> omega)
end
section
/-! ## A code table: triples that end in references -/
noncomputable def TabOk : List Value → Prop
  | [] => True
  | .int _ _ :: .int _ _ :: .ref _ :: rest => TabOk rest
  | _ => False
theorem TabOk.triples (l : List Value) (h : TabOk l) : TriplesOk l := by
  fun_induction TabOk l with
  | case1 => trivial
  | case2 a t b u x rest ih => simp only [TriplesOk]; exact ih h
  | case3 l h1 h2 => exact h.elim
theorem TabOk.snoc (a b : Int) (c : Addr) (l : List Value) (h : TabOk l) : TabOk (l ++ [rawInt a, rawInt b, .ref c]) := by
  fun_induction TabOk l with
  | case1 => simp [TabOk, rawInt]
  | case2 a' t b' u x rest ih => simp only [List.cons_append, TabOk]; exact ih h
  | case3 l h1 h2 => exact h.elim
theorem TabOk.hit (pos : Pos) (l : List Value) (h : TabOk l) {v : Value} (e : codeAmong pos l = some v) : ∃ c, v = .ref c := by
  fun_induction TabOk l with
  | case1 => simp [codeAmong] at e
  | case2 a' t b' u x rest ih =>
    simp only [codeAmong] at e
    split at e
    · exact ⟨_, (Option.some.inj e).symm⟩
    · exact ih h e
  | case3 l h1 h2 => exact h.elim
theorem UpdF.openT {h₀ h : Heap} {L : Addr} {m : Str → Option Value} {P : Addr} {ps : Array Value} {news : List (Addr × Obj)} {g : Obj → List (Addr × Obj)} {R : Addr → Array Value → Heap → Nat → Prop} {G : Prop}
  (U : UpdF P (tabObj ps) news g) (N : News h₀ L h news)
  (hret : ∀ q (ps' : Array Value) h' tk', TabOk ps'.toList → (∀ p ∈ news, p.1 < q) → Fr h₀ L h' m → News h₀ L h' (g (tabObj ps')) → R q ps' h' tk')
  (z : ∀ nw, News h₀ L h ((P, tabObj ps) :: nw) → (∀ q ∈ nw, q.1 ≠ P) → (∀ q (ps' : Array Value) h' tk', TabOk ps'.toList → (∀ p ∈ (P, tabObj ps) :: nw, p.1 < q) → Fr h₀ L h' m → News h₀ L h' ((P, tabObj ps') :: nw) → R q ps' h' tk') → G) : G := by
  obtain ⟨pre, post, rfl, hg, e1, e2⟩ := U.split
  have up : ∀ {x : Addr × Obj}, ∀ q ∈ pre ++ x :: post, q ∈ x :: (pre ++ post) := fun q hq => (List.mem_append.mp hq).elim (fun h => .tail _ (List.mem_append_left _ h)) fun h => (List.mem_cons.mp h).elim (fun e => e ▸ .head _) fun h => .tail _ (List.mem_append_right _ h)
  have dn : ∀ {x : Addr × Obj}, ∀ q ∈ x :: (pre ++ post), q ∈ pre ++ x :: post := fun q hq => (List.mem_cons.mp hq).elim (fun e => e ▸ List.mem_append_right _ (.head _)) fun h => (List.mem_append.mp h).elim (fun h => List.mem_append_left _ h) fun h => List.mem_append_right _ (.tail _ h)
  exact z (pre ++ post) (News.order N dn) (fun q hq => (List.mem_append.mp hq).elim (e1 q) (e2 q)) fun q ps' h' tk' a l b c => hret q ps' h' tk' a (fun p hp => l p (up p hp)) b (by rw [hg]; exact News.order c up)
theorem nest_any {M : Model} {A : Around} {E : Value → Shared → Prop} {s : Shared} {h₀ : Heap} {L a c P : Addr} {m mg mb : Str → Option Value} {cn : Str} {cs : Scope} {ccd : Value} {cl : List (Str × Addr)} {news : List (Addr × Obj)} {g : Obj → List (Addr × Obj)}
  {p : Program} {loose : List Str} {mean : ExcName → Option Value} {name qual : Str} {params : Arguments} {body : List Stmt} {scope : Scope} {ps : Array Value} {pos : Pos} {firstLine : Nat} {clos : List (Str × Addr)} {Q : Value → Shared → Prop}
    (F : Fr h₀ L s.heap m) (N : News h₀ L s.heap news) (T : Top p loose mean mg mb h₀) (C : CodeHd h₀ c P) (hcd : ccd = .ref c) (U : UpdF P (tabObj ps) news g) (ht : TabOk ps.toList)
    (hcl : closureFor scope (envX cn cs L a ccd cl) = pure clos)
    (h : ∀ f ps' h' tk, Fr h₀ L h' m → News h₀ L h' (g (tabObj ps')) → TabOk ps'.toList → (∀ q ∈ news, q.1 < f) → Q (.ref f) { s with heap := h', toks := tk }) :
    wpAny M A (makeFunction name qual params (.stmts body) scope (envX cn cs L a ccd cl) [] [] [] pos firstLine) Q E s := by
  cases e : codeAmong pos ps.toList with
  | none =>
    refine nest_K F N T C hcd U ht.triples e hcl fun f c' oc vs t ctv doc h' tk F' N' _ _ l1 l2 => h f _ h' tk F' (fun q hq => N' q (.tail _ (.tail _ hq))) ?_ fun q hq => Nat.lt_trans (l1 q hq) l2
    rw [Array.toList_append]
    exact ht.snoc _ _ _
  | some v =>
    obtain ⟨c', rfl⟩ := ht.hit _ _ e
    obtain ⟨pre, post, rfl, hg, _, _⟩ := U.split
    refine nestHit_K F N T C hcd (List.mem_append_right _ (.head _)) ht.triples e hcl fun f ctv doc h' tk F' N' l1 => h f ps h' tk F' (by rw [hg]; exact fun q hq => N' q (.tail _ hq)) ht l1
local macro_rules | `(tactic| walk_at "exec FunctionDef") => `(tactic| (k_here; k_dflt (refine' nestDef_K ?d0 ?k0 ?a0 ?_; (case d0 => exact rfl); (case k0 => exact rfl); (case a0 => exact rfl)); (k_dflt (refine' nest_any ?F ?N ?T ?C ?cd ?U ?t ?cl ?_; (case F => k_asm); (case N => k_asm); (case T => k_asm); (case cd => exact rfl); (case C => exact CodeHd.keeps (by assumption) (Fr.keep (by assumption))); (case U => k_updF); (case t => assumption); (case cl => exact rfl); k_whole); intro f' ps' h' tk' F' N' ht' l1; (try dsimp only at N'); (try k_lt l1))))
local macro_rules | `(tactic| k_enter) => `(tactic| walk_at "c enter0")
set_option maxHeartbeats 4000000 in
theorem c_byword {x y : Value} {ps : Array Value} {g : Obj → List (Addr × Obj)} (C : CodeHd h₀ 744 740) (U : UpdF 740 (tabObj ps) news g) (ht : TabOk ps.toList)
  (B : Below A₀ base outer h₀) (F : Fr h₀ L s.heap m) (X : (hK w.params).In h₀) (N : News h₀ L s.heap (news)) (T : Top p loose mean mg mb h₀) (hk : cs.kind = .function) (hdp : dp + 6 < recursionLimit) (hun : un + 60 < cLine)
  (hret : ∀ q (ps' : Array Value) h' tk', TabOk ps'.toList → (∀ p ∈ news, p.1 < q) → Fr h₀ L h' m → News h₀ L h' (g (tabObj ps')) → Q (.ref q) { s with heap := h', toks := tk' }) :
  wpAny (model PySem.Challenge.rw_og0290_01.row.prog w) (ktrTop dp un gd cn cs L a ccd cl outer) (call (.ref 745) [x, y]) Q E s := by
  refine UpdF.openT U N hret ?_
  clear hret N U
  intro nw N0 hne hret'
  w_on
  w_top on
  k_steps
  exact hret' _ _ _ _ (by assumption) ((by walk_at "c below")) (by k_asm) (cb_drop (by assumption) (by ktd_sub))
set_option maxHeartbeats 4000000 in
theorem c_shown {x : Value} {ps : Array Value} {g : Obj → List (Addr × Obj)} (C : CodeHd h₀ 702 698) (U : UpdF 698 (tabObj ps) news g) (ht : TabOk ps.toList)
  (B : Below A₀ base outer h₀) (F : Fr h₀ L s.heap m) (X : (hK w.params).In h₀) (N : News h₀ L s.heap (news)) (T : Top p loose mean mg mb h₀) (hk : cs.kind = .function) (hdp : dp + 6 < recursionLimit) (hun : un + 60 < cLine)
  (hret : ∀ q (ps' : Array Value) h' tk', TabOk ps'.toList → (∀ p ∈ news, p.1 < q) → Fr h₀ L h' m → News h₀ L h' (g (tabObj ps')) → Q (.ref q) { s with heap := h', toks := tk' }) :
  wpAny (model PySem.Challenge.rw_og0290_01.row.prog w) (ktrTop dp un gd cn cs L a ccd cl outer) (call (.ref 703) [x]) Q E s := by
  refine UpdF.openT U N hret ?_
  clear hret N U
  intro nw N0 hne hret'
  w_on
  w_top on
  k_steps
  exact hret' _ _ _ _ (by assumption) ((by walk_at "c below")) (by k_asm) (cb_drop (by assumption) (by ktd_sub))
set_option maxHeartbeats 4000000 in
theorem c_page {x y : Value} {ps : Array Value} {g : Obj → List (Addr × Obj)} (C : CodeHd h₀ 730 726) (U : UpdF 726 (tabObj ps) news g) (ht : TabOk ps.toList)
  (B : Below A₀ base outer h₀) (F : Fr h₀ L s.heap m) (X : (hK w.params).In h₀) (N : News h₀ L s.heap (news)) (T : Top p loose mean mg mb h₀) (hk : cs.kind = .function) (hdp : dp + 6 < recursionLimit) (hun : un + 60 < cLine)
  (hret : ∀ q (ps' : Array Value) h' tk', TabOk ps'.toList → (∀ p ∈ news, p.1 < q) → Fr h₀ L h' m → News h₀ L h' (g (tabObj ps')) → Q (.ref q) { s with heap := h', toks := tk' }) :
  wpAny (model PySem.Challenge.rw_og0290_01.row.prog w) (ktrTop dp un gd cn cs L a ccd cl outer) (call (.ref 731) [x, y]) Q E s := by
  refine UpdF.openT U N hret ?_
  clear hret N U
  intro nw N0 hne hret'
  w_on
  w_top on
  k_steps
  exact hret' _ _ _ _ (by assumption) ((by walk_at "c below")) (by k_asm) (cb_drop (by assumption) (by ktd_sub))
set_option maxHeartbeats 4000000 in
theorem c_scroll {x : Value} {ps : Array Value} {g : Obj → List (Addr × Obj)} (C : CodeHd h₀ 737 733) (U : UpdF 733 (tabObj ps) news g) (ht : TabOk ps.toList)
  (B : Below A₀ base outer h₀) (F : Fr h₀ L s.heap m) (X : (hK w.params).In h₀) (N : News h₀ L s.heap (news)) (T : Top p loose mean mg mb h₀) (hk : cs.kind = .function) (hdp : dp + 6 < recursionLimit) (hun : un + 60 < cLine)
  (hret : ∀ q (ps' : Array Value) h' tk', TabOk ps'.toList → (∀ p ∈ news, p.1 < q) → Fr h₀ L h' m → News h₀ L h' (g (tabObj ps')) → Q (.ref q) { s with heap := h', toks := tk' }) :
  wpAny (model PySem.Challenge.rw_og0290_01.row.prog w) (ktrTop dp un gd cn cs L a ccd cl outer) (call (.ref 738) [x]) Q E s := by
  refine UpdF.openT U N hret ?_
  clear hret N U
  intro nw N0 hne hret'
  w_on
  w_top on
  k_steps
  exact hret' _ _ _ _ (by assumption) ((by walk_at "c below")) (by k_asm) (cb_drop (by assumption) (by ktd_sub))
set_option maxHeartbeats 4000000 in
theorem c_para {x : Value} {ps : Array Value} {g : Obj → List (Addr × Obj)} (C : CodeHd h₀ 758 754) (U : UpdF 754 (tabObj ps) news g) (ht : TabOk ps.toList)
  (B : Below A₀ base outer h₀) (F : Fr h₀ L s.heap m) (X : (hK w.params).In h₀) (N : News h₀ L s.heap (news)) (T : Top p loose mean mg mb h₀) (hk : cs.kind = .function) (hdp : dp + 6 < recursionLimit) (hun : un + 60 < cLine)
  (hret : ∀ q (ps' : Array Value) h' tk', TabOk ps'.toList → (∀ p ∈ news, p.1 < q) → Fr h₀ L h' m → News h₀ L h' (g (tabObj ps')) → Q (.ref q) { s with heap := h', toks := tk' }) :
  wpAny (model PySem.Challenge.rw_og0290_01.row.prog w) (ktrTop dp un gd cn cs L a ccd cl outer) (call (.ref 759) [x]) Q E s := by
  refine UpdF.openT U N hret ?_
  clear hret N U
  intro nw N0 hne hret'
  w_on
  w_top on
  k_steps
  exact hret' _ _ _ _ (by assumption) ((by walk_at "c below")) (by k_asm) (cb_drop (by assumption) (by ktd_sub))
set_option maxHeartbeats 4000000 in
theorem c_jump {x y : Value} {ps : Array Value} {g : Obj → List (Addr × Obj)} (C : CodeHd h₀ 772 768) (U : UpdF 768 (tabObj ps) news g) (ht : TabOk ps.toList)
  (B : Below A₀ base outer h₀) (F : Fr h₀ L s.heap m) (X : (hK w.params).In h₀) (N : News h₀ L s.heap (news)) (T : Top p loose mean mg mb h₀) (hk : cs.kind = .function) (hdp : dp + 6 < recursionLimit) (hun : un + 60 < cLine)
  (hret : ∀ q (ps' : Array Value) h' tk', TabOk ps'.toList → (∀ p ∈ news, p.1 < q) → Fr h₀ L h' m → News h₀ L h' (g (tabObj ps')) → Q (.ref q) { s with heap := h', toks := tk' }) :
  wpAny (model PySem.Challenge.rw_og0290_01.row.prog w) (ktrTop dp un gd cn cs L a ccd cl outer) (call (.ref 773) [x, y]) Q E s := by
  refine UpdF.openT U N hret ?_
  clear hret N U
  intro nw N0 hne hret'
  w_on
  w_top on
  k_steps
  exact hret' _ _ _ _ (by assumption) ((by walk_at "c below")) (by k_asm) (cb_drop (by assumption) (by ktd_sub))
set_option maxHeartbeats 4000000 in
theorem c_search {x : Value} {ps : Array Value} {g : Obj → List (Addr × Obj)} (C : CodeHd h₀ 800 796) (U : UpdF 796 (tabObj ps) news g) (ht : TabOk ps.toList)
  (B : Below A₀ base outer h₀) (F : Fr h₀ L s.heap m) (X : (hK w.params).In h₀) (N : News h₀ L s.heap (news)) (T : Top p loose mean mg mb h₀) (hk : cs.kind = .function) (hdp : dp + 6 < recursionLimit) (hun : un + 60 < cLine)
  (hret : ∀ q (ps' : Array Value) h' tk', TabOk ps'.toList → (∀ p ∈ news, p.1 < q) → Fr h₀ L h' m → News h₀ L h' (g (tabObj ps')) → Q (.ref q) { s with heap := h', toks := tk' }) :
  wpAny (model PySem.Challenge.rw_og0290_01.row.prog w) (ktrTop dp un gd cn cs L a ccd cl outer) (call (.ref 801) [x]) Q E s := by
  refine UpdF.openT U N hret ?_
  clear hret N U
  intro nw N0 hne hret'
  w_on
  w_top on
  k_steps
  exact hret' _ _ _ _ (by assumption) ((by walk_at "c below")) (by k_asm) (cb_drop (by assumption) (by ktd_sub))
set_option maxHeartbeats 4000000 in
theorem c_begin {x : Value} {ps : Array Value} {g : Obj → List (Addr × Obj)} (C : CodeHd h₀ 840 836) (U : UpdF 836 (tabObj ps) news g) (ht : TabOk ps.toList)
  (B : Below A₀ base outer h₀) (F : Fr h₀ L s.heap m) (X : (hK w.params).In h₀) (N : News h₀ L s.heap (news)) (T : Top p loose mean mg mb h₀) (hk : cs.kind = .function) (hdp : dp + 6 < recursionLimit) (hun : un + 60 < cLine)
  (hret : ∀ q (ps' : Array Value) h' tk', TabOk ps'.toList → (∀ p ∈ news, p.1 < q) → Fr h₀ L h' m → News h₀ L h' (g (tabObj ps')) → Q (.ref q) { s with heap := h', toks := tk' }) :
  wpAny (model PySem.Challenge.rw_og0290_01.row.prog w) (ktrTop dp un gd cn cs L a ccd cl outer) (call (.ref 841) [x]) Q E s := by
  refine UpdF.openT U N hret ?_
  clear hret N U
  intro nw N0 hne hret'
  w_on
  w_top on
  k_steps
  exact hret' _ _ _ _ (by assumption) ((by walk_at "c below")) (by k_asm) (cb_drop (by assumption) (by ktd_sub))
set_option maxHeartbeats 4000000 in
theorem c_take {x : Value} {ps : Array Value} {g : Obj → List (Addr × Obj)} (C : CodeHd h₀ 875 871) (U : UpdF 871 (tabObj ps) news g) (ht : TabOk ps.toList)
  (B : Below A₀ base outer h₀) (F : Fr h₀ L s.heap m) (X : (hK w.params).In h₀) (N : News h₀ L s.heap (news)) (T : Top p loose mean mg mb h₀) (hk : cs.kind = .function) (hdp : dp + 6 < recursionLimit) (hun : un + 60 < cLine)
  (hret : ∀ q (ps' : Array Value) h' tk', TabOk ps'.toList → (∀ p ∈ news, p.1 < q) → Fr h₀ L h' m → News h₀ L h' (g (tabObj ps')) → Q (.ref q) { s with heap := h', toks := tk' }) :
  wpAny (model PySem.Challenge.rw_og0290_01.row.prog w) (ktrTop dp un gd cn cs L a ccd cl outer) (call (.ref 876) [x]) Q E s := by
  refine UpdF.openT U N hret ?_
  clear hret N U
  intro nw N0 hne hret'
  w_on
  w_top on
  k_steps
  exact hret' _ _ _ _ (by assumption) ((by walk_at "c below")) (by k_asm) (cb_drop (by assumption) (by ktd_sub))
set_option maxHeartbeats 4000000 in
theorem c_sword {x : Value} {ps : Array Value} {g : Obj → List (Addr × Obj)} (C : CodeHd h₀ 882 878) (U : UpdF 878 (tabObj ps) news g) (ht : TabOk ps.toList)
  (B : Below A₀ base outer h₀) (F : Fr h₀ L s.heap m) (X : (hK w.params).In h₀) (N : News h₀ L s.heap (news)) (T : Top p loose mean mg mb h₀) (hk : cs.kind = .function) (hdp : dp + 6 < recursionLimit) (hun : un + 60 < cLine)
  (hret : ∀ q (ps' : Array Value) h' tk', TabOk ps'.toList → (∀ p ∈ news, p.1 < q) → Fr h₀ L h' m → News h₀ L h' (g (tabObj ps')) → Q (.ref q) { s with heap := h', toks := tk' }) :
  wpAny (model PySem.Challenge.rw_og0290_01.row.prog w) (ktrTop dp un gd cn cs L a ccd cl outer) (call (.ref 883) [x]) Q E s := by
  refine UpdF.openT U N hret ?_
  clear hret N U
  intro nw N0 hne hret'
  w_on
  w_top on
  k_steps
  exact hret' _ _ _ _ (by assumption) ((by walk_at "c below")) (by k_asm) (cb_drop (by assumption) (by ktd_sub))
end
section
local macro_rules | `(tactic| walk_at "mine") => `(tactic| skip)
def tabAs : List Nat := [740, 698, 726, 733, 754, 878, 899, 836, 871, 768, 796]
/-- no code table's address -/
def NT (a : Nat) : Prop := tabAs.contains a = false
theorem NT.of_lt {a : Nat} (h : 899 < a) : NT a := by unfold NT tabAs; simp; omega
theorem NT.ne {a b : Nat} (h : NT a) (hb : tabAs.contains b = true) : a ≠ b := fun e => by subst e; unfold NT at h; rw [hb] at h; cases h
theorem lowNe {nw : List (Addr × Obj)} (h : ∀ q ∈ nw, NT q.1) {a : Addr} (ha : tabAs.contains a = true) : ∀ q ∈ nw, q.1 ≠ a := fun q hq => (h q hq).ne ha
local macro_rules | `(tactic| k_all) => `(tactic| exact lowNe (by assumption) (by rfl))
/-! ## The commands' table -/
abbrev tCs : List (Addr × Addr) := [(744, 740), (702, 698), (730, 726), (737, 733), (758, 754), (882, 878), (903, 899), (840, 836), (875, 871), (772, 768), (800, 796)]
theorem CodeAll.at {h : Heap} : ∀ {l : List (Addr × Addr)} {i : Nat} {q : Addr × Addr}, CodeAll l h → l[i]? = some q → CodeHd h q.1 q.2
  | _ :: _, 0, _, k, e => by cases e; exact k.1
  | _ :: _, i + 1, _, k, e => CodeAll.at (i := i) k.2 e
theorem CodeAll.keeps {h h' : Heap} (k : ∀ b o, h.get? b = some o → h'.get? b = some o) : ∀ {l : List (Addr × Addr)}, CodeAll l h → CodeAll l h'
  | [], _ => trivial
  | _ :: _, x => ⟨x.1.keeps k, CodeAll.keeps k x.2⟩
/-- what a name's act must be, where it is asked -/
def wantB (b : List UInt8) : Option Addr := if b = [104, 105, 115, 116, 111, 114, 121, 45, 116, 111, 112] then some 710 else if b = [104, 105, 115, 116, 111, 114, 121, 45, 98, 111, 116, 116, 111, 109] then some 717 else none
def MoveAt (tl : List (Addr × Obj)) (v : Value) (b : List UInt8) : Prop := ∃ (t : Addr) (tk : Tok) (x : Value), v = .ref t ∧ (t, tup [.bytes b.toArray tk, x]) ∈ tl ∧ ∀ y, wantB b = some y → x = .ref y
noncomputable def Moves (tl : List (Addr × Obj)) : List Value → List (List UInt8) → Prop
  | [], [] => True
  | v :: vs, b :: bs => MoveAt tl v b ∧ Moves tl vs bs
  | _, _ => False
theorem moveAt_of {tl : List (Addr × Obj)} {t : Addr} {tk : Tok} {x : Value} {b : List UInt8} (hm : (t, tup [.bytes b.toArray tk, x]) ∈ tl) (hw : ∀ y, wantB b = some y → x = .ref y) : MoveAt tl (.ref t) b := ⟨t, tk, x, rfl, hm, hw⟩
theorem MoveAt.mono {tl tl' : List (Addr × Obj)} (k : ∀ p ∈ tl, p ∈ tl') {v : Value} {b : List UInt8} : MoveAt tl v b → MoveAt tl' v b
  | ⟨t, tk, x, e, hm, hw⟩ => ⟨t, tk, x, e, k _ hm, hw⟩
theorem Moves.mono {tl tl' : List (Addr × Obj)} (k : ∀ p ∈ tl, p ∈ tl') : ∀ {vs : List Value} {bs : List (List UInt8)}, Moves tl vs bs → Moves tl' vs bs
  | [], [], _ => trivial
  | _ :: _, _ :: _, h => ⟨h.1.mono k, h.2.mono k⟩
  | [], _ :: _, h => h.elim
  | _ :: _, [], h => h.elim
theorem Moves.append {tl : List (Addr × Obj)} : ∀ {vs vs' : List Value} {bs bs' : List (List UInt8)}, Moves tl vs bs → Moves tl vs' bs' → Moves tl (vs ++ vs') (bs ++ bs')
  | [], _, [], _, _, h => h
  | _ :: _, _, _ :: _, _, h, h' => ⟨h.1, h.2.append h'⟩
  | [], _, _ :: _, _, h, _ => h.elim
  | _ :: _, _, [], _, h, _ => h.elim
theorem Moves.length {tl : List (Addr × Obj)} : ∀ {vs : List Value} {bs : List (List UInt8)}, Moves tl vs bs → vs.length = bs.length
  | [], [], _ => rfl
  | _ :: _, _ :: _, h => congrArg (· + 1) h.2.length
  | [], _ :: _, h => h.elim
  | _ :: _, [], h => h.elim
theorem Moves.get {tl : List (Addr × Obj)} : ∀ {vs : List Value} {bs : List (List UInt8)} {i : Nat} {v : Value}, Moves tl vs bs → vs[i]? = some v → ∃ b, bs[i]? = some b ∧ MoveAt tl v b
  | v :: _, b :: _, 0, _, h, e => ⟨b, rfl, by cases e; exact h.1⟩
  | _ :: _, _ :: _, i + 1, _, h, e => h.2.get (i := i) e
  | [], _, _, _, _, e => by simp at e
  | _ :: _, [], _, _, h, _ => h.elim
def nPlain : List (List UInt8) := [[99, 117, 114, 115, 111, 114, 45, 108, 101, 102, 116], [99, 117, 114, 115, 111, 114, 45, 114, 105, 103, 104, 116], [99, 117, 114, 115, 111, 114, 45, 117, 112], [99, 117, 114, 115, 111, 114, 45, 100, 111, 119, 110], [115, 116, 97, 114, 116, 45, 111, 102, 45, 108, 105, 110, 101], [101, 110, 100, 45, 111, 102, 45, 108, 105, 110, 101], [98, 97, 99, 107, 45, 116, 111, 45, 105, 110, 100, 101, 110, 116, 97, 116, 105, 111, 110], [110, 101, 120, 116, 45, 119, 111, 114, 100], [110, 101, 120, 116, 45, 119, 111, 114, 100, 45, 101, 110, 100], [112, 114, 101, 118, 105, 111, 117, 115, 45, 119, 111, 114, 100], [110, 101, 120, 116, 45, 115, 112, 97, 99, 101], [110, 101, 120, 116, 45, 115, 112, 97, 99, 101, 45, 101, 110, 100], [112, 114, 101, 118, 105, 111, 117, 115, 45, 115, 112, 97, 99, 101]]
def nFar : List (List UInt8) := [[116, 111, 112, 45, 108, 105, 110, 101], [109, 105, 100, 100, 108, 101, 45, 108, 105, 110, 101], [98, 111, 116, 116, 111, 109, 45, 108, 105, 110, 101], [104, 105, 115, 116, 111, 114, 121, 45, 116, 111, 112], [104, 105, 115, 116, 111, 114, 121, 45, 98, 111, 116, 116, 111, 109], [112, 97, 103, 101, 45, 117, 112], [112, 97, 103, 101, 45, 100, 111, 119, 110], [104, 97, 108, 102, 112, 97, 103, 101, 45, 117, 112], [104, 97, 108, 102, 112, 97, 103, 101, 45, 100, 111, 119, 110], [115, 99, 114, 111, 108, 108, 45, 117, 112], [115, 99, 114, 111, 108, 108, 45, 100, 111, 119, 110], [110, 101, 120, 116, 45, 109, 97, 116, 99, 104, 105, 110, 103, 45, 98, 114, 97, 99, 107, 101, 116], [110, 101, 120, 116, 45, 112, 97, 114, 97, 103, 114, 97, 112, 104], [112, 114, 101, 118, 105, 111, 117, 115, 45, 112, 97, 114, 97, 103, 114, 97, 112, 104], [106, 117, 109, 112, 45, 97, 103, 97, 105, 110], [106, 117, 109, 112, 45, 114, 101, 118, 101, 114, 115, 101], [115, 101, 97, 114, 99, 104, 45, 97, 103, 97, 105, 110], [115, 101, 97, 114, 99, 104, 45, 114, 101, 118, 101, 114, 115, 101], [115, 101, 97, 114, 99, 104, 45, 102, 111, 114, 119, 97, 114, 100, 45, 119, 111, 114, 100], [115, 101, 97, 114, 99, 104, 45, 98, 97, 99, 107, 119, 97, 114, 100, 45, 119, 111, 114, 100], [115, 101, 116, 45, 109, 97, 114, 107], [106, 117, 109, 112, 45, 116, 111, 45, 109, 97, 114, 107]]
def nCh : List (List UInt8) := [[98, 101, 103, 105, 110, 45, 115, 101, 108, 101, 99, 116, 105, 111, 110], [115, 101, 108, 101, 99, 116, 45, 108, 105, 110, 101], [115, 101, 108, 101, 99, 116, 45, 119, 111, 114, 100], [114, 101, 99, 116, 97, 110, 103, 108, 101, 45, 116, 111, 103, 103, 108, 101], [111, 116, 104, 101, 114, 45, 101, 110, 100], [99, 108, 101, 97, 114, 45, 115, 101, 108, 101, 99, 116, 105, 111, 110], [99, 111, 112, 121, 45, 115, 101, 108, 101, 99, 116, 105, 111, 110], [99, 111, 112, 121, 45, 115, 101, 108, 101, 99, 116, 105, 111, 110, 45, 97, 110, 100, 45, 99, 97, 110, 99, 101, 108], [99, 97, 110, 99, 101, 108]]
local macro_rules | `(tactic| walk_at "call ref") => useM 745 `Mine.c_byword "std C:C_0_744_740 U:u ht:a" "q' ps' h' tk' ht' l1! F' N'!N"
set_option maxHeartbeats 4000000 in
theorem c_plain {p0 p1 p2 p3 p4 p5 p6 p7 p8 p9 p10 : Array Value} {nw : List (Addr × Obj)} (HC : CodeAll tCs h₀) (ht0 : TabOk p0.toList) (ht1 : TabOk p1.toList) (ht2 : TabOk p2.toList) (ht3 : TabOk p3.toList) (ht4 : TabOk p4.toList) (ht5 : TabOk p5.toList) (ht6 : TabOk p6.toList) (ht7 : TabOk p7.toList) (ht8 : TabOk p8.toList) (ht9 : TabOk p9.toList) (ht10 : TabOk p10.toList) (hlow : ∀ q ∈ nw, NT q.1)
  (B : Below A₀ base outer h₀) (F : Fr h₀ L s.heap m) (X : (hK w.params).In h₀) (N : News h₀ L s.heap (((740 : Addr), tabObj p0) :: ((698 : Addr), tabObj p1) :: ((726 : Addr), tabObj p2) :: ((733 : Addr), tabObj p3) :: ((754 : Addr), tabObj p4) :: ((878 : Addr), tabObj p5) :: ((899 : Addr), tabObj p6) :: ((836 : Addr), tabObj p7) :: ((871 : Addr), tabObj p8) :: ((768 : Addr), tabObj p9) :: ((796 : Addr), tabObj p10) :: nw)) (T : Top p loose mean mg mb h₀) (hk : cs.kind = .function) (hdp : dp + 16 < recursionLimit) (hun : un + 160 < cLine)
  (hret : ∀ (l : Addr) (vs : List Value) (tl : List (Addr × Obj)) (r0 r1 r2 r3 r4 r5 r6 r7 r8 r9 r10 : Array Value) h' tk', TabOk r0.toList → TabOk r1.toList → TabOk r2.toList → TabOk r3.toList → TabOk r4.toList → TabOk r5.toList → TabOk r6.toList → TabOk r7.toList → TabOk r8.toList → TabOk r9.toList → TabOk r10.toList → Moves tl vs nPlain → (∀ q ∈ (l, listOf vs.toArray 0) :: tl, ∀ x ∈ ((740 : Addr), tabObj p0) :: ((698 : Addr), tabObj p1) :: ((726 : Addr), tabObj p2) :: ((733 : Addr), tabObj p3) :: ((754 : Addr), tabObj p4) :: ((878 : Addr), tabObj p5) :: ((899 : Addr), tabObj p6) :: ((836 : Addr), tabObj p7) :: ((871 : Addr), tabObj p8) :: ((768 : Addr), tabObj p9) :: ((796 : Addr), tabObj p10) :: nw, x.1 < q.1) → Fr h₀ L h' m → News h₀ L h' ((l, listOf vs.toArray 0) :: (tl ++ (((740 : Addr), tabObj r0) :: ((698 : Addr), tabObj r1) :: ((726 : Addr), tabObj r2) :: ((733 : Addr), tabObj r3) :: ((754 : Addr), tabObj r4) :: ((878 : Addr), tabObj r5) :: ((899 : Addr), tabObj r6) :: ((836 : Addr), tabObj r7) :: ((871 : Addr), tabObj r8) :: ((768 : Addr), tabObj r9) :: ((796 : Addr), tabObj r10) :: nw))) → Q (.ref l) { s with heap := h', toks := tk' }) :
  wpAny (model PySem.Challenge.rw_og0290_01.row.prog w) (ktrTop dp un gd cn cs L a ccd cl outer) (call (.ref 897) []) Q E s := by
  w_on
  w_top on
  k_steps
  refine' hret _ ?vs [?t0, ?t1, ?t2, ?t3, ?t4, ?t5, ?t6, ?t7, ?t8, ?t9, ?t10, ?t11, ?t12] ?r0 ?r1 ?r2 ?r3 ?r4 ?r5 ?r6 ?r7 ?r8 ?r9 ?r10 _ _ ?k0 ?k1 ?k2 ?k3 ?k4 ?k5 ?k6 ?k7 ?k8 ?k9 ?k10 ?M ?lt ?F ?N
  case N => k_dflt assumption
  case F => k_asm
  all_goals (first | assumption | skip)
  case M =>
    exact ⟨moveAt_of (tk := _) (x := _) (by k_mem) (fun y e => by first | (rw [show wantB _ = none by decide +kernel] at e; cases e) | (rw [show wantB _ = some 710 by decide +kernel] at e; cases e; rfl) | (rw [show wantB _ = some 717 by decide +kernel] at e; cases e; rfl)), ⟨moveAt_of (tk := _) (x := _) (by k_mem) (fun y e => by first | (rw [show wantB _ = none by decide +kernel] at e; cases e) | (rw [show wantB _ = some 710 by decide +kernel] at e; cases e; rfl) | (rw [show wantB _ = some 717 by decide +kernel] at e; cases e; rfl)), ⟨moveAt_of (tk := _) (x := _) (by k_mem) (fun y e => by first | (rw [show wantB _ = none by decide +kernel] at e; cases e) | (rw [show wantB _ = some 710 by decide +kernel] at e; cases e; rfl) | (rw [show wantB _ = some 717 by decide +kernel] at e; cases e; rfl)), ⟨moveAt_of (tk := _) (x := _) (by k_mem) (fun y e => by first | (rw [show wantB _ = none by decide +kernel] at e; cases e) | (rw [show wantB _ = some 710 by decide +kernel] at e; cases e; rfl) | (rw [show wantB _ = some 717 by decide +kernel] at e; cases e; rfl)), ⟨moveAt_of (tk := _) (x := _) (by k_mem) (fun y e => by first | (rw [show wantB _ = none by decide +kernel] at e; cases e) | (rw [show wantB _ = some 710 by decide +kernel] at e; cases e; rfl) | (rw [show wantB _ = some 717 by decide +kernel] at e; cases e; rfl)), ⟨moveAt_of (tk := _) (x := _) (by k_mem) (fun y e => by first | (rw [show wantB _ = none by decide +kernel] at e; cases e) | (rw [show wantB _ = some 710 by decide +kernel] at e; cases e; rfl) | (rw [show wantB _ = some 717 by decide +kernel] at e; cases e; rfl)), ⟨moveAt_of (tk := _) (x := _) (by k_mem) (fun y e => by first | (rw [show wantB _ = none by decide +kernel] at e; cases e) | (rw [show wantB _ = some 710 by decide +kernel] at e; cases e; rfl) | (rw [show wantB _ = some 717 by decide +kernel] at e; cases e; rfl)), ⟨moveAt_of (tk := _) (x := _) (by k_mem) (fun y e => by first | (rw [show wantB _ = none by decide +kernel] at e; cases e) | (rw [show wantB _ = some 710 by decide +kernel] at e; cases e; rfl) | (rw [show wantB _ = some 717 by decide +kernel] at e; cases e; rfl)), ⟨moveAt_of (tk := _) (x := _) (by k_mem) (fun y e => by first | (rw [show wantB _ = none by decide +kernel] at e; cases e) | (rw [show wantB _ = some 710 by decide +kernel] at e; cases e; rfl) | (rw [show wantB _ = some 717 by decide +kernel] at e; cases e; rfl)), ⟨moveAt_of (tk := _) (x := _) (by k_mem) (fun y e => by first | (rw [show wantB _ = none by decide +kernel] at e; cases e) | (rw [show wantB _ = some 710 by decide +kernel] at e; cases e; rfl) | (rw [show wantB _ = some 717 by decide +kernel] at e; cases e; rfl)), ⟨moveAt_of (tk := _) (x := _) (by k_mem) (fun y e => by first | (rw [show wantB _ = none by decide +kernel] at e; cases e) | (rw [show wantB _ = some 710 by decide +kernel] at e; cases e; rfl) | (rw [show wantB _ = some 717 by decide +kernel] at e; cases e; rfl)), ⟨moveAt_of (tk := _) (x := _) (by k_mem) (fun y e => by first | (rw [show wantB _ = none by decide +kernel] at e; cases e) | (rw [show wantB _ = some 710 by decide +kernel] at e; cases e; rfl) | (rw [show wantB _ = some 717 by decide +kernel] at e; cases e; rfl)), ⟨moveAt_of (tk := _) (x := _) (by k_mem) (fun y e => by first | (rw [show wantB _ = none by decide +kernel] at e; cases e) | (rw [show wantB _ = some 710 by decide +kernel] at e; cases e; rfl) | (rw [show wantB _ = some 717 by decide +kernel] at e; cases e; rfl)), trivial⟩⟩⟩⟩⟩⟩⟩⟩⟩⟩⟩⟩⟩
  case lt =>
    repeat (first | exact List.forall_mem_nil _ | (refine List.forall_mem_cons.mpr ⟨(by walk_at "c below"), ?_⟩))
end
section
local macro_rules | `(tactic| k_all) => `(tactic| exact lowNe (by assumption) (by rfl))
theorem lam_any {M : Model} {A : Around} {E : Value → Shared → Prop} {s : Shared} {h₀ : Heap} {L a c P : Addr} {m mg mb : Str → Option Value} {cn : Str} {cs : Scope} {ccd : Value} {cl : List (Str × Addr)} {news : List (Addr × Obj)} {g : Obj → List (Addr × Obj)}
  {p : Program} {loose : List Str} {mean : ExcName → Option Value} {name qual : Str} {params : Arguments} {body : PySem.Expr} {scope : Scope} {ps : Array Value} {pos : Pos} {firstLine : Nat} {clos : List (Str × Addr)} {Q : Value → Shared → Prop}
    (F : Fr h₀ L s.heap m) (N : News h₀ L s.heap news) (T : Top p loose mean mg mb h₀) (C : CodeHd h₀ c P) (hcd : ccd = .ref c) (U : UpdF P (tabObj ps) news g) (ht : TabOk ps.toList)
    (hcl : closureFor scope (envX cn cs L a ccd cl) = pure clos)
    (h : ∀ f ps' h' tk, Fr h₀ L h' m → News h₀ L h' (g (tabObj ps')) → TabOk ps'.toList → Q (.ref f) { s with heap := h', toks := tk }) :
    wpAny M A (makeFunction name qual params (.expr body) scope (envX cn cs L a ccd cl) [] [] [] pos firstLine) Q E s := by
  cases e : codeAmong pos ps.toList with
  | none =>
    refine kla_nest F N T C hcd U ht.triples e hcl fun f c' oc vs t ctv h' tk F' N' _ _ l1 l2 => h f _ h' tk F' (fun q hq => N' q (.tail _ (.tail _ hq))) ?_
    rw [Array.toList_append]
    exact ht.snoc _ _ _
  | some v =>
    obtain ⟨c', rfl⟩ := ht.hit _ _ e
    obtain ⟨pre, post, rfl, hg, _, _⟩ := U.split
    refine kla_hit F N T C hcd (List.mem_append_right _ (.head _)) ht.triples e hcl fun f ctv h' tk F' N' l1 => h f ps h' tk F' (by rw [hg]; exact fun q hq => N' q (.tail _ hq)) ht
local macro_rules | `(tactic| walk_at "eval Lambda") => `(tactic| (k_here; k_dflt (refine' kla_eval ?d0 ?_; (case d0 => exact rfl)); (k_dflt (refine' lam_any ?F ?N ?T ?C ?cd ?U ?t ?cl ?_; (case F => k_asm); (case N => k_asm); (case T => k_asm); (case cd => exact rfl); (case C => exact CodeAll.at (l := tCs) (i := 6) (q := (903, 899)) (CodeAll.keeps (Fr.keep (by assumption)) (by assumption)) rfl); (case U => k_updF); (case t => assumption); (case cl => exact rfl); k_whole); intro f' ps' h' tk' F' N' ht'; (try dsimp only at N'))))
local macro_rules | `(tactic| walk_at "call ref") => useM 703 `Mine.c_shown "std C:C_1_702_698 U:u ht:a" "q' ps' h' tk' ht' l1! F' N'!N"
local macro_rules | `(tactic| walk_at "call ref") => useM 731 `Mine.c_page "std C:C_2_730_726 U:u ht:a" "q' ps' h' tk' ht' l1! F' N'!N"
local macro_rules | `(tactic| walk_at "call ref") => useM 738 `Mine.c_scroll "std C:C_3_737_733 U:u ht:a" "q' ps' h' tk' ht' l1! F' N'!N"
local macro_rules | `(tactic| walk_at "call ref") => useM 759 `Mine.c_para "std C:C_4_758_754 U:u ht:a" "q' ps' h' tk' ht' l1! F' N'!N"
local macro_rules | `(tactic| walk_at "call ref") => useM 883 `Mine.c_sword "std C:C_5_882_878 U:u ht:a" "q' ps' h' tk' ht' l1! F' N'!N"
set_option maxHeartbeats 4000000 in
theorem c_far {p0 p1 p2 p3 p4 p5 p6 p7 p8 p9 p10 : Array Value} {nw : List (Addr × Obj)} (HC : CodeAll tCs h₀) (ht0 : TabOk p0.toList) (ht1 : TabOk p1.toList) (ht2 : TabOk p2.toList) (ht3 : TabOk p3.toList) (ht4 : TabOk p4.toList) (ht5 : TabOk p5.toList) (ht6 : TabOk p6.toList) (ht7 : TabOk p7.toList) (ht8 : TabOk p8.toList) (ht9 : TabOk p9.toList) (ht10 : TabOk p10.toList) (hlow : ∀ q ∈ nw, NT q.1)
  (B : Below A₀ base outer h₀) (F : Fr h₀ L s.heap m) (X : (hK w.params).In h₀) (N : News h₀ L s.heap (((740 : Addr), tabObj p0) :: ((698 : Addr), tabObj p1) :: ((726 : Addr), tabObj p2) :: ((733 : Addr), tabObj p3) :: ((754 : Addr), tabObj p4) :: ((878 : Addr), tabObj p5) :: ((899 : Addr), tabObj p6) :: ((836 : Addr), tabObj p7) :: ((871 : Addr), tabObj p8) :: ((768 : Addr), tabObj p9) :: ((796 : Addr), tabObj p10) :: nw)) (T : Top p loose mean mg mb h₀) (hk : cs.kind = .function) (hdp : dp + 16 < recursionLimit) (hun : un + 160 < cLine)
  (hret : ∀ (l : Addr) (vs : List Value) (tl : List (Addr × Obj)) (r0 r1 r2 r3 r4 r5 r6 r7 r8 r9 r10 : Array Value) h' tk', TabOk r0.toList → TabOk r1.toList → TabOk r2.toList → TabOk r3.toList → TabOk r4.toList → TabOk r5.toList → TabOk r6.toList → TabOk r7.toList → TabOk r8.toList → TabOk r9.toList → TabOk r10.toList → Moves tl vs nFar → (∀ q ∈ (l, listOf vs.toArray 0) :: tl, ∀ x ∈ ((740 : Addr), tabObj p0) :: ((698 : Addr), tabObj p1) :: ((726 : Addr), tabObj p2) :: ((733 : Addr), tabObj p3) :: ((754 : Addr), tabObj p4) :: ((878 : Addr), tabObj p5) :: ((899 : Addr), tabObj p6) :: ((836 : Addr), tabObj p7) :: ((871 : Addr), tabObj p8) :: ((768 : Addr), tabObj p9) :: ((796 : Addr), tabObj p10) :: nw, x.1 < q.1) → Fr h₀ L h' m → News h₀ L h' ((l, listOf vs.toArray 0) :: (tl ++ (((740 : Addr), tabObj r0) :: ((698 : Addr), tabObj r1) :: ((726 : Addr), tabObj r2) :: ((733 : Addr), tabObj r3) :: ((754 : Addr), tabObj r4) :: ((878 : Addr), tabObj r5) :: ((899 : Addr), tabObj r6) :: ((836 : Addr), tabObj r7) :: ((871 : Addr), tabObj r8) :: ((768 : Addr), tabObj r9) :: ((796 : Addr), tabObj r10) :: nw))) → Q (.ref l) { s with heap := h', toks := tk' }) :
  wpAny (model PySem.Challenge.rw_og0290_01.row.prog w) (ktrTop dp un gd cn cs L a ccd cl outer) (call (.ref 904) []) Q E s := by
  w_on
  w_top on
  k_steps
  refine' hret _ ?vs [?t0, ?t1, ?t2, ?t3, ?t4, ?t5, ?t6, ?t7, ?t8, ?t9, ?t10, ?t11, ?t12, ?t13, ?t14, ?t15, ?t16, ?t17, ?t18, ?t19, ?t20, ?t21] ?r0 ?r1 ?r2 ?r3 ?r4 ?r5 ?r6 ?r7 ?r8 ?r9 ?r10 _ _ ?k0 ?k1 ?k2 ?k3 ?k4 ?k5 ?k6 ?k7 ?k8 ?k9 ?k10 ?M ?lt ?F ?N
  case N => k_dflt assumption
  case F => k_asm
  all_goals (first | assumption | skip)
  case M =>
    exact ⟨moveAt_of (tk := _) (x := _) (by k_mem) (fun y e => by first | (rw [show wantB _ = none by decide +kernel] at e; cases e) | (rw [show wantB _ = some 710 by decide +kernel] at e; cases e; rfl) | (rw [show wantB _ = some 717 by decide +kernel] at e; cases e; rfl)), ⟨moveAt_of (tk := _) (x := _) (by k_mem) (fun y e => by first | (rw [show wantB _ = none by decide +kernel] at e; cases e) | (rw [show wantB _ = some 710 by decide +kernel] at e; cases e; rfl) | (rw [show wantB _ = some 717 by decide +kernel] at e; cases e; rfl)), ⟨moveAt_of (tk := _) (x := _) (by k_mem) (fun y e => by first | (rw [show wantB _ = none by decide +kernel] at e; cases e) | (rw [show wantB _ = some 710 by decide +kernel] at e; cases e; rfl) | (rw [show wantB _ = some 717 by decide +kernel] at e; cases e; rfl)), ⟨moveAt_of (tk := _) (x := _) (by k_mem) (fun y e => by first | (rw [show wantB _ = none by decide +kernel] at e; cases e) | (rw [show wantB _ = some 710 by decide +kernel] at e; cases e; rfl) | (rw [show wantB _ = some 717 by decide +kernel] at e; cases e; rfl)), ⟨moveAt_of (tk := _) (x := _) (by k_mem) (fun y e => by first | (rw [show wantB _ = none by decide +kernel] at e; cases e) | (rw [show wantB _ = some 710 by decide +kernel] at e; cases e; rfl) | (rw [show wantB _ = some 717 by decide +kernel] at e; cases e; rfl)), ⟨moveAt_of (tk := _) (x := _) (by k_mem) (fun y e => by first | (rw [show wantB _ = none by decide +kernel] at e; cases e) | (rw [show wantB _ = some 710 by decide +kernel] at e; cases e; rfl) | (rw [show wantB _ = some 717 by decide +kernel] at e; cases e; rfl)), ⟨moveAt_of (tk := _) (x := _) (by k_mem) (fun y e => by first | (rw [show wantB _ = none by decide +kernel] at e; cases e) | (rw [show wantB _ = some 710 by decide +kernel] at e; cases e; rfl) | (rw [show wantB _ = some 717 by decide +kernel] at e; cases e; rfl)), ⟨moveAt_of (tk := _) (x := _) (by k_mem) (fun y e => by first | (rw [show wantB _ = none by decide +kernel] at e; cases e) | (rw [show wantB _ = some 710 by decide +kernel] at e; cases e; rfl) | (rw [show wantB _ = some 717 by decide +kernel] at e; cases e; rfl)), ⟨moveAt_of (tk := _) (x := _) (by k_mem) (fun y e => by first | (rw [show wantB _ = none by decide +kernel] at e; cases e) | (rw [show wantB _ = some 710 by decide +kernel] at e; cases e; rfl) | (rw [show wantB _ = some 717 by decide +kernel] at e; cases e; rfl)), ⟨moveAt_of (tk := _) (x := _) (by k_mem) (fun y e => by first | (rw [show wantB _ = none by decide +kernel] at e; cases e) | (rw [show wantB _ = some 710 by decide +kernel] at e; cases e; rfl) | (rw [show wantB _ = some 717 by decide +kernel] at e; cases e; rfl)), ⟨moveAt_of (tk := _) (x := _) (by k_mem) (fun y e => by first | (rw [show wantB _ = none by decide +kernel] at e; cases e) | (rw [show wantB _ = some 710 by decide +kernel] at e; cases e; rfl) | (rw [show wantB _ = some 717 by decide +kernel] at e; cases e; rfl)), ⟨moveAt_of (tk := _) (x := _) (by k_mem) (fun y e => by first | (rw [show wantB _ = none by decide +kernel] at e; cases e) | (rw [show wantB _ = some 710 by decide +kernel] at e; cases e; rfl) | (rw [show wantB _ = some 717 by decide +kernel] at e; cases e; rfl)), ⟨moveAt_of (tk := _) (x := _) (by k_mem) (fun y e => by first | (rw [show wantB _ = none by decide +kernel] at e; cases e) | (rw [show wantB _ = some 710 by decide +kernel] at e; cases e; rfl) | (rw [show wantB _ = some 717 by decide +kernel] at e; cases e; rfl)), ⟨moveAt_of (tk := _) (x := _) (by k_mem) (fun y e => by first | (rw [show wantB _ = none by decide +kernel] at e; cases e) | (rw [show wantB _ = some 710 by decide +kernel] at e; cases e; rfl) | (rw [show wantB _ = some 717 by decide +kernel] at e; cases e; rfl)), ⟨moveAt_of (tk := _) (x := _) (by k_mem) (fun y e => by first | (rw [show wantB _ = none by decide +kernel] at e; cases e) | (rw [show wantB _ = some 710 by decide +kernel] at e; cases e; rfl) | (rw [show wantB _ = some 717 by decide +kernel] at e; cases e; rfl)), ⟨moveAt_of (tk := _) (x := _) (by k_mem) (fun y e => by first | (rw [show wantB _ = none by decide +kernel] at e; cases e) | (rw [show wantB _ = some 710 by decide +kernel] at e; cases e; rfl) | (rw [show wantB _ = some 717 by decide +kernel] at e; cases e; rfl)), ⟨moveAt_of (tk := _) (x := _) (by k_mem) (fun y e => by first | (rw [show wantB _ = none by decide +kernel] at e; cases e) | (rw [show wantB _ = some 710 by decide +kernel] at e; cases e; rfl) | (rw [show wantB _ = some 717 by decide +kernel] at e; cases e; rfl)), ⟨moveAt_of (tk := _) (x := _) (by k_mem) (fun y e => by first | (rw [show wantB _ = none by decide +kernel] at e; cases e) | (rw [show wantB _ = some 710 by decide +kernel] at e; cases e; rfl) | (rw [show wantB _ = some 717 by decide +kernel] at e; cases e; rfl)), ⟨moveAt_of (tk := _) (x := _) (by k_mem) (fun y e => by first | (rw [show wantB _ = none by decide +kernel] at e; cases e) | (rw [show wantB _ = some 710 by decide +kernel] at e; cases e; rfl) | (rw [show wantB _ = some 717 by decide +kernel] at e; cases e; rfl)), ⟨moveAt_of (tk := _) (x := _) (by k_mem) (fun y e => by first | (rw [show wantB _ = none by decide +kernel] at e; cases e) | (rw [show wantB _ = some 710 by decide +kernel] at e; cases e; rfl) | (rw [show wantB _ = some 717 by decide +kernel] at e; cases e; rfl)), ⟨moveAt_of (tk := _) (x := _) (by k_mem) (fun y e => by first | (rw [show wantB _ = none by decide +kernel] at e; cases e) | (rw [show wantB _ = some 710 by decide +kernel] at e; cases e; rfl) | (rw [show wantB _ = some 717 by decide +kernel] at e; cases e; rfl)), ⟨moveAt_of (tk := _) (x := _) (by k_mem) (fun y e => by first | (rw [show wantB _ = none by decide +kernel] at e; cases e) | (rw [show wantB _ = some 710 by decide +kernel] at e; cases e; rfl) | (rw [show wantB _ = some 717 by decide +kernel] at e; cases e; rfl)), trivial⟩⟩⟩⟩⟩⟩⟩⟩⟩⟩⟩⟩⟩⟩⟩⟩⟩⟩⟩⟩⟩⟩
  case lt =>
    repeat (first | exact List.forall_mem_nil _ | (refine List.forall_mem_cons.mpr ⟨(by walk_at "c below"), ?_⟩))
end
local macro_rules | `(tactic| walk_at "call ref") => useM 841 `Mine.c_begin "std C:C_7_840_836 U:u ht:a" "q' ps' h' tk' ht' l1! F' N'!N"
local macro_rules | `(tactic| walk_at "call ref") => useM 876 `Mine.c_take "std C:C_8_875_871 U:u ht:a" "q' ps' h' tk' ht' l1! F' N'!N"

section
local macro_rules | `(tactic| k_all) => `(tactic| exact lowNe (by assumption) (by rfl))
set_option maxHeartbeats 4000000 in
theorem c_choices {p0 p1 p2 p3 p4 p5 p6 p7 p8 p9 p10 : Array Value} {nw : List (Addr × Obj)} (HC : CodeAll tCs h₀) (ht0 : TabOk p0.toList) (ht1 : TabOk p1.toList) (ht2 : TabOk p2.toList) (ht3 : TabOk p3.toList) (ht4 : TabOk p4.toList) (ht5 : TabOk p5.toList) (ht6 : TabOk p6.toList) (ht7 : TabOk p7.toList) (ht8 : TabOk p8.toList) (ht9 : TabOk p9.toList) (ht10 : TabOk p10.toList) (hlow : ∀ q ∈ nw, NT q.1)
  (B : Below A₀ base outer h₀) (F : Fr h₀ L s.heap m) (X : (hK w.params).In h₀) (N : News h₀ L s.heap (((740 : Addr), tabObj p0) :: ((698 : Addr), tabObj p1) :: ((726 : Addr), tabObj p2) :: ((733 : Addr), tabObj p3) :: ((754 : Addr), tabObj p4) :: ((878 : Addr), tabObj p5) :: ((899 : Addr), tabObj p6) :: ((836 : Addr), tabObj p7) :: ((871 : Addr), tabObj p8) :: ((768 : Addr), tabObj p9) :: ((796 : Addr), tabObj p10) :: nw)) (T : Top p loose mean mg mb h₀) (hk : cs.kind = .function) (hdp : dp + 16 < recursionLimit) (hun : un + 160 < cLine)
  (hret : ∀ (l : Addr) (vs : List Value) (tl : List (Addr × Obj)) (r0 r1 r2 r3 r4 r5 r6 r7 r8 r9 r10 : Array Value) h' tk', TabOk r0.toList → TabOk r1.toList → TabOk r2.toList → TabOk r3.toList → TabOk r4.toList → TabOk r5.toList → TabOk r6.toList → TabOk r7.toList → TabOk r8.toList → TabOk r9.toList → TabOk r10.toList → Moves tl vs nCh → (∀ q ∈ (l, listOf vs.toArray 0) :: tl, ∀ x ∈ ((740 : Addr), tabObj p0) :: ((698 : Addr), tabObj p1) :: ((726 : Addr), tabObj p2) :: ((733 : Addr), tabObj p3) :: ((754 : Addr), tabObj p4) :: ((878 : Addr), tabObj p5) :: ((899 : Addr), tabObj p6) :: ((836 : Addr), tabObj p7) :: ((871 : Addr), tabObj p8) :: ((768 : Addr), tabObj p9) :: ((796 : Addr), tabObj p10) :: nw, x.1 < q.1) → Fr h₀ L h' m → News h₀ L h' ((l, listOf vs.toArray 0) :: (tl ++ (((740 : Addr), tabObj r0) :: ((698 : Addr), tabObj r1) :: ((726 : Addr), tabObj r2) :: ((733 : Addr), tabObj r3) :: ((754 : Addr), tabObj r4) :: ((878 : Addr), tabObj r5) :: ((899 : Addr), tabObj r6) :: ((836 : Addr), tabObj r7) :: ((871 : Addr), tabObj r8) :: ((768 : Addr), tabObj r9) :: ((796 : Addr), tabObj r10) :: nw))) → Q (.ref l) { s with heap := h', toks := tk' }) :
  wpAny (model PySem.Challenge.rw_og0290_01.row.prog w) (ktrTop dp un gd cn cs L a ccd cl outer) (call (.ref 911) []) Q E s := by
  w_on
  w_top on
  k_steps
  refine' hret _ ?vs [?t0, ?t1, ?t2, ?t3, ?t4, ?t5, ?t6, ?t7, ?t8] ?r0 ?r1 ?r2 ?r3 ?r4 ?r5 ?r6 ?r7 ?r8 ?r9 ?r10 _ _ ?k0 ?k1 ?k2 ?k3 ?k4 ?k5 ?k6 ?k7 ?k8 ?k9 ?k10 ?M ?lt ?F ?N
  case N => k_dflt assumption
  case F => k_asm
  all_goals (first | assumption | skip)
  case M =>
    exact ⟨moveAt_of (tk := _) (x := _) (by k_mem) (fun y e => by first | (rw [show wantB _ = none by decide +kernel] at e; cases e) | (rw [show wantB _ = some 710 by decide +kernel] at e; cases e; rfl) | (rw [show wantB _ = some 717 by decide +kernel] at e; cases e; rfl)), ⟨moveAt_of (tk := _) (x := _) (by k_mem) (fun y e => by first | (rw [show wantB _ = none by decide +kernel] at e; cases e) | (rw [show wantB _ = some 710 by decide +kernel] at e; cases e; rfl) | (rw [show wantB _ = some 717 by decide +kernel] at e; cases e; rfl)), ⟨moveAt_of (tk := _) (x := _) (by k_mem) (fun y e => by first | (rw [show wantB _ = none by decide +kernel] at e; cases e) | (rw [show wantB _ = some 710 by decide +kernel] at e; cases e; rfl) | (rw [show wantB _ = some 717 by decide +kernel] at e; cases e; rfl)), ⟨moveAt_of (tk := _) (x := _) (by k_mem) (fun y e => by first | (rw [show wantB _ = none by decide +kernel] at e; cases e) | (rw [show wantB _ = some 710 by decide +kernel] at e; cases e; rfl) | (rw [show wantB _ = some 717 by decide +kernel] at e; cases e; rfl)), ⟨moveAt_of (tk := _) (x := _) (by k_mem) (fun y e => by first | (rw [show wantB _ = none by decide +kernel] at e; cases e) | (rw [show wantB _ = some 710 by decide +kernel] at e; cases e; rfl) | (rw [show wantB _ = some 717 by decide +kernel] at e; cases e; rfl)), ⟨moveAt_of (tk := _) (x := _) (by k_mem) (fun y e => by first | (rw [show wantB _ = none by decide +kernel] at e; cases e) | (rw [show wantB _ = some 710 by decide +kernel] at e; cases e; rfl) | (rw [show wantB _ = some 717 by decide +kernel] at e; cases e; rfl)), ⟨moveAt_of (tk := _) (x := _) (by k_mem) (fun y e => by first | (rw [show wantB _ = none by decide +kernel] at e; cases e) | (rw [show wantB _ = some 710 by decide +kernel] at e; cases e; rfl) | (rw [show wantB _ = some 717 by decide +kernel] at e; cases e; rfl)), ⟨moveAt_of (tk := _) (x := _) (by k_mem) (fun y e => by first | (rw [show wantB _ = none by decide +kernel] at e; cases e) | (rw [show wantB _ = some 710 by decide +kernel] at e; cases e; rfl) | (rw [show wantB _ = some 717 by decide +kernel] at e; cases e; rfl)), ⟨moveAt_of (tk := _) (x := _) (by k_mem) (fun y e => by first | (rw [show wantB _ = none by decide +kernel] at e; cases e) | (rw [show wantB _ = some 710 by decide +kernel] at e; cases e; rfl) | (rw [show wantB _ = some 717 by decide +kernel] at e; cases e; rfl)), trivial⟩⟩⟩⟩⟩⟩⟩⟩⟩
  case lt =>
    repeat (first | exact List.forall_mem_nil _ | (refine List.forall_mem_cons.mpr ⟨(by walk_at "c below"), ?_⟩))
end
section
local macro_rules | `(tactic| k_all) => `(tactic| exact lowNe (by assumption) (by rfl))
theorem tbl_iff {r0 r1 r2 r3 r4 r5 r6 r7 r8 r9 r10 : Array Value} {rest : List (Addr × Obj)} {q : Addr × Obj} : q ∈ ((740 : Addr), tabObj r0) :: ((698 : Addr), tabObj r1) :: ((726 : Addr), tabObj r2) :: ((733 : Addr), tabObj r3) :: ((754 : Addr), tabObj r4) :: ((878 : Addr), tabObj r5) :: ((899 : Addr), tabObj r6) :: ((836 : Addr), tabObj r7) :: ((871 : Addr), tabObj r8) :: ((768 : Addr), tabObj r9) :: ((796 : Addr), tabObj r10) :: rest ↔ q ∈ ((740 : Addr), tabObj r0) :: ((698 : Addr), tabObj r1) :: ((726 : Addr), tabObj r2) :: ((733 : Addr), tabObj r3) :: ((754 : Addr), tabObj r4) :: ((878 : Addr), tabObj r5) :: ((899 : Addr), tabObj r6) :: ((836 : Addr), tabObj r7) :: ((871 : Addr), tabObj r8) :: ((768 : Addr), tabObj r9) :: ((796 : Addr), tabObj r10) :: [] ∨ q ∈ rest := by
  simp only [List.mem_cons, List.not_mem_nil, or_false, or_assoc]
abbrev ltN9 (a : Nat) : Prop := 899 < a
set_option maxHeartbeats 4000000 in
theorem cl_plain {p0 p1 p2 p3 p4 p5 p6 p7 p8 p9 p10 : Array Value} {fd : Addr} {o : Obj} {nw : List (Addr × Obj)} (HC : CodeAll tCs h₀) (ht0 : TabOk p0.toList) (ht1 : TabOk p1.toList) (ht2 : TabOk p2.toList) (ht3 : TabOk p3.toList) (ht4 : TabOk p4.toList) (ht5 : TabOk p5.toList) (ht6 : TabOk p6.toList) (ht7 : TabOk p7.toList) (ht8 : TabOk p8.toList) (ht9 : TabOk p9.toList) (ht10 : TabOk p10.toList) (hlow : ∀ q ∈ nw, NT q.1) (hf : ltN9 fd) (hfd : ∀ q ∈ nw, q.1 ≠ fd)
  (B : Below A₀ base outer h₀) (F : Fr h₀ L s.heap m) (X : (hK w.params).In h₀) (N : News h₀ L s.heap (((740 : Addr), tabObj p0) :: ((698 : Addr), tabObj p1) :: ((726 : Addr), tabObj p2) :: ((733 : Addr), tabObj p3) :: ((754 : Addr), tabObj p4) :: ((878 : Addr), tabObj p5) :: ((899 : Addr), tabObj p6) :: ((836 : Addr), tabObj p7) :: ((871 : Addr), tabObj p8) :: ((768 : Addr), tabObj p9) :: ((796 : Addr), tabObj p10) :: (fd, o) :: nw)) (T : Top p loose mean mg mb h₀) (hk : cs.kind = .function) (hdp : dp + 16 < recursionLimit) (hun : un + 160 < cLine)
  (hret : ∀ (l : Addr) (vs : List Value) (nw' : List (Addr × Obj)) (r0 r1 r2 r3 r4 r5 r6 r7 r8 r9 r10 : Array Value) h' tk', TabOk r0.toList → TabOk r1.toList → TabOk r2.toList → TabOk r3.toList → TabOk r4.toList → TabOk r5.toList → TabOk r6.toList → TabOk r7.toList → TabOk r8.toList → TabOk r9.toList → TabOk r10.toList → Moves nw' vs nPlain → (l, listOf vs.toArray 0) ∈ nw' → (∀ q ∈ nw, q ∈ nw') → (∀ q ∈ nw', NT q.1) → (∀ q ∈ nw', q.1 ≠ fd) → Fr h₀ L h' m → News h₀ L h' (((740 : Addr), tabObj r0) :: ((698 : Addr), tabObj r1) :: ((726 : Addr), tabObj r2) :: ((733 : Addr), tabObj r3) :: ((754 : Addr), tabObj r4) :: ((878 : Addr), tabObj r5) :: ((899 : Addr), tabObj r6) :: ((836 : Addr), tabObj r7) :: ((871 : Addr), tabObj r8) :: ((768 : Addr), tabObj r9) :: ((796 : Addr), tabObj r10) :: (fd, o) :: nw') → Q (.ref l) { s with heap := h', toks := tk' }) :
  wpAny (model PySem.Challenge.rw_og0290_01.row.prog w) (ktrTop dp un gd cn cs L a ccd cl outer) (call (.ref 897) []) Q E s := by
  have hlow' : ∀ q ∈ (fd, o) :: nw, NT q.1 := List.forall_mem_cons.mpr ⟨NT.of_lt hf, hlow⟩
  refine c_plain (nw := (fd, o) :: nw) HC ht0 ht1 ht2 ht3 ht4 ht5 ht6 ht7 ht8 ht9 ht10 hlow' B F X N T hk hdp hun fun l vs tl r0 r1 r2 r3 r4 r5 r6 r7 r8 r9 r10 h' tk' k0 k1 k2 k3 k4 k5 k6 k7 k8 k9 k10 M lt F' N' => ?_
  have lt' : ∀ q ∈ (l, listOf vs.toArray 0) :: tl, ∀ x ∈ (fd, o) :: nw, x.1 < q.1 := fun q hq x hx => lt q hq x (.tail _ (.tail _ (.tail _ (.tail _ (.tail _ (.tail _ (.tail _ (.tail _ (.tail _ (.tail _ (.tail _ (hx))))))))))))
  have l9 : ∀ q ∈ (l, listOf vs.toArray 0) :: tl, 899 < q.1 := fun q hq => lt q hq (899, tabObj p6) (.tail _ (.tail _ (.tail _ (.tail _ (.tail _ (.tail _ (.head _)))))))
  refine hret l vs ((l, listOf vs.toArray 0) :: (tl ++ nw)) _ _ _ _ _ _ _ _ _ _ _ h' tk' k0 k1 k2 k3 k4 k5 k6 k7 k8 k9 k10 (M.mono fun q hq => .tail _ (List.mem_append_left _ hq)) (.head _) (fun q hq => .tail _ (List.mem_append_right _ hq)) ?_ ?_ F' (News.order N' ?_)
  · intro q hq
    rcases List.mem_cons.mp hq with h | h
    · exact NT.of_lt (l9 q (h ▸ .head _))
    · exact (List.mem_append.mp h).elim (fun h => NT.of_lt (l9 q (.tail _ h))) (hlow q)
  · intro q hq
    rcases List.mem_cons.mp hq with h | h
    · exact Nat.ne_of_gt (lt' q (h ▸ .head _) _ (.head _))
    · exact (List.mem_append.mp h).elim (fun h => Nat.ne_of_gt (lt' q (.tail _ h) _ (.head _))) (hfd q)
  · exact fun q hq => (tbl_iff.mp hq).elim (fun h => .tail _ (List.mem_append_right _ (tbl_iff.mpr (.inl h)))) fun h => (List.mem_cons.mp h).elim (fun e => e ▸ .tail _ (List.mem_append_right _ (tbl_iff.mpr (.inr (.head _))))) fun h => (List.mem_cons.mp h).elim (fun e => e ▸ .head _) fun h => (List.mem_append.mp h).elim (fun h => .tail _ (List.mem_append_left _ h)) fun h => .tail _ (List.mem_append_right _ (tbl_iff.mpr (.inr (.tail _ h))))
set_option maxHeartbeats 4000000 in
theorem cl_far {p0 p1 p2 p3 p4 p5 p6 p7 p8 p9 p10 : Array Value} {fd : Addr} {o : Obj} {nw : List (Addr × Obj)} (HC : CodeAll tCs h₀) (ht0 : TabOk p0.toList) (ht1 : TabOk p1.toList) (ht2 : TabOk p2.toList) (ht3 : TabOk p3.toList) (ht4 : TabOk p4.toList) (ht5 : TabOk p5.toList) (ht6 : TabOk p6.toList) (ht7 : TabOk p7.toList) (ht8 : TabOk p8.toList) (ht9 : TabOk p9.toList) (ht10 : TabOk p10.toList) (hlow : ∀ q ∈ nw, NT q.1) (hf : ltN9 fd) (hfd : ∀ q ∈ nw, q.1 ≠ fd)
  (B : Below A₀ base outer h₀) (F : Fr h₀ L s.heap m) (X : (hK w.params).In h₀) (N : News h₀ L s.heap (((740 : Addr), tabObj p0) :: ((698 : Addr), tabObj p1) :: ((726 : Addr), tabObj p2) :: ((733 : Addr), tabObj p3) :: ((754 : Addr), tabObj p4) :: ((878 : Addr), tabObj p5) :: ((899 : Addr), tabObj p6) :: ((836 : Addr), tabObj p7) :: ((871 : Addr), tabObj p8) :: ((768 : Addr), tabObj p9) :: ((796 : Addr), tabObj p10) :: (fd, o) :: nw)) (T : Top p loose mean mg mb h₀) (hk : cs.kind = .function) (hdp : dp + 16 < recursionLimit) (hun : un + 160 < cLine)
  (hret : ∀ (l : Addr) (vs : List Value) (nw' : List (Addr × Obj)) (r0 r1 r2 r3 r4 r5 r6 r7 r8 r9 r10 : Array Value) h' tk', TabOk r0.toList → TabOk r1.toList → TabOk r2.toList → TabOk r3.toList → TabOk r4.toList → TabOk r5.toList → TabOk r6.toList → TabOk r7.toList → TabOk r8.toList → TabOk r9.toList → TabOk r10.toList → Moves nw' vs nFar → (l, listOf vs.toArray 0) ∈ nw' → (∀ q ∈ nw, q ∈ nw') → (∀ q ∈ nw', NT q.1) → (∀ q ∈ nw', q.1 ≠ fd) → Fr h₀ L h' m → News h₀ L h' (((740 : Addr), tabObj r0) :: ((698 : Addr), tabObj r1) :: ((726 : Addr), tabObj r2) :: ((733 : Addr), tabObj r3) :: ((754 : Addr), tabObj r4) :: ((878 : Addr), tabObj r5) :: ((899 : Addr), tabObj r6) :: ((836 : Addr), tabObj r7) :: ((871 : Addr), tabObj r8) :: ((768 : Addr), tabObj r9) :: ((796 : Addr), tabObj r10) :: (fd, o) :: nw') → Q (.ref l) { s with heap := h', toks := tk' }) :
  wpAny (model PySem.Challenge.rw_og0290_01.row.prog w) (ktrTop dp un gd cn cs L a ccd cl outer) (call (.ref 904) []) Q E s := by
  have hlow' : ∀ q ∈ (fd, o) :: nw, NT q.1 := List.forall_mem_cons.mpr ⟨NT.of_lt hf, hlow⟩
  refine c_far (nw := (fd, o) :: nw) HC ht0 ht1 ht2 ht3 ht4 ht5 ht6 ht7 ht8 ht9 ht10 hlow' B F X N T hk hdp hun fun l vs tl r0 r1 r2 r3 r4 r5 r6 r7 r8 r9 r10 h' tk' k0 k1 k2 k3 k4 k5 k6 k7 k8 k9 k10 M lt F' N' => ?_
  have lt' : ∀ q ∈ (l, listOf vs.toArray 0) :: tl, ∀ x ∈ (fd, o) :: nw, x.1 < q.1 := fun q hq x hx => lt q hq x (.tail _ (.tail _ (.tail _ (.tail _ (.tail _ (.tail _ (.tail _ (.tail _ (.tail _ (.tail _ (.tail _ (hx))))))))))))
  have l9 : ∀ q ∈ (l, listOf vs.toArray 0) :: tl, 899 < q.1 := fun q hq => lt q hq (899, tabObj p6) (.tail _ (.tail _ (.tail _ (.tail _ (.tail _ (.tail _ (.head _)))))))
  refine hret l vs ((l, listOf vs.toArray 0) :: (tl ++ nw)) _ _ _ _ _ _ _ _ _ _ _ h' tk' k0 k1 k2 k3 k4 k5 k6 k7 k8 k9 k10 (M.mono fun q hq => .tail _ (List.mem_append_left _ hq)) (.head _) (fun q hq => .tail _ (List.mem_append_right _ hq)) ?_ ?_ F' (News.order N' ?_)
  · intro q hq
    rcases List.mem_cons.mp hq with h | h
    · exact NT.of_lt (l9 q (h ▸ .head _))
    · exact (List.mem_append.mp h).elim (fun h => NT.of_lt (l9 q (.tail _ h))) (hlow q)
  · intro q hq
    rcases List.mem_cons.mp hq with h | h
    · exact Nat.ne_of_gt (lt' q (h ▸ .head _) _ (.head _))
    · exact (List.mem_append.mp h).elim (fun h => Nat.ne_of_gt (lt' q (.tail _ h) _ (.head _))) (hfd q)
  · exact fun q hq => (tbl_iff.mp hq).elim (fun h => .tail _ (List.mem_append_right _ (tbl_iff.mpr (.inl h)))) fun h => (List.mem_cons.mp h).elim (fun e => e ▸ .tail _ (List.mem_append_right _ (tbl_iff.mpr (.inr (.head _))))) fun h => (List.mem_cons.mp h).elim (fun e => e ▸ .head _) fun h => (List.mem_append.mp h).elim (fun h => .tail _ (List.mem_append_left _ h)) fun h => .tail _ (List.mem_append_right _ (tbl_iff.mpr (.inr (.tail _ h))))
set_option maxHeartbeats 4000000 in
theorem cl_choices {p0 p1 p2 p3 p4 p5 p6 p7 p8 p9 p10 : Array Value} {fd : Addr} {o : Obj} {nw : List (Addr × Obj)} (HC : CodeAll tCs h₀) (ht0 : TabOk p0.toList) (ht1 : TabOk p1.toList) (ht2 : TabOk p2.toList) (ht3 : TabOk p3.toList) (ht4 : TabOk p4.toList) (ht5 : TabOk p5.toList) (ht6 : TabOk p6.toList) (ht7 : TabOk p7.toList) (ht8 : TabOk p8.toList) (ht9 : TabOk p9.toList) (ht10 : TabOk p10.toList) (hlow : ∀ q ∈ nw, NT q.1) (hf : ltN9 fd) (hfd : ∀ q ∈ nw, q.1 ≠ fd)
  (B : Below A₀ base outer h₀) (F : Fr h₀ L s.heap m) (X : (hK w.params).In h₀) (N : News h₀ L s.heap (((740 : Addr), tabObj p0) :: ((698 : Addr), tabObj p1) :: ((726 : Addr), tabObj p2) :: ((733 : Addr), tabObj p3) :: ((754 : Addr), tabObj p4) :: ((878 : Addr), tabObj p5) :: ((899 : Addr), tabObj p6) :: ((836 : Addr), tabObj p7) :: ((871 : Addr), tabObj p8) :: ((768 : Addr), tabObj p9) :: ((796 : Addr), tabObj p10) :: (fd, o) :: nw)) (T : Top p loose mean mg mb h₀) (hk : cs.kind = .function) (hdp : dp + 16 < recursionLimit) (hun : un + 160 < cLine)
  (hret : ∀ (l : Addr) (vs : List Value) (nw' : List (Addr × Obj)) (r0 r1 r2 r3 r4 r5 r6 r7 r8 r9 r10 : Array Value) h' tk', TabOk r0.toList → TabOk r1.toList → TabOk r2.toList → TabOk r3.toList → TabOk r4.toList → TabOk r5.toList → TabOk r6.toList → TabOk r7.toList → TabOk r8.toList → TabOk r9.toList → TabOk r10.toList → Moves nw' vs nCh → (l, listOf vs.toArray 0) ∈ nw' → (∀ q ∈ nw, q ∈ nw') → (∀ q ∈ nw', NT q.1) → (∀ q ∈ nw', q.1 ≠ fd) → Fr h₀ L h' m → News h₀ L h' (((740 : Addr), tabObj r0) :: ((698 : Addr), tabObj r1) :: ((726 : Addr), tabObj r2) :: ((733 : Addr), tabObj r3) :: ((754 : Addr), tabObj r4) :: ((878 : Addr), tabObj r5) :: ((899 : Addr), tabObj r6) :: ((836 : Addr), tabObj r7) :: ((871 : Addr), tabObj r8) :: ((768 : Addr), tabObj r9) :: ((796 : Addr), tabObj r10) :: (fd, o) :: nw') → Q (.ref l) { s with heap := h', toks := tk' }) :
  wpAny (model PySem.Challenge.rw_og0290_01.row.prog w) (ktrTop dp un gd cn cs L a ccd cl outer) (call (.ref 911) []) Q E s := by
  have hlow' : ∀ q ∈ (fd, o) :: nw, NT q.1 := List.forall_mem_cons.mpr ⟨NT.of_lt hf, hlow⟩
  refine c_choices (nw := (fd, o) :: nw) HC ht0 ht1 ht2 ht3 ht4 ht5 ht6 ht7 ht8 ht9 ht10 hlow' B F X N T hk hdp hun fun l vs tl r0 r1 r2 r3 r4 r5 r6 r7 r8 r9 r10 h' tk' k0 k1 k2 k3 k4 k5 k6 k7 k8 k9 k10 M lt F' N' => ?_
  have lt' : ∀ q ∈ (l, listOf vs.toArray 0) :: tl, ∀ x ∈ (fd, o) :: nw, x.1 < q.1 := fun q hq x hx => lt q hq x (.tail _ (.tail _ (.tail _ (.tail _ (.tail _ (.tail _ (.tail _ (.tail _ (.tail _ (.tail _ (.tail _ (hx))))))))))))
  have l9 : ∀ q ∈ (l, listOf vs.toArray 0) :: tl, 899 < q.1 := fun q hq => lt q hq (899, tabObj p6) (.tail _ (.tail _ (.tail _ (.tail _ (.tail _ (.tail _ (.head _)))))))
  refine hret l vs ((l, listOf vs.toArray 0) :: (tl ++ nw)) _ _ _ _ _ _ _ _ _ _ _ h' tk' k0 k1 k2 k3 k4 k5 k6 k7 k8 k9 k10 (M.mono fun q hq => .tail _ (List.mem_append_left _ hq)) (.head _) (fun q hq => .tail _ (List.mem_append_right _ hq)) ?_ ?_ F' (News.order N' ?_)
  · intro q hq
    rcases List.mem_cons.mp hq with h | h
    · exact NT.of_lt (l9 q (h ▸ .head _))
    · exact (List.mem_append.mp h).elim (fun h => NT.of_lt (l9 q (.tail _ h))) (hlow q)
  · intro q hq
    rcases List.mem_cons.mp hq with h | h
    · exact Nat.ne_of_gt (lt' q (h ▸ .head _) _ (.head _))
    · exact (List.mem_append.mp h).elim (fun h => Nat.ne_of_gt (lt' q (.tail _ h) _ (.head _))) (hfd q)
  · exact fun q hq => (tbl_iff.mp hq).elim (fun h => .tail _ (List.mem_append_right _ (tbl_iff.mpr (.inl h)))) fun h => (List.mem_cons.mp h).elim (fun e => e ▸ .tail _ (List.mem_append_right _ (tbl_iff.mpr (.inr (.head _))))) fun h => (List.mem_cons.mp h).elim (fun e => e ▸ .head _) fun h => (List.mem_append.mp h).elim (fun h => .tail _ (List.mem_append_left _ h)) fun h => .tail _ (List.mem_append_right _ (tbl_iff.mpr (.inr (.tail _ h))))
theorem my_add {prog : Program} {w : World} {A : Around} {E : Value → Shared → Prop} {s : Shared} {h₀ : Heap} {L a b fd : Addr} {m : Str → Option Value} {nw : List (Addr × Obj)} {o : Obj} {vs ws : List Value} {na nb : Nat} {Q : Value → Shared → Prop} {p0 p1 p2 p3 p4 p5 p6 p7 p8 p9 p10 : Array Value}
    (hlow : ∀ q ∈ nw, NT q.1) (hf : ltN9 fd) (hfd : ∀ q ∈ nw, q.1 ≠ fd)
    (F : Fr h₀ L s.heap m) (N : News h₀ L s.heap (((740 : Addr), tabObj p0) :: ((698 : Addr), tabObj p1) :: ((726 : Addr), tabObj p2) :: ((733 : Addr), tabObj p3) :: ((754 : Addr), tabObj p4) :: ((878 : Addr), tabObj p5) :: ((899 : Addr), tabObj p6) :: ((836 : Addr), tabObj p7) :: ((871 : Addr), tabObj p8) :: ((768 : Addr), tabObj p9) :: ((796 : Addr), tabObj p10) :: (fd, o) :: nw)) (ha : (a, listOf vs.toArray na) ∈ nw) (hb : (b, listOf ws.toArray nb) ∈ nw) (hz : vs.length + ws.length ≤ sizeLine)
    (h : ∀ D nw' h', (D, listOf (vs ++ ws).toArray 0) ∈ nw' → (∀ q ∈ nw, q ∈ nw') → (∀ q ∈ nw', NT q.1) → (∀ q ∈ nw', q.1 ≠ fd) → (∀ q ∈ nw, q.1 < D) → fd < D → Fr h₀ L h' m → News h₀ L h' (((740 : Addr), tabObj p0) :: ((698 : Addr), tabObj p1) :: ((726 : Addr), tabObj p2) :: ((733 : Addr), tabObj p3) :: ((754 : Addr), tabObj p4) :: ((878 : Addr), tabObj p5) :: ((899 : Addr), tabObj p6) :: ((836 : Addr), tabObj p7) :: ((871 : Addr), tabObj p8) :: ((768 : Addr), tabObj p9) :: ((796 : Addr), tabObj p10) :: (fd, o) :: nw') → Q (.ref D) { s with heap := h' }) :
    wpAny (model prog w) A (binaryOp .Add (.ref a) (.ref b)) Q E s := by
  have ma := N _ (.tail _ (.tail _ (.tail _ (.tail _ (.tail _ (.tail _ (.tail _ (.tail _ (.tail _ (.tail _ (.tail _ (.tail _ (ha)))))))))))))
  have mb := N _ (.tail _ (.tail _ (.tail _ (.tail _ (.tail _ (.tail _ (.tail _ (.tail _ (.tail _ (.tail _ (.tail _ (.tail _ (hb)))))))))))))
  have N0 : News h₀ L s.heap ((fd, o) :: nw) := News.order N fun q hq => .tail _ (.tail _ (.tail _ (.tail _ (.tail _ (.tail _ (.tail _ (.tail _ (.tail _ (.tail _ (.tail _ (hq)))))))))))
  have la := News.isList N0 (List.mem_cons_of_mem _ ha)
  have lb := News.isList N0 (List.mem_cons_of_mem _ hb)
  refine kmk_add_lit (zs := vs ++ ws) F N la lb (by simp) (fun D h' F' N' l => ?_) (by simpa using hz)
  refine h D ((D, listOf (vs ++ ws).toArray 0) :: nw) h' (.head _) (fun q hq => .tail _ hq) ?_ ?_ (fun q hq => l q (.tail _ (.tail _ (.tail _ (.tail _ (.tail _ (.tail _ (.tail _ (.tail _ (.tail _ (.tail _ (.tail _ (.tail _ (hq)))))))))))))) (l (fd, o) (.tail _ (.tail _ (.tail _ (.tail _ (.tail _ (.tail _ (.tail _ (.tail _ (.tail _ (.tail _ (.tail _ (.head _))))))))))))) F' (News.order N' fun q hq => (tbl_iff.mp hq).elim (fun h => .tail _ (tbl_iff.mpr (.inl h))) fun h => (List.mem_cons.mp h).elim (fun e => e ▸ .tail _ (tbl_iff.mpr (.inr (.head _)))) fun h => (List.mem_cons.mp h).elim (fun e => e ▸ .head _) fun h => .tail _ (tbl_iff.mpr (.inr (.tail _ h))))
  · exact List.forall_mem_cons.mpr ⟨NT.of_lt (l (899, tabObj p6) (.tail _ (.tail _ (.tail _ (.tail _ (.tail _ (.tail _ (.head _)))))))), hlow⟩
  · exact List.forall_mem_cons.mpr ⟨Nat.ne_of_gt (l (fd, o) (.tail _ (.tail _ (.tail _ (.tail _ (.tail _ (.tail _ (.tail _ (.tail _ (.tail _ (.tail _ (.tail _ (.head _))))))))))))), hfd⟩
end
section
/-! ## A loop over a list of the call's own, by an invariant; any target -/
section
variable {prog : Program} {w : World} {A : Around} {E : Value → Shared → Prop} {s : Shared} {env : Env} {h₀ : Heap} {target : PySem.Expr} {body : List Stmt} {Q : Flow → Shared → Prop}
def TurnEnd (h₀ : Heap) (L : Addr) (J : (Str → Option Value) → List (Addr × Obj) → Prop) (own : List (Addr × Obj)) (s₁ : Shared) (f : Flow) (s₂ : Shared) : Prop :=
  f = .next ∧ ∃ h' tk m' nx, s₂ = { s₁ with heap := h', toks := tk } ∧ Fr h₀ L h' m' ∧ News h₀ L h' (nx ++ own) ∧ (∀ p ∈ nx, ∀ q ∈ own, p.1 ≠ q.1) ∧ J m' nx
theorem iterT_list {l : Addr} {vs : List Value} {k : Nat} {m₀ : Str → Option Value} {news nx₀ : List (Addr × Obj)} (J : Nat → (Str → Option Value) → List (Addr × Obj) → Prop)
    (hh : A.handled = none) (F : Fr h₀ env.locals s.heap m₀) (N : News h₀ env.locals s.heap news) (hl : (l, listOf vs.toArray k) ∈ news) (hs : ∀ p ∈ nx₀, p ∈ news) (hne : ∀ p ∈ nx₀, p.1 ≠ l) (hj : J 0 m₀ nx₀)
    (turn : ∀ i v m₁ nx own (s₁ : Shared), vs[i]? = some v → (∀ p ∈ nx, ∀ q ∈ own, p.1 ≠ q.1) → J i m₁ nx → Fr h₀ env.locals s₁.heap m₁ → News h₀ env.locals s₁.heap (nx ++ own) →
      wpAny (model prog w) A (assign target env v) (fun _ s₃ => wpAny (model prog w) A (execs body env) (TurnEnd h₀ env.locals (J (i + 1)) own s₁) E s₃) E s₁)
    (done : ∀ m₁ nx h tk, J vs.length m₁ nx → Fr h₀ env.locals h m₁ → News h₀ env.locals h nx → Q .next { s with heap := h, toks := tk }) :
    wpAny (model prog w) A (pyIter (.ref l)) (fun it s₂ => LoopAtT prog w A h₀ env target body Q E it s₂) E s := by
  have hls : s.heap.IsList l vs.toArray := News.isList N hl
  obtain ⟨hlg, hlL, hl0⟩ := N _ hl
  have hlt : l < s.heap.objs.size := Heap.lt_size hlg
  have hne' : l ≠ s.heap.objs.size := Nat.ne_of_lt hlt
  refine wpAny_pyIter_list hls ?_
  have W := Walks.list (prog := prog) (w := w) hh s.heap.objs.size l hne' vs.toArray
  refine ⟨_, _, _, _, _, _, m₀, nx₀, fun i m nx => (∀ p ∈ nx, p.1 ≠ l) ∧ J i m nx, rfl, W, ?_, ?_, ?_, ⟨⟨_, Heap.get?_push_size _ rfl, rfl, rfl⟩, hls.at fun o e => Heap.get?_push_of_some _ e⟩, F.push _, (fun p hp => ⟨Heap.get?_push_of_some _ (N p (hs p hp)).1, (N p (hs p hp)).2⟩), (fun i s' v Q' st hQ' => letGo_listiter st.1 hQ'), ⟨hne, hj⟩, ?_, ?_⟩
  · intro hm
    rcases List.mem_cons.mp hm with e | hm
    · exact absurd F.ns.lt (e ▸ Nat.lt_irrefl _)
    · exact hlL (List.mem_singleton.mp hm).symm
  · intro b hb
    rw [List.mem_singleton.mp hb]
    exact next_is_new F
  · intro p hp hI
    exact absurd (Heap.lt_size (N p (hs p hp)).1) ((List.mem_singleton.mp hI) ▸ Nat.lt_irrefl _)
  · rintro i v m₁ news₁ s₁ own hin hP ⟨hnl, hJ⟩ hoff hown hget hmem hst F₁ N₁
    have hIn := next_is_new F
    obtain ⟨⟨oI, hI1, _⟩, oL, hL1, _⟩ := id hst
    have mI : (s.heap.objs.size, oI) ∈ own := hmem _ (.head _) hIn _ hI1
    have mL : (l, oL) ∈ own := hmem _ (.tail _ (.head _)) hl0 _ hL1
    refine wpAny_mono (turn i v m₁ news₁ own s₁ (by simpa using hP) (fun p hp q hq e => ?_) hJ F₁ (News.order N₁ fun q hq => List.mem_append.mpr (List.mem_append.mp hq).symm)) (fun _ s₃ x => wpAny_mono x (fun f s₄ y => ?_) fun _ _ e => e) fun _ _ e => e
    · rcases List.mem_cons.mp (hown q hq) with h1 | h1
      · exact hoff p hp (by rw [e, h1]; exact .head _)
      · exact hnl p hp (e.trans (List.mem_singleton.mp h1))
    · obtain ⟨rfl, h', tk, m', nx, rfl, F', N', ha, hJ'⟩ := y
      refine ⟨rfl, h', tk, m', nx, rfl, F', News.order N' fun q hq => List.mem_append.mpr (List.mem_append.mp hq).symm, fun p hp hq => ?_, fun p hp => ha p hp _ mL, hJ'⟩
      exact ha p hp _ mI (List.mem_singleton.mp hq)
  · rintro h' tk m' news' F' N' _ ⟨_, hJ⟩
    exact done m' news' h' tk (by simpa using hJ) F' N'
end
section
variable {prog : Program} {w : World} {A : Around} {E : Value → Shared → Prop} {s : Shared} {env : Env} {h₀ : Heap} {target : PySem.Expr} {body : List Stmt} {Q : Flow → Shared → Prop}
theorem iterT_tup {l : Addr} {vs : List Value} {m₀ : Str → Option Value} {news nx₀ : List (Addr × Obj)} (J : Nat → (Str → Option Value) → List (Addr × Obj) → Prop)
    (hh : A.handled = none) (F : Fr h₀ env.locals s.heap m₀) (N : News h₀ env.locals s.heap news) (hl : (l, tup vs) ∈ news) (hs : ∀ p ∈ nx₀, p ∈ news) (hne : ∀ p ∈ nx₀, p.1 ≠ l) (hj : J 0 m₀ nx₀)
    (turn : ∀ i v m₁ nx own (s₁ : Shared), vs[i]? = some v → (∀ p ∈ nx, ∀ q ∈ own, p.1 ≠ q.1) → J i m₁ nx → Fr h₀ env.locals s₁.heap m₁ → News h₀ env.locals s₁.heap (nx ++ own) →
      wpAny (model prog w) A (assign target env v) (fun _ s₃ => wpAny (model prog w) A (execs body env) (TurnEnd h₀ env.locals (J (i + 1)) own s₁) E s₃) E s₁)
    (done : ∀ m₁ nx h tk, J vs.length m₁ nx → Fr h₀ env.locals h m₁ → News h₀ env.locals h nx → Q .next { s with heap := h, toks := tk }) :
    wpAny (model prog w) A (pyIter (.ref l)) (fun it s₂ => LoopAtT prog w A h₀ env target body Q E it s₂) E s := by
  have hls : s.heap.IsTuple l vs.toArray := ⟨_, (N _ hl).1, rfl, 0, rfl⟩
  obtain ⟨hlg, hlL, hl0⟩ := N _ hl
  have hlt : l < s.heap.objs.size := Heap.lt_size hlg
  have hne' : l ≠ s.heap.objs.size := Nat.ne_of_lt hlt
  refine wpAny_pyIter_tuple hls ?_
  have W := Walks.tuple (prog := prog) (w := w) hh s.heap.objs.size l hne' vs.toArray
  refine ⟨_, _, _, _, _, _, m₀, nx₀, fun i m nx => (∀ p ∈ nx, p.1 ≠ l) ∧ J i m nx, rfl, W, ?_, ?_, ?_, ⟨⟨_, Heap.get?_push_size _ rfl, rfl, rfl⟩, hls.at fun o e => Heap.get?_push_of_some _ e⟩, F.push _, (fun p hp => ⟨Heap.get?_push_of_some _ (N p (hs p hp)).1, (N p (hs p hp)).2⟩), (fun i s' v Q' st hQ' => letGo_tupleiter st.1 hQ'), ⟨hne, hj⟩, ?_, ?_⟩
  · intro hm
    rcases List.mem_cons.mp hm with e | hm
    · exact absurd F.ns.lt (e ▸ Nat.lt_irrefl _)
    · exact hlL (List.mem_singleton.mp hm).symm
  · intro b hb
    rw [List.mem_singleton.mp hb]
    exact next_is_new F
  · intro p hp hI
    exact absurd (Heap.lt_size (N p (hs p hp)).1) ((List.mem_singleton.mp hI) ▸ Nat.lt_irrefl _)
  · rintro i v m₁ news₁ s₁ own hin hP ⟨hnl, hJ⟩ hoff hown hget hmem hst F₁ N₁
    have hIn := next_is_new F
    obtain ⟨⟨oI, hI1, _⟩, oL, hL1, _⟩ := id hst
    have mI : (s.heap.objs.size, oI) ∈ own := hmem _ (.head _) hIn _ hI1
    have mL : (l, oL) ∈ own := hmem _ (.tail _ (.head _)) hl0 _ hL1
    refine wpAny_mono (turn i v m₁ news₁ own s₁ (by simpa using hP) (fun p hp q hq e => ?_) hJ F₁ (News.order N₁ fun q hq => List.mem_append.mpr (List.mem_append.mp hq).symm)) (fun _ s₃ x => wpAny_mono x (fun f s₄ y => ?_) fun _ _ e => e) fun _ _ e => e
    · rcases List.mem_cons.mp (hown q hq) with h1 | h1
      · exact hoff p hp (by rw [e, h1]; exact .head _)
      · exact hnl p hp (e.trans (List.mem_singleton.mp h1))
    · obtain ⟨rfl, h', tk, m', nx, rfl, F', N', ha, hJ'⟩ := y
      refine ⟨rfl, h', tk, m', nx, rfl, F', News.order N' fun q hq => List.mem_append.mpr (List.mem_append.mp hq).symm, fun p hp hq => ?_, fun p hp => ha p hp _ mL, hJ'⟩
      exact ha p hp _ mI (List.mem_singleton.mp hq)
  · rintro h' tk m' news' F' N' _ ⟨_, hJ⟩
    exact done m' news' h' tk (by simpa using hJ) F' N'
end
/-! ## The commands' loop -/
def Has (nw : List (Addr × Obj)) (kvs : List (List UInt8 × Value)) (b : List UInt8) (x : Addr) (f : Bool) : Prop := ∃ q, valueAt kvs b = some (.ref q) ∧ (q, tup [.ref x, .bool f]) ∈ nw
theorem valueAt_stored {kvs : List (List UInt8 × Value)} {k k' : List UInt8} {v : Value} : valueAt (stored kvs k v) k' = if k = k' then some v else valueAt kvs k' := by
  unfold stored
  by_cases hk : (kvs.any fun kv => kv.1 = k) = true
  · rw [if_pos hk]
    unfold valueAt
    rw [List.find?_map]
    have e1 : ((fun kv : List UInt8 × Value => decide (kv.1 = k')) ∘ fun kv : List UInt8 × Value => if kv.1 = k then (kv.1, v) else kv) = fun kv => decide (kv.1 = k') := by
      funext kv
      show decide ((if kv.1 = k then (kv.1, v) else kv).1 = k') = _
      by_cases q : kv.1 = k
      · rw [if_pos q]
      · rw [if_neg q]
    rw [e1]
    by_cases e : k = k'
    · subst e
      rw [if_pos rfl]
      cases hf : kvs.find? fun kv => decide (kv.1 = k) with
      | none =>
        obtain ⟨kv, hm, hd⟩ := List.any_eq_true.mp hk
        exact absurd hd (List.find?_eq_none.mp hf kv hm)
      | some kv =>
        have := List.find?_some hf
        simp only [decide_eq_true_eq] at this
        simp [this]
    · rw [if_neg e]
      cases hf : kvs.find? fun kv => decide (kv.1 = k') with
      | none => rfl
      | some kv =>
        have := List.find?_some hf
        simp only [decide_eq_true_eq] at this
        simp [this, Ne.symm e]
  · rw [if_neg hk]
    unfold valueAt
    rw [List.find?_append]
    by_cases e : k = k'
    · subst e
      have : (kvs.find? fun kv => decide (kv.1 = k)) = none := List.find?_eq_none.mpr fun kv hm hd => hk (List.any_eq_true.mpr ⟨kv, hm, hd⟩)
      simp [this]
    · simp [e]
theorem nodup_take {l : List (List UInt8)} (h : l.Nodup) {i : Nat} {b : List UInt8} (e : l[i]? = some b) : b ∉ l.take i := by
  induction l generalizing i with
  | nil => simp
  | cons a l ih =>
    cases i with
    | zero => simp
    | succ i =>
      rw [List.nodup_cons] at h
      simp only [List.getElem?_cons_succ] at e
      simp only [List.take_succ_cons, List.mem_cons, not_or]
      exact ⟨fun q => h.1 (q ▸ List.mem_of_getElem? e), ih h.2 e⟩
theorem tbl_low {r0 r1 r2 r3 r4 r5 r6 r7 r8 r9 r10 : Array Value} {q : Addr × Obj} (h : q ∈ ((740 : Addr), tabObj r0) :: ((698 : Addr), tabObj r1) :: ((726 : Addr), tabObj r2) :: ((733 : Addr), tabObj r3) :: ((754 : Addr), tabObj r4) :: ((878 : Addr), tabObj r5) :: ((899 : Addr), tabObj r6) :: ((836 : Addr), tabObj r7) :: ((871 : Addr), tabObj r8) :: ((768 : Addr), tabObj r9) :: ((796 : Addr), tabObj r10) :: []) : Nat.ble q.1 899 = true := by
  simp only [List.mem_cons, List.not_mem_nil, or_false] at h
  rcases h with h | h | h | h | h | h | h | h | h | h | h <;> (subst h; rfl)
theorem Has.stored {nw nw' : List (Addr × Obj)} {kvs : List (List UInt8 × Value)} {b : List UInt8} {x : Addr} {f : Bool} (h : Has nw kvs b x f) (k : List UInt8) (v : Value) (hk : k ≠ b) (hs : ∀ q ∈ nw, q ∈ nw') : Has nw' (stored kvs k v) b x f := by
  obtain ⟨q, e, hm⟩ := h
  exact ⟨q, by rw [valueAt_stored, if_neg hk]; exact e, hs _ hm⟩
theorem names_nodup : (nPlain ++ nFar ++ nCh).Nodup := by decide +kernel
theorem tbl_ne {r0 r1 r2 r3 r4 r5 r6 r7 r8 r9 r10 : Array Value} {q : Addr × Obj} {a : Addr} (h : q ∈ ((740 : Addr), tabObj r0) :: ((698 : Addr), tabObj r1) :: ((726 : Addr), tabObj r2) :: ((733 : Addr), tabObj r3) :: ((754 : Addr), tabObj r4) :: ((878 : Addr), tabObj r5) :: ((899 : Addr), tabObj r6) :: ((836 : Addr), tabObj r7) :: ((871 : Addr), tabObj r8) :: ((768 : Addr), tabObj r9) :: ((796 : Addr), tabObj r10) :: []) (ha : NT a) : q.1 ≠ a := by
  simp only [List.mem_cons, List.not_mem_nil, or_false] at h
  rcases h with h | h | h | h | h | h | h | h | h | h | h <;> (subst h; exact (ha.ne rfl).symm)
theorem tbl_at {r0 r1 r2 r3 r4 r5 r6 r7 r8 r9 r10 z0 z1 z2 z3 z4 z5 z6 z7 z8 z9 z10 : Array Value} {q : Addr × Obj} (h : q ∈ ((740 : Addr), tabObj r0) :: ((698 : Addr), tabObj r1) :: ((726 : Addr), tabObj r2) :: ((733 : Addr), tabObj r3) :: ((754 : Addr), tabObj r4) :: ((878 : Addr), tabObj r5) :: ((899 : Addr), tabObj r6) :: ((836 : Addr), tabObj r7) :: ((871 : Addr), tabObj r8) :: ((768 : Addr), tabObj r9) :: ((796 : Addr), tabObj r10) :: []) : ∃ q' ∈ ((740 : Addr), tabObj z0) :: ((698 : Addr), tabObj z1) :: ((726 : Addr), tabObj z2) :: ((733 : Addr), tabObj z3) :: ((754 : Addr), tabObj z4) :: ((878 : Addr), tabObj z5) :: ((899 : Addr), tabObj z6) :: ((836 : Addr), tabObj z7) :: ((871 : Addr), tabObj z8) :: ((768 : Addr), tabObj z9) :: ((796 : Addr), tabObj z10) :: [], q'.1 = q.1 := by
  simp only [List.mem_cons, List.not_mem_nil, or_false] at h
  rcases h with h | h | h | h | h | h | h | h | h | h | h
  · exact ⟨(740, tabObj z0), .head _, h ▸ rfl⟩
  · exact ⟨(698, tabObj z1), .tail _ (.head _), h ▸ rfl⟩
  · exact ⟨(726, tabObj z2), .tail _ (.tail _ (.head _)), h ▸ rfl⟩
  · exact ⟨(733, tabObj z3), .tail _ (.tail _ (.tail _ (.head _))), h ▸ rfl⟩
  · exact ⟨(754, tabObj z4), .tail _ (.tail _ (.tail _ (.tail _ (.head _)))), h ▸ rfl⟩
  · exact ⟨(878, tabObj z5), .tail _ (.tail _ (.tail _ (.tail _ (.tail _ (.head _))))), h ▸ rfl⟩
  · exact ⟨(899, tabObj z6), .tail _ (.tail _ (.tail _ (.tail _ (.tail _ (.tail _ (.head _)))))), h ▸ rfl⟩
  · exact ⟨(836, tabObj z7), .tail _ (.tail _ (.tail _ (.tail _ (.tail _ (.tail _ (.tail _ (.head _))))))), h ▸ rfl⟩
  · exact ⟨(871, tabObj z8), .tail _ (.tail _ (.tail _ (.tail _ (.tail _ (.tail _ (.tail _ (.tail _ (.head _)))))))), h ▸ rfl⟩
  · exact ⟨(768, tabObj z9), .tail _ (.tail _ (.tail _ (.tail _ (.tail _ (.tail _ (.tail _ (.tail _ (.tail _ (.head _))))))))), h ▸ rfl⟩
  · exact ⟨(796, tabObj z10), .tail _ (.tail _ (.tail _ (.tail _ (.tail _ (.tail _ (.tail _ (.tail _ (.tail _ (.tail _ (.head _)))))))))), h ▸ rfl⟩
def LoopStep (prog : Program) (w : World) (h₀ : Heap) (L fd : Addr) (r0 r1 r2 r3 r4 r5 r6 r7 r8 r9 r10 : Array Value) (m₀ : Str → Option Value) (kvs : List (List UInt8 × Value)) (b : List UInt8) (x : Value) (o : Obj) (nz : List (Addr × Obj)) (s₁ : Shared) (f : Flow) (s₂ : Shared) : Prop :=
  f = .next ∧ ∃ h' tk q o' u1 u2, s₂ = { s₁ with heap := h', toks := tk } ∧ Fr h₀ L h' (fun z => if z = Str.ofString "name" then u1 else if z = Str.ofString "act" then u2 else m₀ z) ∧ News h₀ L h' (((740 : Addr), tabObj r0) :: ((698 : Addr), tabObj r1) :: ((726 : Addr), tabObj r2) :: ((733 : Addr), tabObj r3) :: ((754 : Addr), tabObj r4) :: ((878 : Addr), tabObj r5) :: ((899 : Addr), tabObj r6) :: ((836 : Addr), tabObj r7) :: ((871 : Addr), tabObj r8) :: ((768 : Addr), tabObj r9) :: ((796 : Addr), tabObj r10) :: (fd, o') :: (q, tup [x, .bool false]) :: nz) ∧ o'.IsDictOf (bytesKind prog w) (stored kvs b (.ref q)) ∧ (∀ p ∈ ((740 : Addr), tabObj r0) :: ((698 : Addr), tabObj r1) :: ((726 : Addr), tabObj r2) :: ((733 : Addr), tabObj r3) :: ((754 : Addr), tabObj r4) :: ((878 : Addr), tabObj r5) :: ((899 : Addr), tabObj r6) :: ((836 : Addr), tabObj r7) :: ((871 : Addr), tabObj r8) :: ((768 : Addr), tabObj r9) :: ((796 : Addr), tabObj r10) :: (fd, o) :: nz, p.1 < q)
theorem cmd_loop {prog : Program} {w : World} {A : Around} {E : Value → Shared → Prop} {s : Shared} {env : Env} {h₀ : Heap} {target : PySem.Expr} {body : List Stmt} {Q : Flow → Shared → Prop} {l fd : Addr} {vs : List Value} {k : Nat} {m₀ : Str → Option Value} {nw nw₁ : List (Addr × Obj)} {o : Obj} {r0 r1 r2 r3 r4 r5 r6 r7 r8 r9 r10 : Array Value}
    (hh : A.handled = none) (F : Fr h₀ env.locals s.heap m₀) (N : News h₀ env.locals s.heap (((740 : Addr), tabObj r0) :: ((698 : Addr), tabObj r1) :: ((726 : Addr), tabObj r2) :: ((733 : Addr), tabObj r3) :: ((754 : Addr), tabObj r4) :: ((878 : Addr), tabObj r5) :: ((899 : Addr), tabObj r6) :: ((836 : Addr), tabObj r7) :: ((871 : Addr), tabObj r8) :: ((768 : Addr), tabObj r9) :: ((796 : Addr), tabObj r10) :: (fd, o) :: nw)) (hl : (l, listOf vs.toArray k) ∈ nw) (hs : ∀ p ∈ nw₁, p ∈ nw) (hne : ∀ p ∈ nw₁, p.1 < l) (hlf : fd < l) (M : Moves nw₁ vs (nPlain ++ nFar ++ nCh)) (hlow : ∀ q ∈ nw, NT q.1) (hf : ltN9 fd) (hfd : ∀ q ∈ nw, q.1 ≠ fd) (hd : o.IsDictOf (bytesKind prog w) [])
    (turn : ∀ (t : Addr) (tk : Tok) (b : List UInt8) (x : Value) (u1 u2 : Option Value) (o : Obj) (kvs : List (List UInt8 × Value)) (nz : List (Addr × Obj)) (s₁ : Shared), (t, tup [.bytes b.toArray tk, x]) ∈ nz → o.IsDictOf (bytesKind prog w) kvs → kvs.length ≤ 44 → (∀ p ∈ nz, p.1 ≠ fd) →
      Fr h₀ env.locals s₁.heap (fun z => if z = Str.ofString "name" then u1 else if z = Str.ofString "act" then u2 else m₀ z) → News h₀ env.locals s₁.heap (((740 : Addr), tabObj r0) :: ((698 : Addr), tabObj r1) :: ((726 : Addr), tabObj r2) :: ((733 : Addr), tabObj r3) :: ((754 : Addr), tabObj r4) :: ((878 : Addr), tabObj r5) :: ((899 : Addr), tabObj r6) :: ((836 : Addr), tabObj r7) :: ((871 : Addr), tabObj r8) :: ((768 : Addr), tabObj r9) :: ((796 : Addr), tabObj r10) :: (fd, o) :: nz) →
      wpAny (model prog w) A (assign target env (.ref t)) (fun _ s₃ => wpAny (model prog w) A (execs body env) (LoopStep prog w h₀ env.locals fd r0 r1 r2 r3 r4 r5 r6 r7 r8 r9 r10 m₀ kvs b x o nz s₁) E s₃) E s₁)
    (done : ∀ (u1 u2 : Option Value) (o : Obj) (kvs : List (List UInt8 × Value)) (nw' : List (Addr × Obj)) (h : Heap) (tk : Nat), o.IsDictOf (bytesKind prog w) kvs → kvs.length ≤ 44 → (∀ q ∈ nw₁, q ∈ nw') → (∀ q ∈ nw', NT q.1) → (∀ q ∈ nw', q.1 ≠ fd) → (∀ b y, wantB b = some y → b ∈ (nPlain ++ nFar ++ nCh) → Has nw' kvs b y false) →
      Fr h₀ env.locals h (fun z => if z = Str.ofString "name" then u1 else if z = Str.ofString "act" then u2 else m₀ z) → News h₀ env.locals h (((740 : Addr), tabObj r0) :: ((698 : Addr), tabObj r1) :: ((726 : Addr), tabObj r2) :: ((733 : Addr), tabObj r3) :: ((754 : Addr), tabObj r4) :: ((878 : Addr), tabObj r5) :: ((899 : Addr), tabObj r6) :: ((836 : Addr), tabObj r7) :: ((871 : Addr), tabObj r8) :: ((768 : Addr), tabObj r9) :: ((796 : Addr), tabObj r10) :: (fd, o) :: nw') → Q .next { s with heap := h, toks := tk }) :
    wpAny (model prog w) A (pyIter (.ref l)) (fun it s₂ => LoopAtT prog w A h₀ env target body Q E it s₂) E s := by
  have hL : vs.length = 44 := by rw [M.length]; decide +kernel
  have hl9 := hlow _ hl
  refine iterT_list (m₀ := m₀) (nx₀ := ((740 : Addr), tabObj r0) :: ((698 : Addr), tabObj r1) :: ((726 : Addr), tabObj r2) :: ((733 : Addr), tabObj r3) :: ((754 : Addr), tabObj r4) :: ((878 : Addr), tabObj r5) :: ((899 : Addr), tabObj r6) :: ((836 : Addr), tabObj r7) :: ((871 : Addr), tabObj r8) :: ((768 : Addr), tabObj r9) :: ((796 : Addr), tabObj r10) :: (fd, o) :: nw₁) (fun i m nx => ∃ o kvs nw' u1 u2, nx = ((740 : Addr), tabObj r0) :: ((698 : Addr), tabObj r1) :: ((726 : Addr), tabObj r2) :: ((733 : Addr), tabObj r3) :: ((754 : Addr), tabObj r4) :: ((878 : Addr), tabObj r5) :: ((899 : Addr), tabObj r6) :: ((836 : Addr), tabObj r7) :: ((871 : Addr), tabObj r8) :: ((768 : Addr), tabObj r9) :: ((796 : Addr), tabObj r10) :: (fd, o) :: nw' ∧ o.IsDictOf (bytesKind prog w) kvs ∧ kvs.length ≤ i ∧ (∀ q ∈ nw₁, q ∈ nw') ∧ (∀ q ∈ nw', NT q.1) ∧ (∀ q ∈ nw', q.1 ≠ fd) ∧
      (∀ b y, wantB b = some y → b ∈ (nPlain ++ nFar ++ nCh).take i → Has nw' kvs b y false) ∧ m = (fun z => if z = Str.ofString "name" then u1 else if z = Str.ofString "act" then u2 else m₀ z)) hh F N (.tail _ (.tail _ (.tail _ (.tail _ (.tail _ (.tail _ (.tail _ (.tail _ (.tail _ (.tail _ (.tail _ (.tail _ (hl))))))))))))) ?_ ?_ ?_ ?_ ?_
  · intro p hp
    rcases tbl_iff.mp hp with h | h
    · exact tbl_iff.mpr (.inl h)
    · refine tbl_iff.mpr (.inr ?_)
      rcases List.mem_cons.mp h with h | h
      · exact h ▸ .head _
      · exact .tail _ (hs _ h)
  · intro p hp
    rcases tbl_iff.mp hp with h | h
    · exact tbl_ne h hl9
    · rcases List.mem_cons.mp h with h | h
      · exact h ▸ Nat.ne_of_lt hlf
      · exact Nat.ne_of_lt (hne _ h)
  · refine ⟨o, [], nw₁, m₀ (Str.ofString "name"), m₀ (Str.ofString "act"), rfl, hd, Nat.le_refl _, fun _ h => h, fun q hq => hlow q (hs q hq), fun q hq => hfd q (hs q hq), fun b y _ hb => by simp at hb, ?_⟩
    funext z
    by_cases h1 : z = Str.ofString "name"
    · subst h1; simp
    · by_cases h2 : z = Str.ofString "act"
      · subst h2; simp; intro e; rw [e]
      · simp [h1, h2]
  · rintro i v m₁ nx own s₁ hv hoff ⟨o, kvs, nw', u1, u2, rfl, hd, hk, hs1, hlow1, hfd1, hhas, rfl⟩ F₁ N₁
    obtain ⟨b, hb, t, tk, x, rfl, hm, hw⟩ := M.get hv
    have hi : i < 44 := hL ▸ (List.getElem?_eq_some_iff.mp hv).1
    have mfd : ∀ o', ((fd, o') : Addr × Obj) ∈ ((740 : Addr), tabObj r0) :: ((698 : Addr), tabObj r1) :: ((726 : Addr), tabObj r2) :: ((733 : Addr), tabObj r3) :: ((754 : Addr), tabObj r4) :: ((878 : Addr), tabObj r5) :: ((899 : Addr), tabObj r6) :: ((836 : Addr), tabObj r7) :: ((871 : Addr), tabObj r8) :: ((768 : Addr), tabObj r9) :: ((796 : Addr), tabObj r10) :: (fd, o') :: nw' := fun o' => tbl_iff.mpr (.inr (.head _))
    refine wpAny_mono (turn t tk b x u1 u2 o kvs (nw' ++ own) s₁ (List.mem_append_left _ (hs1 _ hm)) hd (by omega) (fun p hp => (List.mem_append.mp hp).elim (hfd1 p) fun hp => (hoff (fd, o) (mfd o) p hp).symm) F₁ (News.order N₁ fun q hq => ?_)) (fun _ s₃ y2 => wpAny_mono y2 (fun f s₂ z => ?_) fun _ _ e => e) fun _ _ e => e
    · rcases tbl_iff.mp hq with h | h
      · exact List.mem_append_left _ (tbl_iff.mpr (.inl h))
      · rcases List.mem_cons.mp h with h | h
        · exact List.mem_append_left _ (tbl_iff.mpr (.inr (h ▸ .head _)))
        · exact (List.mem_append.mp h).elim (fun h => List.mem_append_left _ (tbl_iff.mpr (.inr (.tail _ h)))) fun h => List.mem_append_right _ h
    · obtain ⟨rfl, h', tk', q, o', v1, v2, rfl, F', N', hd', lt⟩ := z
      have lt' : ∀ p ∈ nw' ++ own, p.1 < q := fun p hp => lt p (tbl_iff.mpr (.inr (.tail _ hp)))
      have ltf : fd < q := lt (fd, o) (tbl_iff.mpr (.inr (.head _)))
      refine ⟨rfl, h', tk', _, ((740 : Addr), tabObj r0) :: ((698 : Addr), tabObj r1) :: ((726 : Addr), tabObj r2) :: ((733 : Addr), tabObj r3) :: ((754 : Addr), tabObj r4) :: ((878 : Addr), tabObj r5) :: ((899 : Addr), tabObj r6) :: ((836 : Addr), tabObj r7) :: ((871 : Addr), tabObj r8) :: ((768 : Addr), tabObj r9) :: ((796 : Addr), tabObj r10) :: (fd, o') :: (q, tup [x, .bool false]) :: nw', rfl, F', News.order N' fun z hz => ?_, fun p hp z hz => ?_, o', stored kvs b (.ref q), (q, tup [x, .bool false]) :: nw', v1, v2, rfl, hd', Nat.le_trans (stored_length_le _ _ _) (Nat.succ_le_succ hk), fun z hz => .tail _ (hs1 z hz), ?_, ?_, ?_, rfl⟩
      · rcases List.mem_append.mp hz with h | h
        · rcases tbl_iff.mp h with h | h
          · exact tbl_iff.mpr (.inl h)
          · refine tbl_iff.mpr (.inr ?_)
            rcases List.mem_cons.mp h with h | h
            · exact h ▸ .head _
            · rcases List.mem_cons.mp h with h | h
              · exact .tail _ (h ▸ .head _)
              · exact .tail _ (.tail _ (List.mem_append_left _ h))
        · exact tbl_iff.mpr (.inr (.tail _ (.tail _ (List.mem_append_right _ h))))
      · rcases tbl_iff.mp hp with h | h
        · exact hoff p (tbl_iff.mpr (.inl h)) z hz
        · rcases List.mem_cons.mp h with h | h
          · exact h ▸ hoff (fd, o) (mfd o) z hz
          · rcases List.mem_cons.mp h with h | h
            · exact h ▸ Nat.ne_of_gt (lt' z (List.mem_append_right _ hz))
            · exact hoff p (tbl_iff.mpr (.inr (.tail _ h))) z hz
      · exact List.forall_mem_cons.mpr ⟨NT.of_lt (Nat.lt_trans hf ltf), hlow1⟩
      · exact List.forall_mem_cons.mpr ⟨Nat.ne_of_gt ltf, hfd1⟩
      · intro b' y hb' hm'
        rw [List.take_add_one, hb] at hm'
        rcases List.mem_append.mp hm' with h | h
        · exact (hhas b' y hb' h).stored b _ (fun e => nodup_take names_nodup hb (e ▸ h)) fun z hz => .tail _ hz
        · have e : b' = b := by simpa using h
          subst e
          exact ⟨q, by rw [valueAt_stored, if_pos rfl], by rw [hw y hb']; exact .head _⟩
  · rintro m₁ nx h tk ⟨o, kvs, nw', u1, u2, rfl, hd, hk, hs1, hlow1, hfd1, hhas, rfl⟩ F₁ N₁
    refine done u1 u2 o kvs nw' h tk hd (hL ▸ hk) hs1 hlow1 hfd1 (fun b y hb hm => hhas b y hb ?_) F₁ N₁
    rw [hL, List.take_of_length_le (by decide +kernel)]
    exact hm
theorem Fr.same {h₀ h : Heap} {L : Addr} {m m' : Str → Option Value} (F : Fr h₀ L h m) (e : ∀ z, m z = m' z) : Fr h₀ L h m' := (funext e : m = m') ▸ F
theorem LoopStep.of {prog : Program} {w : World} {h₀ h' : Heap} {L fd q : Addr} {r0 r1 r2 r3 r4 r5 r6 r7 r8 r9 r10 : Array Value} {m₀ M : Str → Option Value} {kvs : List (List UInt8 × Value)} {b : List UInt8} {x : Value} {o o' : Obj} {nz : List (Addr × Obj)} {s₁ : Shared} {tk : Nat}
    (F : Fr h₀ L h' M) (e : ∀ z, z ≠ Str.ofString "name" → z ≠ Str.ofString "act" → M z = m₀ z) (N : News h₀ L h' (((740 : Addr), tabObj r0) :: ((698 : Addr), tabObj r1) :: ((726 : Addr), tabObj r2) :: ((733 : Addr), tabObj r3) :: ((754 : Addr), tabObj r4) :: ((878 : Addr), tabObj r5) :: ((899 : Addr), tabObj r6) :: ((836 : Addr), tabObj r7) :: ((871 : Addr), tabObj r8) :: ((768 : Addr), tabObj r9) :: ((796 : Addr), tabObj r10) :: (fd, o') :: (q, tup [x, .bool false]) :: nz)) (d : o'.IsDictOf (bytesKind prog w) (stored kvs b (.ref q))) (l : ∀ p ∈ ((740 : Addr), tabObj r0) :: ((698 : Addr), tabObj r1) :: ((726 : Addr), tabObj r2) :: ((733 : Addr), tabObj r3) :: ((754 : Addr), tabObj r4) :: ((878 : Addr), tabObj r5) :: ((899 : Addr), tabObj r6) :: ((836 : Addr), tabObj r7) :: ((871 : Addr), tabObj r8) :: ((768 : Addr), tabObj r9) :: ((796 : Addr), tabObj r10) :: (fd, o) :: nz, p.1 < q) :
    LoopStep prog w h₀ L fd r0 r1 r2 r3 r4 r5 r6 r7 r8 r9 r10 m₀ kvs b x o nz s₁ .next { s₁ with heap := h', toks := tk } := by
  refine ⟨rfl, h', tk, q, o', M (Str.ofString "name"), M (Str.ofString "act"), rfl, Fr.same F fun z => ?_, N, d, l⟩
  by_cases h1 : z = Str.ofString "name"
  · rw [if_pos h1, h1]
  · rw [if_neg h1]
    by_cases h2 : z = Str.ofString "act"
    · rw [if_pos h2, h2]
    · rw [if_neg h2, e z h1 h2]
def LoopStep2 (prog : Program) (w : World) (h₀ : Heap) (L fd : Addr) (r0 r1 r2 r3 r4 r5 r6 r7 r8 r9 r10 : Array Value) (m₀ : Str → Option Value) (kvs : List (List UInt8 × Value)) (b : List UInt8) (o : Obj) (nz : List (Addr × Obj)) (s₁ : Shared) (f : Flow) (s₂ : Shared) : Prop :=
  f = .next ∧ ∃ h' tk q o' u1 u2 u3 v r9', s₂ = { s₁ with heap := h', toks := tk } ∧ Fr h₀ L h' (fun z => if z = Str.ofString "name" then u1 else if z = Str.ofString "is_back" then u2 else if z = Str.ofString "is_near" then u3 else m₀ z) ∧ News h₀ L h' (((740 : Addr), tabObj r0) :: ((698 : Addr), tabObj r1) :: ((726 : Addr), tabObj r2) :: ((733 : Addr), tabObj r3) :: ((754 : Addr), tabObj r4) :: ((878 : Addr), tabObj r5) :: ((899 : Addr), tabObj r6) :: ((836 : Addr), tabObj r7) :: ((871 : Addr), tabObj r8) :: ((768 : Addr), tabObj r9') :: ((796 : Addr), tabObj r10) :: (fd, o') :: (q, tup [v, .bool true]) :: nz) ∧ o'.IsDictOf (bytesKind prog w) (stored kvs b (.ref q)) ∧ (∀ p ∈ ((740 : Addr), tabObj r0) :: ((698 : Addr), tabObj r1) :: ((726 : Addr), tabObj r2) :: ((733 : Addr), tabObj r3) :: ((754 : Addr), tabObj r4) :: ((878 : Addr), tabObj r5) :: ((899 : Addr), tabObj r6) :: ((836 : Addr), tabObj r7) :: ((871 : Addr), tabObj r8) :: ((768 : Addr), tabObj r9) :: ((796 : Addr), tabObj r10) :: (fd, o) :: nz, p.1 < q) ∧ TabOk r9'.toList
theorem LoopStep2.of {prog : Program} {w : World} {h₀ h' : Heap} {L fd q : Addr} {r0 r1 r2 r3 r4 r5 r6 r7 r8 r9 r10 : Array Value} {r9' : Array Value} {m₀ M : Str → Option Value} {kvs : List (List UInt8 × Value)} {b : List UInt8} {v : Value} {o o' : Obj} {nz : List (Addr × Obj)} {s₁ : Shared} {tk : Nat}
    (F : Fr h₀ L h' M) (e : ∀ z, z ≠ Str.ofString "name" → z ≠ Str.ofString "is_back" → z ≠ Str.ofString "is_near" → M z = m₀ z) (N : News h₀ L h' (((740 : Addr), tabObj r0) :: ((698 : Addr), tabObj r1) :: ((726 : Addr), tabObj r2) :: ((733 : Addr), tabObj r3) :: ((754 : Addr), tabObj r4) :: ((878 : Addr), tabObj r5) :: ((899 : Addr), tabObj r6) :: ((836 : Addr), tabObj r7) :: ((871 : Addr), tabObj r8) :: ((768 : Addr), tabObj r9') :: ((796 : Addr), tabObj r10) :: (fd, o') :: (q, tup [v, .bool true]) :: nz)) (d : o'.IsDictOf (bytesKind prog w) (stored kvs b (.ref q))) (l : ∀ p ∈ ((740 : Addr), tabObj r0) :: ((698 : Addr), tabObj r1) :: ((726 : Addr), tabObj r2) :: ((733 : Addr), tabObj r3) :: ((754 : Addr), tabObj r4) :: ((878 : Addr), tabObj r5) :: ((899 : Addr), tabObj r6) :: ((836 : Addr), tabObj r7) :: ((871 : Addr), tabObj r8) :: ((768 : Addr), tabObj r9) :: ((796 : Addr), tabObj r10) :: (fd, o) :: nz, p.1 < q) (ht : TabOk r9'.toList) :
    LoopStep2 prog w h₀ L fd r0 r1 r2 r3 r4 r5 r6 r7 r8 r9 r10 m₀ kvs b o nz s₁ .next { s₁ with heap := h', toks := tk } := by
  refine ⟨rfl, h', tk, q, o', M (Str.ofString "name"), M (Str.ofString "is_back"), M (Str.ofString "is_near"), v, r9', rfl, Fr.same F fun z => ?_, N, d, l, ht⟩
  by_cases h1 : z = Str.ofString "name"
  · rw [if_pos h1, h1]
  · rw [if_neg h1]
    by_cases h2 : z = Str.ofString "is_back"
    · rw [if_pos h2, h2]
    · rw [if_neg h2]
      by_cases h3 : z = Str.ofString "is_near"
      · rw [if_pos h3, h3]
      · rw [if_neg h3, e z h1 h2 h3]
theorem cmd_loop2 {prog : Program} {w : World} {A : Around} {E : Value → Shared → Prop} {s : Shared} {env : Env} {h₀ : Heap} {target : PySem.Expr} {body : List Stmt} {Q : Flow → Shared → Prop} {l fd : Addr} {vs : List Value} {m₀ : Str → Option Value} {nw nw₁ : List (Addr × Obj)} {o : Obj} {r0 r1 r2 r3 r4 r5 r6 r7 r8 r9 r10 : Array Value}
    (hh : A.handled = none) (F : Fr h₀ env.locals s.heap m₀) (N : News h₀ env.locals s.heap (((740 : Addr), tabObj r0) :: ((698 : Addr), tabObj r1) :: ((726 : Addr), tabObj r2) :: ((733 : Addr), tabObj r3) :: ((754 : Addr), tabObj r4) :: ((878 : Addr), tabObj r5) :: ((899 : Addr), tabObj r6) :: ((836 : Addr), tabObj r7) :: ((871 : Addr), tabObj r8) :: ((768 : Addr), tabObj r9) :: ((796 : Addr), tabObj r10) :: (fd, o) :: nw)) (hl : (l, tup vs) ∈ nw) (hs : ∀ p ∈ nw₁, p ∈ nw) (hne : ∀ p ∈ nw₁, p.1 < l) (hlf : fd < l) (M : ∀ v ∈ vs, ∃ (t : Addr) (tk : Tok) (b : List UInt8) (x y : Bool), v = .ref t ∧ (t, tup [.bytes b.toArray tk, .bool x, .bool y]) ∈ nw₁ ∧ b ≠ [104, 105, 115, 116, 111, 114, 121, 45, 116, 111, 112] ∧ b ≠ [104, 105, 115, 116, 111, 114, 121, 45, 98, 111, 116, 116, 111, 109]) (hL : vs.length = 4) (hlow : ∀ q ∈ nw, NT q.1) (hf : ltN9 fd) (hfd : ∀ q ∈ nw, q.1 ≠ fd) {kvs₀ : List (List UInt8 × Value)} (hd : o.IsDictOf (bytesKind prog w) kvs₀) (hk0 : kvs₀.length ≤ 44) (h1 : Has nw₁ kvs₀ [104, 105, 115, 116, 111, 114, 121, 45, 116, 111, 112] 710 false) (h2 : Has nw₁ kvs₀ [104, 105, 115, 116, 111, 114, 121, 45, 98, 111, 116, 116, 111, 109] 717 false) (ht9 : TabOk r9.toList)
    (turn : ∀ (t : Addr) (tk : Tok) (b : List UInt8) (x y : Bool) (u1 u2 u3 : Option Value) (r9 : Array Value) (o : Obj) (kvs : List (List UInt8 × Value)) (nz : List (Addr × Obj)) (s₁ : Shared), (t, tup [.bytes b.toArray tk, .bool x, .bool y]) ∈ nz → o.IsDictOf (bytesKind prog w) kvs → kvs.length ≤ 48 → (∀ p ∈ nz, p.1 ≠ fd) → (∀ p ∈ nz, p.1 ≠ 768) → TabOk r9.toList →
      Fr h₀ env.locals s₁.heap (fun z => if z = Str.ofString "name" then u1 else if z = Str.ofString "is_back" then u2 else if z = Str.ofString "is_near" then u3 else m₀ z) → News h₀ env.locals s₁.heap (((740 : Addr), tabObj r0) :: ((698 : Addr), tabObj r1) :: ((726 : Addr), tabObj r2) :: ((733 : Addr), tabObj r3) :: ((754 : Addr), tabObj r4) :: ((878 : Addr), tabObj r5) :: ((899 : Addr), tabObj r6) :: ((836 : Addr), tabObj r7) :: ((871 : Addr), tabObj r8) :: ((768 : Addr), tabObj r9) :: ((796 : Addr), tabObj r10) :: (fd, o) :: nz) →
      wpAny (model prog w) A (assign target env (.ref t)) (fun _ s₃ => wpAny (model prog w) A (execs body env) (LoopStep2 prog w h₀ env.locals fd r0 r1 r2 r3 r4 r5 r6 r7 r8 r9 r10 m₀ kvs b o nz s₁) E s₃) E s₁)
    (done : ∀ (u1 u2 u3 : Option Value) (r9 : Array Value) (o : Obj) (kvs : List (List UInt8 × Value)) (nw' : List (Addr × Obj)) (h : Heap) (tk : Nat), o.IsDictOf (bytesKind prog w) kvs → kvs.length ≤ 48 → TabOk r9.toList → (∀ q ∈ nw₁, q ∈ nw') → (∀ q ∈ nw', NT q.1) → (∀ q ∈ nw', q.1 ≠ fd) → Has nw' kvs [104, 105, 115, 116, 111, 114, 121, 45, 116, 111, 112] 710 false → Has nw' kvs [104, 105, 115, 116, 111, 114, 121, 45, 98, 111, 116, 116, 111, 109] 717 false →
      Fr h₀ env.locals h (fun z => if z = Str.ofString "name" then u1 else if z = Str.ofString "is_back" then u2 else if z = Str.ofString "is_near" then u3 else m₀ z) → News h₀ env.locals h (((740 : Addr), tabObj r0) :: ((698 : Addr), tabObj r1) :: ((726 : Addr), tabObj r2) :: ((733 : Addr), tabObj r3) :: ((754 : Addr), tabObj r4) :: ((878 : Addr), tabObj r5) :: ((899 : Addr), tabObj r6) :: ((836 : Addr), tabObj r7) :: ((871 : Addr), tabObj r8) :: ((768 : Addr), tabObj r9) :: ((796 : Addr), tabObj r10) :: (fd, o) :: nw') → Q .next { s with heap := h, toks := tk }) :
    wpAny (model prog w) A (pyIter (.ref l)) (fun it s₂ => LoopAtT prog w A h₀ env target body Q E it s₂) E s := by
  have hl9 := hlow _ hl
  refine iterT_tup (m₀ := m₀) (nx₀ := ((740 : Addr), tabObj r0) :: ((698 : Addr), tabObj r1) :: ((726 : Addr), tabObj r2) :: ((733 : Addr), tabObj r3) :: ((754 : Addr), tabObj r4) :: ((878 : Addr), tabObj r5) :: ((899 : Addr), tabObj r6) :: ((836 : Addr), tabObj r7) :: ((871 : Addr), tabObj r8) :: ((768 : Addr), tabObj r9) :: ((796 : Addr), tabObj r10) :: (fd, o) :: nw₁) (fun i m nx => ∃ o kvs nw' r9 u1 u2 u3, nx = ((740 : Addr), tabObj r0) :: ((698 : Addr), tabObj r1) :: ((726 : Addr), tabObj r2) :: ((733 : Addr), tabObj r3) :: ((754 : Addr), tabObj r4) :: ((878 : Addr), tabObj r5) :: ((899 : Addr), tabObj r6) :: ((836 : Addr), tabObj r7) :: ((871 : Addr), tabObj r8) :: ((768 : Addr), tabObj r9) :: ((796 : Addr), tabObj r10) :: (fd, o) :: nw' ∧ o.IsDictOf (bytesKind prog w) kvs ∧ kvs.length ≤ 44 + i ∧ TabOk r9.toList ∧ (∀ q ∈ nw₁, q ∈ nw') ∧ (∀ q ∈ nw', NT q.1) ∧ (∀ q ∈ nw', q.1 ≠ fd) ∧
      Has nw' kvs [104, 105, 115, 116, 111, 114, 121, 45, 116, 111, 112] 710 false ∧ Has nw' kvs [104, 105, 115, 116, 111, 114, 121, 45, 98, 111, 116, 116, 111, 109] 717 false ∧ m = (fun z => if z = Str.ofString "name" then u1 else if z = Str.ofString "is_back" then u2 else if z = Str.ofString "is_near" then u3 else m₀ z)) hh F N (.tail _ (.tail _ (.tail _ (.tail _ (.tail _ (.tail _ (.tail _ (.tail _ (.tail _ (.tail _ (.tail _ (.tail _ (hl))))))))))))) ?_ ?_ ?_ ?_ ?_
  · intro p hp
    rcases tbl_iff.mp hp with h | h
    · exact tbl_iff.mpr (.inl h)
    · refine tbl_iff.mpr (.inr ?_)
      rcases List.mem_cons.mp h with h | h
      · exact h ▸ .head _
      · exact .tail _ (hs _ h)
  · intro p hp
    rcases tbl_iff.mp hp with h | h
    · exact tbl_ne h hl9
    · rcases List.mem_cons.mp h with h | h
      · exact h ▸ Nat.ne_of_lt hlf
      · exact Nat.ne_of_lt (hne _ h)
  · refine ⟨o, kvs₀, nw₁, r9, m₀ (Str.ofString "name"), m₀ (Str.ofString "is_back"), m₀ (Str.ofString "is_near"), rfl, hd, hk0, ht9, fun _ h => h, fun q hq => hlow q (hs q hq), fun q hq => hfd q (hs q hq), h1, h2, ?_⟩
    funext z
    by_cases h1 : z = Str.ofString "name"
    · rw [if_pos h1, h1]
    · rw [if_neg h1]
      by_cases h2 : z = Str.ofString "is_back"
      · rw [if_pos h2, h2]
      · rw [if_neg h2]
        by_cases h3 : z = Str.ofString "is_near"
        · rw [if_pos h3, h3]
        · rw [if_neg h3]
  · rintro i v m₁ nx own s₁ hv hoff ⟨o, kvs, nw', r9, u1, u2, u3, rfl, hd, hk, ht9, hs1, hlow1, hfd1, hh1, hh2, rfl⟩ F₁ N₁
    obtain ⟨t, tk, b, x, y, rfl, hm, hb1, hb2⟩ := M _ (List.mem_of_getElem? hv)
    have hi : i < 4 := hL ▸ (List.getElem?_eq_some_iff.mp hv).1
    have mfd : ∀ o', ((fd, o') : Addr × Obj) ∈ ((740 : Addr), tabObj r0) :: ((698 : Addr), tabObj r1) :: ((726 : Addr), tabObj r2) :: ((733 : Addr), tabObj r3) :: ((754 : Addr), tabObj r4) :: ((878 : Addr), tabObj r5) :: ((899 : Addr), tabObj r6) :: ((836 : Addr), tabObj r7) :: ((871 : Addr), tabObj r8) :: ((768 : Addr), tabObj r9) :: ((796 : Addr), tabObj r10) :: (fd, o') :: nw' := fun o' => tbl_iff.mpr (.inr (.head _))
    refine wpAny_mono (turn t tk b x y u1 u2 u3 r9 o kvs (nw' ++ own) s₁ (List.mem_append_left _ (hs1 _ hm)) hd (by omega) (fun p hp => (List.mem_append.mp hp).elim (hfd1 p) fun hp => (hoff (fd, o) (mfd o) p hp).symm) (fun p hp => (List.mem_append.mp hp).elim (fun hp => (hlow1 p hp).ne rfl) fun hp => (hoff (768, tabObj r9) (tbl_iff.mpr (.inl (.tail _ (.tail _ (.tail _ (.tail _ (.tail _ (.tail _ (.tail _ (.tail _ (.tail _ (.head _)))))))))))) p hp).symm) ht9 F₁ (News.order N₁ fun q hq => ?_)) (fun _ s₃ y2 => wpAny_mono y2 (fun f s₂ z => ?_) fun _ _ e => e) fun _ _ e => e
    · rcases tbl_iff.mp hq with h | h
      · exact List.mem_append_left _ (tbl_iff.mpr (.inl h))
      · rcases List.mem_cons.mp h with h | h
        · exact List.mem_append_left _ (tbl_iff.mpr (.inr (h ▸ .head _)))
        · exact (List.mem_append.mp h).elim (fun h => List.mem_append_left _ (tbl_iff.mpr (.inr (.tail _ h)))) fun h => List.mem_append_right _ h
    · obtain ⟨rfl, h', tk', q, o', v1, v2, v3, v, r9', rfl, F', N', hd', lt, ht9'⟩ := z
      have lt' : ∀ p ∈ nw' ++ own, p.1 < q := fun p hp => lt p (tbl_iff.mpr (.inr (.tail _ hp)))
      have ltf : fd < q := lt (fd, o) (tbl_iff.mpr (.inr (.head _)))
      refine ⟨rfl, h', tk', _, ((740 : Addr), tabObj r0) :: ((698 : Addr), tabObj r1) :: ((726 : Addr), tabObj r2) :: ((733 : Addr), tabObj r3) :: ((754 : Addr), tabObj r4) :: ((878 : Addr), tabObj r5) :: ((899 : Addr), tabObj r6) :: ((836 : Addr), tabObj r7) :: ((871 : Addr), tabObj r8) :: ((768 : Addr), tabObj r9') :: ((796 : Addr), tabObj r10) :: (fd, o') :: (q, tup [v, .bool true]) :: nw', rfl, F', News.order N' fun z hz => ?_, fun p hp z hz => ?_, o', stored kvs b (.ref q), (q, tup [v, .bool true]) :: nw', r9', v1, v2, v3, rfl, hd', Nat.le_trans (stored_length_le _ _ _) (Nat.succ_le_succ hk), ht9', fun z hz => .tail _ (hs1 z hz), ?_, ?_, hh1.stored b _ hb1 (fun z hz => .tail _ hz), hh2.stored b _ hb2 (fun z hz => .tail _ hz), rfl⟩
      · rcases List.mem_append.mp hz with h | h
        · rcases tbl_iff.mp h with h | h
          · exact tbl_iff.mpr (.inl h)
          · refine tbl_iff.mpr (.inr ?_)
            rcases List.mem_cons.mp h with h | h
            · exact h ▸ .head _
            · rcases List.mem_cons.mp h with h | h
              · exact .tail _ (h ▸ .head _)
              · exact .tail _ (.tail _ (List.mem_append_left _ h))
        · exact tbl_iff.mpr (.inr (.tail _ (.tail _ (List.mem_append_right _ h))))
      · rcases tbl_iff.mp hp with h | h
        · obtain ⟨p', hp', e⟩ := tbl_at h
          exact e ▸ hoff p' (tbl_iff.mpr (.inl hp')) z hz
        · rcases List.mem_cons.mp h with h | h
          · exact h ▸ hoff (fd, o) (mfd o) z hz
          · rcases List.mem_cons.mp h with h | h
            · exact h ▸ Nat.ne_of_gt (lt' z (List.mem_append_right _ hz))
            · exact hoff p (tbl_iff.mpr (.inr (.tail _ h))) z hz
      · exact List.forall_mem_cons.mpr ⟨NT.of_lt (Nat.lt_trans hf ltf), hlow1⟩
      · exact List.forall_mem_cons.mpr ⟨Nat.ne_of_gt ltf, hfd1⟩
  · rintro m₁ nx h tk ⟨o, kvs, nw', r9, u1, u2, u3, rfl, hd, hk, ht9, hs1, hlow1, hfd1, hh1, hh2, rfl⟩ F₁ N₁
    exact done u1 u2 u3 r9 o kvs nw' h tk hd (by omega) ht9 hs1 hlow1 hfd1 hh1 hh2 F₁ N₁
end
local macro_rules | `(tactic| walk_at "call ref") => useM 773 `Mine.c_jump "std C:C_9_772_768 U:u ht:a" "q' ps' h' tk' ht' l1! F' N'!N"
local macro_rules | `(tactic| walk_at "call ref") => useM 801 `Mine.c_search "std C:C_10_800_796 U:u ht:a" "q' ps' h' tk' ht' l1! F' N'!N"
local macro_rules | `(tactic| walk_at "call ref") => useM 897 `Mine.cl_plain "std HC:k ht0:a ht1:a ht2:a ht3:a ht4:a ht5:a ht6:a ht7:a ht8:a ht9:a ht10:a hlow:a hf:a hfd:a" "l' vs' nw' r0' r1' r2' r3' r4' r5' r6' r7' r8' r9' r10' h' tk' k0' k1' k2' k3' k4' k5' k6' k7' k8' k9' k10' M' i' s' w' d' F' N'"
local macro_rules | `(tactic| walk_at "call ref") => useM 904 `Mine.cl_far "std HC:k ht0:a ht1:a ht2:a ht3:a ht4:a ht5:a ht6:a ht7:a ht8:a ht9:a ht10:a hlow:a hf:a hfd:a" "l' vs' nw' r0' r1' r2' r3' r4' r5' r6' r7' r8' r9' r10' h' tk' k0' k1' k2' k3' k4' k5' k6' k7' k8' k9' k10' M' i' s' w' d' F' N'"
local macro_rules | `(tactic| walk_at "call ref") => useM 911 `Mine.cl_choices "std HC:k ht0:a ht1:a ht2:a ht3:a ht4:a ht5:a ht6:a ht7:a ht8:a ht9:a ht10:a hlow:a hf:a hfd:a" "l' vs' nw' r0' r1' r2' r3' r4' r5' r6' r7' r8' r9' r10' h' tk' k0' k1' k2' k3' k4' k5' k6' k7' k8' k9' k10' M' i' s' w' d' F' N'"
section
local macro_rules | `(tactic| k_all) => `(tactic| exact lowNe (by assumption) (by rfl))
local macro_rules | `(tactic| walk_at "binaryOp Add ref ref") => `(tactic| (k_here; (with_reducible show wpAny _ _ (binaryOp _ (Value.ref _) (Value.ref _)) _ _ _); k_dflt (refine' my_add ?hlow ?hf ?hfd ?F ?N ?ha ?hb ?hz ?_; (case hlow => assumption); (case hf => assumption); (case hfd => assumption); (case F => k_asm); (case N => k_asm); (case ha => first | assumption | exact (show ∀ q ∈ (_ : List (Addr × Obj)), q ∈ (_ : List (Addr × Obj)) by assumption) _ (by assumption)); (case hb => first | assumption | exact (show ∀ q ∈ (_ : List (Addr × Obj)), q ∈ (_ : List (Addr × Obj)) by assumption) _ (by assumption)); (case hz => first | (rw [Moves.length (bs := nPlain) (by assumption), Moves.length (bs := nFar) (by assumption)]; exact Nat.le_of_ble_eq_true rfl) | (rw [List.length_append, Moves.length (bs := nPlain) (by assumption), Moves.length (bs := nFar) (by assumption), Moves.length (bs := nCh) (by assumption)]; exact Nat.le_of_ble_eq_true rfl))); k_dflt (intro D' nw' h' i' s' w' d' x' y' F' N'); (try dsimp only)))
theorem isDict_nil {prog : Program} {w : World} {K K' : Type} [DecidableEq K] [DecidableEq K'] {knd : KeyKind prog w K} {knd' : KeyKind prog w K'} {o : Obj} (h : o.IsDictOf knd []) : o.IsDictOf knd' [] := by
  obtain ⟨es, ep, h1, h2, h3, h4, h5⟩ := h
  have : es = #[] := by
    cases e : es.toList with
    | nil => exact Array.toList_eq_nil_iff.mp e
    | cons a l => rw [e] at h4; cases h4
  subst this
  exact ⟨#[], ep, h1, h2, fun i hi => by simp at hi, .nil, List.nodup_nil⟩
/-- the commands' dict: what the law's three names must find -/
structure CmdOk (prog : Program) (w : World) (nw : List (Addr × Obj)) (fd : Addr) (o : Obj) (kvs : List (List UInt8 × Value)) : Prop where
  isd : o.IsDictOf (bytesKind prog w) kvs
  short : kvs.length ≤ 60
  mem : (fd, o) ∈ nw
  low : (fd == sysModules) = false
  top : Has nw kvs [104, 105, 115, 116, 111, 114, 121, 45, 116, 111, 112] 710 false
  bottom : Has nw kvs [104, 105, 115, 116, 111, 114, 121, 45, 98, 111, 116, 116, 111, 109] 717 false
  goto : Has nw kvs [103, 111, 116, 111, 45, 108, 105, 110, 101] 766 true
theorem move5 {h₀ h : Heap} {L fd : Addr} {o : Obj} {r0 r1 r2 r3 r4 r5 r6 r7 r8 r9 r10 : Array Value} {x1 x2 x3 x4 x5 : Addr × Obj} {nw : List (Addr × Obj)} (N : News h₀ L h (x1 :: x2 :: x3 :: x4 :: x5 :: ((740 : Addr), tabObj r0) :: ((698 : Addr), tabObj r1) :: ((726 : Addr), tabObj r2) :: ((733 : Addr), tabObj r3) :: ((754 : Addr), tabObj r4) :: ((878 : Addr), tabObj r5) :: ((899 : Addr), tabObj r6) :: ((836 : Addr), tabObj r7) :: ((871 : Addr), tabObj r8) :: ((768 : Addr), tabObj r9) :: ((796 : Addr), tabObj r10) :: (fd, o) :: nw)) : News h₀ L h (((740 : Addr), tabObj r0) :: ((698 : Addr), tabObj r1) :: ((726 : Addr), tabObj r2) :: ((733 : Addr), tabObj r3) :: ((754 : Addr), tabObj r4) :: ((878 : Addr), tabObj r5) :: ((899 : Addr), tabObj r6) :: ((836 : Addr), tabObj r7) :: ((871 : Addr), tabObj r8) :: ((768 : Addr), tabObj r9) :: ((796 : Addr), tabObj r10) :: (fd, o) :: x1 :: x2 :: x3 :: x4 :: x5 :: nw) :=
  News.order N (fun q hq => (tbl_iff.mp hq).elim (fun h => .tail _ (.tail _ (.tail _ (.tail _ (.tail _ (tbl_iff.mpr (.inl h))))))) fun h => (List.mem_cons.mp h).elim (fun e => e ▸ .tail _ (.tail _ (.tail _ (.tail _ (.tail _ (tbl_iff.mpr (.inr (.head _)))))))) fun h => (List.mem_cons.mp h).elim (fun e => e ▸ .head _) fun h => (List.mem_cons.mp h).elim (fun e => e ▸ .tail _ (.head _)) fun h => (List.mem_cons.mp h).elim (fun e => e ▸ .tail _ (.tail _ (.head _))) fun h => (List.mem_cons.mp h).elim (fun e => e ▸ .tail _ (.tail _ (.tail _ (.head _)))) fun h => (List.mem_cons.mp h).elim (fun e => e ▸ .tail _ (.tail _ (.tail _ (.tail _ (.head _))))) fun h => .tail _ (.tail _ (.tail _ (.tail _ (.tail _ (tbl_iff.mpr (.inr (.tail _ (h)))))))))
theorem Has.mono {nw nw' : List (Addr × Obj)} {kvs : List (List UInt8 × Value)} {b : List UInt8} {x : Addr} {f : Bool} (h : Has nw kvs b x f) (hs : ∀ q ∈ nw, q ∈ nw') : Has nw' kvs b x f :=
  let ⟨q, e, hm⟩ := h; ⟨q, e, hs _ hm⟩
theorem move1 {h₀ h : Heap} {L fd : Addr} {o : Obj} {r0 r1 r2 r3 r4 r5 r6 r7 r8 r9 r10 : Array Value} {x1 : Addr × Obj} {nw : List (Addr × Obj)} (N : News h₀ L h (x1 :: ((740 : Addr), tabObj r0) :: ((698 : Addr), tabObj r1) :: ((726 : Addr), tabObj r2) :: ((733 : Addr), tabObj r3) :: ((754 : Addr), tabObj r4) :: ((878 : Addr), tabObj r5) :: ((899 : Addr), tabObj r6) :: ((836 : Addr), tabObj r7) :: ((871 : Addr), tabObj r8) :: ((768 : Addr), tabObj r9) :: ((796 : Addr), tabObj r10) :: (fd, o) :: nw)) : News h₀ L h (((740 : Addr), tabObj r0) :: ((698 : Addr), tabObj r1) :: ((726 : Addr), tabObj r2) :: ((733 : Addr), tabObj r3) :: ((754 : Addr), tabObj r4) :: ((878 : Addr), tabObj r5) :: ((899 : Addr), tabObj r6) :: ((836 : Addr), tabObj r7) :: ((871 : Addr), tabObj r8) :: ((768 : Addr), tabObj r9) :: ((796 : Addr), tabObj r10) :: (fd, o) :: x1 :: nw) :=
  News.order N (fun q hq => (tbl_iff.mp hq).elim (fun h => .tail _ (tbl_iff.mpr (.inl h))) fun h => (List.mem_cons.mp h).elim (fun e => e ▸ .tail _ (tbl_iff.mpr (.inr (.head _)))) fun h => (List.mem_cons.mp h).elim (fun e => e ▸ .head _) fun h => .tail _ (tbl_iff.mpr (.inr (.tail _ (h)))))
theorem move3 {h₀ h : Heap} {L : Addr} {r0 r1 r2 r3 r4 r5 r6 r7 r8 r9 r10 : Array Value} {x1 x2 x3 x4 : Addr × Obj} {nw : List (Addr × Obj)} (N : News h₀ L h (x1 :: x2 :: x3 :: ((740 : Addr), tabObj r0) :: ((698 : Addr), tabObj r1) :: ((726 : Addr), tabObj r2) :: ((733 : Addr), tabObj r3) :: ((754 : Addr), tabObj r4) :: ((878 : Addr), tabObj r5) :: ((899 : Addr), tabObj r6) :: ((836 : Addr), tabObj r7) :: ((871 : Addr), tabObj r8) :: ((768 : Addr), tabObj r9) :: ((796 : Addr), tabObj r10) :: x4 :: nw)) : News h₀ L h (((740 : Addr), tabObj r0) :: ((698 : Addr), tabObj r1) :: ((726 : Addr), tabObj r2) :: ((733 : Addr), tabObj r3) :: ((754 : Addr), tabObj r4) :: ((878 : Addr), tabObj r5) :: ((899 : Addr), tabObj r6) :: ((836 : Addr), tabObj r7) :: ((871 : Addr), tabObj r8) :: ((768 : Addr), tabObj r9) :: ((796 : Addr), tabObj r10) :: x1 :: x2 :: x3 :: x4 :: nw) :=
  News.order N (fun q hq => (tbl_iff.mp hq).elim (fun h => .tail _ (.tail _ (.tail _ (tbl_iff.mpr (.inl h))))) fun h => (List.mem_cons.mp h).elim (fun e => e ▸ .head _) fun h => (List.mem_cons.mp h).elim (fun e => e ▸ .tail _ (.head _)) fun h => (List.mem_cons.mp h).elim (fun e => e ▸ .tail _ (.tail _ (.head _))) fun h => (List.mem_cons.mp h).elim (fun e => e ▸ .tail _ (.tail _ (.tail _ (tbl_iff.mpr (.inr (.head _)))))) fun h => .tail _ (.tail _ (.tail _ (tbl_iff.mpr (.inr (.tail _ (h)))))))
theorem move_lt {q fd : Addr} {o : Obj} {r0 r1 r2 r3 r4 r5 r6 r7 r8 r9 r10 r9' : Array Value} {nz : List (Addr × Obj)} (h : AllLt q (((740 : Addr), tabObj r0) :: ((698 : Addr), tabObj r1) :: ((726 : Addr), tabObj r2) :: ((733 : Addr), tabObj r3) :: ((754 : Addr), tabObj r4) :: ((878 : Addr), tabObj r5) :: ((899 : Addr), tabObj r6) :: ((836 : Addr), tabObj r7) :: ((871 : Addr), tabObj r8) :: ((768 : Addr), tabObj r9') :: ((796 : Addr), tabObj r10) :: (fd, o) :: nz)) : ∀ p ∈ ((740 : Addr), tabObj r0) :: ((698 : Addr), tabObj r1) :: ((726 : Addr), tabObj r2) :: ((733 : Addr), tabObj r3) :: ((754 : Addr), tabObj r4) :: ((878 : Addr), tabObj r5) :: ((899 : Addr), tabObj r6) :: ((836 : Addr), tabObj r7) :: ((871 : Addr), tabObj r8) :: ((768 : Addr), tabObj r9) :: ((796 : Addr), tabObj r10) :: (fd, o) :: nz, p.1 < q := tb_ltOf h
def nJ : Nat → List UInt8
  | 0 => [106, 117, 109, 112, 45, 102, 111, 114, 119, 97, 114, 100]
  | 1 => [106, 117, 109, 112, 45, 98, 97, 99, 107, 119, 97, 114, 100]
  | 2 => [106, 117, 109, 112, 45, 116, 111, 45, 102, 111, 114, 119, 97, 114, 100]
  | _ => [106, 117, 109, 112, 45, 116, 111, 45, 98, 97, 99, 107, 119, 97, 114, 100]
/-- a stop of the walk -/
def Hold (P : Prop) : Prop := P
theorem Hold.intro {P : Prop} (h : Hold P) : P := h
theorem Hold.of {P : Prop} (h : P) : Hold P := h
local macro_rules | `(tactic| walk_at "pyIter ref") => `(tactic| (k_here; (with_reducible show wpAny _ _ (pyIter (Value.ref _)) (fun it s₂ => LoopAtT _ _ _ _ _ _ _ _ _ it s₂) _ _); refine Hold.intro ?_))
local macro_rules | `(tactic| walk_at "exec For Tuple Tuple cons nil") => `(tactic| (k_here; (rename Fr _ _ _ _ => lF'); k_dflt (refine For_invTF lF' ?_ (by intro _; rfl))))
theorem kvs_room1 {kvs : List (List UInt8 × Value)} {k : List UInt8} {v : Value} (h : kvs.length ≤ 60) : (stored kvs k v).length ≤ sizeLine := by
  have := stored_length_le kvs k v
  rw [sizeLine_eq]; omega
theorem kvs_room2 {kvs : List (List UInt8 × Value)} {k k' : List UInt8} {v v' : Value} (h : kvs.length ≤ 60) : (stored (stored kvs k v) k' v').length ≤ sizeLine := by
  have := stored_length_le kvs k v
  have := stored_length_le (stored kvs k v) k' v'
  rw [sizeLine_eq]; omega
theorem kvs_room {kvs : List (List UInt8 × Value)} (h : kvs.length ≤ 60) : kvs.length ≤ sizeLine := by rw [sizeLine_eq]; omega
local macro_rules | `(tactic| walk_at "setItem ref bytes") => `(tactic| (k_here; (with_reducible show wpAny _ _ (setItem (Value.ref _) (Value.bytes _ _) (Value.ref _)) _ _ _); k_dflt (refine' kda_set (knd := bytesKind _ _) ?F ?N ?U ?d (bytesKind_is _ _ _ _) ?z ?_; (case F => k_asm); (case N => k_asm); (case U => k_updF); (case d => assumption); (case z => first | exact kvs_room (by assumption) | exact kvs_room1 (by assumption) | exact kvs_room2 (by assumption))); intro h' o' F' N' hd'; (try dsimp only at N')))
set_option maxHeartbeats 4000000 in
theorem c_commands {p0 p1 p2 p3 p4 p5 p6 p7 p8 p9 p10 : Array Value} {nw : List (Addr × Obj)} (HC : CodeAll tCs h₀) (ht0 : TabOk p0.toList) (ht1 : TabOk p1.toList) (ht2 : TabOk p2.toList) (ht3 : TabOk p3.toList) (ht4 : TabOk p4.toList) (ht5 : TabOk p5.toList) (ht6 : TabOk p6.toList) (ht7 : TabOk p7.toList) (ht8 : TabOk p8.toList) (ht9 : TabOk p9.toList) (ht10 : TabOk p10.toList) (hlow : ∀ q ∈ nw, NT q.1)
  (B : Below A₀ base outer h₀) (F : Fr h₀ L s.heap m) (X : (hK w.params).In h₀) (N : News h₀ L s.heap (((740 : Addr), tabObj p0) :: ((698 : Addr), tabObj p1) :: ((726 : Addr), tabObj p2) :: ((733 : Addr), tabObj p3) :: ((754 : Addr), tabObj p4) :: ((878 : Addr), tabObj p5) :: ((899 : Addr), tabObj p6) :: ((836 : Addr), tabObj p7) :: ((871 : Addr), tabObj p8) :: ((768 : Addr), tabObj p9) :: ((796 : Addr), tabObj p10) :: nw)) (T : Top p loose mean mg mb h₀) (hk : cs.kind = .function) (hdp : dp + 40 < recursionLimit) (hun : un + 400 < cLine)
  (hret : ∀ (fd : Addr) (o : Obj) (kvs : List (List UInt8 × Value)) (nw' : List (Addr × Obj)) (r0 r1 r2 r3 r4 r5 r6 r7 r8 r9 r10 : Array Value) h' tk', TabOk r0.toList → TabOk r1.toList → TabOk r2.toList → TabOk r3.toList → TabOk r4.toList → TabOk r5.toList → TabOk r6.toList → TabOk r7.toList → TabOk r8.toList → TabOk r9.toList → TabOk r10.toList → CmdOk pw w nw' fd o kvs → (∀ q ∈ nw, q.1 ≠ fd) → (∀ q ∈ nw, q ∈ nw') → (∀ q ∈ nw', NT q.1) → Fr h₀ L h' m → News h₀ L h' (((740 : Addr), tabObj r0) :: ((698 : Addr), tabObj r1) :: ((726 : Addr), tabObj r2) :: ((733 : Addr), tabObj r3) :: ((754 : Addr), tabObj r4) :: ((878 : Addr), tabObj r5) :: ((899 : Addr), tabObj r6) :: ((836 : Addr), tabObj r7) :: ((871 : Addr), tabObj r8) :: ((768 : Addr), tabObj r9) :: ((796 : Addr), tabObj r10) :: nw') → Q (.ref fd) { s with heap := h', toks := tk' }) :
  wpAny (model PySem.Challenge.rw_og0290_01.row.prog w) (ktrTop dp un gd cn cs L a ccd cl outer) (call (.ref 890) []) Q E s := by
  w_on
  w_top on
  k_steps
  rename_i tk fd h1 o lo hs fs hi fi l1 h2 F2 N2
  have N3 : News _ _ h2 (((740 : Addr), tabObj p0) :: ((698 : Addr), tabObj p1) :: ((726 : Addr), tabObj p2) :: ((733 : Addr), tabObj p3) :: ((754 : Addr), tabObj p4) :: ((878 : Addr), tabObj p5) :: ((899 : Addr), tabObj p6) :: ((836 : Addr), tabObj p7) :: ((871 : Addr), tabObj p8) :: ((768 : Addr), tabObj p9) :: ((796 : Addr), tabObj p10) :: (fd, o) :: nw) := News.order N2 (fun q hq => (tbl_iff.mp hq).elim (fun h => .tail _ (tbl_iff.mpr (.inl h))) fun h => (List.mem_cons.mp h).elim (fun e => e ▸ .head _) fun h => .tail _ (tbl_iff.mpr (.inr h)))
  have hD0 := isDict_nil (knd' := bytesKind pw w) hs
  have hf : ltN9 fd := by unfold ltN9; exact l1.2.2.2.2.2.2.1
  have hfd : ∀ q ∈ nw, q.1 ≠ fd := fun q hq => Nat.ne_of_lt (tb_ltOf l1.2.2.2.2.2.2.2.2.2.2.2 q hq)
  clear N2 fs hi fi hs l1 N
  k_dflt (refine For_invTF F2 ?_ (by intro _; rfl))
  k_steps
  refine Hold.of ?_
  rename_i lP vsP nwP rP_0 rP_1 rP_2 rP_3 rP_4 rP_5 rP_6 rP_7 rP_8 rP_9 rP_10 hP tkP kkP_0 kkP_1 kkP_2 kkP_3 kkP_4 kkP_5 kkP_6 kkP_7 kkP_8 kkP_9 kkP_10 MP iP sP wP dP lF vsF nwF rF_0 rF_1 rF_2 rF_3 rF_4 rF_5 rF_6 rF_7 rF_8 rF_9 rF_10 hF tkF kkF_0 kkF_1 kkF_2 kkF_3 kkF_4 kkF_5 kkF_6 kkF_7 kkF_8 kkF_9 kkF_10 MF iF sF wF dF DA nwA hA iA sA wA dA xA yA lC vsC nwC rC_0 rC_1 rC_2 rC_3 rC_4 rC_5 rC_6 rC_7 rC_8 rC_9 rC_10 hC tkC kkC_0 kkC_1 kkC_2 kkC_3 kkC_4 kkC_5 kkC_6 kkC_7 kkC_8 kkC_9 kkC_10 MC iC sC wC dC F8 N8 DB nwB hB iB sB wB dB xB yB F9 N9
  have MM : Moves nwC ((vsP ++ vsF) ++ vsC) (nPlain ++ nFar ++ nCh) := ((MP.mono fun q hq => sC q (sA q (sF q hq))).append (MF.mono fun q hq => sC q (sA q hq))).append MC
  k_dflt (refine cmd_loop rfl F9 N9 iB sB xB yB MM wB hf dB hD0 ?_ ?_)
  · intro t tk b x u1 u2 o kvs nz s₁ hm hd hkl hnz F1 N1
    clear N9 F9 F8 N8
    have hkl' : kvs.length ≤ 60 := by omega
    k_steps
    refine LoopStep.of (by k_asm) (fun z h1 h2 => by simp only [h1, h2, if_false]) (News.order (by k_asm) ?_) (by k_asm) (tb_ltOf (by assumption))
    walk_at "c perm"
  · intro u1 u2 o kvs nw9 h9 tk9 hd hk9 hs1 hl1 hf1 hhas F1 N1
    have h5 := hhas [104, 105, 115, 116, 111, 114, 121, 45, 116, 111, 112] 710 (by decide +kernel) (by decide +kernel)
    have h6 := hhas [104, 105, 115, 116, 111, 114, 121, 45, 98, 111, 116, 116, 111, 109] 717 (by decide +kernel) (by decide +kernel)
    clear hhas N9 F9 F8 N8
    k_steps
    refine Hold.of ?_
    rename_i t1 ha la t2 hb lb t3 hc lc t4 hdd ld D hD FD ND lD
    have N5 := move5 ND
    k_dflt (refine cmd_loop2 (nw₁ := _ :: _ :: _ :: _ :: nw9) rfl FD N5 (.head _) (fun p hp => .tail _ hp) (tb_ltOf ⟨lD.1, lD.2.1, lD.2.2.1, lD.2.2.2.1, lD.2.2.2.2.2.2.2.2.2.2.2.2.2.2.2.2⟩) lD.2.2.2.2.2.2.2.2.2.2.2.2.2.2.2.1 ?M rfl ?low hf ?nfd hd hk9 ?h5 ?h6 kkC_9 ?turn ?done)
    case M => exact List.forall_mem_cons.mpr ⟨⟨t1, _, nJ 0, _, _, rfl, (by k_mem), (by decide +kernel), (by decide +kernel)⟩, List.forall_mem_cons.mpr ⟨⟨t2, _, nJ 1, _, _, rfl, (by k_mem), (by decide +kernel), (by decide +kernel)⟩, List.forall_mem_cons.mpr ⟨⟨t3, _, nJ 2, _, _, rfl, (by k_mem), (by decide +kernel), (by decide +kernel)⟩, List.forall_mem_cons.mpr ⟨⟨t4, _, nJ 3, _, _, rfl, (by k_mem), (by decide +kernel), (by decide +kernel)⟩, List.forall_mem_nil _⟩⟩⟩⟩
    case low => exact List.forall_mem_cons.mpr ⟨NT.of_lt lD.2.2.2.2.2.2.2.2.2.2.1, List.forall_mem_cons.mpr ⟨NT.of_lt ld.2.2.2.2.2.2.2.2.2.1, List.forall_mem_cons.mpr ⟨NT.of_lt lc.2.2.2.2.2.2.2.2.1, List.forall_mem_cons.mpr ⟨NT.of_lt lb.2.2.2.2.2.2.2.1, List.forall_mem_cons.mpr ⟨NT.of_lt la.2.2.2.2.2.2.1, hl1⟩⟩⟩⟩⟩
    case nfd => exact List.forall_mem_cons.mpr ⟨Nat.ne_of_gt lD.2.2.2.2.2.2.2.2.2.2.2.2.2.2.2.1, List.forall_mem_cons.mpr ⟨Nat.ne_of_gt ld.2.2.2.2.2.2.2.2.2.2.2.2.2.2.1, List.forall_mem_cons.mpr ⟨Nat.ne_of_gt lc.2.2.2.2.2.2.2.2.2.2.2.2.2.1, List.forall_mem_cons.mpr ⟨Nat.ne_of_gt lb.2.2.2.2.2.2.2.2.2.2.2.2.1, List.forall_mem_cons.mpr ⟨Nat.ne_of_gt la.2.2.2.2.2.2.2.2.2.2.2.1, hf1⟩⟩⟩⟩⟩
    case h5 => exact h5.mono fun q hq => .tail _ (.tail _ (.tail _ (.tail _ hq)))
    case h6 => exact h6.mono fun q hq => .tail _ (.tail _ (.tail _ (.tail _ hq)))
    case turn =>
      clear ND N5 FD
      intro t tk b x y u1 u2 u3 r9 o kvs nz s₁ hm hd hkl hnz h768 ht9 F1 N1
      have hkl' : kvs.length ≤ 60 := by omega
      k_steps
      exact LoopStep2.of (by k_asm) (fun z h1 h2 h3 => by simp only [h1, h2, h3, if_false]) (move1 (by k_asm)) (by k_asm) (move_lt (r9' := #[]) (by assumption)) (by assumption)
    case done =>
      clear ND N5 FD
      intro u1 u2 u3 r9 o kvs nwE hE tkE hd hkl ht9 hsE hlE hfE hh1 hh2 F1 N1
      have hkl' : kvs.length ≤ 60 := by omega
      k_steps
      rename_i q1 ps1 h7 tk1 htA l4 D2 h6 l3 h5 o2 hd2 tkx q2 ps2 h4 tk2 htB l2 D1 h3 l1 h2x o1 hd1 D0 h1x Fa Na l0 h0x o0 Fb Nb hd0 kF kN Tc kX
      clear Fa Na Fb Nb
      refine hret fd o0 (stored (stored (stored kvs [115, 101, 97, 114, 99, 104, 45, 102, 111, 114, 119, 97, 114, 100] (.ref D2)) [115, 101, 97, 114, 99, 104, 45, 98, 97, 99, 107, 119, 97, 114, 100] (.ref D1)) [103, 111, 116, 111, 45, 108, 105, 110, 101] (.ref D0)) (_ :: _ :: _ :: (fd, o0) :: nwE) rC_0 rC_1 rC_2 rC_3 rC_4 rC_5 rC_6 rC_7 rC_8 r9 ps2 _ _ kkC_0 kkC_1 kkC_2 kkC_3 kkC_4 kkC_5 kkC_6 kkC_7 kkC_8 ht9 htB ?ok hfd ?sub ?low kF (move3 kN)
      case sub => exact fun q hq => .tail _ (.tail _ (.tail _ (.tail _ (hsE q (.tail _ (.tail _ (.tail _ (.tail _ (hs1 q (sC q (sA q (sF q (sP q hq)))))))))))))
      case low => exact List.forall_mem_cons.mpr ⟨NT.of_lt l0.2.2.2.2.2.2.2.2.1, List.forall_mem_cons.mpr ⟨NT.of_lt l1.2.2.2.2.2.2.2.1, List.forall_mem_cons.mpr ⟨NT.of_lt l3.2.2.2.2.2.2.1, List.forall_mem_cons.mpr ⟨NT.of_lt hf, hlE⟩⟩⟩⟩
      case ok =>
        have e1 := stored_length_le kvs [115, 101, 97, 114, 99, 104, 45, 102, 111, 114, 119, 97, 114, 100] (Value.ref D2)
        have e2 := stored_length_le (stored kvs [115, 101, 97, 114, 99, 104, 45, 102, 111, 114, 119, 97, 114, 100] (Value.ref D2)) [115, 101, 97, 114, 99, 104, 45, 98, 97, 99, 107, 119, 97, 114, 100] (Value.ref D1)
        have e3 := stored_length_le (stored (stored kvs [115, 101, 97, 114, 99, 104, 45, 102, 111, 114, 119, 97, 114, 100] (Value.ref D2)) [115, 101, 97, 114, 99, 104, 45, 98, 97, 99, 107, 119, 97, 114, 100] (Value.ref D1)) [103, 111, 116, 111, 45, 108, 105, 110, 101] (Value.ref D0)
        exact ⟨hd0, by omega, .tail _ (.tail _ (.tail _ (.head _))), lo,
          ((hh1.stored _ _ (by decide +kernel) fun _ h => h).stored _ _ (by decide +kernel) fun _ h => h).stored _ _ (by decide +kernel) fun q h => .tail _ (.tail _ (.tail _ (.tail _ h))),
          ((hh2.stored _ _ (by decide +kernel) fun _ h => h).stored _ _ (by decide +kernel) fun _ h => h).stored _ _ (by decide +kernel) fun q h => .tail _ (.tail _ (.tail _ (.tail _ h))),
          ⟨D0, by rw [valueAt_stored, if_pos rfl], .head _⟩⟩
end
section
theorem lt_tail {x : Addr × Obj} {l : List (Addr × Obj)} {q : Addr} (h : ∀ p ∈ x :: l, p.1 < q) : ∀ p ∈ l, p.1 < q := fun p hp => h p (.tail _ hp)
theorem news_swap {h₀ h : Heap} {L : Addr} {x y : Addr × Obj} {l : List (Addr × Obj)} (N : News h₀ L h (x :: y :: l)) : News h₀ L h (y :: x :: l) := fun p hp => N p (by simp only [List.mem_cons] at hp ⊢; rcases hp with h | h | h <;> simp [h])
theorem news_swap3 {h₀ h : Heap} {L : Addr} {x y z : Addr × Obj} {l : List (Addr × Obj)} (N : News h₀ L h (x :: y :: z :: l)) : News h₀ L h (z :: x :: y :: l) := fun p hp => N p (by simp only [List.mem_cons] at hp ⊢; rcases hp with h | h | h | h <;> simp [h])
local macro_rules | `(tactic| k_enter) => `(tactic| walk_at "c enter1")
local macro_rules | `(tactic| walk_at "call ref") => useM 577 `Mine.c_held "std V hp:m r0:o r1:o" "q' t' u' h' tk' l1! F' N'"
local macro_rules | `(tactic| walk_at "call ref") => useM 584 `Mine.c_last "std V r0:o r1:o" "t' h' tk' F' N'"
local macro_rules | `(tactic| walk_at "call ref") => useM 512 `Mine.c_show "N:s stn V hmo:m hne:l hp:m r0:o r1:o p0:o p1:o" "tp' tt' h' tk' b1 b2 b3 b4 b5 F' N'"
set_option maxHeartbeats 4000000 in
theorem c_go {vw : Addr} {hs : List Value} {g0 g1 : Value} (V : ViewIn w news vw hs g0 g1) {mo md : Addr} {sep : Value} {tp : Int} {tr tt tw k1 k2 k3 k4 k5 k6 k7 k8 k9 k10 k11 k12 k13 k14 : Tok} (hmo : (mo, instObj 566 md) ∈ news) (hne : ∀ p ∈ news, p.1 ≠ md) {q : Addr} {pl : Addr} {r : Int} {t0 t1 : Tok} (hp : (pl, tup [.int r t0, .int 0 t1]) ∈ news) (r0 : 0 ≤ r) (r1 : r < hs.length + 2) (p0 : 0 ≤ tp) (p1 : tp ≤ hs.length)
  (B : Below A₀ base outer h₀) (F : Fr h₀ L s.heap m) (X : (hK w.params).In h₀) (N : News h₀ L s.heap ((md, modeD w vw sep tp q tr tt tw k1 k2 k3 k4 k5 k6 k7 k8 k9 k10 k11 k12 k13 k14) :: news)) (T : Top p loose mean mg mb h₀) (hk : cs.kind = .function) (hdp : dp + 40 < recursionLimit) (hun : un + 400 < cLine)
  (hret : ∀ (tp' : Int) (pl' : Addr) (tt' tw' a1 a2 : Tok) h' tk', 0 ≤ tp' → tp' ≤ hs.length → tp' ≤ r → r < tp' + 2 → (tp ≤ r → r < tp + 2 → tp' = tp) → md < pl' → (∀ p ∈ news, p.1 < pl') → Fr h₀ L h' m → News h₀ L h' ((md, modeD w vw sep tp' pl' tr tt' tw' k1 k2 k3 k4 k5 k6 k7 k8 k9 k10 k11 k12 k13 k14) :: (pl', tup [.int r a1, .int 0 a2]) :: news) → Q .none { s with heap := h', toks := tk' }) :
  wpAny (model PySem.Challenge.rw_og0290_01.row.prog w) (ktrTop dp un gd cn cs L a ccd cl outer) (call (.ref 520) [.ref mo, .ref pl]) Q E s := by
  refine ViewIn.elim V ?_
  intro vd hi hd hl g gd gl t1 t2 t3 t4 t5 t6 t7 t8 u1 u2 u3 u4 n1 n2 m1 m2 m3 m4 m5 m6 m7 m8 h6 V1 V2 V3
  w_on
  w_top on
  k_steps
  exact hret _ _ _ _ _ _ _ _ (by assumption) (by assumption) (by assumption) (by assumption) (by assumption) (And.left (b := AllLt _ news) (by assumption)) (tb_ltOf (And.right (a := md < _) (by assumption))) (by k_asm) (by k_asm)
end
local macro_rules | `(tactic| walk_at "call ref") => useM 577 `Mine.c_held "std V hp:m r0:o r1:o" "q' t' u' h' tk' l1! F' N'"
local macro_rules | `(tactic| walk_at "call ref") => useM 584 `Mine.c_last "std V r0:o r1:o" "t' h' tk' F' N'"
local macro_rules | `(tactic| walk_at "call ref") => useM 512 `Mine.c_show "N:s stn V hmo:m hne:l hp:m r0:o r1:o p0:o p1:o" "tp' tt' h' tk' b1 b2 b3 b4 b5 F' N'"

section
local macro_rules | `(tactic| walk_at "mine") => `(tactic| skip)
local macro_rules | `(tactic| k_enter) => `(tactic| walk_at "c enter1")
set_option maxHeartbeats 4000000 in
theorem c_go2 {vw : Addr} {hs : List Value} {g0 g1 : Value} (V : ViewIn w news vw hs g0 g1) {mo md : Addr} {sep : Value} {tp : Int} {tr tt tw k1 k2 k3 k4 k5 k6 k7 k8 k9 k10 k11 k12 k13 k14 : Tok} (hmo : (mo, instObj 566 md) ∈ news) (hne : ∀ p ∈ news, p.1 ≠ md) {q : Addr} {pl : Addr} {r : Int} {t0 t1 : Tok} (hp : (pl, tup [.int r t0, .int 0 t1]) ∈ news) (r0 : 0 ≤ r) (r1 : r < hs.length + 2) (p0 : 0 ≤ tp) (p1 : tp ≤ hs.length)
  (B : Below A₀ base outer h₀) (F : Fr h₀ L s.heap m) (X : (hK w.params).In h₀) (N : News h₀ L s.heap ((md, modeD w vw sep tp q tr tt tw k1 k2 k3 k4 k5 k6 k7 k8 k9 k10 k11 k12 k13 k14) :: news)) (T : Top p loose mean mg mb h₀) (hk : cs.kind = .function) (hdp : dp + 40 < recursionLimit) (hun : un + 400 < cLine)
  (hret : ∀ (tp' : Int) (pl' : Addr) (tt' tw' a1 a2 : Tok) h' tk', 0 ≤ tp' → tp' ≤ hs.length → tp' ≤ r → r < tp' + 2 → (tp ≤ r → r < tp + 2 → tp' = tp) → md < pl' → (∀ p ∈ news, p.1 < pl') → Fr h₀ L h' m → News h₀ L h' ((md, modeD w vw sep tp' pl' tr tt' tw' k1 k2 k3 k4 k5 k6 k7 k8 k9 k10 k11 k12 k13 k14) :: (pl', tup [.int r a1, .int 0 a2]) :: news) → Q .none { s with heap := h', toks := tk' }) :
  wpAny (model PySem.Challenge.rw_og0290_01.row.prog w) (ktrTop dp un gd cn cs L a ccd cl outer) (call (.ref 520) [.ref mo, .ref pl, .bool false]) Q E s := by
  refine ViewIn.elim V ?_
  intro vd hi hd hl g gd gl t1 t2 t3 t4 t5 t6 t7 t8 u1 u2 u3 u4 n1 n2 m1 m2 m3 m4 m5 m6 m7 m8 h6 V1 V2 V3
  w_on
  w_top on
  k_steps
  exact hret _ _ _ _ _ _ _ _ (by assumption) (by assumption) (by assumption) (by assumption) (by assumption) (And.left (b := AllLt _ news) (by assumption)) (tb_ltOf (And.right (a := md < _) (by assumption))) (by k_asm) (by k_asm)
local macro_rules | `(tactic| walk_at "call ref") => useM 520 `Mine.c_go "N:s stn V hmo:m hne:l hp:m r0:o r1:o p0:o p1:o" "tp' pl' tt' tw' a1' a2' h' tk' b1 b2 b3 b4 b5 b6 b7 F' N'"
local macro_rules | `(tactic| walk_at "call ref") => useM 520 `Mine.c_go2 "N:s stn V hmo:m hne:l hp:m r0:o r1:o p0:o p1:o" "tp' pl' tt' tw' a1' a2' h' tk' b1 b2 b3 b4 b5 b6 b7 F' N'"
set_option maxHeartbeats 4000000 in
theorem c_gorow {vw : Addr} {hs : List Value} {g0 g1 : Value} (V : ViewIn w news vw hs g0 g1) {mo md : Addr} {sep : Value} {tp : Int} {tr tt tw k1 k2 k3 k4 k5 k6 k7 k8 k9 k10 k11 k12 k13 k14 : Tok} (hmo : (mo, instObj 566 md) ∈ news) (hne : ∀ p ∈ news, p.1 ≠ md) {q : Addr} {r : Int} {t0 : Tok} (r0 : 0 ≤ r) (r1 : r < hs.length + 2) (p0 : 0 ≤ tp) (p1 : tp ≤ hs.length)
  (B : Below A₀ base outer h₀) (F : Fr h₀ L s.heap m) (X : (hK w.params).In h₀) (N : News h₀ L s.heap ((md, modeD w vw sep tp q tr tt tw k1 k2 k3 k4 k5 k6 k7 k8 k9 k10 k11 k12 k13 k14) :: news)) (T : Top p loose mean mg mb h₀) (hk : cs.kind = .function) (hdp : dp + 60 < recursionLimit) (hun : un + 600 < cLine)
  (hret : ∀ (tp' : Int) (pl' : Addr) (tt' tw' a1 a2 : Tok) h' tk', 0 ≤ tp' → tp' ≤ hs.length → tp' ≤ r → r < tp' + 2 → (tp ≤ r → r < tp + 2 → tp' = tp) → md < pl' → (∀ p ∈ news, p.1 < pl') → Fr h₀ L h' m → News h₀ L h' ((md, modeD w vw sep tp' pl' tr tt' tw' k1 k2 k3 k4 k5 k6 k7 k8 k9 k10 k11 k12 k13 k14) :: (pl', tup [.int r a1, .int 0 a2]) :: news) → Q .none { s with heap := h', toks := tk' }) :
  wpAny (model PySem.Challenge.rw_og0290_01.row.prog w) (ktrTop dp un gd cn cs L a ccd cl outer) (call (.ref 527) [.ref mo, .int r t0]) Q E s := by
  refine ViewIn.elim V ?_
  intro vd hi hd hl g gd gl t1 t2 t3 t4 t5 t6 t7 t8 u1 u2 u3 u4 n1 n2 m1 m2 m3 m4 m5 m6 m7 m8 h6 V1 V2 V3
  w_on
  w_top on
  k_steps
  exact hret _ _ _ _ _ _ _ _ (by assumption) (by assumption) (by assumption) (by assumption) (by assumption) (by assumption) (by first | assumption | exact lt_tail (by assumption)) (by k_asm) (by first | k_asm | exact cb_drop (by assumption) (sub1 (sub1 (by ktd_sub))))
local macro_rules | `(tactic| walk_at "call ref") => useM 527 `Mine.c_gorow "N:s stn V hmo:m hne:l r0:o r1:o p0:o p1:o" "tp' pl' tt' tw' a1' a2' h' tk' b1 b2 b3 b4 b5 b6 b7 F' N'"
set_option maxHeartbeats 4000000 in
theorem c_htop {vw : Addr} {hs : List Value} {g0 g1 : Value} (V : ViewIn w news vw hs g0 g1) {mo md : Addr} {sep : Value} {tp : Int} {tr tt tw k1 k2 k3 k4 k5 k6 k7 k8 k9 k10 k11 k12 k13 k14 : Tok} (hmo : (mo, instObj 566 md) ∈ news) (hne : ∀ p ∈ news, p.1 ≠ md) {q : Addr} (p0 : 0 ≤ tp) (p1 : tp ≤ hs.length)
  (B : Below A₀ base outer h₀) (F : Fr h₀ L s.heap m) (X : (hK w.params).In h₀) (N : News h₀ L s.heap ((md, modeD w vw sep tp q tr tt tw k1 k2 k3 k4 k5 k6 k7 k8 k9 k10 k11 k12 k13 k14) :: news)) (T : Top p loose mean mg mb h₀) (hk : cs.kind = .function) (hdp : dp + 80 < recursionLimit) (hun : un + 800 < cLine)
  (hret : ∀ (tp' r' : Int) (pl' : Addr) (tt' tw' a1 a2 : Tok) h' tk', tp' = 0 → tp' ≤ r' → r' < tp' + 2 → 0 ≤ r' → r' < hs.length + 2 → md < pl' → (∀ p ∈ news, p.1 < pl') → Fr h₀ L h' m → News h₀ L h' ((md, modeD w vw sep tp' pl' tr tt' tw' k1 k2 k3 k4 k5 k6 k7 k8 k9 k10 k11 k12 k13 k14) :: (pl', tup [.int r' a1, .int 0 a2]) :: news) → Q .none { s with heap := h', toks := tk' }) :
  wpAny (model PySem.Challenge.rw_og0290_01.row.prog w) (ktrTop dp un gd cn cs L a ccd cl outer) (call (.ref 710) [.ref mo, .none]) Q E s := by
  refine ViewIn.elim V ?_
  intro vd hi hd hl g gd gl t1 t2 t3 t4 t5 t6 t7 t8 u1 u2 u3 u4 n1 n2 m1 m2 m3 m4 m5 m6 m7 m8 h6 V1 V2 V3
  w_on
  w_top on
  k_steps
  refine' hret ?_ ?_ _ _ _ _ _ _ _ ?h1 ?h2 ?h3 ?h4 ?h5 ?h6 ?h7 ?F ?N
  case N => first | k_asm | exact cb_drop (by assumption) (sub1 (sub1 (by ktd_sub)))
  case F => k_asm
  all_goals (first | assumption | omega | exact lt_tail (by assumption) | exact lt_tail (lt_tail (by assumption)))
set_option maxHeartbeats 4000000 in
theorem c_hbot {vw : Addr} {hs : List Value} {g0 g1 : Value} (V : ViewIn w news vw hs g0 g1) {mo md : Addr} {sep : Value} {tp : Int} {tr tt tw k1 k2 k3 k4 k5 k6 k7 k8 k9 k10 k11 k12 k13 k14 : Tok} (hmo : (mo, instObj 566 md) ∈ news) (hne : ∀ p ∈ news, p.1 ≠ md) {q : Addr} (p0 : 0 ≤ tp) (p1 : tp ≤ hs.length)
  (B : Below A₀ base outer h₀) (F : Fr h₀ L s.heap m) (X : (hK w.params).In h₀) (N : News h₀ L s.heap ((md, modeD w vw sep tp q tr tt tw k1 k2 k3 k4 k5 k6 k7 k8 k9 k10 k11 k12 k13 k14) :: news)) (T : Top p loose mean mg mb h₀) (hk : cs.kind = .function) (hdp : dp + 80 < recursionLimit) (hun : un + 800 < cLine)
  (hret : ∀ (tp' r' : Int) (pl' : Addr) (tt' tw' a1 a2 : Tok) h' tk', tp' = hs.length → tp' ≤ r' → r' < tp' + 2 → 0 ≤ r' → r' < hs.length + 2 → md < pl' → (∀ p ∈ news, p.1 < pl') → Fr h₀ L h' m → News h₀ L h' ((md, modeD w vw sep tp' pl' tr tt' tw' k1 k2 k3 k4 k5 k6 k7 k8 k9 k10 k11 k12 k13 k14) :: (pl', tup [.int r' a1, .int 0 a2]) :: news) → Q .none { s with heap := h', toks := tk' }) :
  wpAny (model PySem.Challenge.rw_og0290_01.row.prog w) (ktrTop dp un gd cn cs L a ccd cl outer) (call (.ref 717) [.ref mo, .none]) Q E s := by
  refine ViewIn.elim V ?_
  intro vd hi hd hl g gd gl t1 t2 t3 t4 t5 t6 t7 t8 u1 u2 u3 u4 n1 n2 m1 m2 m3 m4 m5 m6 m7 m8 h6 V1 V2 V3
  w_on
  w_top on
  k_steps
  refine' hret ?_ ?_ _ _ _ _ _ _ _ ?h1 ?h2 ?h3 ?h4 ?h5 ?h6 ?h7 ?F ?N
  case N => first | k_asm | exact cb_drop (by assumption) (sub1 (sub1 (by ktd_sub)))
  case F => k_asm
  all_goals (first | assumption | omega | exact lt_tail (by assumption) | exact lt_tail (lt_tail (by assumption)))
set_option maxHeartbeats 4000000 in
theorem c_goto {vw : Addr} {hs : List Value} {g0 g1 : Value} (V : ViewIn w news vw hs g0 g1) {mo md : Addr} {sep : Value} {tp : Int} {tr tt tw k1 k2 k3 k4 k5 k6 k7 k8 k9 k10 k11 k12 k13 k14 : Tok} (hmo : (mo, instObj 566 md) ∈ news) (hne : ∀ p ∈ news, p.1 ≠ md) {q : Addr} {r b : Int} {t0 t1 tb : Tok} (hp : (q, tup [.int r t0, .int 0 t1]) ∈ news) (r0 : tp ≤ r) (r1 : r < tp + 2) (b0 : -1 ≤ b) (b1 : b < 9) (p0 : 0 ≤ tp) (p1 : tp ≤ hs.length)
  (B : Below A₀ base outer h₀) (F : Fr h₀ L s.heap m) (X : (hK w.params).In h₀) (N : News h₀ L s.heap ((md, modeD w vw sep tp q tr tt tw k1 k2 k3 k4 k5 k6 k7 k8 k9 k10 k11 k12 k13 k14) :: news)) (T : Top p loose mean mg mb h₀) (hk : cs.kind = .function) (hdp : dp + 80 < recursionLimit) (hun : un + 800 < cLine)
  (hret : ∀ (tp' r' : Int) (pl' : Addr) (tt' tw' a1 a2 : Tok) h' tk', tp' = max 0 (hs.length - max 0 b) → tp' ≤ r' → r' < tp' + 2 → 0 ≤ r' → r' < hs.length + 2 → md < pl' → (∀ p ∈ news, p.1 < pl') → Fr h₀ L h' m → News h₀ L h' ((md, modeD w vw sep tp' pl' tr tt' tw' k1 k2 k3 k4 k5 k6 k7 k8 k9 k10 k11 k12 k13 k14) :: (pl', tup [.int r' a1, .int 0 a2]) :: news) → Q .none { s with heap := h', toks := tk' }) :
  wpAny (model PySem.Challenge.rw_og0290_01.row.prog w) (ktrTop dp un gd cn cs L a ccd cl outer) (call (.ref 766) [.ref mo, .int b tb]) Q E s := by
  refine ViewIn.elim V ?_
  intro vd hi hd hl g gd gl t1 t2 t3 t4 t5 t6 t7 t8 u1 u2 u3 u4 n1 n2 m1 m2 m3 m4 m5 m6 m7 m8 h6 V1 V2 V3
  w_on
  w_top on
  k_steps
  refine' hret ?_ ?_ _ _ _ _ _ _ _ ?h1 ?h2 ?h3 ?h4 ?h5 ?h6 ?h7 ?F ?N
  case N => first | k_asm | exact cb_drop (by assumption) (sub1 (sub1 (by ktd_sub)))
  case F => k_asm
  all_goals (first | assumption | omega | exact lt_tail (by assumption) | exact lt_tail (lt_tail (by assumption)))
end
section
local macro_rules | `(tactic| k_all) => `(tactic| exact lowNe (by assumption) (by rfl))
local macro_rules | `(tactic| k_enter) => `(tactic| walk_at "c enter1")
theorem c_cmds {p0 p1 p2 p3 p4 p5 p6 p7 p8 p9 p10 : Array Value} {md : Addr} {om : Obj} {nw : List (Addr × Obj)} (HC : CodeAll tCs h₀) (ht0 : TabOk p0.toList) (ht1 : TabOk p1.toList) (ht2 : TabOk p2.toList) (ht3 : TabOk p3.toList) (ht4 : TabOk p4.toList) (ht5 : TabOk p5.toList) (ht6 : TabOk p6.toList) (ht7 : TabOk p7.toList) (ht8 : TabOk p8.toList) (ht9 : TabOk p9.toList) (ht10 : TabOk p10.toList) (hlow : ∀ q ∈ nw, NT q.1) (hm9 : ltN9 md) (hmd : ∀ q ∈ nw, q.1 ≠ md) (hom : om.cls = .type "dict")
  (B : Below A₀ base outer h₀) (F : Fr h₀ L s.heap m) (X : (hK w.params).In h₀) (N : News h₀ L s.heap (((740 : Addr), tabObj p0) :: ((698 : Addr), tabObj p1) :: ((726 : Addr), tabObj p2) :: ((733 : Addr), tabObj p3) :: ((754 : Addr), tabObj p4) :: ((878 : Addr), tabObj p5) :: ((899 : Addr), tabObj p6) :: ((836 : Addr), tabObj p7) :: ((871 : Addr), tabObj p8) :: ((768 : Addr), tabObj p9) :: ((796 : Addr), tabObj p10) :: (md, om) :: nw)) (T : Top p loose mean mg mb h₀) (hk : cs.kind = .function) (hdp : dp + 40 < recursionLimit) (hun : un + 400 < cLine)
  (hret : ∀ (fd : Addr) (o : Obj) (kvs : List (List UInt8 × Value)) (nw' : List (Addr × Obj)) (r0 r1 r2 r3 r4 r5 r6 r7 r8 r9 r10 : Array Value) h' tk', TabOk r0.toList → TabOk r1.toList → TabOk r2.toList → TabOk r3.toList → TabOk r4.toList → TabOk r5.toList → TabOk r6.toList → TabOk r7.toList → TabOk r8.toList → TabOk r9.toList → TabOk r10.toList → CmdOk pw w nw' fd o kvs → (∀ q ∈ nw, q ∈ nw') → (∀ q ∈ nw', NT q.1) → (∀ q ∈ nw', q.1 ≠ md) → Fr h₀ L h' m → News h₀ L h' (((740 : Addr), tabObj r0) :: ((698 : Addr), tabObj r1) :: ((726 : Addr), tabObj r2) :: ((733 : Addr), tabObj r3) :: ((754 : Addr), tabObj r4) :: ((878 : Addr), tabObj r5) :: ((899 : Addr), tabObj r6) :: ((836 : Addr), tabObj r7) :: ((871 : Addr), tabObj r8) :: ((768 : Addr), tabObj r9) :: ((796 : Addr), tabObj r10) :: (md, om) :: nw') → Q (.ref fd) { s with heap := h', toks := tk' }) :
  wpAny (model PySem.Challenge.rw_og0290_01.row.prog w) (ktrTop dp un gd cn cs L a ccd cl outer) (call (.ref 890) []) Q E s := by
  refine c_commands (nw := (md, om) :: nw) HC ht0 ht1 ht2 ht3 ht4 ht5 ht6 ht7 ht8 ht9 ht10 (List.forall_mem_cons.mpr ⟨NT.of_lt hm9, hlow⟩) B F X N T hk hdp hun fun fd o kvs nw' r0 r1 r2 r3 r4 r5 r6 r7 r8 r9 r10 h' tk' k0 k1 k2 k3 k4 k5 k6 k7 k8 k9 k10 C hfd hs hl F' N' => ?_
  have N0 : News h₀ L h' nw' := News.order N' fun q hq => tbl_iff.mpr (.inr hq)
  have hm := hs _ (.head _)
  have keep : ∀ q ∈ nw', q.1 ≠ md → q ∈ nw'.filter (fun q => decide (q.1 ≠ md)) := fun q hq h => List.mem_filter.mpr ⟨hq, decide_eq_true h⟩
  have hH : ∀ {b : List UInt8} {x : Addr} {f : Bool}, Has nw' kvs b x f → Has (nw'.filter (fun q => decide (q.1 ≠ md))) kvs b x f := fun ⟨q, e, hq⟩ => ⟨q, e, keep _ hq fun e => by
    have e1 := (N0 _ hq).1
    have e2 := (N0 _ hm).1
    have e3 : q = md := e
    subst e3
    rw [e1] at e2
    have e4 : Value.type "tuple" = Value.type "dict" := (congrArg Obj.cls (Option.some.inj e2)).trans hom
    simp at e4⟩
  refine hret fd o kvs (nw'.filter (fun q => decide (q.1 ≠ md))) r0 r1 r2 r3 r4 r5 r6 r7 r8 r9 r10 h' tk' k0 k1 k2 k3 k4 k5 k6 k7 k8 k9 k10 ⟨C.isd, C.short, keep _ C.mem fun e => hfd _ (.head _) e.symm, C.low, hH C.top, hH C.bottom, hH C.goto⟩ (fun q hq => keep q (hs q (.tail _ hq)) (hmd q hq)) (fun q hq => hl q (List.mem_filter.mp hq).1) (fun q hq => of_decide_eq_true (List.mem_filter.mp hq).2) F' (News.order N' fun q hq => ?_)
  rcases tbl_iff.mp hq with h | h
  · exact tbl_iff.mpr (.inl h)
  · rcases List.mem_cons.mp h with h | h
    · exact tbl_iff.mpr (.inr (h ▸ hm))
    · exact tbl_iff.mpr (.inr (List.mem_filter.mp h).1)
theorem md_front {h₀ h : Heap} {L : Addr} {r0 r1 r2 r3 r4 r5 r6 r7 r8 r9 r10 : Array Value} {x y : Addr × Obj} {nw : List (Addr × Obj)} (N : News h₀ L h (x :: ((740 : Addr), tabObj r0) :: ((698 : Addr), tabObj r1) :: ((726 : Addr), tabObj r2) :: ((733 : Addr), tabObj r3) :: ((754 : Addr), tabObj r4) :: ((878 : Addr), tabObj r5) :: ((899 : Addr), tabObj r6) :: ((836 : Addr), tabObj r7) :: ((871 : Addr), tabObj r8) :: ((768 : Addr), tabObj r9) :: ((796 : Addr), tabObj r10) :: y :: nw)) : News h₀ L h (y :: x :: ((740 : Addr), tabObj r0) :: ((698 : Addr), tabObj r1) :: ((726 : Addr), tabObj r2) :: ((733 : Addr), tabObj r3) :: ((754 : Addr), tabObj r4) :: ((878 : Addr), tabObj r5) :: ((899 : Addr), tabObj r6) :: ((836 : Addr), tabObj r7) :: ((871 : Addr), tabObj r8) :: ((768 : Addr), tabObj r9) :: ((796 : Addr), tabObj r10) :: nw) :=
  News.order N (fun q hq => (List.mem_cons.mp hq).elim (fun e => e ▸ .tail _ (tbl_iff.mpr (.inr (.head _)))) fun h => (List.mem_cons.mp h).elim (fun e => e ▸ .head _) fun h => (tbl_iff.mp h).elim (fun h => .tail _ (tbl_iff.mpr (.inl h))) fun h => .tail _ (tbl_iff.mpr (.inr (.tail _ (h)))))
theorem md_back {h₀ h : Heap} {L : Addr} {r0 r1 r2 r3 r4 r5 r6 r7 r8 r9 r10 : Array Value} {x y z : Addr × Obj} {nw : List (Addr × Obj)} (N : News h₀ L h (y :: z :: x :: ((740 : Addr), tabObj r0) :: ((698 : Addr), tabObj r1) :: ((726 : Addr), tabObj r2) :: ((733 : Addr), tabObj r3) :: ((754 : Addr), tabObj r4) :: ((878 : Addr), tabObj r5) :: ((899 : Addr), tabObj r6) :: ((836 : Addr), tabObj r7) :: ((871 : Addr), tabObj r8) :: ((768 : Addr), tabObj r9) :: ((796 : Addr), tabObj r10) :: nw)) : News h₀ L h (x :: ((740 : Addr), tabObj r0) :: ((698 : Addr), tabObj r1) :: ((726 : Addr), tabObj r2) :: ((733 : Addr), tabObj r3) :: ((754 : Addr), tabObj r4) :: ((878 : Addr), tabObj r5) :: ((899 : Addr), tabObj r6) :: ((836 : Addr), tabObj r7) :: ((871 : Addr), tabObj r8) :: ((768 : Addr), tabObj r9) :: ((796 : Addr), tabObj r10) :: y :: z :: nw) :=
  News.order N (fun q hq => (List.mem_cons.mp hq).elim (fun e => e ▸ .tail _ (.tail _ (.head _))) fun h => (tbl_iff.mp h).elim (fun h => .tail _ (.tail _ (.tail _ (tbl_iff.mpr (.inl h))))) fun h => (List.mem_cons.mp h).elim (fun e => e ▸ .head _) fun h => (List.mem_cons.mp h).elim (fun e => e ▸ .tail _ (.head _)) fun h => .tail _ (.tail _ (.tail _ (tbl_iff.mpr (.inr (h))))))
local macro_rules | `(tactic| walk_at "call ref") => `(tactic| (k_here; (with_reducible show wpAny _ _ (call (Value.ref 890) _) _ _ _); k_dflt (apply c_cmds; walk_at "c std"; (case HC => exact CodeAll.keeps (Fr.keep (by assumption)) (by assumption)); (case ht0 => assumption); (case ht1 => assumption); (case ht2 => assumption); (case ht3 => assumption); (case ht4 => assumption); (case ht5 => assumption); (case ht6 => assumption); (case ht7 => assumption); (case ht8 => assumption); (case ht9 => assumption); (case ht10 => assumption); (case hlow => assumption); (case hm9 => assumption); (case hmd => assumption); (case hom => rfl)); k_dflt (intro fd' o' kvs' nw' r0' r1' r2' r3' r4' r5' r6' r7' r8' r9' r10' h' tk' k0' k1' k2' k3' k4' k5' k6' k7' k8' k9' k10' C' s' w' d' F' N'; obtain ⟨isd', short', fm', low', ⟨q1', v1', m1'⟩, ⟨q2', v2', m2'⟩, ⟨q3', v3', m3'⟩⟩ := C'; have hmo' := s' _ (show ((_ : Addr), instObj 566 _) ∈ (_ : List (Addr × Obj)) by assumption); have hp' := s' _ (show ((_ : Addr), tup [.int _ _, .int 0 _]) ∈ (_ : List (Addr × Obj)) by assumption); have V' := ViewIn.mono (by assumption) s'); walk_at "c end"))
local macro_rules | `(tactic| walk_at "compareOp NotIn bytes ref") => `(tactic| (k_here; k_dflt (refine kdg_notin (knd := bytesKind _ _) (by k_asm) (by k_mem) (by assumption) (by assumption) (bytesKind_is _ _ _ _) true (Option.isSome_iff_exists.mpr ⟨_, by assumption⟩) ?_)))
local macro_rules | `(tactic| walk_at "subscriptTail") => `(tactic| (k_here; (with_reducible show wpAny _ _ (subscriptTail _ _ (Value.ref _) (Value.bytes _ _)) _ _ _); k_dflt (refine kda_item (knd := bytesKind _ _) (by k_asm) (by k_mem) (by assumption) (bytesKind_is _ _ _ _) (by assumption) ?_)))
local macro_rules | `(tactic| walk_at "call ref") => useM 710 `Mine.c_htop "N:md_front stn V hmo:m hne:l p0:o p1:o" "tp' r' pl' tt' tw' a1' a2' h' tk' b1 b2 b3 b4 b5 b6 b7 F' N' @M"
local macro_rules | `(tactic| walk_at "call ref") => useM 717 `Mine.c_hbot "N:md_front stn V hmo:m hne:l p0:o p1:o" "tp' r' pl' tt' tw' a1' a2' h' tk' b1 b2 b3 b4 b5 b6 b7 F' N' @M"
local macro_rules | `(tactic| walk_at "call ref") => useM 766 `Mine.c_goto "N:md_front stn V hmo:m hne:l hp:m r0:o r1:o b0:o b1:o p0:o p1:o" "tp' r' pl' tt' tw' a1' a2' h' tk' b1 b2 b3 b4 b5 b6 b7 F' N' @M"
set_option maxHeartbeats 4000000 in
theorem c_run_top {p0 p1 p2 p3 p4 p5 p6 p7 p8 p9 p10 : Array Value} {nw : List (Addr × Obj)} (HC : CodeAll tCs h₀) (ht0 : TabOk p0.toList) (ht1 : TabOk p1.toList) (ht2 : TabOk p2.toList) (ht3 : TabOk p3.toList) (ht4 : TabOk p4.toList) (ht5 : TabOk p5.toList) (ht6 : TabOk p6.toList) (ht7 : TabOk p7.toList) (ht8 : TabOk p8.toList) (ht9 : TabOk p9.toList) (ht10 : TabOk p10.toList) (hlow : ∀ q ∈ nw, NT q.1) {vw : Addr} {hs : List Value} {g0 g1 : Value} (V : ViewIn w nw vw hs g0 g1) {mo md : Addr} {sep : Value} {tp : Int} {tr tt tw k1 k2 k3 k4 k5 k6 k7 k8 k9 k10 k11 k12 k13 k14 : Tok} (hmo : (mo, instObj 566 md) ∈ nw) (hmd : ∀ q ∈ nw, q.1 ≠ md) (hm9 : ltN9 md) {q : Addr} {r : Int} {t0 t1 : Tok} (hp : (q, tup [.int r t0, .int 0 t1]) ∈ nw) (q0 : tp ≤ r) (q1 : r < tp + 2) (z0 : 0 ≤ tp) (z1 : tp ≤ hs.length) {kt : Tok}
  (B : Below A₀ base outer h₀) (F : Fr h₀ L s.heap m) (X : (hK w.params).In h₀) (N : News h₀ L s.heap (((740 : Addr), tabObj p0) :: ((698 : Addr), tabObj p1) :: ((726 : Addr), tabObj p2) :: ((733 : Addr), tabObj p3) :: ((754 : Addr), tabObj p4) :: ((878 : Addr), tabObj p5) :: ((899 : Addr), tabObj p6) :: ((836 : Addr), tabObj p7) :: ((871 : Addr), tabObj p8) :: ((768 : Addr), tabObj p9) :: ((796 : Addr), tabObj p10) :: (md, modeD w vw sep tp q tr tt tw k1 k2 k3 k4 k5 k6 k7 k8 k9 k10 k11 k12 k13 k14) :: nw)) (T : Top p loose mean mg mb h₀) (hk : cs.kind = .function) (hdp : dp + 140 < recursionLimit) (hun : un + 1400 < cLine)
  (hret : ∀ (tp' r' : Int) (pl' : Addr) (tt' tw' a1 a2 : Tok) (nw' : List (Addr × Obj)) (r0 r1 r2 r3 r4 r5 r6 r7 r8 r9 r10 : Array Value) h' tk', tp' = 0 → tp' ≤ r' → r' < tp' + 2 → 0 ≤ r' → r' < hs.length + 2 → TabOk r0.toList → TabOk r1.toList → TabOk r2.toList → TabOk r3.toList → TabOk r4.toList → TabOk r5.toList → TabOk r6.toList → TabOk r7.toList → TabOk r8.toList → TabOk r9.toList → TabOk r10.toList → (∀ q ∈ nw, q ∈ nw') → (∀ q ∈ nw', NT q.1) → (∀ q ∈ nw', q.1 ≠ md) → (pl', tup [.int r' a1, .int 0 a2]) ∈ nw' → md < pl' → (∀ q ∈ nw, q.1 < pl') → Fr h₀ L h' m → News h₀ L h' (((740 : Addr), tabObj r0) :: ((698 : Addr), tabObj r1) :: ((726 : Addr), tabObj r2) :: ((733 : Addr), tabObj r3) :: ((754 : Addr), tabObj r4) :: ((878 : Addr), tabObj r5) :: ((899 : Addr), tabObj r6) :: ((836 : Addr), tabObj r7) :: ((871 : Addr), tabObj r8) :: ((768 : Addr), tabObj r9) :: ((796 : Addr), tabObj r10) :: (md, modeD w vw sep tp' pl' tr tt' tw' k1 k2 k3 k4 k5 k6 k7 k8 k9 k10 k11 k12 k13 k14) :: nw') → Q .none { s with heap := h', toks := tk' }) :
  wpAny (model PySem.Challenge.rw_og0290_01.row.prog w) (ktrTop dp un gd cn cs L a ccd cl outer) (call (.ref 563) [.ref mo, .bytes #[104, 105, 115, 116, 111, 114, 121, 45, 116, 111, 112] kt]) Q E s := by
  w_on
  w_top on
  k_steps
  rename_i ii li tt1 hh1 tkk1 FF1 NN1 tp' r' pl' tt' tw' a1' a2' hh2 tkk2 b1 b2 b3 b4 b5 b6 b7 FF NN
  have li2 : ii < pl' := b7 _ (.head _)
  have lp9 : 899 < pl' := b7 (899, _) (.tail _ (.tail _ (.tail _ (.tail _ (.tail _ (.tail _ (.tail _ (.head _))))))))
  have hni := fun p hp => Nat.ne_of_lt (tb_ltOf li.2.2.2.2.2.2.2.2.2.2.2.2 p hp)
  refine UnrEnd.intro FF NN _ (fun p hp => hp) ?_ ?_
  · repeat (refine List.forall_mem_cons.mpr ⟨by k_ne, ?_⟩)
    first | exact hni | exact List.forall_mem_cons.mpr ⟨Nat.ne_of_gt li2, hni⟩
  · k_steps
    refine' hret tp' r' pl' tt' tw' a1' a2' (_ :: _) ?_ ?_ ?_ ?_ ?_ ?_ ?_ ?_ ?_ ?_ ?_ _ _ b1 b2 b3 b4 b5 ?k0 ?k1 ?k2 ?k3 ?k4 ?k5 ?k6 ?k7 ?k8 ?k9 ?k10 ?sub ?low ?ne (.head _) b6 ?ltp ?F ?N
    case ltp => exact fun q hq => b7 q (.tail _ (.tail _ (.tail _ (.tail _ (.tail _ (.tail _ (.tail _ (.tail _ (.tail _ (.tail _ (.tail _ (.tail _ (((by assumption : ∀ q ∈ nw, q ∈ _) q hq))))))))))))))
    case N => k_asm
    case F => k_asm
    case sub => exact fun q hq => .tail _ ((by assumption : ∀ q ∈ nw, q ∈ _) q hq)
    case low => exact List.forall_mem_cons.mpr ⟨NT.of_lt lp9, by assumption⟩
    case ne => exact List.forall_mem_cons.mpr ⟨Nat.ne_of_gt b6, by assumption⟩
    all_goals assumption
set_option maxHeartbeats 4000000 in
theorem c_run_bot {p0 p1 p2 p3 p4 p5 p6 p7 p8 p9 p10 : Array Value} {nw : List (Addr × Obj)} (HC : CodeAll tCs h₀) (ht0 : TabOk p0.toList) (ht1 : TabOk p1.toList) (ht2 : TabOk p2.toList) (ht3 : TabOk p3.toList) (ht4 : TabOk p4.toList) (ht5 : TabOk p5.toList) (ht6 : TabOk p6.toList) (ht7 : TabOk p7.toList) (ht8 : TabOk p8.toList) (ht9 : TabOk p9.toList) (ht10 : TabOk p10.toList) (hlow : ∀ q ∈ nw, NT q.1) {vw : Addr} {hs : List Value} {g0 g1 : Value} (V : ViewIn w nw vw hs g0 g1) {mo md : Addr} {sep : Value} {tp : Int} {tr tt tw k1 k2 k3 k4 k5 k6 k7 k8 k9 k10 k11 k12 k13 k14 : Tok} (hmo : (mo, instObj 566 md) ∈ nw) (hmd : ∀ q ∈ nw, q.1 ≠ md) (hm9 : ltN9 md) {q : Addr} {r : Int} {t0 t1 : Tok} (hp : (q, tup [.int r t0, .int 0 t1]) ∈ nw) (q0 : tp ≤ r) (q1 : r < tp + 2) (z0 : 0 ≤ tp) (z1 : tp ≤ hs.length) {kt : Tok}
  (B : Below A₀ base outer h₀) (F : Fr h₀ L s.heap m) (X : (hK w.params).In h₀) (N : News h₀ L s.heap (((740 : Addr), tabObj p0) :: ((698 : Addr), tabObj p1) :: ((726 : Addr), tabObj p2) :: ((733 : Addr), tabObj p3) :: ((754 : Addr), tabObj p4) :: ((878 : Addr), tabObj p5) :: ((899 : Addr), tabObj p6) :: ((836 : Addr), tabObj p7) :: ((871 : Addr), tabObj p8) :: ((768 : Addr), tabObj p9) :: ((796 : Addr), tabObj p10) :: (md, modeD w vw sep tp q tr tt tw k1 k2 k3 k4 k5 k6 k7 k8 k9 k10 k11 k12 k13 k14) :: nw)) (T : Top p loose mean mg mb h₀) (hk : cs.kind = .function) (hdp : dp + 140 < recursionLimit) (hun : un + 1400 < cLine)
  (hret : ∀ (tp' r' : Int) (pl' : Addr) (tt' tw' a1 a2 : Tok) (nw' : List (Addr × Obj)) (r0 r1 r2 r3 r4 r5 r6 r7 r8 r9 r10 : Array Value) h' tk', tp' = hs.length → tp' ≤ r' → r' < tp' + 2 → 0 ≤ r' → r' < hs.length + 2 → TabOk r0.toList → TabOk r1.toList → TabOk r2.toList → TabOk r3.toList → TabOk r4.toList → TabOk r5.toList → TabOk r6.toList → TabOk r7.toList → TabOk r8.toList → TabOk r9.toList → TabOk r10.toList → (∀ q ∈ nw, q ∈ nw') → (∀ q ∈ nw', NT q.1) → (∀ q ∈ nw', q.1 ≠ md) → (pl', tup [.int r' a1, .int 0 a2]) ∈ nw' → md < pl' → (∀ q ∈ nw, q.1 < pl') → Fr h₀ L h' m → News h₀ L h' (((740 : Addr), tabObj r0) :: ((698 : Addr), tabObj r1) :: ((726 : Addr), tabObj r2) :: ((733 : Addr), tabObj r3) :: ((754 : Addr), tabObj r4) :: ((878 : Addr), tabObj r5) :: ((899 : Addr), tabObj r6) :: ((836 : Addr), tabObj r7) :: ((871 : Addr), tabObj r8) :: ((768 : Addr), tabObj r9) :: ((796 : Addr), tabObj r10) :: (md, modeD w vw sep tp' pl' tr tt' tw' k1 k2 k3 k4 k5 k6 k7 k8 k9 k10 k11 k12 k13 k14) :: nw') → Q .none { s with heap := h', toks := tk' }) :
  wpAny (model PySem.Challenge.rw_og0290_01.row.prog w) (ktrTop dp un gd cn cs L a ccd cl outer) (call (.ref 563) [.ref mo, .bytes #[104, 105, 115, 116, 111, 114, 121, 45, 98, 111, 116, 116, 111, 109] kt]) Q E s := by
  w_on
  w_top on
  k_steps
  rename_i ii li tt1 hh1 tkk1 FF1 NN1 tp' r' pl' tt' tw' a1' a2' hh2 tkk2 b1 b2 b3 b4 b5 b6 b7 FF NN
  have li2 : ii < pl' := b7 _ (.head _)
  have lp9 : 899 < pl' := b7 (899, _) (.tail _ (.tail _ (.tail _ (.tail _ (.tail _ (.tail _ (.tail _ (.head _))))))))
  have hni := fun p hp => Nat.ne_of_lt (tb_ltOf li.2.2.2.2.2.2.2.2.2.2.2.2 p hp)
  refine UnrEnd.intro FF NN _ (fun p hp => hp) ?_ ?_
  · repeat (refine List.forall_mem_cons.mpr ⟨by k_ne, ?_⟩)
    first | exact hni | exact List.forall_mem_cons.mpr ⟨Nat.ne_of_gt li2, hni⟩
  · k_steps
    refine' hret tp' r' pl' tt' tw' a1' a2' (_ :: _) ?_ ?_ ?_ ?_ ?_ ?_ ?_ ?_ ?_ ?_ ?_ _ _ b1 b2 b3 b4 b5 ?k0 ?k1 ?k2 ?k3 ?k4 ?k5 ?k6 ?k7 ?k8 ?k9 ?k10 ?sub ?low ?ne (.head _) b6 ?ltp ?F ?N
    case ltp => exact fun q hq => b7 q (.tail _ (.tail _ (.tail _ (.tail _ (.tail _ (.tail _ (.tail _ (.tail _ (.tail _ (.tail _ (.tail _ (.tail _ (((by assumption : ∀ q ∈ nw, q ∈ _) q hq))))))))))))))
    case N => k_asm
    case F => k_asm
    case sub => exact fun q hq => .tail _ ((by assumption : ∀ q ∈ nw, q ∈ _) q hq)
    case low => exact List.forall_mem_cons.mpr ⟨NT.of_lt lp9, by assumption⟩
    case ne => exact List.forall_mem_cons.mpr ⟨Nat.ne_of_gt b6, by assumption⟩
    all_goals assumption
set_option maxHeartbeats 4000000 in
theorem c_run_goto {p0 p1 p2 p3 p4 p5 p6 p7 p8 p9 p10 : Array Value} {nw : List (Addr × Obj)} (HC : CodeAll tCs h₀) (ht0 : TabOk p0.toList) (ht1 : TabOk p1.toList) (ht2 : TabOk p2.toList) (ht3 : TabOk p3.toList) (ht4 : TabOk p4.toList) (ht5 : TabOk p5.toList) (ht6 : TabOk p6.toList) (ht7 : TabOk p7.toList) (ht8 : TabOk p8.toList) (ht9 : TabOk p9.toList) (ht10 : TabOk p10.toList) (hlow : ∀ q ∈ nw, NT q.1) {vw : Addr} {hs : List Value} {g0 g1 : Value} (V : ViewIn w nw vw hs g0 g1) {mo md : Addr} {sep : Value} {tp : Int} {tr tt tw k1 k2 k3 k4 k5 k6 k7 k8 k9 k10 k11 k12 k13 k14 : Tok} (hmo : (mo, instObj 566 md) ∈ nw) (hmd : ∀ q ∈ nw, q.1 ≠ md) (hm9 : ltN9 md) {q : Addr} {r : Int} {t0 t1 : Tok} (hp : (q, tup [.int r t0, .int 0 t1]) ∈ nw) (q0 : tp ≤ r) (q1 : r < tp + 2) (z0 : 0 ≤ tp) (z1 : tp ≤ hs.length) {kt tb : Tok} {b : Int} (b0 : -1 ≤ b) (b1 : b < 9)
  (B : Below A₀ base outer h₀) (F : Fr h₀ L s.heap m) (X : (hK w.params).In h₀) (N : News h₀ L s.heap (((740 : Addr), tabObj p0) :: ((698 : Addr), tabObj p1) :: ((726 : Addr), tabObj p2) :: ((733 : Addr), tabObj p3) :: ((754 : Addr), tabObj p4) :: ((878 : Addr), tabObj p5) :: ((899 : Addr), tabObj p6) :: ((836 : Addr), tabObj p7) :: ((871 : Addr), tabObj p8) :: ((768 : Addr), tabObj p9) :: ((796 : Addr), tabObj p10) :: (md, modeD w vw sep tp q tr tt tw k1 k2 k3 k4 k5 k6 k7 k8 k9 k10 k11 k12 k13 k14) :: nw)) (T : Top p loose mean mg mb h₀) (hk : cs.kind = .function) (hdp : dp + 140 < recursionLimit) (hun : un + 1400 < cLine)
  (hret : ∀ (tp' r' : Int) (pl' : Addr) (tt' tw' a1 a2 : Tok) (nw' : List (Addr × Obj)) (r0 r1 r2 r3 r4 r5 r6 r7 r8 r9 r10 : Array Value) h' tk', tp' = max 0 (hs.length - max 0 b) → tp' ≤ r' → r' < tp' + 2 → 0 ≤ r' → r' < hs.length + 2 → TabOk r0.toList → TabOk r1.toList → TabOk r2.toList → TabOk r3.toList → TabOk r4.toList → TabOk r5.toList → TabOk r6.toList → TabOk r7.toList → TabOk r8.toList → TabOk r9.toList → TabOk r10.toList → (∀ q ∈ nw, q ∈ nw') → (∀ q ∈ nw', NT q.1) → (∀ q ∈ nw', q.1 ≠ md) → (pl', tup [.int r' a1, .int 0 a2]) ∈ nw' → md < pl' → (∀ q ∈ nw, q.1 < pl') → Fr h₀ L h' m → News h₀ L h' (((740 : Addr), tabObj r0) :: ((698 : Addr), tabObj r1) :: ((726 : Addr), tabObj r2) :: ((733 : Addr), tabObj r3) :: ((754 : Addr), tabObj r4) :: ((878 : Addr), tabObj r5) :: ((899 : Addr), tabObj r6) :: ((836 : Addr), tabObj r7) :: ((871 : Addr), tabObj r8) :: ((768 : Addr), tabObj r9) :: ((796 : Addr), tabObj r10) :: (md, modeD w vw sep tp' pl' tr tt' tw' k1 k2 k3 k4 k5 k6 k7 k8 k9 k10 k11 k12 k13 k14) :: nw') → Q .none { s with heap := h', toks := tk' }) :
  wpAny (model PySem.Challenge.rw_og0290_01.row.prog w) (ktrTop dp un gd cn cs L a ccd cl outer) (call (.ref 563) [.ref mo, .bytes #[103, 111, 116, 111, 45, 108, 105, 110, 101] kt, .int b tb]) Q E s := by
  w_on
  w_top on
  k_steps
  rename_i ii li tt1 hh1 tkk1 FF1 NN1 tp' r' pl' tt' tw' a1' a2' hh2 tkk2 b1 b2 b3 b4 b5 b6 b7 FF NN
  have li2 : ii < pl' := b7 _ (.head _)
  have lp9 : 899 < pl' := b7 (899, _) (.tail _ (.tail _ (.tail _ (.tail _ (.tail _ (.tail _ (.tail _ (.head _))))))))
  have hni := fun p hp => Nat.ne_of_lt (tb_ltOf li.2.2.2.2.2.2.2.2.2.2.2.2 p hp)
  refine UnrEnd.intro FF NN _ (fun p hp => hp) ?_ ?_
  · repeat (refine List.forall_mem_cons.mpr ⟨by k_ne, ?_⟩)
    first | exact hni | exact List.forall_mem_cons.mpr ⟨Nat.ne_of_gt li2, hni⟩
  · k_steps
    refine' hret tp' r' pl' tt' tw' a1' a2' (_ :: _) ?_ ?_ ?_ ?_ ?_ ?_ ?_ ?_ ?_ ?_ ?_ _ _ b1 b2 b3 b4 b5 ?k0 ?k1 ?k2 ?k3 ?k4 ?k5 ?k6 ?k7 ?k8 ?k9 ?k10 ?sub ?low ?ne (.head _) b6 ?ltp ?F ?N
    case ltp => exact fun q hq => b7 q (.tail _ (.tail _ (.tail _ (.tail _ (.tail _ (.tail _ (.tail _ (.tail _ (.tail _ (.tail _ (.tail _ (.tail _ (((by assumption : ∀ q ∈ nw, q ∈ _) q hq))))))))))))))
    case N => k_asm
    case F => k_asm
    case sub => exact fun q hq => .tail _ ((by assumption : ∀ q ∈ nw, q ∈ _) q hq)
    case low => exact List.forall_mem_cons.mpr ⟨NT.of_lt lp9, by assumption⟩
    case ne => exact List.forall_mem_cons.mpr ⟨Nat.ne_of_gt b6, by assumption⟩
    all_goals assumption
end
section
local macro_rules | `(tactic| k_enter) => `(tactic| walk_at "c enter1")
theorem Fr.found {h₀ h : Heap} {L : Addr} {M : Str → Option Value} {x : Str} {v : Value} (F : Fr h₀ L h M) (e : M x = some v) : Fr h₀ L h (fun z => if z = x then some v else M z) := Fr.same F fun z => by
  by_cases q : z = x
  · rw [if_pos q, q, e]
  · rw [if_neg q]
theorem my_ne_len {prog : Program} {w : World} {A : Around} {E : Value → Shared → Prop} {s : Shared} {h₀ : Heap} {L a b : Addr} {news : List (Addr × Obj)} {vs ws : List Value} {n k : Nat} {Q : Value → Shared → Prop}
    (N : News h₀ L s.heap news) (ha : (a, listOf vs.toArray n) ∈ news) (hb : (b, listOf ws.toArray k) ∈ news) (hz : (vs.toArray.size != ws.toArray.size) = true) (hu : A.units < cLine) (h : Q (.bool true) s) :
    wpAny (model prog w) A (compareOp .NotEq (.ref a) (.ref b)) Q E s := PySem.EqBoolInt.of_rcne (SeqAt.RcNeAt.lists_lengths (News.isList N ha) (News.isList N hb) hz hu) h
local macro_rules | `(tactic| walk_at "compareOp NotEq ref ref") => `(tactic| (k_here; (with_reducible show wpAny _ _ (compareOp CmpOp.NotEq (Value.ref _) (Value.ref _)) _ _ _); k_dflt (refine' my_ne_len ?N ?a ?b ?z ?u ?_; (case N => k_asm); (case a => k_mem); (case b => k_mem); (case z => exact rfl); (case u => units_room); k_whole)))
theorem iter1 {prog : Program} {w : World} {A : Around} {E : Value → Shared → Prop} {s : Shared} {env : Env} {h₀ : Heap} {target : PySem.Expr} {body : List Stmt} {Q : Flow → Shared → Prop} {l : Addr} {v0 : Value} {k : Nat} {m₀ : Str → Option Value} {news nx₀ : List (Addr × Obj)} (J1 : (Str → Option Value) → List (Addr × Obj) → Prop)
    (hh : A.handled = none) (F : Fr h₀ env.locals s.heap m₀) (N : News h₀ env.locals s.heap news) (hl : (l, listOf [v0].toArray k) ∈ news) (hs : ∀ p ∈ nx₀, p ∈ news) (hne : ∀ p ∈ nx₀, p.1 ≠ l)
    (turn : ∀ own (s₁ : Shared), (∀ p ∈ nx₀, ∀ q ∈ own, p.1 ≠ q.1) → Fr h₀ env.locals s₁.heap m₀ → News h₀ env.locals s₁.heap (nx₀ ++ own) →
      wpAny (model prog w) A (assign target env v0) (fun _ s₃ => wpAny (model prog w) A (execs body env) (TurnEnd h₀ env.locals J1 own s₁) E s₃) E s₁)
    (done : ∀ m₁ nx h tk, J1 m₁ nx → Fr h₀ env.locals h m₁ → News h₀ env.locals h nx → Q .next { s with heap := h, toks := tk }) :
    wpAny (model prog w) A (pyIter (.ref l)) (fun it s₂ => LoopAtT prog w A h₀ env target body Q E it s₂) E s := by
  refine iterT_list (vs := [v0]) (fun i m nx => (i = 0 ∧ m = m₀ ∧ nx = nx₀) ∨ (i = 1 ∧ J1 m nx)) hh F N hl hs hne (.inl ⟨rfl, rfl, rfl⟩) ?_ ?_
  · rintro i v m₁ nx own s₁ hv hoff hJ F₁ N₁
    rcases hJ with ⟨rfl, rfl, rfl⟩ | ⟨rfl, _⟩
    · obtain rfl : v0 = v := by simpa using hv
      exact wpAny_mono (turn own s₁ hoff F₁ N₁) (fun _ s₃ x => wpAny_mono x (fun f s₂ z => ⟨z.1, let ⟨h', tk, m', nx, e, F', N', a, j⟩ := z.2; ⟨h', tk, m', nx, e, F', N', a, .inr ⟨rfl, j⟩⟩⟩) fun _ _ e => e) fun _ _ e => e
    · simp at hv
  · rintro m₁ nx h tk hJ F₁ N₁
    rcases hJ with ⟨h0, _⟩ | ⟨_, hJ⟩
    · simp at h0
    · exact done m₁ nx h tk hJ F₁ N₁
local macro_rules | `(tactic| walk_at "exec For Name Subscript cons nil") => `(tactic| (k_here; (rename Fr _ _ _ _ => lF'); k_dflt (refine For_invTF lF' ?_ (by intro _; rfl))))
local macro_rules | `(tactic| walk_at "exec For") => `(tactic| (k_here; (with_reducible show wpAny _ _ (exec (Stmt.For (Expr.Name _ _) (Expr.Subscript _ _ _) _ [] _) _) _ _ _); (rename Fr _ _ _ _ => lF'); k_dflt (refine For_invTF lF' ?_ (by intro _; rfl))))
local macro_rules | `(tactic| walk_at "pyIter ref") => `(tactic| (k_here; (with_reducible show wpAny _ _ (pyIter (Value.ref _)) (fun it s₂ => LoopAtT _ _ _ _ _ _ _ _ _ it s₂) _ _); refine Hold.intro ?_))
set_option maxHeartbeats 4000000 in
theorem c_codes {x : Addr} {n : Int} (Li : LineIn w news (.ref x) n)
  (B : Below A₀ base outer h₀) (F : Fr h₀ L s.heap m) (X : (hK w.params).In h₀) (N : News h₀ L s.heap (news)) (T : Top p loose mean mg mb h₀) (hk : cs.kind = .function) (hdp : dp + 20 < recursionLimit) (hun : un + 300 < cLine)
  (hret : ∀ (l : Addr) (t : Tok) (k : Nat) h' tk', (∀ p ∈ news, p.1 < l) → Fr h₀ L h' m → News h₀ L h' ((l, listOf [.int (97 + n) t].toArray k) :: news) → Q (.ref l) { s with heap := h', toks := tk' }) :
  wpAny (model PySem.Challenge.rw_og0290_01.row.prog w) (ktrTop dp un gd cn cs L a ccd cl outer) (call (.ref 225) [.ref x]) Q E s := by
  refine LineIn.at Li ?_
  intro d lc c0 cd b e pen t1 t2 t3 t4 t5 t6 k l1 l2 l3 l4 l5 l6 l7
  w_on
  w_top on
  k_steps
  refine Hold.of ?_
  rename_i fl hx1 lfl hx2 D hD FD ND lD
  have lo : ∀ p ∈ news, p.1 < fl := tb_ltOf lfl.2.2.2.2.2.2.2
  k_dflt (refine iter1 (nx₀ := (fl, listOf [].toArray 0) :: news) (fun m nx => ∃ (u : Str → Option Value) (t : Tok) (k : Nat), m = (fun z => if z = Str.ofString "found" then some (.ref fl) else u z) ∧ nx = (fl, listOf [Value.int (97 + n) t].toArray k) :: news) rfl FD ND (.head _) ?_ ?_ ?_ ?_)
  · exact fun p hp => (List.mem_cons.mp hp).elim (fun h => h ▸ .tail _ (.head _)) fun h => .tail _ (.tail _ (.tail _ (.tail _ (.tail _ (.tail _ (.tail _ (.tail _ (.tail _ h))))))))
  · exact List.forall_mem_cons.mpr ⟨Nat.ne_of_lt lD.1, fun p hp => Nat.ne_of_lt (tb_ltOf lD.2.2.2.2.2.2.2.2 p hp)⟩
  · intro own s₁ hoff F1 N1
    simp only [List.cons_append] at N1
    have hfl : ∀ p ∈ news ++ own, p.1 ≠ fl := fun p hp => (List.mem_append.mp hp).elim (fun h => Nat.ne_of_lt (lo p h)) fun h => (hoff _ (.head _) p h).symm
    have l4 := List.mem_append_left own l4
    have l5 := List.mem_append_left own l5
    clear ND FD
    k_steps
    k_dflt (refine' kup_extend ?F ?N ?b ?e ?ne ?U ?d ?z ?y ?_)
    case F => k_asm
    case N => k_asm
    case b => k_mem
    case U => k_upd
    case e => kl_lit
    case ne => kl_some
    case d => kl_no
    case z => kl_room
    case y => kl_room
    intro h9 F9 N9
    k_steps
    exact ⟨rfl, _, _, _, (fl, listOf [Value.int (97 + n) t5].toArray (0 + 1)) :: news, rfl, Fr.found F9 rfl, News.order N9 (fun q hq => by simp only [List.cons_append, List.mem_cons, List.mem_append] at hq ⊢; rcases hq with h | h | h <;> simp [h]), fun p hp q hq => (List.mem_cons.mp hp).elim (fun h => h ▸ hoff (fl, listOf [].toArray 0) (.head _) q hq) fun h => hoff p (.tail _ h) q hq, _, _, _, rfl, rfl⟩
  · rintro m₁ nx h tk ⟨u, t, k, rfl, rfl⟩ F1 N1
    clear ND FD
    k_steps
    exact hret _ _ _ _ _ lo (by k_asm) (by k_asm)
end
section
local macro_rules | `(tactic| k_enter) => `(tactic| walk_at "c enter1")
set_option maxHeartbeats 4000000 in
theorem c_mline {vw : Addr} {hs : List Value} {g0 g1 : Value} (V : ViewIn w news vw hs g0 g1) {mo md : Addr} {sep : Value} {tp : Int} {tr tt tw k1 k2 k3 k4 k5 k6 k7 k8 k9 k10 k11 k12 k13 k14 : Tok} {q : Addr} (hmo : (mo, instObj 566 md) ∈ news) (hmd : (md, modeD w vw sep tp q tr tt tw k1 k2 k3 k4 k5 k6 k7 k8 k9 k10 k11 k12 k13 k14) ∈ news) (p0 : 0 ≤ tp) (p1 : tp ≤ hs.length) {r : Int} {t : Tok} (r0 : 0 ≤ r) (r1 : tp + r < hs.length + 2)
  (B : Below A₀ base outer h₀) (F : Fr h₀ L s.heap m) (X : (hK w.params).In h₀) (N : News h₀ L s.heap (news)) (T : Top p loose mean mg mb h₀) (hk : cs.kind = .function) (hdp : dp + 20 < recursionLimit) (hun : un + 200 < cLine)
  (hret : ∀ v h' tk', LineIn w news v (tp + r) → Fr h₀ L h' m → News h₀ L h' (news) → Q v { s with heap := h', toks := tk' }) :
  wpAny (model PySem.Challenge.rw_og0290_01.row.prog w) (ktrTop dp un gd cn cs L a ccd cl outer) (call (.ref 541) [.ref mo, .int r t]) Q E s := by
  refine ViewIn.elim V ?_
  intro vd hi hd hl g gd gl t1 t2 t3 t4 t5 t6 t7 t8 u1 u2 u3 u4 n1 n2 m1 m2 m3 m4 m5 m6 m7 m8 h6 V1 V2 V3
  w_on
  w_top on
  k_steps
  all_goals (exact hret _ _ _ (by assumption) (by k_asm) (by k_asm))
set_option maxHeartbeats 4000000 in
theorem c_pos {vw : Addr} {hs : List Value} {g0 g1 : Value} (V : ViewIn w news vw hs g0 g1) {mo md : Addr} {sep : Value} {tp : Int} {tr tt tw k1 k2 k3 k4 k5 k6 k7 k8 k9 k10 k11 k12 k13 k14 : Tok} {q : Addr} (hmo : (mo, instObj 566 md) ∈ news) (hmd : (md, modeD w vw sep tp q tr tt tw k1 k2 k3 k4 k5 k6 k7 k8 k9 k10 k11 k12 k13 k14) ∈ news) (p0 : 0 ≤ tp) (p1 : tp ≤ hs.length)
  (B : Below A₀ base outer h₀) (F : Fr h₀ L s.heap m) (X : (hK w.params).In h₀) (N : News h₀ L s.heap (news)) (T : Top p loose mean mg mb h₀) (hk : cs.kind = .function) (hdp : dp + 20 < recursionLimit) (hun : un + 200 < cLine)
  (hret : ∀ (q' : Addr) (a1 a2 : Tok) h' tk', (∀ p ∈ news, p.1 < q') → Fr h₀ L h' m → News h₀ L h' ((q', tup [.int (hs.length - tp) a1, .int hs.length a2]) :: news) → Q (.ref q') { s with heap := h', toks := tk' }) :
  wpAny (model PySem.Challenge.rw_og0290_01.row.prog w) (ktrTop dp un gd cn cs L a ccd cl outer) (call (.ref 555) [.ref mo]) Q E s := by
  refine ViewIn.elim V ?_
  intro vd hi hd hl g gd gl t1 t2 t3 t4 t5 t6 t7 t8 u1 u2 u3 u4 n1 n2 m1 m2 m3 m4 m5 m6 m7 m8 h6 V1 V2 V3
  w_on
  w_top on
  k_steps
  exact hret _ _ _ _ _ (by first | assumption | exact tb_ltOf (by assumption) | exact tb_ltOf (And.right (by assumption))) (by k_asm) (by k_asm)
end
section
local macro_rules | `(tactic| k_enter) => `(tactic| walk_at "c enter1")
theorem my_ne_one {prog : Program} {w : World} {A : Around} {E : Value → Shared → Prop} {s : Shared} {h₀ : Heap} {L a b : Addr} {news : List (Addr × Obj)} {x y : Int} {t u : Tok} {n k : Nat} {Q : Value → Shared → Prop}
    (N : News h₀ L s.heap news) (ha : (a, listOf [Value.int x t].toArray n) ∈ news) (hb : (b, listOf [Value.int y u].toArray k) ∈ news) (e : x = y) (hu : A.units + 64 < cLine) (h : Q (.bool false) s) :
    wpAny (model prog w) A (compareOp .NotEq (.ref a) (.ref b)) Q E s := ke_ne_ints (News.isList N ha) (News.isList N hb) (.cons _ _ .nil) (.cons _ _ .nil) hu (by subst e; simpa using h)
local macro_rules | `(tactic| walk_at "compareOp NotEq ref ref") => `(tactic| (k_here; (with_reducible show wpAny _ _ (compareOp CmpOp.NotEq (Value.ref _) (Value.ref _)) _ _ _); k_dflt (refine' my_ne_one ?N ?a ?b ?e ?u ?_; (case N => k_asm); (case a => k_mem); (case b => k_mem); (case e => omega); (case u => units_room); k_whole)))
local macro_rules | `(tactic| walk_at "call ref") => useM 541 `Mine.c_mline "std V hmo:m hmd:m p0:o p1:o r0:o r1:o" "v' h' tk' hv' F' N' @L"
local macro_rules | `(tactic| walk_at "call ref") => useM 555 `Mine.c_pos "std V hmo:m hmd:m p0:o p1:o" "q' a1' a2' h' tk' l1! F' N'"
local macro_rules | `(tactic| walk_at "call ref") => useM 225 `Mine.c_codes "std Li:i" "l' t' k' h' tk' l1! F' N'"
set_option maxHeartbeats 4000000 in
theorem c_right {vw : Addr} {hs : List Value} {g0 g1 : Value} (V : ViewIn w news vw hs g0 g1) {mo md : Addr} {sep : Value} {tp : Int} {tr tt tw k1 k2 k3 k4 k5 k6 k7 k8 k9 k10 k11 k12 k13 k14 : Tok} {q : Addr} (hmo : (mo, instObj 566 md) ∈ news) (hmd : (md, modeD w vw sep tp q tr tt tw k1 k2 k3 k4 k5 k6 k7 k8 k9 k10 k11 k12 k13 k14) ∈ news) (p0 : 0 ≤ tp) (p1 : tp ≤ hs.length) {ab many : Int} {ta tm tk2 : Tok} (ha : ab = hs.length - tp) (hm : many = hs.length)
  (B : Below A₀ base outer h₀) (F : Fr h₀ L s.heap m) (X : (hK w.params).In h₀) (N : News h₀ L s.heap (news)) (T : Top p loose mean mg mb h₀) (hk : cs.kind = .function) (hdp : dp + 60 < recursionLimit) (hun : un + 700 < cLine)
  (hret : ∀  h' tk', Fr h₀ L h' m → News h₀ L h' (news) → Q (.bool true) { s with heap := h', toks := tk' }) :
  wpAny (model PySem.Challenge.rw_og0290_01.row.prog w) (ktrTop dp un gd cn cs L a ccd cl outer) (call (.ref 1154) [.ref mo, .int ab ta, .int many tm, .int 2 tk2]) Q E s := by
  have V' := V
  subst ha hm
  refine ViewIn.elim V' ?_
  clear V'
  intro vd hi hd hl g gd gl t1 t2 t3 t4 t5 t6 t7 t8 u1 u2 u3 u4 n1 n2 m1 m2 m3 m4 m5 m6 m7 m8 h6 V1 V2 V3
  w_on
  w_top on
  k_steps
  refine' UnrEnd.intro ?F ?N news ?sub ?off ?_
  case N => k_asm
  case F => k_asm
  case sub => (intro p hp; simp only [List.mem_cons] at hp ⊢; rcases hp with h | h <;> simp [h])
  case off => exact fun p hp => Nat.ne_of_lt ((show ∀ q9 ∈ _, q9.1 < _ from by walk_at "c below") p hp)
  k_steps
  refine' UnrEnd.intro ?F2 ?N2 news ?sub2 ?off2 ?_
  case N2 => k_asm
  case F2 => k_asm
  case sub2 => (intro p hp; simp only [List.mem_cons] at hp ⊢; rcases hp with h | h <;> simp [h])
  case off2 => exact fun p hp => Nat.ne_of_lt ((show ∀ q9 ∈ _, q9.1 < _ from by walk_at "c below") p hp)
  k_steps
  exact hret _ _ (by k_asm) (by k_asm)
end
section
local macro_rules | `(tactic| walk_at "mine") => `(tactic| skip)
local macro_rules | `(tactic| k_enter) => `(tactic| walk_at "c enter2")
/-! ## The deck -/
theorem compRest_inv {prog : Program} {w : World} {A : Around} {h₀ : Heap} {L : Addr} {m : Str → Option Value} {env : Env} {elt : PySem.Expr} {x : Str} {scope : Scope} {cl : List (Str × Addr)} {s : Shared} {S : List (Addr × Obj) → Prop} {P : Nat → Value → Prop} {Fin : List Value → List (Addr × Obj) → Prop}
    (J : Nat → List Value → Prop) {news : List (Addr × Obj)} (hS : S news)
    (turn : ∀ i v I oI C oC D m₂ h tk (E' : Value → Shared → Prop) ys, J i ys → P i v → LCg.NsObj oC m₂ → m₂ x = some v → Fr h₀ L h m → News h₀ L h ((I, oI) :: (C, oC) :: (D, LCg.lst ys) :: news) → LCg.Off3 I C D news → ((@Ne Nat I C) ∧ (@Ne Nat I D) ∧ (@Ne Nat C D)) →
      wpAny (model prog w) A (eval elt (compEnvC scope cl C env)) (fun y s₂ => J (i + 1) (ys ++ [y]) ∧ ∃ h' tk', s₂ = { s with heap := h', toks := tk' } ∧ Fr h₀ L h' m ∧ News h₀ L h' ((I, oI) :: (C, oC) :: (D, LCg.lst ys) :: news)) E' { s with heap := h, toks := tk }) :
    ∀ k i ys, J i ys → (∀ ys', J (i + k) ys' → Fin ys' news) → LCg.CompRest prog w A h₀ L m env elt x scope cl s S P Fin k i ys news
  | 0, i, ys, hj, fin => fin ys hj
  | k + 1, i, ys, hj, fin => fun v I oI C oC D m₂ h tk E' hp ho hx F N hoff hne =>
      wpAny_mono (turn i v I oI C oC D m₂ h tk E' ys hj hp ho hx F N hoff hne) (fun y s₂ ⟨hj', h', tk', e, F', N'⟩ =>
        ⟨h', tk', news, e, F', N', hoff, hS, compRest_inv J hS turn k (i + 1) (ys ++ [y]) hj' (fun ys' q => fin ys' (by rw [show i + (k + 1) = i + 1 + k by omega]; exact q))⟩) fun _ _ e => e
theorem fmod_lo (z : Int) : 0 ≤ z.fmod 1000003 := by rw [Int.fmod_eq_emod_of_nonneg _ (by decide)]; omega
theorem fmod_hi (z : Int) : z.fmod 1000003 < 1000003 := by rw [Int.fmod_eq_emod_of_nonneg _ (by decide)]; omega
def Small (ys : List Value) (i : Nat) : Prop := ∃ zs : List Int, IntsAre ys zs ∧ zs.length = i ∧ ∀ z ∈ zs, 0 ≤ z ∧ z < 1000003
theorem off1_mem {D : Addr} : ∀ {l : List (Addr × Obj)}, LCg.Off1 D l → ∀ p ∈ l, p.1 ≠ D
  | [], _, _, h => nomatch h
  | _ :: _, h, p, hp => (List.mem_cons.mp hp).elim (fun e => e ▸ h.1) fun q => off1_mem h.2 p q
theorem Small.snoc {ys : List Value} {i : Nat} (h : Small ys i) {a : Int} {t : Tok} (h0 : 0 ≤ a) (h1 : a < 1000003) : Small (ys ++ [.int a t]) (i + 1) := by
  obtain ⟨zs, h2, h3, h4⟩ := h
  refine ⟨zs ++ [a], h2.append (.cons _ _ .nil), by simp [h3], fun z hz => ?_⟩
  rcases List.mem_append.mp hz with q | q
  · exact h4 z q
  · rw [List.mem_singleton.mp q]; exact ⟨h0, h1⟩
def MixStep (h₀ : Heap) (L : Addr) (m₀ : Str → Option Value) (nx : List (Addr × Obj)) (s₁ : Shared) (f : Flow) (s₂ : Shared) : Prop :=
  f = .next ∧ ∃ h' tk M mx' tm', s₂ = { s₁ with heap := h', toks := tk } ∧ Fr h₀ L h' M ∧ (∀ y, y ≠ Str.ofString "cell" → y ≠ Str.ofString "mixed" → M y = m₀ y) ∧ M (Str.ofString "mixed") = some (.int mx' tm') ∧ 0 ≤ mx' ∧ mx' < 1000003 ∧ News h₀ L h' nx
theorem mix_loop {prog : Program} {w : World} {A : Around} {E : Value → Shared → Prop} {s : Shared} {env : Env} {h₀ : Heap} {target : PySem.Expr} {body : List Stmt} {Q : Flow → Shared → Prop} {l : Addr} {ys : List Value} {zs : List Int} {k : Nat} {m₀ : Str → Option Value} {news nx₀ : List (Addr × Obj)} {a₀ : Int} {t₀ : Tok}
    (hh : A.handled = none) (F : Fr h₀ env.locals s.heap m₀) (N : News h₀ env.locals s.heap news) (hl : (l, listOf ys.toArray k) ∈ news) (hi : IntsAre ys zs) (hb : ∀ z ∈ zs, 0 ≤ z ∧ z < 1000003) (hs : ∀ p ∈ nx₀, p ∈ news) (h0 : 0 ≤ a₀) (h1 : a₀ < 1000003) (hm : m₀ (Str.ofString "mixed") = some (.int a₀ t₀))
    (turn : ∀ (z : Int) (tz : Tok) (mx : Int) (tm : Tok) (u : Option Value) (own : List (Addr × Obj)) (s₁ : Shared), 0 ≤ z → z < 1000003 → 0 ≤ mx → mx < 1000003 → Fr h₀ env.locals s₁.heap (fun y => if y = Str.ofString "cell" then u else if y = Str.ofString "mixed" then some (.int mx tm) else m₀ y) → News h₀ env.locals s₁.heap (nx₀ ++ own) →
      wpAny (model prog w) A (assign target env (.int z tz)) (fun _ s₃ => wpAny (model prog w) A (execs body env) (MixStep h₀ env.locals m₀ (nx₀ ++ own) s₁) E s₃) E s₁)
    (done : ∀ (u : Option Value) (mx : Int) (tm : Tok) (h : Heap) (tk : Nat), 0 ≤ mx → mx < 1000003 → Fr h₀ env.locals h (fun y => if y = Str.ofString "cell" then u else if y = Str.ofString "mixed" then some (.int mx tm) else m₀ y) → News h₀ env.locals h nx₀ → Q .next { s with heap := h, toks := tk }) :
    wpAny (model prog w) A (pyIter (.ref l)) (fun it s₂ => LoopAtT prog w A h₀ env target body Q E it s₂) E s := by
  have shape : ∀ (M : Str → Option Value) (mx : Int) (tm : Tok), (∀ y, y ≠ Str.ofString "cell" → y ≠ Str.ofString "mixed" → M y = m₀ y) → M (Str.ofString "mixed") = some (.int mx tm) → ∀ y, M y = (fun y => if y = Str.ofString "cell" then M (Str.ofString "cell") else if y = Str.ofString "mixed" then some (.int mx tm) else m₀ y) y := by
    intro M mx tm h2 h3 y
    by_cases q1 : y = Str.ofString "cell"
    · subst q1; simp
    · by_cases q2 : y = Str.ofString "mixed"
      · subst q2; simp only [if_neg q1, if_true]; exact h3
      · simp only [if_neg q1, if_neg q2]; exact h2 y q1 q2
  have hls : s.heap.IsList l ys.toArray := News.isList N hl
  obtain ⟨hlg, hlL, hl0⟩ := N _ hl
  have hne' : l ≠ s.heap.objs.size := Nat.ne_of_lt (Heap.lt_size hlg)
  refine wpAny_pyIter_list hls ?_
  have W := Walks.list (prog := prog) (w := w) hh s.heap.objs.size l hne' ys.toArray
  refine ⟨_, _, _, _, _, _, m₀, nx₀, (fun i m nx => nx = nx₀ ∧ ∃ u mx tm, 0 ≤ mx ∧ mx < 1000003 ∧ m = (fun y => if y = Str.ofString "cell" then u else if y = Str.ofString "mixed" then some (.int mx tm) else m₀ y)), rfl, W, ?_, ?_, ?_, ⟨⟨_, Heap.get?_push_size _ rfl, rfl, rfl⟩, hls.at fun o e => Heap.get?_push_of_some _ e⟩, F.push _, (fun p hp => ⟨Heap.get?_push_of_some _ (N p (hs p hp)).1, (N p (hs p hp)).2⟩), (fun i s' v Q' st hQ' => letGo_listiter st.1 hQ'), ⟨rfl, m₀ (Str.ofString "cell"), a₀, t₀, h0, h1, funext (shape m₀ a₀ t₀ (fun _ _ _ => rfl) hm)⟩, ?_, ?_⟩
  · intro hm
    rcases List.mem_cons.mp hm with e | hm
    · exact absurd F.ns.lt (e ▸ Nat.lt_irrefl _)
    · exact hlL (List.mem_singleton.mp hm).symm
  · intro b hb
    rw [List.mem_singleton.mp hb]
    exact next_is_new F
  · intro p hp hI
    exact absurd (Heap.lt_size (N p (hs p hp)).1) ((List.mem_singleton.mp hI) ▸ Nat.lt_irrefl _)
  · rintro i v m₁ nx s₁ own hin hP ⟨rfl, u, mx, tm, b0, b1, rfl⟩ hoff _ _ _ _ F₁ N₁
    have hv : ys[i]? = some v := by simpa using hP
    have hlt := (List.getElem?_eq_some_iff.mp hv).1
    have hlen := hi.length
    obtain ⟨t, ht⟩ := hi.get i (zs[i]'(by omega)) (List.getElem?_eq_getElem _)
    rw [ht] at hv
    obtain rfl := Option.some.inj hv
    have hz := hb (zs[i]'(by omega)) (List.getElem_mem _)
    refine wpAny_mono (turn _ t mx tm u own s₁ hz.1 hz.2 b0 b1 F₁ (News.order N₁ fun q hq => List.mem_append.mpr (List.mem_append.mp hq).symm)) (fun _ s₃ x => wpAny_mono x (fun f s₂ y => ?_) fun _ _ e => e) fun _ _ e => e
    obtain ⟨rfl, h', tk, M, mx', tm', rfl, F', hM, hM2, c0, c1, N'⟩ := y
    exact ⟨rfl, h', tk, _, nx, rfl, Fr.same F' (shape M mx' tm' hM hM2), News.order N' fun q hq => List.mem_append.mpr (List.mem_append.mp hq).symm, hoff, rfl, _, mx', tm', c0, c1, rfl⟩
  · rintro h tk m₁ nx F₁ N₁ _ ⟨rfl, u, mx, tm, b0, b1, rfl⟩
    exact done u mx tm h tk b0 b1 F₁ N₁
local macro_rules | `(tactic| walk_at "exec For Name Name cons nil") => `(tactic| (k_here; (rename Fr _ _ _ _ => lF'); k_dflt (refine For_invTF lF' ?_ (by intro _; rfl))))
local macro_rules | `(tactic| walk_at "pyIter ref") => `(tactic| (k_here; (with_reducible show wpAny _ _ (pyIter (Value.ref _)) (fun it s₂ => LoopAtT _ _ _ _ _ _ _ _ _ it s₂) _ _); refine Hold.intro ?_))
local macro_rules | `(tactic| walk_at "eval ListComp") => `(tactic| (k_here; k_dflt (refine LCg.ListComp_U (F₀ := by k_asm) (by rfl) (by decide) (by rfl) (by decide) (by rfl) ?_)))
local macro_rules | `(tactic| walk_at "CompSrc") => `(tactic| (refine Hold.intro ?_))
set_option maxHeartbeats 4000000 in
theorem c_deck {sc : Addr} {vs : List Value} {ns : List Int} (hls : base.IsList sc vs.toArray) (hi : IntsAre vs ns) (hlay : (PyData.list (List.map PyData.int ns)).layable0 = true)
  (B : Below A₀ base outer h₀) (F : Fr h₀ L s.heap m) (X : (hK w.params).In h₀) (N : News h₀ L s.heap (news)) (T : Top p loose mean mg mb h₀) (hk : cs.kind = .function) (hdp : dp + 20 < recursionLimit) (hun : un + 200 < cLine)
  (hret : ∀ (dk lf : Addr) (o : Obj) (j3 : Tok) (xs : List Value) (n k : Nat) (mx : Int) h' tk', Obj.IsDictOf (PySem.strKind pw w) o [(Str.ofString "left", Value.ref lf), (Str.ofString "mixed", Value.int mx j3)] → (dk == sysModules) = false → Small xs n → n ≤ 20 → 0 ≤ mx → mx < 1000003 → (∀ p ∈ news, p.1 ≠ lf) → lf < dk → (∀ p ∈ news, p.1 < dk) → Fr h₀ L h' m → News h₀ L h' ((dk, o) :: (lf, listOf xs.toArray k) :: news) → Q (.ref dk) { s with heap := h', toks := tk' }) :
  wpAny (model PySem.Challenge.rw_og0290_01.row.prog w) (ktrTop dp un gd cn cs L a ccd cl outer) (call (.ref 1133) [.ref sc]) Q E s := by
  w_on
  w_top on
  k_steps
  refine Hold.of ?_
  rename_i D ws hh9 FD ND lD hI hC hL
  have hw := hI.length
  have hw2 : ws.length ≤ 20 := by omega
  k_dflt (refine LCg.CompSrc.ledger rfl FD ND (.head _) ?sz (fun g => compRest_inv (fun i ys => Small ys i) (news := (D, listOf ws.toArray 0) :: news) ?hS ?turn _ 0 [] ⟨[], .nil, rfl, by simp⟩ ?fin))
  case sz => rw [List.size_toArray, sizeLine_eq]; omega
  case hS => exact .inr ⟨_, .head _, rfl, _, rfl⟩
  case turn =>
    intro i v I oI C oC D2 m₂ h tk E' ys hj hp ho hx F1 N1 hoff hne
    have hp' : ws[i]? = some v := by simpa using hp
    have hlt := (List.getElem?_eq_some_iff.mp hp').1
    obtain ⟨t, ht⟩ := hI.get i ((List.take 20 ns)[i]'(by omega)) (List.getElem?_eq_getElem _)
    rw [ht] at hp'
    obtain rfl := Option.some.inj hp'
    generalize (List.take 20 ns)[i]'(by omega) = z at *
    clear FD ND
    k_steps
    all_goals (first | k_asm | exact hj.snoc (fmod_lo _) (fmod_hi _))
  case fin =>
    intro ys hj D3 h3 tk3 F3 N3 off
    clear FD ND
    k_steps
    refine Hold.of ?_
    rename_i F9 N9
    obtain ⟨zs, hz, hzl, hzb⟩ := hj
    have hD3 := off1_mem off
    k_dflt (refine mix_loop (nx₀ := (D3, LCg.lst ys) :: news) rfl F9 N9 (by k_mem) hz hzb ?sub (a₀ := 8989) (by decide) (by decide) rfl ?turn ?done)
    case sub => (intro p hp; simp only [List.mem_cons] at hp ⊢; rcases hp with h | h <;> simp [h])
    case turn =>
      intro z tz mx tm u own s₁ z0 z1 m0 m1 F1 N1
      clear F9 N9
      k_steps
      exact ⟨rfl, _, _, _, _, _, rfl, by k_asm, (fun y h1 h2 => by simp only [h1, h2, if_false]), rfl, fmod_lo _, fmod_hi _, by k_asm⟩
    case done =>
      intro u mx tm h tk m0 m1 F1 N1
      clear F9 N9
      k_steps
      rename_i l1 kF kN Tc kX
      exact hret _ D3 _ _ ys _ _ mx _ _ (by k_dflt assumption) (by assumption) ⟨zs, hz, rfl, hzb⟩ (by rw [hzl, List.size_toArray]; omega) m0 m1 (fun p hp => hD3 p (.tail _ hp)) l1.1 (fun p hp => tb_ltOf l1.2 p hp) kF kN
end
section
local macro_rules | `(tactic| k_enter) => `(tactic| walk_at "c enter2")
theorem modq_lo {z q : Int} (h : 1 ≤ q) : 0 ≤ z.fmod q := by rw [Int.fmod_eq_emod_of_nonneg _ (by omega)]; exact Int.emod_nonneg _ (by omega)
theorem modq_hi {z q : Int} (h : 1 ≤ q) : z.fmod q < q := by rw [Int.fmod_eq_emod_of_nonneg _ (by omega)]; exact Int.emod_lt_of_pos _ (by omega)
theorem my_pop0 {prog : Program} {w : World} {A : Around} {E : Value → Shared → Prop} {s : Shared} {h₀ : Heap} {L D : Addr} {m : Str → Option Value} {news news' : List (Addr × Obj)} {v : Value} {rest : List Value} {n : Nat} {u : Tok} {Q : Value → Shared → Prop}
    (F : Fr h₀ L s.heap m) (N : News h₀ L s.heap news) (U : Upd D (listOf (v :: rest).toArray n) (listOf rest.toArray (n + 1)) news news') (hz : rest.length ≤ 100) (h : ∀ h', Fr h₀ L h' m → News h₀ L h' news' → Q v { s with heap := h' }) :
    wpAny (model prog w) A (call (.builtin "list.pop") [.ref D, .int 0 u]) Q E s :=
  kl_popAt (p := []) (q := rest) (k := 0) F N rfl (by simp [seqIndex?]) rfl U (by rw [sizeLine_eq]; simp; omega) h
local macro_rules | `(tactic| walk_at "call builtin:list.pop") => `(tactic| (k_here; k_dflt (refine' my_pop0 ?F ?N ?U ?z ?_; (case F => k_asm); (case N => k_asm); (case U => k_upd); (case z => assumption)); intro h' F' N'; (try dsimp only at N')))
theorem stored_mixed {a b v : Value} : stored [(Str.ofString "left", a), (Str.ofString "mixed", b)] (Str.ofString "mixed") v = [(Str.ofString "left", a), (Str.ofString "mixed", v)] := rfl
local macro_rules | `(tactic| walk_at "setItem ref str") => `(tactic| (k_here; (with_reducible show wpAny _ _ (setItem (Value.ref _) (Value.str _ _) (Value.int _ _)) _ _ _); k_dflt (refine' kda_set (knd := PySem.strKind _ _) ?F ?N ?U ?d (strKind_is _ _ _ _) ?z ?_; (case F => k_asm); (case N => k_asm); (case U => k_updF); (case d => assumption); (case z => rw [sizeLine_eq]; exact Nat.le_of_ble_eq_true (by with_unfolding_all rfl))); intro h' o' F' N' hd'; (try dsimp only at N'); (try rw [stored_mixed] at hd')))
set_option maxHeartbeats 4000000 in
theorem c_draw {dk lf : Addr} {o : Obj} {j3 : Tok} {xs : List Value} {n k : Nat} {mx : Int} (hd : Obj.IsDictOf (PySem.strKind pw w) o [(Str.ofString "left", Value.ref lf), (Str.ofString "mixed", Value.int mx j3)]) (hS : Small xs n) (hn : n ≤ 20) (mx0 : 0 ≤ mx) (mx1 : mx < 1000003) (hlf : ∀ p ∈ news, p.1 ≠ lf) (hdk : ∀ p ∈ news, p.1 ≠ dk) (hld : @LT.lt Nat _ lf dk) {q : Int} {tq : Tok} (q0 : 1 ≤ q) (q1 : q ≤ 9)
  (B : Below A₀ base outer h₀) (F : Fr h₀ L s.heap m) (X : (hK w.params).In h₀) (N : News h₀ L s.heap ((dk, o) :: (lf, listOf xs.toArray k) :: news)) (T : Top p loose mean mg mb h₀) (hk : cs.kind = .function) (hdp : dp + 20 < recursionLimit) (hun : un + 200 < cLine)
  (hret : ∀ (d : Int) (td : Tok) (o' : Obj) (j3' : Tok) (xs' : List Value) (n' k' : Nat) (mx' : Int) h' tk', 0 ≤ d → d < q → Obj.IsDictOf (PySem.strKind pw w) o' [(Str.ofString "left", Value.ref lf), (Str.ofString "mixed", Value.int mx' j3')] → Small xs' n' → n' ≤ 20 → 0 ≤ mx' → mx' < 1000003 → Fr h₀ L h' m → News h₀ L h' ((dk, o') :: (lf, listOf xs'.toArray k') :: news) → Q (.int d td) { s with heap := h', toks := tk' }) :
  wpAny (model PySem.Challenge.rw_og0290_01.row.prog w) (ktrTop dp un gd cn cs L a ccd cl outer) (call (.ref 1140) [.ref dk, .int q tq]) Q E s := by
  have hS' := hS
  obtain ⟨zs, hz, hzl, hzb⟩ := hS'
  cases hz with
  | nil =>
    w_on
    w_top on
    k_steps
    all_goals (exact hret _ _ _ _ [] 0 _ ((mx * 4801 + 137).fmod 1000003) _ _ (modq_lo q0) (modq_hi q0) (by k_dflt assumption) ⟨[], .nil, rfl, by simp⟩ (by omega) (fmod_lo _) (fmod_hi _) (by k_asm) (by first | k_asm | exact cb_drop (by k_asm) (fun _ h => .tail _ h)))
  | cons z tz hz' =>
    have hz2 := hz'.length
    have hz3 := hzb z (.head _)
    simp only [List.length_cons] at hzl
    have hroom : List.length _ ≤ 100 := Nat.le_trans (Nat.le_of_eq hz2) (by omega)
    w_on
    w_top on
    k_steps
    all_goals (first | exact hret _ _ _ _ _ _ _ mx _ _ (modq_lo q0) (modq_hi q0) (by k_dflt assumption) ⟨_, hz', rfl, fun z hz => hzb z (.tail _ hz)⟩ (by omega) mx0 mx1 (by k_asm) (by first | k_asm | exact cb_drop (by k_asm) (fun _ h => .tail _ h)) | exact hret _ _ _ _ (_ :: _) n _ ((mx * 4801 + 137).fmod 1000003) _ _ (modq_lo q0) (modq_hi q0) (by k_dflt assumption) hS hn (fmod_lo _) (fmod_hi _) (by k_asm) (by first | k_asm | exact cb_drop (by k_asm) (fun _ h => .tail _ h)))
end
section
local macro_rules | `(tactic| k_enter) => `(tactic| walk_at "c enter1")
local macro_rules | `(tactic| walk_at "call builtin:list.append") => `(tactic| (k_here; k_dflt (refine' append_K ?k1 ?k2 ?k3 ?_ ?z; (case k1 => k_asm); (case k2 => k_asm); (case k3 => k_upd); (case z => rw [List.size_toArray, sizeLine_eq]; omega)); intro h' F' N'; (try simp only [List.push_toArray] at N')))
set_option maxHeartbeats 4000000 in
theorem c_line3 {t : Tok}
  (B : Below A₀ base outer h₀) (F : Fr h₀ L s.heap m) (X : (hK w.params).In h₀) (N : News h₀ L s.heap (news)) (T : Top p loose mean mg mb h₀) (hk : cs.kind = .function) (hdp : dp + 20 < recursionLimit) (hun : un + 200 < cLine)
  (hret : ∀ (x d lc b e pen : Addr) (t1 t2 t3 t6 : Tok) (k : Nat) h' tk', (∀ p ∈ news, p.1 < x) → (∀ p ∈ news, p.1 < d) → (∀ p ∈ news, p.1 < b) → (∀ p ∈ news, p.1 < e) → (∀ p ∈ news, p.1 < lc) → x < lc → d < lc → b < lc → e < lc → Fr h₀ L h' m → News h₀ L h' ((lc, listOf [Value.ref b, .ref b, .ref b].toArray k) :: (x, instObj 249 d) :: (d, dictOf [ent w (Str.ofString "cells") t1 (.ref lc), ent w (Str.ofString "is_wrapped") t2 (.bool false), ent w (Str.ofString "size") t3 (.str (Str.ofString "single") 292)] 3) :: (b, tup [.ref e, .int 1 t6, .ref pen, .bool false]) :: (e, tup []) :: news) → Q (.ref x) { s with heap := h', toks := tk' }) :
  wpAny (model PySem.Challenge.rw_og0290_01.row.prog w) (ktrTop dp un gd cn cs L a ccd cl outer) (call (.ref 249) [.int 3 t, .ref 22]) Q E s := by
  w_on
  w_top on
  k_steps
  refine' hret _ ?d ?lc ?b ?e ?pen ?t1 ?t2 ?t3 ?t6 ?k _ _ ?a1 ?a2 ?a3 ?a4 ?a5 ?b1 ?b2 ?b3 ?b4 ?F ?N
  case N => exact News.order (by k_asm) (List.forall_mem_cons.mpr ⟨by k_dflt k_mem, List.forall_mem_cons.mpr ⟨by k_dflt k_mem, List.forall_mem_cons.mpr ⟨by k_dflt k_mem, List.forall_mem_cons.mpr ⟨by k_dflt k_mem, List.forall_mem_cons.mpr ⟨by k_dflt k_mem, fun q hq => by simp [hq]⟩⟩⟩⟩⟩)
  case F => k_asm
  all_goals (first | exact (by walk_at "c below") | assumption | exact fun p hp => Nat.lt_trans ((by assumption : ∀ p ∈ news, p.1 < _) p hp) (by assumption) | walk_at "c lt" | (show @LT.lt Nat _ _ _; omega))
set_option maxHeartbeats 4000000 in
theorem c_cell {n : Int} {t : Tok}
  (B : Below A₀ base outer h₀) (F : Fr h₀ L s.heap m) (X : (hK w.params).In h₀) (N : News h₀ L s.heap (news)) (T : Top p loose mean mg mb h₀) (hk : cs.kind = .function) (hdp : dp + 20 < recursionLimit) (hun : un + 200 < cLine)
  (hret : ∀ (c0 cd : Addr) (t4 t5 : Tok) h' tk', (∀ p ∈ news, p.1 < cd) → cd < c0 → (∀ p ∈ news, p.1 < c0) → Fr h₀ L h' m → News h₀ L h' ((c0, tup [.ref cd, .int 1 t4, .ref 22, .bool false]) :: (cd, tup [.int (97 + n) t5]) :: news) → Q (.ref c0) { s with heap := h', toks := tk' }) :
  wpAny (model PySem.Challenge.rw_og0290_01.row.prog w) (ktrTop dp un gd cn cs L a ccd cl outer) (call (.ref 1147) [.int n t]) Q E s := by
  w_on
  w_top on
  k_steps
  exact hret _ _ _ _ _ _ (by first | assumption | exact tb_ltOf (by assumption)) (And.left (b := AllLt _ news) (by assumption)) (tb_ltOf (And.right (by assumption))) (by k_asm) (by k_asm)
set_option maxHeartbeats 4000000 in
theorem c_put {x d lc b e pen c0 cd : Addr} {t t1 t2 t3 t4 t6 : Tok} {k : Nat} {n : Int} {t5 : Tok} (l1 : (x, instObj 249 d) ∈ news) (l2 : (d, dictOf [ent w (Str.ofString "cells") t1 (.ref lc), ent w (Str.ofString "is_wrapped") t2 (.bool false), ent w (Str.ofString "size") t3 (.str (Str.ofString "single") 292)] 3) ∈ news) (l6 : (b, tup [.ref e, .int 1 t6, .ref pen, .bool false]) ∈ news) (l7 : (e, tup []) ∈ news) (l4 : (c0, tup [.ref cd, .int 1 t4, .ref 22, .bool false]) ∈ news) (l5 : (cd, tup [.int (97 + n) t5]) ∈ news) (hlc : ∀ p ∈ news, p.1 ≠ lc)
  (B : Below A₀ base outer h₀) (F : Fr h₀ L s.heap m) (X : (hK w.params).In h₀) (N : News h₀ L s.heap ((lc, listOf [Value.ref b, .ref b, .ref b].toArray k) :: news)) (T : Top p loose mean mg mb h₀) (hk : cs.kind = .function) (hdp : dp + 20 < recursionLimit) (hun : un + 200 < cLine)
  (hret : ∀ (k' : Nat) h' tk', Fr h₀ L h' m → News h₀ L h' ((lc, listOf [Value.ref c0, .ref b, .ref b].toArray k') :: news) → Q .none { s with heap := h', toks := tk' }) :
  wpAny (model PySem.Challenge.rw_og0290_01.row.prog w) (ktrTop dp un gd cn cs L a ccd cl outer) (call (.ref 167) [.ref x, .int 0 t, .ref c0]) Q E s := by
  w_on
  w_top on
  k_steps
  exact hret _ _ _ (by k_asm) (by k_asm)
set_option maxHeartbeats 4000000 in
theorem c_push {hi hd hl x : Addr} {hs : List Value} {k : Nat} {t3 t4 t5 u1 u2 : Tok} (m3 : (hi, instObj 1124 hd) ∈ news) (m4 : (hd, dictOf [ent w (Str.ofString "most") t3 (.int 9 u1), ent w (Str.ofString "lines") t4 (.ref hl), ent w (Str.ofString "gone") t5 (.int 0 u2)] 3) ∈ news) (h6 : hs.length < 6) (hhl : ∀ p ∈ news, p.1 ≠ hl)
  (B : Below A₀ base outer h₀) (F : Fr h₀ L s.heap m) (X : (hK w.params).In h₀) (N : News h₀ L s.heap ((hl, listOf hs.toArray k) :: news)) (T : Top p loose mean mg mb h₀) (hk : cs.kind = .function) (hdp : dp + 20 < recursionLimit) (hun : un + 200 < cLine)
  (hret : ∀ (k' : Nat) h' tk', Fr h₀ L h' m → News h₀ L h' ((hl, listOf (hs ++ [Value.ref x]).toArray k') :: news) → Q .none { s with heap := h', toks := tk' }) :
  wpAny (model PySem.Challenge.rw_og0290_01.row.prog w) (ktrTop dp un gd cn cs L a ccd cl outer) (call (.ref 1088) [.ref hi, .ref x]) Q E s := by
  have hl1 : (hs ++ [Value.ref x]).length = hs.length + 1 := by simp
  w_on
  w_top on
  k_steps
  exact hret _ _ _ (by k_asm) (by k_asm)
end
section
local macro_rules | `(tactic| k_enter) => `(tactic| walk_at "c enter3")
local macro_rules | `(tactic| k_enter) => `(tactic| walk_at "c enter1")
set_option maxHeartbeats 4000000 in
theorem c_hist {t : Tok}
  (B : Below A₀ base outer h₀) (F : Fr h₀ L s.heap m) (X : (hK w.params).In h₀) (N : News h₀ L s.heap (news)) (T : Top p loose mean mg mb h₀) (hk : cs.kind = .function) (hdp : dp + 20 < recursionLimit) (hun : un + 200 < cLine)
  (hret : ∀ (hi hd hl : Addr) (t3 t4 t5 u1 u2 : Tok) h' tk', (∀ p ∈ news, p.1 < hi) → (∀ p ∈ news, p.1 < hd) → hi < hl → hd < hl → (∀ p ∈ news, p.1 < hl) → Fr h₀ L h' m → News h₀ L h' ((hl, listOf [].toArray 0) :: (hi, instObj 1124 hd) :: (hd, dictOf [ent w (Str.ofString "most") t3 (.int 9 u1), ent w (Str.ofString "lines") t4 (.ref hl), ent w (Str.ofString "gone") t5 (.int 0 u2)] 3) :: news) → Q (.ref hi) { s with heap := h', toks := tk' }) :
  wpAny (model PySem.Challenge.rw_og0290_01.row.prog w) (ktrTop dp un gd cn cs L a ccd cl outer) (call (.ref 1124) [.int 9 t]) Q E s := by
  w_on
  w_top on
  k_steps
  refine' hret _ ?hd ?hl ?t3 ?t4 ?t5 ?u1 ?u2 _ _ ?a1 ?a2 ?b1 ?b2 ?a3 ?F ?N
  case N => k_asm
  case F => k_asm
  all_goals (first | exact (by walk_at "c below") | assumption | exact fun p hp => Nat.lt_trans ((by assumption : ∀ p ∈ news, p.1 < _) p hp) (by assumption) | walk_at "c lt" | (show @LT.lt Nat _ _ _; omega))
local macro_rules | `(tactic| walk_at "eval ListComp") => `(tactic| (k_here; k_dflt (refine LCg.ListComp_U (F₀ := by k_asm) (by rfl) (by decide) (by rfl) (by decide) (by rfl) ?_)))
local macro_rules | `(tactic| walk_at "CompSrc") => `(tactic| (refine Hold.intro ?_))
local macro_rules | `(tactic| walk_at "call ref") => useM 249 `Mine.c_line3 "std" "x' d' lc' b' e' pen' t1' t2' t3' t6' k' h' tk' a1' a2' a3' a4' a5' b1' b2' b3' b4' F' N'"
set_option maxHeartbeats 4000000 in
theorem c_grid {t t9 : Tok}
  (B : Below A₀ base outer h₀) (F : Fr h₀ L s.heap m) (X : (hK w.params).In h₀) (N : News h₀ L s.heap (news)) (T : Top p loose mean mg mb h₀) (hk : cs.kind = .function) (hdp : dp + 40 < recursionLimit) (hun : un + 400 < cLine)
  (hret : ∀ (g gd gl : Addr) (t6 t7 t8 u3 u4 : Tok) (a0 a1 : Value) (k : Nat) h' tk', (∀ p ∈ news, p.1 < g) → (∀ p ∈ news, p.1 < gd) → g ≠ gl → gd ≠ gl → (∀ p ∈ news, p.1 ≠ gl) → Fr h₀ L h' m → News h₀ L h' ((gl, listOf [a0, a1].toArray k) :: (g, instObj 1056 gd) :: (gd, dictOf [ent w (Str.ofString "rows") t6 (.int 2 u3), ent w (Str.ofString "columns") t7 (.int 3 u4), ent w (Str.ofString "lines") t8 (.ref gl)] 3) :: news) → Q (.ref g) { s with heap := h', toks := tk' }) :
  wpAny (model PySem.Challenge.rw_og0290_01.row.prog w) (ktrTop dp un gd cn cs L a ccd cl outer) (call (.ref 1056) [.int 2 t, .int 3 t9]) Q E s := by
  w_on
  w_top on
  k_steps
  refine Hold.of ?_
  k_dflt (refine LCg.CompSrc.range rfl (by k_asm) (by k_asm) (by assumption) (by decide) (by rfl) (by exact Nat.le_of_ble_eq_true rfl) (fun g => compRest_inv (fun i ys => ys.length = i) trivial ?turn 2 0 [] rfl ?fin))
  case turn =>
    intro i v I oI C oC D2 m₂ h tk E' ys hj hp ho hx F1 N1 hoff hne
    obtain ⟨tz, rfl⟩ := hp
    k_steps
    all_goals (first | k_asm | (simp [hj]; done) | (refine News.order (by k_asm) ?_; walk_at "c perm"))
  case fin =>
    intro ys hj D3 h3 tk3 F3 N3 off
    dsimp only at F3 N3
    simp only [LCg.Off1] at off
    k_steps
    rename_i kF kN Tc kX
    match ys, hj with
    | [a0, a1], _ =>
      refine' hret _ ?zgd D3 ?zt6 ?zt7 ?zt8 ?zu3 ?zu4 a0 a1 _ _ _ ?za1 ?za2 ?zb1 ?zb2 (off1_mem off.2.2.2) ?zF ?zN
      case zN => exact News.order kN (List.forall_mem_cons.mpr ⟨by k_dflt k_mem, List.forall_mem_cons.mpr ⟨by k_dflt k_mem, List.forall_mem_cons.mpr ⟨by k_dflt k_mem, fun q hq => by simp [hq]⟩⟩⟩)
      case zF => exact kF
      case zb1 => exact off.2.1
      case zb2 => exact off.2.2.1
      all_goals (first | assumption | exact fun p hp => Nat.lt_trans ((by assumption : ∀ p ∈ news, p.1 < _) p hp) (by assumption))
end
section
theorem news_md4 {h₀ h : Heap} {L : Addr} {x y z u : Addr × Obj} {l : List (Addr × Obj)} (N : News h₀ L h (x :: y :: z :: u :: l)) : News h₀ L h (u :: x :: y :: z :: l) := fun p hp => N p (by simp only [List.mem_cons] at hp ⊢; rcases hp with h | h | h | h | h <;> simp [h])
local macro_rules | `(tactic| k_enter) => `(tactic| walk_at "c enter1")
local macro_rules | `(tactic| walk_at "call ref") => useM 512 `Mine.c_show "N:q stn V hmo:m hne:l hp:m r0:o r1:o p0:o p1:o" "tp' tt' h' tk' b1 b2 b3 b4 b5 F' N'"
set_option maxHeartbeats 4000000 in
theorem c_mode {vw : Addr} {hs : List Value} {g0 g1 : Value} (V : ViewIn w news vw hs g0 g1) {t : Tok}
  (B : Below A₀ base outer h₀) (F : Fr h₀ L s.heap m) (X : (hK w.params).In h₀) (N : News h₀ L s.heap (news)) (T : Top p loose mean mg mb h₀) (hk : cs.kind = .function) (hdp : dp + 60 < recursionLimit) (hun : un + 600 < cLine)
  (hret : ∀ (mo md pl' : Addr) (sep : Value) (tp' r' : Int) (tr tt tw k1 k2 k3 k4 k5 k6 k7 k8 k9 k10 k11 k12 k13 k14 a1 a2 : Tok) h' tk', tp' = hs.length → r' = hs.length + 1 → (∀ p ∈ news, p.1 < md) → md < mo → md < pl' → (∀ p ∈ news, p.1 < pl') → Fr h₀ L h' m → News h₀ L h' ((md, modeD w vw sep tp' pl' tr tt tw k1 k2 k3 k4 k5 k6 k7 k8 k9 k10 k11 k12 k13 k14) :: (pl', tup [.int r' a1, .int 0 a2]) :: (mo, instObj 566 md) :: news) → Q (.ref mo) { s with heap := h', toks := tk' }) :
  wpAny (model PySem.Challenge.rw_og0290_01.row.prog w) (ktrTop dp un gd cn cs L a ccd cl outer) (call (.ref 566) [.ref vw, .int 2 t]) Q E s := by
  refine ViewIn.elim V ?_
  intro vd hi hd hl g gd gl t1 t2 t3 t4 t5 t6 t7 t8 u1 u2 u3 u4 n1 n2 m1 m2 m3 m4 m5 m6 m7 m8 h6 V1 V2 V3
  w_on
  w_top on
  k_steps
  rename_i kF kN Tc kX
  refine' hret _ ?md ?pl ?sep ?tp ?r ?t0 ?t1 ?t2 ?t3 ?t4 ?t5 ?t6 ?t7 ?t8 ?t9 ?t10 ?t11 ?t12 ?t13 ?t14 ?t15 ?t16 ?t17 ?t18 _ _ ?e1 ?e2 ?h1 ?h2 ?h3 ?h4 ?F ?N
  case N => exact News.order kN (List.forall_mem_cons.mpr ⟨by k_dflt k_mem, List.forall_mem_cons.mpr ⟨by k_dflt k_mem, List.forall_mem_cons.mpr ⟨by k_dflt k_mem, fun q hq => by simp [hq]⟩⟩⟩)
  case F => exact kF
  case e1 => omega
  case e2 => omega
  all_goals (first | assumption | exact (by walk_at "c below") | walk_at "c lt" | (show @LT.lt Nat _ _ _; omega))
end
section
local macro_rules | `(tactic| k_all) => `(tactic| exact lowNe (by assumption) (by rfl))
set_option maxHeartbeats 4000000 in
theorem c_drawB {p0 p1 p2 p3 p4 p5 p6 p7 p8 p9 p10 : Array Value} {md : Addr} {om : Obj} {nw : List (Addr × Obj)} {dk lf : Addr} {o : Obj} {j3 : Tok} {xs : List Value} {n k : Nat} {mx : Int} (hd : Obj.IsDictOf (PySem.strKind pw w) o [(Str.ofString "left", Value.ref lf), (Str.ofString "mixed", Value.int mx j3)]) (hS : Small xs n) (hn : n ≤ 20) (mx0 : 0 ≤ mx) (mx1 : mx < 1000003) (NTdk : NT dk) (NTlf : NT lf) (hld : @LT.lt Nat _ lf dk) (mdk : md ≠ dk) (mlf : md ≠ lf) (ndk : ∀ q ∈ nw, q.1 ≠ dk) (nlf : ∀ q ∈ nw, q.1 ≠ lf) {qq : Int} {tq : Tok} (qq0 : 1 ≤ qq) (qq1 : qq ≤ 9)
  (B : Below A₀ base outer h₀) (F : Fr h₀ L s.heap m) (X : (hK w.params).In h₀) (N : News h₀ L s.heap (((740 : Addr), tabObj p0) :: ((698 : Addr), tabObj p1) :: ((726 : Addr), tabObj p2) :: ((733 : Addr), tabObj p3) :: ((754 : Addr), tabObj p4) :: ((878 : Addr), tabObj p5) :: ((899 : Addr), tabObj p6) :: ((836 : Addr), tabObj p7) :: ((871 : Addr), tabObj p8) :: ((768 : Addr), tabObj p9) :: ((796 : Addr), tabObj p10) :: (md, om) :: (dk, o) :: (lf, listOf xs.toArray k) :: nw)) (T : Top p loose mean mg mb h₀) (hk : cs.kind = .function) (hdp : dp + 20 < recursionLimit) (hun : un + 200 < cLine)
  (hret : ∀ (d : Int) (td : Tok) (o' : Obj) (j3' : Tok) (xs' : List Value) (n' k' : Nat) (mx' : Int) h' tk', 0 ≤ d → d < qq → Obj.IsDictOf (PySem.strKind pw w) o' [(Str.ofString "left", Value.ref lf), (Str.ofString "mixed", Value.int mx' j3')] → Small xs' n' → n' ≤ 20 → 0 ≤ mx' → mx' < 1000003 → Fr h₀ L h' m → News h₀ L h' (((740 : Addr), tabObj p0) :: ((698 : Addr), tabObj p1) :: ((726 : Addr), tabObj p2) :: ((733 : Addr), tabObj p3) :: ((754 : Addr), tabObj p4) :: ((878 : Addr), tabObj p5) :: ((899 : Addr), tabObj p6) :: ((836 : Addr), tabObj p7) :: ((871 : Addr), tabObj p8) :: ((768 : Addr), tabObj p9) :: ((796 : Addr), tabObj p10) :: (md, om) :: (dk, o') :: (lf, listOf xs'.toArray k') :: nw) → Q (.int d td) { s with heap := h', toks := tk' }) :
  wpAny (model PySem.Challenge.rw_og0290_01.row.prog w) (ktrTop dp un gd cn cs L a ccd cl outer) (call (.ref 1140) [.ref dk, .int qq tq]) Q E s := by
  have tblf : ∀ q ∈ ((740 : Addr), tabObj p0) :: ((698 : Addr), tabObj p1) :: ((726 : Addr), tabObj p2) :: ((733 : Addr), tabObj p3) :: ((754 : Addr), tabObj p4) :: ((878 : Addr), tabObj p5) :: ((899 : Addr), tabObj p6) :: ((836 : Addr), tabObj p7) :: ((871 : Addr), tabObj p8) :: ((768 : Addr), tabObj p9) :: ((796 : Addr), tabObj p10) :: (md, om) :: nw, q.1 ≠ lf := fun q hq => (tbl_iff.mp hq).elim (fun h => tbl_ne h NTlf) fun h => (List.mem_cons.mp h).elim (fun e => e ▸ mlf) (nlf q)
  have tbdk : ∀ q ∈ ((740 : Addr), tabObj p0) :: ((698 : Addr), tabObj p1) :: ((726 : Addr), tabObj p2) :: ((733 : Addr), tabObj p3) :: ((754 : Addr), tabObj p4) :: ((878 : Addr), tabObj p5) :: ((899 : Addr), tabObj p6) :: ((836 : Addr), tabObj p7) :: ((871 : Addr), tabObj p8) :: ((768 : Addr), tabObj p9) :: ((796 : Addr), tabObj p10) :: (md, om) :: nw, q.1 ≠ dk := fun q hq => (tbl_iff.mp hq).elim (fun h => tbl_ne h NTdk) fun h => (List.mem_cons.mp h).elim (fun e => e ▸ mdk) (ndk q)
  refine c_draw (k := k) hd hS hn mx0 mx1 tblf tbdk hld qq0 qq1 B F X (News.order N (fun q hq => (List.mem_cons.mp hq).elim (fun e => e ▸ tbl_iff.mpr (.inr (.tail _ (.head _)))) fun h => (List.mem_cons.mp h).elim (fun e => e ▸ tbl_iff.mpr (.inr (.tail _ (.tail _ (.head _))))) fun h => (tbl_iff.mp h).elim (fun h => tbl_iff.mpr (.inl h)) fun h => (List.mem_cons.mp h).elim (fun e => e ▸ tbl_iff.mpr (.inr (.head _))) fun h => tbl_iff.mpr (.inr (.tail _ (.tail _ (.tail _ (h))))))) T hk hdp hun fun d td o' j3' xs' n' k' mx' h' tk' a1 a2 a3 a4 a5 a6 a7 F' N' => ?_
  exact hret d td o' j3' xs' n' k' mx' h' tk' a1 a2 a3 a4 a5 a6 a7 F' (News.order N' (fun q hq => (tbl_iff.mp hq).elim (fun h => .tail _ (.tail _ (tbl_iff.mpr (.inl h)))) fun h => (List.mem_cons.mp h).elim (fun e => e ▸ .tail _ (.tail _ (tbl_iff.mpr (.inr (.head _))))) fun h => (List.mem_cons.mp h).elim (fun e => e ▸ .head _) fun h => (List.mem_cons.mp h).elim (fun e => e ▸ .tail _ (.head _)) fun h => .tail _ (.tail _ (tbl_iff.mpr (.inr (.tail _ (h)))))))
set_option maxHeartbeats 4000000 in
theorem c_runB_top {p0 p1 p2 p3 p4 p5 p6 p7 p8 p9 p10 : Array Value} {nw : List (Addr × Obj)} (HC : CodeAll tCs h₀) (ht0 : TabOk p0.toList) (ht1 : TabOk p1.toList) (ht2 : TabOk p2.toList) (ht3 : TabOk p3.toList) (ht4 : TabOk p4.toList) (ht5 : TabOk p5.toList) (ht6 : TabOk p6.toList) (ht7 : TabOk p7.toList) (ht8 : TabOk p8.toList) (ht9 : TabOk p9.toList) (ht10 : TabOk p10.toList) (hlow : ∀ q ∈ nw, NT q.1) {vw : Addr} {hs : List Value} {g0 g1 : Value} (V : ViewIn w nw vw hs g0 g1) {mo md : Addr} {sep : Value} {tp : Int} {tr tt tw k1 k2 k3 k4 k5 k6 k7 k8 k9 k10 k11 k12 k13 k14 : Tok} (hmo : (mo, instObj 566 md) ∈ nw) (hmd : ∀ q ∈ nw, q.1 ≠ md) (hm9 : ltN9 md) {q : Addr} {r : Int} {t0 t1 : Tok} (hp : (q, tup [.int r t0, .int 0 t1]) ∈ nw) (q0 : tp ≤ r) (q1 : r < tp + 2) (z0 : 0 ≤ tp) (z1 : tp ≤ hs.length) {dk lf : Addr} {o : Obj} {xs : List Value} {k : Nat} (NTdk : NT dk) (NTlf : NT lf) (hld : @LT.lt Nat _ lf dk) (mdk : md ≠ dk) (mlf : md ≠ lf) (ndk : ∀ q ∈ nw, q.1 ≠ dk) (nlf : ∀ q ∈ nw, q.1 ≠ lf) {kt : Tok}
  (B : Below A₀ base outer h₀) (F : Fr h₀ L s.heap m) (X : (hK w.params).In h₀) (N : News h₀ L s.heap (((740 : Addr), tabObj p0) :: ((698 : Addr), tabObj p1) :: ((726 : Addr), tabObj p2) :: ((733 : Addr), tabObj p3) :: ((754 : Addr), tabObj p4) :: ((878 : Addr), tabObj p5) :: ((899 : Addr), tabObj p6) :: ((836 : Addr), tabObj p7) :: ((871 : Addr), tabObj p8) :: ((768 : Addr), tabObj p9) :: ((796 : Addr), tabObj p10) :: (md, modeD w vw sep tp q tr tt tw k1 k2 k3 k4 k5 k6 k7 k8 k9 k10 k11 k12 k13 k14) :: (dk, o) :: (lf, listOf xs.toArray k) :: nw)) (T : Top p loose mean mg mb h₀) (hk : cs.kind = .function) (hdp : dp + 140 < recursionLimit) (hun : un + 1400 < cLine)
  (hret : ∀ (tp' r' : Int) (pl' : Addr) (tt' tw' a1 a2 : Tok) (nw' : List (Addr × Obj)) (r0 r1 r2 r3 r4 r5 r6 r7 r8 r9 r10 : Array Value) h' tk', tp' = 0 → tp' ≤ r' → r' < tp' + 2 → 0 ≤ r' → r' < hs.length + 2 → TabOk r0.toList → TabOk r1.toList → TabOk r2.toList → TabOk r3.toList → TabOk r4.toList → TabOk r5.toList → TabOk r6.toList → TabOk r7.toList → TabOk r8.toList → TabOk r9.toList → TabOk r10.toList → (∀ q ∈ nw, q ∈ nw') → (∀ q ∈ nw', NT q.1) → (∀ q ∈ nw', q.1 ≠ md) → (∀ q ∈ nw', q.1 ≠ dk) → (∀ q ∈ nw', q.1 ≠ lf) → (pl', tup [.int r' a1, .int 0 a2]) ∈ nw' → (∀ q ∈ nw, q.1 < pl') → Fr h₀ L h' m → News h₀ L h' (((740 : Addr), tabObj r0) :: ((698 : Addr), tabObj r1) :: ((726 : Addr), tabObj r2) :: ((733 : Addr), tabObj r3) :: ((754 : Addr), tabObj r4) :: ((878 : Addr), tabObj r5) :: ((899 : Addr), tabObj r6) :: ((836 : Addr), tabObj r7) :: ((871 : Addr), tabObj r8) :: ((768 : Addr), tabObj r9) :: ((796 : Addr), tabObj r10) :: (md, modeD w vw sep tp' pl' tr tt' tw' k1 k2 k3 k4 k5 k6 k7 k8 k9 k10 k11 k12 k13 k14) :: (dk, o) :: (lf, listOf xs.toArray k) :: nw') → Q .none { s with heap := h', toks := tk' }) :
  wpAny (model PySem.Challenge.rw_og0290_01.row.prog w) (ktrTop dp un gd cn cs L a ccd cl outer) (call (.ref 563) [.ref mo, .bytes #[104, 105, 115, 116, 111, 114, 121, 45, 116, 111, 112] kt]) Q E s := by
  have hlow' : ∀ q ∈ (dk, o) :: (lf, listOf xs.toArray k) :: nw, NT q.1 := List.forall_mem_cons.mpr ⟨NTdk, List.forall_mem_cons.mpr ⟨NTlf, hlow⟩⟩
  have hmd' : ∀ q ∈ (dk, o) :: (lf, listOf xs.toArray k) :: nw, q.1 ≠ md := List.forall_mem_cons.mpr ⟨mdk.symm, List.forall_mem_cons.mpr ⟨mlf.symm, hmd⟩⟩
  refine c_run_top (nw := (dk, o) :: (lf, listOf xs.toArray k) :: nw) HC ht0 ht1 ht2 ht3 ht4 ht5 ht6 ht7 ht8 ht9 ht10 hlow' (V.mono fun q hq => .tail _ (.tail _ hq)) (.tail _ (.tail _ hmo)) hmd' hm9 (.tail _ (.tail _ hp)) q0 q1 z0 z1  B F X N T hk hdp hun fun tp' r' pl' tt' tw' a1 a2 nw' r0 r1 r2 r3 r4 r5 r6 r7 r8 r9 r10 h' tk' e1 e2 e3 e4 e5 k0 k1 k2 k3 k4 k5 k6 k7 k8 k9 k10 hs' hl' hm' hpl hmp hlt F' N' => ?_
  have keep : ∀ q ∈ nw', q.1 ≠ dk → q.1 ≠ lf → q ∈ nw'.filter (fun q => decide (q.1 ≠ dk ∧ q.1 ≠ lf)) := fun q hq h1 h2 => List.mem_filter.mpr ⟨hq, decide_eq_true ⟨h1, h2⟩⟩
  have ldk := hlt _ (.head _)
  have llf := hlt _ (.tail _ (.head _))
  refine hret tp' r' pl' tt' tw' a1 a2 (nw'.filter (fun q => decide (q.1 ≠ dk ∧ q.1 ≠ lf))) r0 r1 r2 r3 r4 r5 r6 r7 r8 r9 r10 h' tk' e1 e2 e3 e4 e5 k0 k1 k2 k3 k4 k5 k6 k7 k8 k9 k10 (fun q hq => keep q (hs' q (.tail _ (.tail _ hq))) (ndk q hq) (nlf q hq)) (fun q hq => hl' q (List.mem_filter.mp hq).1) (fun q hq => hm' q (List.mem_filter.mp hq).1) (fun q hq => (of_decide_eq_true (List.mem_filter.mp hq).2).1) (fun q hq => (of_decide_eq_true (List.mem_filter.mp hq).2).2) (keep _ hpl (Nat.ne_of_gt ldk) (Nat.ne_of_gt llf)) (fun q hq => hlt q (.tail _ (.tail _ hq))) F' (News.order N' fun q hq => ?_)
  rcases tbl_iff.mp hq with h | h
  · exact tbl_iff.mpr (.inl h)
  · refine tbl_iff.mpr (.inr ?_)
    rcases List.mem_cons.mp h with h | h
    · exact h ▸ .head _
    · rcases List.mem_cons.mp h with h | h
      · exact h ▸ .tail _ (hs' _ (.head _))
      · rcases List.mem_cons.mp h with h | h
        · exact h ▸ .tail _ (hs' _ (.tail _ (.head _)))
        · exact .tail _ (List.mem_filter.mp h).1
set_option maxHeartbeats 4000000 in
theorem c_runB_bot {p0 p1 p2 p3 p4 p5 p6 p7 p8 p9 p10 : Array Value} {nw : List (Addr × Obj)} (HC : CodeAll tCs h₀) (ht0 : TabOk p0.toList) (ht1 : TabOk p1.toList) (ht2 : TabOk p2.toList) (ht3 : TabOk p3.toList) (ht4 : TabOk p4.toList) (ht5 : TabOk p5.toList) (ht6 : TabOk p6.toList) (ht7 : TabOk p7.toList) (ht8 : TabOk p8.toList) (ht9 : TabOk p9.toList) (ht10 : TabOk p10.toList) (hlow : ∀ q ∈ nw, NT q.1) {vw : Addr} {hs : List Value} {g0 g1 : Value} (V : ViewIn w nw vw hs g0 g1) {mo md : Addr} {sep : Value} {tp : Int} {tr tt tw k1 k2 k3 k4 k5 k6 k7 k8 k9 k10 k11 k12 k13 k14 : Tok} (hmo : (mo, instObj 566 md) ∈ nw) (hmd : ∀ q ∈ nw, q.1 ≠ md) (hm9 : ltN9 md) {q : Addr} {r : Int} {t0 t1 : Tok} (hp : (q, tup [.int r t0, .int 0 t1]) ∈ nw) (q0 : tp ≤ r) (q1 : r < tp + 2) (z0 : 0 ≤ tp) (z1 : tp ≤ hs.length) {dk lf : Addr} {o : Obj} {xs : List Value} {k : Nat} (NTdk : NT dk) (NTlf : NT lf) (hld : @LT.lt Nat _ lf dk) (mdk : md ≠ dk) (mlf : md ≠ lf) (ndk : ∀ q ∈ nw, q.1 ≠ dk) (nlf : ∀ q ∈ nw, q.1 ≠ lf) {kt : Tok}
  (B : Below A₀ base outer h₀) (F : Fr h₀ L s.heap m) (X : (hK w.params).In h₀) (N : News h₀ L s.heap (((740 : Addr), tabObj p0) :: ((698 : Addr), tabObj p1) :: ((726 : Addr), tabObj p2) :: ((733 : Addr), tabObj p3) :: ((754 : Addr), tabObj p4) :: ((878 : Addr), tabObj p5) :: ((899 : Addr), tabObj p6) :: ((836 : Addr), tabObj p7) :: ((871 : Addr), tabObj p8) :: ((768 : Addr), tabObj p9) :: ((796 : Addr), tabObj p10) :: (md, modeD w vw sep tp q tr tt tw k1 k2 k3 k4 k5 k6 k7 k8 k9 k10 k11 k12 k13 k14) :: (dk, o) :: (lf, listOf xs.toArray k) :: nw)) (T : Top p loose mean mg mb h₀) (hk : cs.kind = .function) (hdp : dp + 140 < recursionLimit) (hun : un + 1400 < cLine)
  (hret : ∀ (tp' r' : Int) (pl' : Addr) (tt' tw' a1 a2 : Tok) (nw' : List (Addr × Obj)) (r0 r1 r2 r3 r4 r5 r6 r7 r8 r9 r10 : Array Value) h' tk', tp' = hs.length → tp' ≤ r' → r' < tp' + 2 → 0 ≤ r' → r' < hs.length + 2 → TabOk r0.toList → TabOk r1.toList → TabOk r2.toList → TabOk r3.toList → TabOk r4.toList → TabOk r5.toList → TabOk r6.toList → TabOk r7.toList → TabOk r8.toList → TabOk r9.toList → TabOk r10.toList → (∀ q ∈ nw, q ∈ nw') → (∀ q ∈ nw', NT q.1) → (∀ q ∈ nw', q.1 ≠ md) → (∀ q ∈ nw', q.1 ≠ dk) → (∀ q ∈ nw', q.1 ≠ lf) → (pl', tup [.int r' a1, .int 0 a2]) ∈ nw' → (∀ q ∈ nw, q.1 < pl') → Fr h₀ L h' m → News h₀ L h' (((740 : Addr), tabObj r0) :: ((698 : Addr), tabObj r1) :: ((726 : Addr), tabObj r2) :: ((733 : Addr), tabObj r3) :: ((754 : Addr), tabObj r4) :: ((878 : Addr), tabObj r5) :: ((899 : Addr), tabObj r6) :: ((836 : Addr), tabObj r7) :: ((871 : Addr), tabObj r8) :: ((768 : Addr), tabObj r9) :: ((796 : Addr), tabObj r10) :: (md, modeD w vw sep tp' pl' tr tt' tw' k1 k2 k3 k4 k5 k6 k7 k8 k9 k10 k11 k12 k13 k14) :: (dk, o) :: (lf, listOf xs.toArray k) :: nw') → Q .none { s with heap := h', toks := tk' }) :
  wpAny (model PySem.Challenge.rw_og0290_01.row.prog w) (ktrTop dp un gd cn cs L a ccd cl outer) (call (.ref 563) [.ref mo, .bytes #[104, 105, 115, 116, 111, 114, 121, 45, 98, 111, 116, 116, 111, 109] kt]) Q E s := by
  have hlow' : ∀ q ∈ (dk, o) :: (lf, listOf xs.toArray k) :: nw, NT q.1 := List.forall_mem_cons.mpr ⟨NTdk, List.forall_mem_cons.mpr ⟨NTlf, hlow⟩⟩
  have hmd' : ∀ q ∈ (dk, o) :: (lf, listOf xs.toArray k) :: nw, q.1 ≠ md := List.forall_mem_cons.mpr ⟨mdk.symm, List.forall_mem_cons.mpr ⟨mlf.symm, hmd⟩⟩
  refine c_run_bot (nw := (dk, o) :: (lf, listOf xs.toArray k) :: nw) HC ht0 ht1 ht2 ht3 ht4 ht5 ht6 ht7 ht8 ht9 ht10 hlow' (V.mono fun q hq => .tail _ (.tail _ hq)) (.tail _ (.tail _ hmo)) hmd' hm9 (.tail _ (.tail _ hp)) q0 q1 z0 z1  B F X N T hk hdp hun fun tp' r' pl' tt' tw' a1 a2 nw' r0 r1 r2 r3 r4 r5 r6 r7 r8 r9 r10 h' tk' e1 e2 e3 e4 e5 k0 k1 k2 k3 k4 k5 k6 k7 k8 k9 k10 hs' hl' hm' hpl hmp hlt F' N' => ?_
  have keep : ∀ q ∈ nw', q.1 ≠ dk → q.1 ≠ lf → q ∈ nw'.filter (fun q => decide (q.1 ≠ dk ∧ q.1 ≠ lf)) := fun q hq h1 h2 => List.mem_filter.mpr ⟨hq, decide_eq_true ⟨h1, h2⟩⟩
  have ldk := hlt _ (.head _)
  have llf := hlt _ (.tail _ (.head _))
  refine hret tp' r' pl' tt' tw' a1 a2 (nw'.filter (fun q => decide (q.1 ≠ dk ∧ q.1 ≠ lf))) r0 r1 r2 r3 r4 r5 r6 r7 r8 r9 r10 h' tk' e1 e2 e3 e4 e5 k0 k1 k2 k3 k4 k5 k6 k7 k8 k9 k10 (fun q hq => keep q (hs' q (.tail _ (.tail _ hq))) (ndk q hq) (nlf q hq)) (fun q hq => hl' q (List.mem_filter.mp hq).1) (fun q hq => hm' q (List.mem_filter.mp hq).1) (fun q hq => (of_decide_eq_true (List.mem_filter.mp hq).2).1) (fun q hq => (of_decide_eq_true (List.mem_filter.mp hq).2).2) (keep _ hpl (Nat.ne_of_gt ldk) (Nat.ne_of_gt llf)) (fun q hq => hlt q (.tail _ (.tail _ hq))) F' (News.order N' fun q hq => ?_)
  rcases tbl_iff.mp hq with h | h
  · exact tbl_iff.mpr (.inl h)
  · refine tbl_iff.mpr (.inr ?_)
    rcases List.mem_cons.mp h with h | h
    · exact h ▸ .head _
    · rcases List.mem_cons.mp h with h | h
      · exact h ▸ .tail _ (hs' _ (.head _))
      · rcases List.mem_cons.mp h with h | h
        · exact h ▸ .tail _ (hs' _ (.tail _ (.head _)))
        · exact .tail _ (List.mem_filter.mp h).1
set_option maxHeartbeats 4000000 in
theorem c_runB_goto {p0 p1 p2 p3 p4 p5 p6 p7 p8 p9 p10 : Array Value} {nw : List (Addr × Obj)} (HC : CodeAll tCs h₀) (ht0 : TabOk p0.toList) (ht1 : TabOk p1.toList) (ht2 : TabOk p2.toList) (ht3 : TabOk p3.toList) (ht4 : TabOk p4.toList) (ht5 : TabOk p5.toList) (ht6 : TabOk p6.toList) (ht7 : TabOk p7.toList) (ht8 : TabOk p8.toList) (ht9 : TabOk p9.toList) (ht10 : TabOk p10.toList) (hlow : ∀ q ∈ nw, NT q.1) {vw : Addr} {hs : List Value} {g0 g1 : Value} (V : ViewIn w nw vw hs g0 g1) {mo md : Addr} {sep : Value} {tp : Int} {tr tt tw k1 k2 k3 k4 k5 k6 k7 k8 k9 k10 k11 k12 k13 k14 : Tok} (hmo : (mo, instObj 566 md) ∈ nw) (hmd : ∀ q ∈ nw, q.1 ≠ md) (hm9 : ltN9 md) {q : Addr} {r : Int} {t0 t1 : Tok} (hp : (q, tup [.int r t0, .int 0 t1]) ∈ nw) (q0 : tp ≤ r) (q1 : r < tp + 2) (z0 : 0 ≤ tp) (z1 : tp ≤ hs.length) {dk lf : Addr} {o : Obj} {xs : List Value} {k : Nat} (NTdk : NT dk) (NTlf : NT lf) (hld : @LT.lt Nat _ lf dk) (mdk : md ≠ dk) (mlf : md ≠ lf) (ndk : ∀ q ∈ nw, q.1 ≠ dk) (nlf : ∀ q ∈ nw, q.1 ≠ lf) {kt tb : Tok} {b : Int} (b0 : -1 ≤ b) (b1 : b < 9)
  (B : Below A₀ base outer h₀) (F : Fr h₀ L s.heap m) (X : (hK w.params).In h₀) (N : News h₀ L s.heap (((740 : Addr), tabObj p0) :: ((698 : Addr), tabObj p1) :: ((726 : Addr), tabObj p2) :: ((733 : Addr), tabObj p3) :: ((754 : Addr), tabObj p4) :: ((878 : Addr), tabObj p5) :: ((899 : Addr), tabObj p6) :: ((836 : Addr), tabObj p7) :: ((871 : Addr), tabObj p8) :: ((768 : Addr), tabObj p9) :: ((796 : Addr), tabObj p10) :: (md, modeD w vw sep tp q tr tt tw k1 k2 k3 k4 k5 k6 k7 k8 k9 k10 k11 k12 k13 k14) :: (dk, o) :: (lf, listOf xs.toArray k) :: nw)) (T : Top p loose mean mg mb h₀) (hk : cs.kind = .function) (hdp : dp + 140 < recursionLimit) (hun : un + 1400 < cLine)
  (hret : ∀ (tp' r' : Int) (pl' : Addr) (tt' tw' a1 a2 : Tok) (nw' : List (Addr × Obj)) (r0 r1 r2 r3 r4 r5 r6 r7 r8 r9 r10 : Array Value) h' tk', tp' = max 0 (hs.length - max 0 b) → tp' ≤ r' → r' < tp' + 2 → 0 ≤ r' → r' < hs.length + 2 → TabOk r0.toList → TabOk r1.toList → TabOk r2.toList → TabOk r3.toList → TabOk r4.toList → TabOk r5.toList → TabOk r6.toList → TabOk r7.toList → TabOk r8.toList → TabOk r9.toList → TabOk r10.toList → (∀ q ∈ nw, q ∈ nw') → (∀ q ∈ nw', NT q.1) → (∀ q ∈ nw', q.1 ≠ md) → (∀ q ∈ nw', q.1 ≠ dk) → (∀ q ∈ nw', q.1 ≠ lf) → (pl', tup [.int r' a1, .int 0 a2]) ∈ nw' → (∀ q ∈ nw, q.1 < pl') → Fr h₀ L h' m → News h₀ L h' (((740 : Addr), tabObj r0) :: ((698 : Addr), tabObj r1) :: ((726 : Addr), tabObj r2) :: ((733 : Addr), tabObj r3) :: ((754 : Addr), tabObj r4) :: ((878 : Addr), tabObj r5) :: ((899 : Addr), tabObj r6) :: ((836 : Addr), tabObj r7) :: ((871 : Addr), tabObj r8) :: ((768 : Addr), tabObj r9) :: ((796 : Addr), tabObj r10) :: (md, modeD w vw sep tp' pl' tr tt' tw' k1 k2 k3 k4 k5 k6 k7 k8 k9 k10 k11 k12 k13 k14) :: (dk, o) :: (lf, listOf xs.toArray k) :: nw') → Q .none { s with heap := h', toks := tk' }) :
  wpAny (model PySem.Challenge.rw_og0290_01.row.prog w) (ktrTop dp un gd cn cs L a ccd cl outer) (call (.ref 563) [.ref mo, .bytes #[103, 111, 116, 111, 45, 108, 105, 110, 101] kt, .int b tb]) Q E s := by
  have hlow' : ∀ q ∈ (dk, o) :: (lf, listOf xs.toArray k) :: nw, NT q.1 := List.forall_mem_cons.mpr ⟨NTdk, List.forall_mem_cons.mpr ⟨NTlf, hlow⟩⟩
  have hmd' : ∀ q ∈ (dk, o) :: (lf, listOf xs.toArray k) :: nw, q.1 ≠ md := List.forall_mem_cons.mpr ⟨mdk.symm, List.forall_mem_cons.mpr ⟨mlf.symm, hmd⟩⟩
  refine c_run_goto (nw := (dk, o) :: (lf, listOf xs.toArray k) :: nw) HC ht0 ht1 ht2 ht3 ht4 ht5 ht6 ht7 ht8 ht9 ht10 hlow' (V.mono fun q hq => .tail _ (.tail _ hq)) (.tail _ (.tail _ hmo)) hmd' hm9 (.tail _ (.tail _ hp)) q0 q1 z0 z1 b0 b1 B F X N T hk hdp hun fun tp' r' pl' tt' tw' a1 a2 nw' r0 r1 r2 r3 r4 r5 r6 r7 r8 r9 r10 h' tk' e1 e2 e3 e4 e5 k0 k1 k2 k3 k4 k5 k6 k7 k8 k9 k10 hs' hl' hm' hpl hmp hlt F' N' => ?_
  have keep : ∀ q ∈ nw', q.1 ≠ dk → q.1 ≠ lf → q ∈ nw'.filter (fun q => decide (q.1 ≠ dk ∧ q.1 ≠ lf)) := fun q hq h1 h2 => List.mem_filter.mpr ⟨hq, decide_eq_true ⟨h1, h2⟩⟩
  have ldk := hlt _ (.head _)
  have llf := hlt _ (.tail _ (.head _))
  refine hret tp' r' pl' tt' tw' a1 a2 (nw'.filter (fun q => decide (q.1 ≠ dk ∧ q.1 ≠ lf))) r0 r1 r2 r3 r4 r5 r6 r7 r8 r9 r10 h' tk' e1 e2 e3 e4 e5 k0 k1 k2 k3 k4 k5 k6 k7 k8 k9 k10 (fun q hq => keep q (hs' q (.tail _ (.tail _ hq))) (ndk q hq) (nlf q hq)) (fun q hq => hl' q (List.mem_filter.mp hq).1) (fun q hq => hm' q (List.mem_filter.mp hq).1) (fun q hq => (of_decide_eq_true (List.mem_filter.mp hq).2).1) (fun q hq => (of_decide_eq_true (List.mem_filter.mp hq).2).2) (keep _ hpl (Nat.ne_of_gt ldk) (Nat.ne_of_gt llf)) (fun q hq => hlt q (.tail _ (.tail _ hq))) F' (News.order N' fun q hq => ?_)
  rcases tbl_iff.mp hq with h | h
  · exact tbl_iff.mpr (.inl h)
  · refine tbl_iff.mpr (.inr ?_)
    rcases List.mem_cons.mp h with h | h
    · exact h ▸ .head _
    · rcases List.mem_cons.mp h with h | h
      · exact h ▸ .tail _ (hs' _ (.head _))
      · rcases List.mem_cons.mp h with h | h
        · exact h ▸ .tail _ (hs' _ (.tail _ (.head _)))
        · exact .tail _ (List.mem_filter.mp h).1
/-! ## The law's second loop -/
abbrev Led := List (Addr × Obj)
/-- told by what follows from it: small terms -/
def J2 (w : World) (nk : Led) (vw : Addr) (hs : List Value) (g0 g1 : Value) (mo md dk lf : Addr) (sep : Value) (tr k1 k2 k3 k4 k5 k6 k7 k8 k9 k10 k11 k12 k13 k14 : Tok) (m₀ : Str → Option Value) (m : Str → Option Value) (nx : List (Addr × Obj)) : Prop :=
  ∀ P : List (Addr × Obj) → Prop, (∀ (p0 p1 p2 p3 p4 p5 p6 p7 p8 p9 p10 : Array Value) (o : Obj) (j3 : Tok) (xs : List Value) (n k : Nat) (mx tp r : Int) (q : Addr) (t0 t1 tt tw : Tok) (nw : List (Addr × Obj)) (ta : Tok), TabOk p0.toList → TabOk p1.toList → TabOk p2.toList → TabOk p3.toList → TabOk p4.toList → TabOk p5.toList → TabOk p6.toList → TabOk p7.toList → TabOk p8.toList → TabOk p9.toList → TabOk p10.toList → Obj.IsDictOf (PySem.strKind pw w) o [(Str.ofString "left", Value.ref lf), (Str.ofString "mixed", Value.int mx j3)] → Small xs n → n ≤ 20 → 0 ≤ mx → mx < 1000003 → ViewIn w nw vw hs g0 g1 → (mo, instObj 566 md) ∈ nw → (q, tup [Value.int r t0, Value.int 0 t1]) ∈ nw → tp ≤ r → r < tp + 2 → 0 ≤ tp → tp ≤ hs.length → (∀ q ∈ nw, NT q.1) → (∀ q ∈ nw, q.1 ≠ md) → (∀ q ∈ nw, q.1 ≠ dk) → (∀ q ∈ nw, q.1 ≠ lf) → (∀ x ∈ nk, x ∈ nw) → (∀ y, y ≠ Str.ofString "above" → y ≠ Str.ofString "way" → y ≠ Str.ofString "number" → y ≠ Str.ofString "go" → m y = m₀ y) → m (Str.ofString "above") = some (.int (hs.length - tp) ta) → P (((740 : Addr), tabObj p0) :: ((698 : Addr), tabObj p1) :: ((726 : Addr), tabObj p2) :: ((733 : Addr), tabObj p3) :: ((754 : Addr), tabObj p4) :: ((878 : Addr), tabObj p5) :: ((899 : Addr), tabObj p6) :: ((836 : Addr), tabObj p7) :: ((871 : Addr), tabObj p8) :: ((768 : Addr), tabObj p9) :: ((796 : Addr), tabObj p10) :: (md, modeD w vw sep tp q tr tt tw k1 k2 k3 k4 k5 k6 k7 k8 k9 k10 k11 k12 k13 k14) :: (dk, o) :: (lf, listOf xs.toArray k) :: nw)) → P nx
theorem J2.mk {w : World} {nk : Led} {vw : Addr} {hs : List Value} {g0 g1 : Value} {mo md dk lf : Addr} {sep : Value} {tr k1 k2 k3 k4 k5 k6 k7 k8 k9 k10 k11 k12 k13 k14 : Tok} {m₀ m : Str → Option Value} {p0 p1 p2 p3 p4 p5 p6 p7 p8 p9 p10 : Array Value} {o : Obj} {j3 : Tok} {xs : List Value} {n k : Nat} {mx tp r : Int} {q : Addr} {t0 t1 tt tw : Tok} {nw : List (Addr × Obj)} {ta : Tok} (a0 : TabOk p0.toList) (a1 : TabOk p1.toList) (a2 : TabOk p2.toList) (a3 : TabOk p3.toList) (a4 : TabOk p4.toList) (a5 : TabOk p5.toList) (a6 : TabOk p6.toList) (a7 : TabOk p7.toList) (a8 : TabOk p8.toList) (a9 : TabOk p9.toList) (a10 : TabOk p10.toList) (a11 : Obj.IsDictOf (PySem.strKind pw w) o [(Str.ofString "left", Value.ref lf), (Str.ofString "mixed", Value.int mx j3)]) (a12 : Small xs n) (a13 : n ≤ 20) (a14 : 0 ≤ mx) (a15 : mx < 1000003) (a16 : ViewIn w nw vw hs g0 g1) (a17 : (mo, instObj 566 md) ∈ nw) (a18 : (q, tup [Value.int r t0, Value.int 0 t1]) ∈ nw) (a19 : tp ≤ r) (a20 : r < tp + 2) (a21 : 0 ≤ tp) (a22 : tp ≤ hs.length) (a23 : (∀ q ∈ nw, NT q.1)) (a24 : (∀ q ∈ nw, q.1 ≠ md)) (a25 : (∀ q ∈ nw, q.1 ≠ dk)) (a26 : (∀ q ∈ nw, q.1 ≠ lf)) (a27 : (∀ x ∈ nk, x ∈ nw)) (hm : (∀ y, y ≠ Str.ofString "above" → y ≠ Str.ofString "way" → y ≠ Str.ofString "number" → y ≠ Str.ofString "go" → m y = m₀ y)) (ha : m (Str.ofString "above") = some (.int (hs.length - tp) ta)) : J2 w nk vw hs g0 g1 mo md dk lf sep tr k1 k2 k3 k4 k5 k6 k7 k8 k9 k10 k11 k12 k13 k14 m₀ m (((740 : Addr), tabObj p0) :: ((698 : Addr), tabObj p1) :: ((726 : Addr), tabObj p2) :: ((733 : Addr), tabObj p3) :: ((754 : Addr), tabObj p4) :: ((878 : Addr), tabObj p5) :: ((899 : Addr), tabObj p6) :: ((836 : Addr), tabObj p7) :: ((871 : Addr), tabObj p8) :: ((768 : Addr), tabObj p9) :: ((796 : Addr), tabObj p10) :: (md, modeD w vw sep tp q tr tt tw k1 k2 k3 k4 k5 k6 k7 k8 k9 k10 k11 k12 k13 k14) :: (dk, o) :: (lf, listOf xs.toArray k) :: nw) := fun _ z => z p0 p1 p2 p3 p4 p5 p6 p7 p8 p9 p10 o j3 xs n k mx tp r q t0 t1 tt tw nw ta a0 a1 a2 a3 a4 a5 a6 a7 a8 a9 a10 a11 a12 a13 a14 a15 a16 a17 a18 a19 a20 a21 a22 a23 a24 a25 a26 a27 hm ha
theorem J2.out {w : World} {nk : Led} {vw : Addr} {hs : List Value} {g0 g1 : Value} {mo md dk lf : Addr} {sep : Value} {tr k1 k2 k3 k4 k5 k6 k7 k8 k9 k10 k11 k12 k13 k14 : Tok} {m₀ m : Str → Option Value} {nx : List (Addr × Obj)} (h : J2 w nk vw hs g0 g1 mo md dk lf sep tr k1 k2 k3 k4 k5 k6 k7 k8 k9 k10 k11 k12 k13 k14 m₀ m nx) {P : Prop} (z : ∀ (p0 p1 p2 p3 p4 p5 p6 p7 p8 p9 p10 : Array Value) (o : Obj) (j3 : Tok) (xs : List Value) (n k : Nat) (mx tp r : Int) (q : Addr) (t0 t1 tt tw : Tok) (nw : List (Addr × Obj)) (ta : Tok), nx = ((740 : Addr), tabObj p0) :: ((698 : Addr), tabObj p1) :: ((726 : Addr), tabObj p2) :: ((733 : Addr), tabObj p3) :: ((754 : Addr), tabObj p4) :: ((878 : Addr), tabObj p5) :: ((899 : Addr), tabObj p6) :: ((836 : Addr), tabObj p7) :: ((871 : Addr), tabObj p8) :: ((768 : Addr), tabObj p9) :: ((796 : Addr), tabObj p10) :: (md, modeD w vw sep tp q tr tt tw k1 k2 k3 k4 k5 k6 k7 k8 k9 k10 k11 k12 k13 k14) :: (dk, o) :: (lf, listOf xs.toArray k) :: nw → TabOk p0.toList → TabOk p1.toList → TabOk p2.toList → TabOk p3.toList → TabOk p4.toList → TabOk p5.toList → TabOk p6.toList → TabOk p7.toList → TabOk p8.toList → TabOk p9.toList → TabOk p10.toList → Obj.IsDictOf (PySem.strKind pw w) o [(Str.ofString "left", Value.ref lf), (Str.ofString "mixed", Value.int mx j3)] → Small xs n → n ≤ 20 → 0 ≤ mx → mx < 1000003 → ViewIn w nw vw hs g0 g1 → (mo, instObj 566 md) ∈ nw → (q, tup [Value.int r t0, Value.int 0 t1]) ∈ nw → tp ≤ r → r < tp + 2 → 0 ≤ tp → tp ≤ hs.length → (∀ q ∈ nw, NT q.1) → (∀ q ∈ nw, q.1 ≠ md) → (∀ q ∈ nw, q.1 ≠ dk) → (∀ q ∈ nw, q.1 ≠ lf) → (∀ x ∈ nk, x ∈ nw) → (∀ y, y ≠ Str.ofString "above" → y ≠ Str.ofString "way" → y ≠ Str.ofString "number" → y ≠ Str.ofString "go" → m y = m₀ y) → m (Str.ofString "above") = some (.int (hs.length - tp) ta) → P) : P :=
  h (fun l => nx = l → P) (fun p0 p1 p2 p3 p4 p5 p6 p7 p8 p9 p10 o j3 xs n k mx tp r q t0 t1 tt tw nw ta a0 a1 a2 a3 a4 a5 a6 a7 a8 a9 a10 a11 a12 a13 a14 a15 a16 a17 a18 a19 a20 a21 a22 a23 a24 a25 a26 a27 hm ha e => z p0 p1 p2 p3 p4 p5 p6 p7 p8 p9 p10 o j3 xs n k mx tp r q t0 t1 tt tw nw ta e a0 a1 a2 a3 a4 a5 a6 a7 a8 a9 a10 a11 a12 a13 a14 a15 a16 a17 a18 a19 a20 a21 a22 a23 a24 a25 a26 a27 hm ha) rfl
theorem stB_end {w : World} {nk : Led} {vw : Addr} {hs : List Value} {g0 g1 : Value} {mo md dk lf : Addr} {sep : Value} {tr k1 k2 k3 k4 k5 k6 k7 k8 k9 k10 k11 k12 k13 k14 : Tok} {m₀ M : Str → Option Value} {h₀ h' : Heap} {L : Addr} {s₁ : Shared} {tk : Nat} {own : List (Addr × Obj)} {p0 p1 p2 p3 p4 p5 p6 p7 p8 p9 p10 : Array Value} {om o : Obj} {L0 : Obj} {nw : List (Addr × Obj)} {z0 z1 z2 z3 z4 z5 z6 z7 z8 z9 z10 : Array Value} {o' : Obj} {j3' : Tok} {xs' : List Value} {n' k' : Nat} {mx' tp' r' : Int} {q' : Addr} {t0' t1' tt' tw' : Tok} {nw' : List (Addr × Obj)} {ta' : Tok}
    (hoff : TbOff own (((740 : Addr), tabObj p0) :: ((698 : Addr), tabObj p1) :: ((726 : Addr), tabObj p2) :: ((733 : Addr), tabObj p3) :: ((754 : Addr), tabObj p4) :: ((878 : Addr), tabObj p5) :: ((899 : Addr), tabObj p6) :: ((836 : Addr), tabObj p7) :: ((871 : Addr), tabObj p8) :: ((768 : Addr), tabObj p9) :: ((796 : Addr), tabObj p10) :: (md, om) :: (dk, o) :: (lf, L0) :: nw)) (V : ViewIn w nw vw hs g0 g1) (hmo : (mo, instObj 566 md) ∈ nw) (hnk : ∀ x ∈ nk, x ∈ nw) (hsub : ∀ x ∈ nw ++ own, x ∈ nw') (hlt : ∀ x ∈ nw ++ own, x.1 < q')
    (F : Fr h₀ L h' M) (hM : ∀ y, y ≠ Str.ofString "above" → y ≠ Str.ofString "way" → y ≠ Str.ofString "number" → y ≠ Str.ofString "go" → M y = m₀ y) (hab : M (Str.ofString "above") = some (.int (hs.length - tp') ta')) (N : News h₀ L h' (((740 : Addr), tabObj z0) :: ((698 : Addr), tabObj z1) :: ((726 : Addr), tabObj z2) :: ((733 : Addr), tabObj z3) :: ((754 : Addr), tabObj z4) :: ((878 : Addr), tabObj z5) :: ((899 : Addr), tabObj z6) :: ((836 : Addr), tabObj z7) :: ((871 : Addr), tabObj z8) :: ((768 : Addr), tabObj z9) :: ((796 : Addr), tabObj z10) :: (md, modeD w vw sep tp' q' tr tt' tw' k1 k2 k3 k4 k5 k6 k7 k8 k9 k10 k11 k12 k13 k14) :: (dk, o') :: (lf, listOf xs'.toArray k') :: nw'))
    (f0 : TabOk z0.toList) (f1 : TabOk z1.toList) (f2 : TabOk z2.toList) (f3 : TabOk z3.toList) (f4 : TabOk z4.toList) (f5 : TabOk z5.toList) (f6 : TabOk z6.toList) (f7 : TabOk z7.toList) (f8 : TabOk z8.toList) (f9 : TabOk z9.toList) (f10 : TabOk z10.toList) (f11 : Obj.IsDictOf (PySem.strKind pw w) o' [(Str.ofString "left", Value.ref lf), (Str.ofString "mixed", Value.int mx' j3')]) (f12 : Small xs' n') (f13 : n' ≤ 20) (f14 : 0 ≤ mx') (f15 : mx' < 1000003) (f16 : (q', tup [Value.int r' t0', Value.int 0 t1']) ∈ nw') (f17 : tp' ≤ r') (f18 : r' < tp' + 2) (f19 : 0 ≤ tp') (f20 : tp' ≤ hs.length) (f21 : (∀ x ∈ nw', NT x.1)) (f22 : (∀ x ∈ nw', x.1 ≠ md)) (f23 : (∀ x ∈ nw', x.1 ≠ dk)) (f24 : (∀ x ∈ nw', x.1 ≠ lf)) :
    TbEnd h₀ L (J2 w nk vw hs g0 g1 mo md dk lf sep tr k1 k2 k3 k4 k5 k6 k7 k8 k9 k10 k11 k12 k13 k14 m₀) own s₁ { s₁ with heap := h', toks := tk } := by
  have keep : ∀ x ∈ nw', x.1 ∉ own.map (·.1) → x ∈ nw'.filter (fun x => decide (x.1 ∉ own.map (·.1))) := fun x hx h => List.mem_filter.mpr ⟨hx, decide_eq_true h⟩
  have old : ∀ x ∈ nw, x ∈ nw'.filter (fun x => decide (x.1 ∉ own.map (·.1))) := fun x hx => keep x (hsub x (List.mem_append_left _ hx)) fun h => by
    obtain ⟨z, hz, e⟩ := List.mem_map.mp h
    exact hoff z hz x (tbl_iff.mpr (.inr (.tail _ (.tail _ (.tail _ hx))))) e
  refine ⟨h', tk, M, _, ((740 : Addr), tabObj z0) :: ((698 : Addr), tabObj z1) :: ((726 : Addr), tabObj z2) :: ((733 : Addr), tabObj z3) :: ((754 : Addr), tabObj z4) :: ((878 : Addr), tabObj z5) :: ((899 : Addr), tabObj z6) :: ((836 : Addr), tabObj z7) :: ((871 : Addr), tabObj z8) :: ((768 : Addr), tabObj z9) :: ((796 : Addr), tabObj z10) :: (md, modeD w vw sep tp' q' tr tt' tw' k1 k2 k3 k4 k5 k6 k7 k8 k9 k10 k11 k12 k13 k14) :: (dk, o') :: (lf, listOf xs'.toArray k') :: nw'.filter (fun x => decide (x.1 ∉ own.map (·.1))), rfl, F, N, fun x hx => ?_, fun x hx => ?_, fun z hz x hx => ?_, J2.mk (f0) (f1) (f2) (f3) (f4) (f5) (f6) (f7) (f8) (f9) (f10) (f11) (f12) (f13) (f14) (f15) (V.mono old) (old _ hmo) (keep _ f16 (fun h => by obtain ⟨z, hz, e⟩ := List.mem_map.mp h; exact Nat.lt_irrefl _ (e ▸ hlt z (List.mem_append_right _ hz)))) (f17) (f18) (f19) (f20) (fun x hx => f21 x (List.mem_filter.mp hx).1) (fun x hx => f22 x (List.mem_filter.mp hx).1) (fun x hx => f23 x (List.mem_filter.mp hx).1) (fun x hx => f24 x (List.mem_filter.mp hx).1) (fun x hx => old x (hnk x hx)) hM hab⟩
  · rcases tbl_iff.mp hx with h | h
    · exact tbl_iff.mpr (.inl h)
    · refine tbl_iff.mpr (.inr ?_)
      rcases List.mem_cons.mp h with h | h
      · exact h ▸ .head _
      · rcases List.mem_cons.mp h with h | h
        · exact h ▸ .tail _ (.head _)
        · rcases List.mem_cons.mp h with h | h
          · exact h ▸ .tail _ (.tail _ (.head _))
          · exact .tail _ (.tail _ (.tail _ (List.mem_filter.mp h).1))
  · exact tbl_iff.mpr (.inr (.tail _ (.tail _ (.tail _ (hsub x (List.mem_append_right _ hx))))))
  · rcases tbl_iff.mp hx with h | h
    · obtain ⟨y, hy, e⟩ := tbl_at h
      exact e ▸ hoff z hz y (tbl_iff.mpr (.inl hy))
    · rcases List.mem_cons.mp h with h | h
      · exact h ▸ hoff z hz (md, om) (tbl_iff.mpr (.inr (.head _)))
      · rcases List.mem_cons.mp h with h | h
        · exact h ▸ hoff z hz (dk, o) (tbl_iff.mpr (.inr (.tail _ (.head _))))
        · rcases List.mem_cons.mp h with h | h
          · exact h ▸ hoff z hz (lf, L0) (tbl_iff.mpr (.inr (.tail _ (.tail _ (.head _)))))
          · exact fun e => (of_decide_eq_true (List.mem_filter.mp h).2) (List.mem_map.mpr ⟨z, hz, e⟩)
end
section
/-! ## The law's first loop -/
def Step1 (w : World) (h₀ : Heap) (L hl gl : Addr) (many : Nat) (m₀ : Str → Option Value) (i : Nat) (hs : List Value) (a0 a1 : Value) (nz : List (Addr × Obj)) (s₁ : Shared) (f : Flow) (s₂ : Shared) : Prop :=
  ∀ P : Flow → Shared → Prop, (∀ (h' : Heap) (tk : Nat) (M : Str → Option Value) (v : Value) (hs' : List Value) (a0' a1' : Value) (kh' kg' : Nat) (new1 : List (Addr × Obj)), Fr h₀ L h' M → (∀ y, y ≠ Str.ofString "number" → y ≠ Str.ofString "line" → M y = m₀ y) → News h₀ L h' ((hl, listOf hs'.toArray kh') :: (gl, listOf [a0', a1'].toArray kg') :: (new1 ++ nz)) → (∀ x ∈ new1, hl < x.1 ∧ gl < x.1 ∧ ∀ y ∈ nz, y.1 < x.1) → LineIn w new1 v i → ((i < many ∧ hs' = hs ++ [v] ∧ a0' = a0 ∧ a1' = a1) ∨ (i = many ∧ hs' = hs ∧ a0' = v ∧ a1' = a1) ∨ (i = many + 1 ∧ hs' = hs ∧ a0' = a0 ∧ a1' = v)) → P .next { s₁ with heap := h', toks := tk }) → P f s₂
theorem Step1.all {w : World} {h₀ : Heap} {L hl gl : Addr} {many : Nat} {m₀ : Str → Option Value} {i : Nat} {hs : List Value} {a0 a1 : Value} {nz : List (Addr × Obj)} {s₁ : Shared} {P : Flow → Shared → Prop} (z : ∀ (h' : Heap) (tk : Nat) (M : Str → Option Value) (v : Value) (hs' : List Value) (a0' a1' : Value) (kh' kg' : Nat) (new1 : List (Addr × Obj)), Fr h₀ L h' M → (∀ y, y ≠ Str.ofString "number" → y ≠ Str.ofString "line" → M y = m₀ y) → News h₀ L h' ((hl, listOf hs'.toArray kh') :: (gl, listOf [a0', a1'].toArray kg') :: (new1 ++ nz)) → (∀ x ∈ new1, hl < x.1 ∧ gl < x.1 ∧ ∀ y ∈ nz, y.1 < x.1) → LineIn w new1 v i → ((i < many ∧ hs' = hs ++ [v] ∧ a0' = a0 ∧ a1' = a1) ∨ (i = many ∧ hs' = hs ∧ a0' = v ∧ a1' = a1) ∨ (i = many + 1 ∧ hs' = hs ∧ a0' = a0 ∧ a1' = v)) → P .next { s₁ with heap := h', toks := tk }) : ∀ f s₂, Step1 w h₀ L hl gl many m₀ i hs a0 a1 nz s₁ f s₂ → P f s₂ := fun _ _ h => h P z
theorem rangeSize_up (n : Nat) : Builtin.Range.rangeSize 0 ((n : Int) + 2) 1 = ((n + 2 : Nat) : Int) := by
  rw [rangeSize_nat]; omega
theorem law_loop1 {prog : Program} {w : World} {A : Around} {E : Value → Shared → Prop} {s : Shared} {env : Env} {h₀ : Heap} {body : List Stmt} {Q : Flow → Shared → Prop} {r hl gl : Addr} {b : Int} {t₀ u₀ v₀ : Tok} {many kg : Nat} {m₀ : Str → Option Value} {nw₀ news : List (Addr × Obj)} {a0 a1 : Value}
    (hh : A.handled = none) (hr : IsRange s.heap r 0 b 1 t₀ u₀ v₀) (hb : b = many + 2) (hmany : many ≤ 6) (F : Fr h₀ env.locals s.heap m₀) (N : News h₀ env.locals s.heap news) (hsub : ∀ q ∈ (hl, listOf ([] : List Value).toArray 0) :: (gl, listOf [a0, a1].toArray kg) :: nw₀, q ∈ news)
    (nhl : ∀ p ∈ nw₀, p.1 ≠ hl) (ngl : ∀ p ∈ nw₀, p.1 ≠ gl)
    (turn : ∀ (i : Nat) (tn : Tok) (u1 : Option Value) (hs : List Value) (a0 a1 : Value) (kh kg : Nat) (nz : List (Addr × Obj)) (h : Heap) (tk : Nat), i < many + 2 → hs.length = min i many → (∀ p ∈ nw₀, p ∈ nz) → (∀ p ∈ nz, p.1 ≠ hl) → (∀ p ∈ nz, p.1 ≠ gl) →
      Fr h₀ env.locals h (fun y => if y = Str.ofString "number" then some (.int i tn) else if y = Str.ofString "line" then u1 else m₀ y) → News h₀ env.locals h ((hl, listOf hs.toArray kh) :: (gl, listOf [a0, a1].toArray kg) :: nz) →
      wpAny (model prog w) A (execs body env) (Step1 w h₀ env.locals hl gl many m₀ i hs a0 a1 nz { s with heap := h, toks := tk }) E { s with heap := h, toks := tk })
    (done : ∀ (m : Str → Option Value) (hs : List Value) (a0 a1 : Value) (kh kg : Nat) (new : List (Addr × Obj)) (h : Heap) (tk : Nat), hs.length = many → (∀ (j : Nat) (v : Value), hs[j]? = some v → LineIn w new v j) → LineIn w new a0 many → LineIn w new a1 (many + 1) → (∀ x ∈ new, hl < x.1 ∧ gl < x.1 ∧ ∀ y ∈ nw₀, y.1 < x.1) →
      (∀ y, y ≠ Str.ofString "number" → y ≠ Str.ofString "line" → m y = m₀ y) → Fr h₀ env.locals h m → News h₀ env.locals h ((hl, listOf hs.toArray kh) :: (gl, listOf [a0, a1].toArray kg) :: (new ++ nw₀)) → Q .next { s with heap := h, toks := tk }) :
    wpAny (model prog w) A (pyIter (.ref r)) (fun it s₂ => LoopAtV prog w A h₀ env (Str.ofString "number") body Q E it s₂) E s := by
  refine tbr_invG (n := many + 2) (fun i m nx => ∃ (hs : List Value) (a0 a1 : Value) (kh kg : Nat) (new : List (Addr × Obj)), nx = (hl, listOf hs.toArray kh) :: (gl, listOf [a0, a1].toArray kg) :: (new ++ nw₀) ∧ (∀ x ∈ new, hl < x.1 ∧ gl < x.1 ∧ ∀ y ∈ nw₀, y.1 < x.1) ∧ hs.length = min i many ∧ (∀ (j : Nat) (v : Value), hs[j]? = some v → LineIn w new v j) ∧ (many < i → LineIn w new a0 many) ∧ (many + 1 < i → LineIn w new a1 (many + 1)) ∧ ∀ y, y ≠ Str.ofString "number" → y ≠ Str.ofString "line" → m y = m₀ y)
    hh hr ?sm ?sz F (News.order N hsub) ⟨[], a0, a1, 0, kg, [], rfl, (fun x hx => nomatch hx), (by simp), (fun j v e => by simp at e), (fun h => absurd h (Nat.not_lt_zero _)), (fun h => absurd h (Nat.not_lt_zero _)), (fun _ _ _ => rfl)⟩ ?turn ?done
  case sm => subst hb; exact small_one (by omega) (by omega) (by omega) (by omega)
  case sz => subst hb; exact rangeSize_up many
  case turn =>
    rintro i k t m₁ nx h tk own hk hoff ⟨hs, a0, a1, kh, kg, new, rfl, hnew, hlen, hlines, h0, h1, hm⟩ F₁ N₁
    have hi : i < many + 2 := by
      have := (List.getElem?_eq_some_iff.mp hk).1
      simpa [rangeKs] using this
    have hk' : k = (i : Int) := by
      have e : (rangeKs 0 (many + 2))[i]? = some ((0 : Int) + (i : Int)) := by simp [rangeKs, hi]
      rw [e] at hk
      have := Option.some.inj hk
      omega
    subst hk'
    have oh : ∀ z ∈ own, z.1 ≠ hl := fun z hz => hoff z hz _ (.head _)
    have og : ∀ z ∈ own, z.1 ≠ gl := fun z hz => hoff z hz _ (.tail _ (.head _))
    have nn : ∀ p ∈ (new ++ nw₀) ++ own, p.1 ≠ hl ∧ p.1 ≠ gl := fun p hp => by
      rcases List.mem_append.mp hp with q | q
      · rcases List.mem_append.mp q with q | q
        · exact ⟨Nat.ne_of_gt (hnew p q).1, Nat.ne_of_gt (hnew p q).2.1⟩
        · exact ⟨nhl p q, ngl p q⟩
      · exact ⟨oh p q, og p q⟩
    refine wpAny_mono (turn i t (m₁ (Str.ofString "line")) hs a0 a1 kh kg ((new ++ nw₀) ++ own) h tk hi hlen (fun p hp => List.mem_append_left _ (List.mem_append_right _ hp)) (fun p hp => (nn p hp).1) (fun p hp => (nn p hp).2) (Fr.same F₁ fun y => ?_) N₁) (Step1.all fun h' tk' M v hs' a0' a1' kh' kg' new1 F' hM N' hn1 hv hcase => ?_) fun _ _ e => e
    · by_cases q1 : y = Str.ofString "number"
      · simp only [if_pos q1]
      · by_cases q2 : y = Str.ofString "line"
        · simp only [if_neg q1, if_pos q2]; rw [q2]
        · simp only [if_neg q1, if_neg q2]; exact hm y q1 q2
    · have up : ∀ {v : Value} {n : Int}, LineIn w new v n → LineIn w (new1 ++ new) v n := fun l => l.mono fun _ h => List.mem_append_right _ h
      have vv : LineIn w (new1 ++ new) v i := hv.mono fun _ h => List.mem_append_left _ h
      refine ⟨h', tk', M, _, (hl, listOf hs'.toArray kh') :: (gl, listOf [a0', a1'].toArray kg') :: ((new1 ++ new) ++ nw₀), rfl, F', N', fun p hp => ?_, fun p hp => .tail _ (.tail _ (List.mem_append_right _ (List.mem_append_right _ hp))), fun z hz p hp => ?_, hs', a0', a1', kh', kg', new1 ++ new, rfl, fun x hx => ?_, ?_, ?_, ?_, ?_, hM⟩
      · rcases List.mem_cons.mp hp with e | hp
        · exact e ▸ .head _
        · rcases List.mem_cons.mp hp with e | hp
          · exact e ▸ .tail _ (.head _)
          · refine .tail _ (.tail _ ?_)
            rcases List.mem_append.mp hp with q | q
            · rcases List.mem_append.mp q with q | q
              · exact List.mem_append_left _ q
              · exact List.mem_append_right _ (List.mem_append_left _ (List.mem_append_left _ q))
            · exact List.mem_append_right _ (List.mem_append_left _ (List.mem_append_right _ q))
      · rcases List.mem_cons.mp hp with e | hp
        · exact e ▸ oh z hz
        · rcases List.mem_cons.mp hp with e | hp
          · exact e ▸ og z hz
          · rcases List.mem_append.mp hp with q | q
            · rcases List.mem_append.mp q with q | q
              · exact Nat.ne_of_lt ((hn1 p q).2.2 z (List.mem_append_right _ hz))
              · exact hoff z hz p (.tail _ (.tail _ (List.mem_append_left _ q)))
            · exact hoff z hz p (.tail _ (.tail _ (List.mem_append_right _ q)))
      · rcases List.mem_append.mp hx with q | q
        · exact ⟨(hn1 x q).1, (hn1 x q).2.1, fun y hy => (hn1 x q).2.2 y (List.mem_append_left _ (List.mem_append_right _ hy))⟩
        · exact hnew x q
      · rcases hcase with ⟨c, e, _⟩ | ⟨c, e, _⟩ | ⟨c, e, _⟩ <;> (rw [e]; (try rw [List.length_append, List.length_singleton]); omega)
      · intro j u hu
        rcases hcase with ⟨c, e, _⟩ | ⟨c, e, _⟩ | ⟨c, e, _⟩
        · rw [e] at hu
          rcases Nat.lt_or_ge j hs.length with q | q
          · rw [List.getElem?_append_left q] at hu
            exact up (hlines j u hu)
          · rw [List.getElem?_append_right q] at hu
            have hj : j - hs.length = 0 := by
              rcases Nat.eq_zero_or_pos (j - hs.length) with z0 | z0
              · exact z0
              · rw [List.getElem?_eq_none (by simp only [List.length_singleton]; omega)] at hu; cases hu
            rw [hj] at hu
            obtain rfl : v = u := by simpa using hu
            have : j = i := by omega
            exact this ▸ vv
        · rw [e] at hu; exact up (hlines j u hu)
        · rw [e] at hu; exact up (hlines j u hu)
      · intro hlt
        rcases hcase with ⟨c, _, e, _⟩ | ⟨c, _, e, _⟩ | ⟨c, _, e, _⟩
        · omega
        · rw [e]; exact c ▸ vv
        · rw [e]; exact up (h0 (by omega))
      · intro hlt
        rcases hcase with ⟨c, _, _, e⟩ | ⟨c, _, _, e⟩ | ⟨c, _, _, e⟩
        · omega
        · omega
        · rw [e]; have := vv; rw [c] at this; exact this
  case done =>
    rintro m₁ nx h tk ⟨hs, a0, a1, kh, kg, new, rfl, hnew, hlen, hlines, h0, h1, hm⟩ F₁ N₁
    exact done m₁ hs a0 a1 kh kg new h tk (by omega) hlines (h0 (by omega)) (h1 (by omega)) hnew hm F₁ N₁
end
section
def Step2 (w : World) (nk : Led) (vw : Addr) (hs : List Value) (g0 g1 : Value) (mo md dk lf : Addr) (sep : Value) (tr k1 k2 k3 k4 k5 k6 k7 k8 k9 k10 k11 k12 k13 k14 : Tok) (h₀ : Heap) (L : Addr) (m₀ : Str → Option Value) (nz : List (Addr × Obj)) (s₁ : Shared) (f : Flow) (s₂ : Shared) : Prop :=
  ∀ P : Flow → Shared → Prop, (∀ (h' : Heap) (tk : Nat) (M : Str → Option Value) (z0 z1 z2 z3 z4 z5 z6 z7 z8 z9 z10 : Array Value) (o' : Obj) (j3' : Tok) (xs' : List Value) (n' k' : Nat) (mx' tp' r' : Int) (q' : Addr) (t0' t1' tt' tw' : Tok) (nw' : List (Addr × Obj)) (ta' : Tok), Fr h₀ L h' M → (∀ y, y ≠ Str.ofString "above" → y ≠ Str.ofString "way" → y ≠ Str.ofString "number" → y ≠ Str.ofString "go" → M y = m₀ y) → M (Str.ofString "above") = some (.int (hs.length - tp') ta') → News h₀ L h' (((740 : Addr), tabObj z0) :: ((698 : Addr), tabObj z1) :: ((726 : Addr), tabObj z2) :: ((733 : Addr), tabObj z3) :: ((754 : Addr), tabObj z4) :: ((878 : Addr), tabObj z5) :: ((899 : Addr), tabObj z6) :: ((836 : Addr), tabObj z7) :: ((871 : Addr), tabObj z8) :: ((768 : Addr), tabObj z9) :: ((796 : Addr), tabObj z10) :: (md, modeD w vw sep tp' q' tr tt' tw' k1 k2 k3 k4 k5 k6 k7 k8 k9 k10 k11 k12 k13 k14) :: (dk, o') :: (lf, listOf xs'.toArray k') :: nw') → (∀ x ∈ nz, x ∈ nw') → (∀ x ∈ nz, x.1 < q') → TabOk z0.toList → TabOk z1.toList → TabOk z2.toList → TabOk z3.toList → TabOk z4.toList → TabOk z5.toList → TabOk z6.toList → TabOk z7.toList → TabOk z8.toList → TabOk z9.toList → TabOk z10.toList → Obj.IsDictOf (PySem.strKind pw w) o' [(Str.ofString "left", Value.ref lf), (Str.ofString "mixed", Value.int mx' j3')] → Small xs' n' → n' ≤ 20 → 0 ≤ mx' → mx' < 1000003 → (q', tup [Value.int r' t0', Value.int 0 t1']) ∈ nw' → tp' ≤ r' → r' < tp' + 2 → 0 ≤ tp' → tp' ≤ hs.length → (∀ x ∈ nw', NT x.1) → (∀ x ∈ nw', x.1 ≠ md) → (∀ x ∈ nw', x.1 ≠ dk) → (∀ x ∈ nw', x.1 ≠ lf) → P .next { s₁ with heap := h', toks := tk }) → P f s₂
theorem Step2.mk {w : World} {nk : Led} {vw : Addr} {hs : List Value} {g0 g1 : Value} {mo md dk lf : Addr} {sep : Value} {tr k1 k2 k3 k4 k5 k6 k7 k8 k9 k10 k11 k12 k13 k14 : Tok} {h₀ : Heap} {L : Addr} {m₀ : Str → Option Value} {nz : List (Addr × Obj)} {s₁ : Shared} {h' : Heap} {tk : Nat} {M : Str → Option Value} {z0 z1 z2 z3 z4 z5 z6 z7 z8 z9 z10 : Array Value} {o' : Obj} {j3' : Tok} {xs' : List Value} {n' k' : Nat} {mx' tp' r' : Int} {q' : Addr} {t0' t1' tt' tw' : Tok} {nw' : List (Addr × Obj)} {ta' : Tok} (c0 : Fr h₀ L h' M) (c1 : (∀ y, y ≠ Str.ofString "above" → y ≠ Str.ofString "way" → y ≠ Str.ofString "number" → y ≠ Str.ofString "go" → M y = m₀ y)) (c2 : M (Str.ofString "above") = some (.int (hs.length - tp') ta')) (c3 : News h₀ L h' (((740 : Addr), tabObj z0) :: ((698 : Addr), tabObj z1) :: ((726 : Addr), tabObj z2) :: ((733 : Addr), tabObj z3) :: ((754 : Addr), tabObj z4) :: ((878 : Addr), tabObj z5) :: ((899 : Addr), tabObj z6) :: ((836 : Addr), tabObj z7) :: ((871 : Addr), tabObj z8) :: ((768 : Addr), tabObj z9) :: ((796 : Addr), tabObj z10) :: (md, modeD w vw sep tp' q' tr tt' tw' k1 k2 k3 k4 k5 k6 k7 k8 k9 k10 k11 k12 k13 k14) :: (dk, o') :: (lf, listOf xs'.toArray k') :: nw')) (c4 : (∀ x ∈ nz, x ∈ nw')) (c5 : (∀ x ∈ nz, x.1 < q')) (c6 : TabOk z0.toList) (c7 : TabOk z1.toList) (c8 : TabOk z2.toList) (c9 : TabOk z3.toList) (c10 : TabOk z4.toList) (c11 : TabOk z5.toList) (c12 : TabOk z6.toList) (c13 : TabOk z7.toList) (c14 : TabOk z8.toList) (c15 : TabOk z9.toList) (c16 : TabOk z10.toList) (c17 : Obj.IsDictOf (PySem.strKind pw w) o' [(Str.ofString "left", Value.ref lf), (Str.ofString "mixed", Value.int mx' j3')]) (c18 : Small xs' n') (c19 : n' ≤ 20) (c20 : 0 ≤ mx') (c21 : mx' < 1000003) (c22 : (q', tup [Value.int r' t0', Value.int 0 t1']) ∈ nw') (c23 : tp' ≤ r') (c24 : r' < tp' + 2) (c25 : 0 ≤ tp') (c26 : tp' ≤ hs.length) (c27 : (∀ x ∈ nw', NT x.1)) (c28 : (∀ x ∈ nw', x.1 ≠ md)) (c29 : (∀ x ∈ nw', x.1 ≠ dk)) (c30 : (∀ x ∈ nw', x.1 ≠ lf)) : Step2 w nk vw hs g0 g1 mo md dk lf sep tr k1 k2 k3 k4 k5 k6 k7 k8 k9 k10 k11 k12 k13 k14 h₀ L m₀ nz s₁ .next { s₁ with heap := h', toks := tk } := fun _ z => z h' tk M z0 z1 z2 z3 z4 z5 z6 z7 z8 z9 z10 o' j3' xs' n' k' mx' tp' r' q' t0' t1' tt' tw' nw' ta' c0 c1 c2 c3 c4 c5 c6 c7 c8 c9 c10 c11 c12 c13 c14 c15 c16 c17 c18 c19 c20 c21 c22 c23 c24 c25 c26 c27 c28 c29 c30
theorem Step2.all {w : World} {nk : Led} {vw : Addr} {hs : List Value} {g0 g1 : Value} {mo md dk lf : Addr} {sep : Value} {tr k1 k2 k3 k4 k5 k6 k7 k8 k9 k10 k11 k12 k13 k14 : Tok} {h₀ : Heap} {L : Addr} {m₀ : Str → Option Value} {nz : List (Addr × Obj)} {s₁ : Shared} {P : Flow → Shared → Prop} (z : ∀ (h' : Heap) (tk : Nat) (M : Str → Option Value) (z0 z1 z2 z3 z4 z5 z6 z7 z8 z9 z10 : Array Value) (o' : Obj) (j3' : Tok) (xs' : List Value) (n' k' : Nat) (mx' tp' r' : Int) (q' : Addr) (t0' t1' tt' tw' : Tok) (nw' : List (Addr × Obj)) (ta' : Tok), Fr h₀ L h' M → (∀ y, y ≠ Str.ofString "above" → y ≠ Str.ofString "way" → y ≠ Str.ofString "number" → y ≠ Str.ofString "go" → M y = m₀ y) → M (Str.ofString "above") = some (.int (hs.length - tp') ta') → News h₀ L h' (((740 : Addr), tabObj z0) :: ((698 : Addr), tabObj z1) :: ((726 : Addr), tabObj z2) :: ((733 : Addr), tabObj z3) :: ((754 : Addr), tabObj z4) :: ((878 : Addr), tabObj z5) :: ((899 : Addr), tabObj z6) :: ((836 : Addr), tabObj z7) :: ((871 : Addr), tabObj z8) :: ((768 : Addr), tabObj z9) :: ((796 : Addr), tabObj z10) :: (md, modeD w vw sep tp' q' tr tt' tw' k1 k2 k3 k4 k5 k6 k7 k8 k9 k10 k11 k12 k13 k14) :: (dk, o') :: (lf, listOf xs'.toArray k') :: nw') → (∀ x ∈ nz, x ∈ nw') → (∀ x ∈ nz, x.1 < q') → TabOk z0.toList → TabOk z1.toList → TabOk z2.toList → TabOk z3.toList → TabOk z4.toList → TabOk z5.toList → TabOk z6.toList → TabOk z7.toList → TabOk z8.toList → TabOk z9.toList → TabOk z10.toList → Obj.IsDictOf (PySem.strKind pw w) o' [(Str.ofString "left", Value.ref lf), (Str.ofString "mixed", Value.int mx' j3')] → Small xs' n' → n' ≤ 20 → 0 ≤ mx' → mx' < 1000003 → (q', tup [Value.int r' t0', Value.int 0 t1']) ∈ nw' → tp' ≤ r' → r' < tp' + 2 → 0 ≤ tp' → tp' ≤ hs.length → (∀ x ∈ nw', NT x.1) → (∀ x ∈ nw', x.1 ≠ md) → (∀ x ∈ nw', x.1 ≠ dk) → (∀ x ∈ nw', x.1 ≠ lf) → P .next { s₁ with heap := h', toks := tk }) : ∀ f s₂, Step2 w nk vw hs g0 g1 mo md dk lf sep tr k1 k2 k3 k4 k5 k6 k7 k8 k9 k10 k11 k12 k13 k14 h₀ L m₀ nz s₁ f s₂ → P f s₂ := fun _ _ h => h P z
theorem NT.of_ne {a : Addr} {p0 p1 p2 p3 p4 p5 p6 p7 p8 p9 p10 : Array Value} (h : ∀ q ∈ ((740 : Addr), tabObj p0) :: ((698 : Addr), tabObj p1) :: ((726 : Addr), tabObj p2) :: ((733 : Addr), tabObj p3) :: ((754 : Addr), tabObj p4) :: ((878 : Addr), tabObj p5) :: ((899 : Addr), tabObj p6) :: ((836 : Addr), tabObj p7) :: ((871 : Addr), tabObj p8) :: ((768 : Addr), tabObj p9) :: ((796 : Addr), tabObj p10) :: [], a ≠ q.1) : NT a := by
  simp only [List.forall_mem_cons] at h
  unfold NT tabAs
  simp only [List.contains_cons, List.contains_nil, Bool.or_false, Bool.or_eq_false_iff, beq_eq_false_iff_ne]
  exact ⟨h.1, h.2.1, h.2.2.1, h.2.2.2.1, h.2.2.2.2.1, h.2.2.2.2.2.1, h.2.2.2.2.2.2.1, h.2.2.2.2.2.2.2.1, h.2.2.2.2.2.2.2.2.1, h.2.2.2.2.2.2.2.2.2.1, h.2.2.2.2.2.2.2.2.2.2.1⟩
theorem Fr.fourG {h₀ h : Heap} {L : Addr} {m m₀ : Str → Option Value} {a b c d : Str} {v vb : Option Value} (F : Fr h₀ L h (fun y => if y = d then v else m y)) (hb : m a = vb) (hm : ∀ y, y ≠ a → y ≠ b → y ≠ c → y ≠ d → m y = m₀ y) : Fr h₀ L h (fun y => if y = d then v else if y = a then vb else if y = b then m b else if y = c then m c else m₀ y) := Fr.same F fun y => by
  by_cases q4 : y = d
  · rw [if_pos q4, if_pos q4]
  · rw [if_neg q4, if_neg q4]
    by_cases q1 : y = a
    · rw [if_pos q1, q1, hb]
    · by_cases q2 : y = b
      · rw [if_neg q1, if_pos q2, q2]
      · by_cases q3 : y = c
        · rw [if_neg q1, if_neg q2, if_pos q3, q3]
        · rw [if_neg q1, if_neg q2, if_neg q3]; exact hm y q1 q2 q3 q4
theorem law_loop2 {prog : Program} {w : World} {nk : Led} {vw : Addr} {hs : List Value} {g0 g1 : Value} {mo md dk lf : Addr} {sep : Value} {tr k1 k2 k3 k4 k5 k6 k7 k8 k9 k10 k11 k12 k13 k14 : Tok} {A : Around} {E : Value → Shared → Prop} {s : Shared} {env : Env} {h₀ : Heap} {body : List Stmt} {Q : Flow → Shared → Prop} {rg : Addr} {bb : Int} {t₀ u₀ v₀ : Tok} {ng : Nat} {m₀ m₁ : Str → Option Value} {nx₀ news : List (Addr × Obj)}
    (hh : A.handled = none) (hr : IsRange s.heap rg 0 bb 1 t₀ u₀ v₀) (hb : bb = ng) (hng : ng ≤ 9) (F : Fr h₀ env.locals s.heap m₁) (N : News h₀ env.locals s.heap news) (hsub : ∀ q ∈ nx₀, q ∈ news) (hj : J2 w nk vw hs g0 g1 mo md dk lf sep tr k1 k2 k3 k4 k5 k6 k7 k8 k9 k10 k11 k12 k13 k14 m₀ m₁ nx₀)
    (turn : ∀ (i : Nat) (tg : Tok) (u1 u2 : Option Value) (p0 p1 p2 p3 p4 p5 p6 p7 p8 p9 p10 : Array Value) (o : Obj) (j3 : Tok) (xs : List Value) (n k : Nat) (mx tp r : Int) (q : Addr) (t0 t1 tt tw : Tok) (nz : List (Addr × Obj)) (ta : Tok) (h : Heap) (tk : Nat), TabOk p0.toList → TabOk p1.toList → TabOk p2.toList → TabOk p3.toList → TabOk p4.toList → TabOk p5.toList → TabOk p6.toList → TabOk p7.toList → TabOk p8.toList → TabOk p9.toList → TabOk p10.toList → Obj.IsDictOf (PySem.strKind pw w) o [(Str.ofString "left", Value.ref lf), (Str.ofString "mixed", Value.int mx j3)] → Small xs n → n ≤ 20 → 0 ≤ mx → mx < 1000003 → ViewIn w nz vw hs g0 g1 → (mo, instObj 566 md) ∈ nz → (q, tup [Value.int r t0, Value.int 0 t1]) ∈ nz → tp ≤ r → r < tp + 2 → 0 ≤ tp → tp ≤ hs.length → (∀ q ∈ nz, NT q.1) → (∀ q ∈ nz, q.1 ≠ md) → (∀ q ∈ nz, q.1 ≠ dk) → (∀ q ∈ nz, q.1 ≠ lf) → (∀ x ∈ nk, x ∈ nz) → Fr h₀ env.locals h (fun y => if y = Str.ofString "go" then some (.int (i : Int) tg) else if y = Str.ofString "above" then some (.int (hs.length - tp) ta) else if y = Str.ofString "way" then u1 else if y = Str.ofString "number" then u2 else m₀ y) → News h₀ env.locals h (((740 : Addr), tabObj p0) :: ((698 : Addr), tabObj p1) :: ((726 : Addr), tabObj p2) :: ((733 : Addr), tabObj p3) :: ((754 : Addr), tabObj p4) :: ((878 : Addr), tabObj p5) :: ((899 : Addr), tabObj p6) :: ((836 : Addr), tabObj p7) :: ((871 : Addr), tabObj p8) :: ((768 : Addr), tabObj p9) :: ((796 : Addr), tabObj p10) :: (md, modeD w vw sep tp q tr tt tw k1 k2 k3 k4 k5 k6 k7 k8 k9 k10 k11 k12 k13 k14) :: (dk, o) :: (lf, listOf xs.toArray k) :: nz) →
      wpAny (model prog w) A (execs body env) (Step2 w nk vw hs g0 g1 mo md dk lf sep tr k1 k2 k3 k4 k5 k6 k7 k8 k9 k10 k11 k12 k13 k14 h₀ env.locals m₀ nz { s with heap := h, toks := tk }) E { s with heap := h, toks := tk })
    (done : ∀ (m : Str → Option Value) (nx : List (Addr × Obj)) (h : Heap) (tk : Nat), J2 w nk vw hs g0 g1 mo md dk lf sep tr k1 k2 k3 k4 k5 k6 k7 k8 k9 k10 k11 k12 k13 k14 m₀ m nx → Fr h₀ env.locals h m → News h₀ env.locals h nx → Q .next { s with heap := h, toks := tk }) :
    wpAny (model prog w) A (pyIter (.ref rg)) (fun it s₂ => LoopAtV prog w A h₀ env (Str.ofString "go") body Q E it s₂) E s := by
  refine tbr_invG (n := ng) (fun _ m nx => J2 w nk vw hs g0 g1 mo md dk lf sep tr k1 k2 k3 k4 k5 k6 k7 k8 k9 k10 k11 k12 k13 k14 m₀ m nx) hh hr ?sm ?sz F (News.order N hsub) hj ?turn ?done
  case sm => subst hb; exact small_one (by omega) (by omega) (by omega) (by omega)
  case sz => subst hb; rw [rangeSize_nat]; omega
  case turn =>
    intro i kk tg m nx h tk own hk hoff hJ F₁ N₁
    refine hJ.out fun p0 p1 p2 p3 p4 p5 p6 p7 p8 p9 p10 o j3 xs n k mx tp r q t0 t1 tt tw nw ta enx a0 a1 a2 a3 a4 a5 a6 a7 a8 a9 a10 a11 a12 a13 a14 a15 a16 a17 a18 a19 a20 a21 a22 a23 a24 a25 a26 a27 hm hab => ?_
    subst enx
    have hi : i < ng := by
      have := (List.getElem?_eq_some_iff.mp hk).1
      simpa [rangeKs] using this
    have hk' : kk = (i : Int) := by
      have e : (rangeKs 0 ng)[i]? = some ((0 : Int) + (i : Int)) := by simp [rangeKs, hi]
      rw [e] at hk
      have := Option.some.inj hk
      omega
    subst hk'
    refine wpAny_mono (turn i tg (m (Str.ofString "way")) (m (Str.ofString "number")) p0 p1 p2 p3 p4 p5 p6 p7 p8 p9 p10 o j3 xs n k mx tp r q t0 t1 tt tw (nw ++ own) ta h tk a0 a1 a2 a3 a4 a5 a6 a7 a8 a9 a10 a11 a12 a13 a14 a15 (a16.mono fun x hx => List.mem_append_left _ hx) (List.mem_append_left _ a17) (List.mem_append_left _ a18) a19 a20 a21 a22 (fun x hx => (List.mem_append.mp hx).elim (a23 x) fun h => NT.of_ne fun y hy => hoff x h y (tbl_iff.mpr (.inl hy))) (fun x hx => (List.mem_append.mp hx).elim (a24 x) fun h => hoff x h _ (tbl_iff.mpr (.inr (.head _)))) (fun x hx => (List.mem_append.mp hx).elim (a25 x) fun h => hoff x h _ (tbl_iff.mpr (.inr (.tail _ (.head _))))) (fun x hx => (List.mem_append.mp hx).elim (a26 x) fun h => hoff x h _ (tbl_iff.mpr (.inr (.tail _ (.tail _ (.head _)))))) (fun x hx => List.mem_append_left _ (a27 x hx)) (Fr.fourG F₁ hab hm) N₁) (Step2.all fun h' tk' M z0 z1 z2 z3 z4 z5 z6 z7 z8 z9 z10 o' j3' xs' n' k' mx' tp' r' q' t0' t1' tt' tw' nw' ta' F' hM hab' N' hsub' hlt' f0 f1 f2 f3 f4 f5 f6 f7 f8 f9 f10 f11 f12 f13 f14 f15 f16 f17 f18 f19 f20 f21 f22 f23 f24 => ?_) fun _ _ e => e
    exact stB_end hoff a16 a17 a27 hsub' hlt' F' hM hab' N' f0 f1 f2 f3 f4 f5 f6 f7 f8 f9 f10 f11 f12 f13 f14 f15 f16 f17 f18 f19 f20 f21 f22 f23 f24
  case done => exact fun m nx h tk hj F₁ N₁ => done m nx h tk hj F₁ N₁
end
section
theorem law_loop2s {prog : Program} {w : World} {nk : Led} {vw : Addr} {hs : List Value} {g0 g1 : Value} {mo md dk lf : Addr} {sep : Value} {tr k1 k2 k3 k4 k5 k6 k7 k8 k9 k10 k11 k12 k13 k14 : Tok} {A : Around} {E : Value → Shared → Prop} {s : Shared} {env : Env} {h₀ : Heap} {body : List Stmt} {Q : Flow → Shared → Prop} {rg : Addr} {bb : Int} {t₀ u₀ v₀ : Tok} {ng : Nat} {m₁ : Str → Option Value} {nx₀ news : List (Addr × Obj)}
    (hh : A.handled = none) (hr : IsRange s.heap rg 0 bb 1 t₀ u₀ v₀) (hb : bb = ng) (hng : ng ≤ 9) (F : Fr h₀ env.locals s.heap m₁) (N : News h₀ env.locals s.heap news) (hsub : ∀ q ∈ nx₀, q ∈ news) (hj : J2 w nk vw hs g0 g1 mo md dk lf sep tr k1 k2 k3 k4 k5 k6 k7 k8 k9 k10 k11 k12 k13 k14 m₁ m₁ nx₀)
    (turn : ∀ (i : Nat) (tg : Tok) (u1 u2 : Option Value) (p0 p1 p2 p3 p4 p5 p6 p7 p8 p9 p10 : Array Value) (o : Obj) (j3 : Tok) (xs : List Value) (n k : Nat) (mx tp r : Int) (q : Addr) (t0 t1 tt tw : Tok) (nz : List (Addr × Obj)) (ta : Tok) (h : Heap) (tk : Nat), TabOk p0.toList → TabOk p1.toList → TabOk p2.toList → TabOk p3.toList → TabOk p4.toList → TabOk p5.toList → TabOk p6.toList → TabOk p7.toList → TabOk p8.toList → TabOk p9.toList → TabOk p10.toList → Obj.IsDictOf (PySem.strKind pw w) o [(Str.ofString "left", Value.ref lf), (Str.ofString "mixed", Value.int mx j3)] → Small xs n → n ≤ 20 → 0 ≤ mx → mx < 1000003 → ViewIn w nz vw hs g0 g1 → (mo, instObj 566 md) ∈ nz → (q, tup [Value.int r t0, Value.int 0 t1]) ∈ nz → tp ≤ r → r < tp + 2 → 0 ≤ tp → tp ≤ hs.length → (∀ q ∈ nz, NT q.1) → (∀ q ∈ nz, q.1 ≠ md) → (∀ q ∈ nz, q.1 ≠ dk) → (∀ q ∈ nz, q.1 ≠ lf) → (∀ x ∈ nk, x ∈ nz) → Fr h₀ env.locals h (fun y => if y = Str.ofString "go" then some (.int (i : Int) tg) else if y = Str.ofString "above" then some (.int (hs.length - tp) ta) else if y = Str.ofString "way" then u1 else if y = Str.ofString "number" then u2 else m₁ y) → News h₀ env.locals h (((740 : Addr), tabObj p0) :: ((698 : Addr), tabObj p1) :: ((726 : Addr), tabObj p2) :: ((733 : Addr), tabObj p3) :: ((754 : Addr), tabObj p4) :: ((878 : Addr), tabObj p5) :: ((899 : Addr), tabObj p6) :: ((836 : Addr), tabObj p7) :: ((871 : Addr), tabObj p8) :: ((768 : Addr), tabObj p9) :: ((796 : Addr), tabObj p10) :: (md, modeD w vw sep tp q tr tt tw k1 k2 k3 k4 k5 k6 k7 k8 k9 k10 k11 k12 k13 k14) :: (dk, o) :: (lf, listOf xs.toArray k) :: nz) →
      wpAny (model prog w) A (execs body env) (Step2 w nk vw hs g0 g1 mo md dk lf sep tr k1 k2 k3 k4 k5 k6 k7 k8 k9 k10 k11 k12 k13 k14 h₀ env.locals m₁ nz { s with heap := h, toks := tk }) E { s with heap := h, toks := tk })
    (done : ∀ (m : Str → Option Value) (nx : List (Addr × Obj)) (h : Heap) (tk : Nat), J2 w nk vw hs g0 g1 mo md dk lf sep tr k1 k2 k3 k4 k5 k6 k7 k8 k9 k10 k11 k12 k13 k14 m₁ m nx → Fr h₀ env.locals h m → News h₀ env.locals h nx → Q .next { s with heap := h, toks := tk }) :
    wpAny (model prog w) A (pyIter (.ref rg)) (fun it s₂ => LoopAtV prog w A h₀ env (Str.ofString "go") body Q E it s₂) E s :=
  law_loop2 hh hr hb hng F N hsub hj turn done
theorem lt_ne {l : List (Addr × Obj)} {a : Addr} (h : ∀ p ∈ l, p.1 < a) : ∀ p ∈ l, p.1 ≠ a := fun p hp => Nat.ne_of_lt (h p hp)
local macro_rules | `(tactic| k_all) => `(tactic| exact lowNe (by assumption) (by rfl))
local macro_rules | `(tactic| k_enter) => `(tactic| walk_at "c enter2")
local macro_rules | `(tactic| walk_at "call ref") => useM 1133 `Mine.c_deck "std hls:a hi:a hlay:a" "dk' lf' o' j3' xs' n' k' mx' h' tk' hd' lo' hS' hn' x0' x1' nlf' ld' ldk' F' N'"
local macro_rules | `(tactic| walk_at "call ref") => `(tactic| (k_here; (with_reducible show wpAny _ _ (call (Value.ref 1140) _) _ _ _); k_dflt (apply c_draw (k := _); walk_at "c std"; (case hd => assumption); (case hS => assumption); (case hn => omega); (case mx0 => omega); (case mx1 => omega); (case hlf => assumption); (case hdk => first | assumption | exact lt_ne (by assumption)); (case hld => assumption); (case q0 => omega); (case q1 => omega)); k_dflt (intro d' td' o' j3' xs' n' k' mx' h' tk' y0' y1' hd' hS' hn' x0' x1' F' N'); walk_at "c end"))
local macro_rules | `(tactic| walk_at "call ref") => useM 1124 `Mine.c_hist "std" "hi' hd' hl' t3' t4' t5' u1' u2' h' tk' a1' a2' b1' b2' a3' F' N'"
local macro_rules | `(tactic| walk_at "call ref") => useM 1056 `Mine.c_grid "std" "g' gd' gl' t6' t7' t8' u3' u4' a0' a1' k' h' tk' c1' c2' c3' c4' c5' F' N'"
theorem for_VF {prog : Program} {w : World} {A : Around} {s : Shared} {env : Env} {h₀ : Heap} {m : Str → Option Value} {E : Value → Shared → Prop} {Q : Flow → Shared → Prop} {x : Str} {px pos : Pos} {iter : PySem.Expr} {body : List Stmt} (_F : Fr h₀ env.locals s.heap m) (hx : env.kindOf x = some .local)
    (hp : (env.scope.kind == .class || (env.scope.kind == .module && env.locals != env.globals)) = false)
    (h : wpAny (model prog w) A (eval iter env) (fun xv s₁ => wpAny (model prog w) A (pyIter xv) (fun it s₂ => LoopAtV prog w A h₀ env x body Q E it s₂) E s₁) E s)
    (hs : ∀ x, foldedSetIterable iter env x = pure x)
    (hE : PassesOwn (model prog w) A env E) : wpAny (model prog w) A (exec (.For (.Name x px) iter body [] pos) env) Q E s := For_invV h₀ hx hp h hs hE
local macro_rules | `(tactic| walk_at "exec For Name Call cons nil") => `(tactic| (k_here; (rename Fr _ _ _ _ => lF'); k_dflt (refine for_VF lF' (by rfl) (by rfl) ?_ (by intro _; rfl) (by passes_own))))
local macro_rules | `(tactic| walk_at "pyIter ref") => `(tactic| (k_here; (with_reducible show wpAny _ _ (pyIter (Value.ref _)) (fun it s₂ => LoopAtV _ _ _ _ _ _ _ _ _ it s₂) _ _); refine Hold.intro ?_))
theorem news_front8 {h₀ h : Heap} {L : Addr} {x1 x2 x3 x4 x5 x6 x7 y : Addr × Obj} {l : List (Addr × Obj)} (N : News h₀ L h (x1 :: x2 :: x3 :: x4 :: x5 :: x6 :: x7 :: y :: l)) : News h₀ L h (y :: x1 :: x2 :: x3 :: x4 :: x5 :: x6 :: x7 :: l) := News.order N (fun q hq => (List.mem_cons.mp hq).elim (fun e => e ▸ .tail _ (.tail _ (.tail _ (.tail _ (.tail _ (.tail _ (.tail _ (.head _)))))))) fun h => (List.mem_cons.mp h).elim (fun e => e ▸ .head _) fun h => (List.mem_cons.mp h).elim (fun e => e ▸ .tail _ (.head _)) fun h => (List.mem_cons.mp h).elim (fun e => e ▸ .tail _ (.tail _ (.head _))) fun h => (List.mem_cons.mp h).elim (fun e => e ▸ .tail _ (.tail _ (.tail _ (.head _)))) fun h => (List.mem_cons.mp h).elim (fun e => e ▸ .tail _ (.tail _ (.tail _ (.tail _ (.head _))))) fun h => (List.mem_cons.mp h).elim (fun e => e ▸ .tail _ (.tail _ (.tail _ (.tail _ (.tail _ (.head _)))))) fun h => (List.mem_cons.mp h).elim (fun e => e ▸ .tail _ (.tail _ (.tail _ (.tail _ (.tail _ (.tail _ (.head _))))))) fun h => .tail _ (.tail _ (.tail _ (.tail _ (.tail _ (.tail _ (.tail _ (.tail _ (h)))))))))
theorem view_shape {w : World} {h₀ h : Heap} {L vw vd hi g : Addr} {a b : Tok} {l : List (Addr × Obj)} (N : News h₀ L h ((vw, instObj 319 vd) :: (vd, dictOf [ent w (Str.ofString "history") a (.ref hi), ent w (Str.ofString "grid") b (.ref g)] 2) :: l)) : ∃ a b, News h₀ L h ((vw, instObj 319 vd) :: (vd, dictOf [ent w (Str.ofString "history") a (.ref hi), ent w (Str.ofString "grid") b (.ref g)] 2) :: l) := ⟨a, b, N⟩
theorem Fr.two2 {h₀ h : Heap} {L : Addr} {m m₀ : Str → Option Value} {a b : Str} (F : Fr h₀ L h m) (hm : ∀ y, y ≠ a → y ≠ b → m y = m₀ y) : Fr h₀ L h (fun y => if y = a then m a else if y = b then m b else m₀ y) := Fr.same F fun y => by
  by_cases q1 : y = a
  · rw [if_pos q1, q1]
  · by_cases q2 : y = b
    · rw [if_neg q1, if_pos q2, q2]
    · rw [if_neg q1, if_neg q2]; exact hm y q1 q2
theorem Fr.four {h₀ h : Heap} {L : Addr} {m m₀ : Str → Option Value} {a b c d : Str} (F : Fr h₀ L h m) (hm : ∀ y, y ≠ a → y ≠ b → y ≠ c → y ≠ d → m y = m₀ y) : Fr h₀ L h (fun y => if y = a then m a else if y = b then m b else if y = c then m c else if y = d then m d else m₀ y) := Fr.same F fun y => by
  by_cases q1 : y = a
  · rw [if_pos q1, q1]
  · by_cases q2 : y = b
    · rw [if_neg q1, if_pos q2, q2]
    · by_cases q3 : y = c
      · rw [if_neg q1, if_neg q2, if_pos q3, q3]
      · by_cases q4 : y = d
        · rw [if_neg q1, if_neg q2, if_neg q3, if_pos q4, q4]
        · rw [if_neg q1, if_neg q2, if_neg q3, if_neg q4]; exact hm y q1 q2 q3 q4
local macro_rules | `(tactic| walk_at "call ref") => `(tactic| (k_here; (with_reducible show wpAny _ _ (call (Value.ref 566) _) _ _ _); refine Hold.intro ?_))
theorem ord_of {hl gl a : Addr} {H G : Obj} {nz : List (Addr × Obj)} (h : ∀ p ∈ (hl, H) :: (gl, G) :: nz, p.1 < a) : hl < a ∧ gl < a ∧ ∀ y ∈ nz, y.1 < a := ⟨h _ (.head _), h _ (.tail _ (.head _)), fun y hy => h y (.tail _ (.tail _ hy))⟩
theorem step_push {h₀ h : Heap} {L : Addr} {x1 x2 x3 x4 x5 x6 x7 p q : Addr × Obj} {nz : List (Addr × Obj)} (N : News h₀ L h (p :: x1 :: x2 :: x3 :: x4 :: x5 :: x6 :: x7 :: q :: nz)) : News h₀ L h (p :: q :: ([x1, x2, x3, x4, x5, x6, x7] ++ nz)) := News.order N (fun q hq => (List.mem_cons.mp hq).elim (fun e => e ▸ .head _) fun h => (List.mem_cons.mp h).elim (fun e => e ▸ .tail _ (.tail _ (.tail _ (.tail _ (.tail _ (.tail _ (.tail _ (.tail _ (.head _))))))))) fun h => (List.mem_cons.mp h).elim (fun e => e ▸ .tail _ (.head _)) fun h => (List.mem_cons.mp h).elim (fun e => e ▸ .tail _ (.tail _ (.head _))) fun h => (List.mem_cons.mp h).elim (fun e => e ▸ .tail _ (.tail _ (.tail _ (.head _)))) fun h => (List.mem_cons.mp h).elim (fun e => e ▸ .tail _ (.tail _ (.tail _ (.tail _ (.head _))))) fun h => (List.mem_cons.mp h).elim (fun e => e ▸ .tail _ (.tail _ (.tail _ (.tail _ (.tail _ (.head _)))))) fun h => (List.mem_cons.mp h).elim (fun e => e ▸ .tail _ (.tail _ (.tail _ (.tail _ (.tail _ (.tail _ (.head _))))))) fun h => (List.mem_cons.mp h).elim (fun e => e ▸ .tail _ (.tail _ (.tail _ (.tail _ (.tail _ (.tail _ (.tail _ (.head _)))))))) fun h => .tail _ (.tail _ (.tail _ (.tail _ (.tail _ (.tail _ (.tail _ (.tail _ (.tail _ (h))))))))))
theorem step_set {h₀ h : Heap} {L : Addr} {x1 x2 x3 x4 x5 x6 x7 p q : Addr × Obj} {nz : List (Addr × Obj)} (N : News h₀ L h (x1 :: x2 :: x3 :: x4 :: x5 :: x6 :: x7 :: p :: q :: nz)) : News h₀ L h (p :: q :: ([x1, x2, x3, x4, x5, x6, x7] ++ nz)) := News.order N (fun q hq => (List.mem_cons.mp hq).elim (fun e => e ▸ .tail _ (.tail _ (.tail _ (.tail _ (.tail _ (.tail _ (.tail _ (.head _)))))))) fun h => (List.mem_cons.mp h).elim (fun e => e ▸ .tail _ (.tail _ (.tail _ (.tail _ (.tail _ (.tail _ (.tail _ (.tail _ (.head _))))))))) fun h => (List.mem_cons.mp h).elim (fun e => e ▸ .head _) fun h => (List.mem_cons.mp h).elim (fun e => e ▸ .tail _ (.head _)) fun h => (List.mem_cons.mp h).elim (fun e => e ▸ .tail _ (.tail _ (.head _))) fun h => (List.mem_cons.mp h).elim (fun e => e ▸ .tail _ (.tail _ (.tail _ (.head _)))) fun h => (List.mem_cons.mp h).elim (fun e => e ▸ .tail _ (.tail _ (.tail _ (.tail _ (.head _))))) fun h => (List.mem_cons.mp h).elim (fun e => e ▸ .tail _ (.tail _ (.tail _ (.tail _ (.tail _ (.head _)))))) fun h => (List.mem_cons.mp h).elim (fun e => e ▸ .tail _ (.tail _ (.tail _ (.tail _ (.tail _ (.tail _ (.head _))))))) fun h => .tail _ (.tail _ (.tail _ (.tail _ (.tail _ (.tail _ (.tail _ (.tail _ (.tail _ (h))))))))))
theorem step1_of {w : World} {h₀ h' : Heap} {L hl gl : Addr} {many : Nat} {m₀ M : Str → Option Value} {i : Nat} {hs hs' : List Value} {a0 a1 a0' a1' v : Value} {kh' kg' : Nat} {nz new1 : List (Addr × Obj)} {s₁ : Shared} {tk : Nat}
    (N : News h₀ L h' ((hl, listOf hs'.toArray kh') :: (gl, listOf [a0', a1'].toArray kg') :: (new1 ++ nz))) (F : Fr h₀ L h' M) (hM : ∀ y, y ≠ Str.ofString "number" → y ≠ Str.ofString "line" → M y = m₀ y) (o : ∀ x ∈ new1, hl < x.1 ∧ gl < x.1 ∧ ∀ y ∈ nz, y.1 < x.1) (l : LineIn w new1 v i)
    (c : (i < many ∧ hs' = hs ++ [v] ∧ a0' = a0 ∧ a1' = a1) ∨ (i = many ∧ hs' = hs ∧ a0' = v ∧ a1' = a1) ∨ (i = many + 1 ∧ hs' = hs ∧ a0' = a0 ∧ a1' = v)) : Step1 w h₀ L hl gl many m₀ i hs a0 a1 nz s₁ .next { s₁ with heap := h', toks := tk } :=
  fun _ z => z h' tk M v hs' a0' a1' kh' kg' new1 F hM N o l c
theorem my_set01 {prog : Program} {w : World} {A : Around} {E : Value → Shared → Prop} {s : Shared} {h₀ : Heap} {L D : Addr} {m : Str → Option Value} {news : List (Addr × Obj)} {a0 a1 v : Value} {n : Nat} {j : Int} {u : Tok} {g : Obj → List (Addr × Obj)} {Q : Unit → Shared → Prop}
    (F : Fr h₀ L s.heap m) (N : News h₀ L s.heap news) (j0 : 0 ≤ j) (j1 : j < 2) (U : UpdF D (listOf [a0, a1].toArray n) news g)
    (h : ∀ h' b0 b1, (j = 0 ∧ b0 = v ∧ b1 = a1) ∨ (j = 1 ∧ b0 = a0 ∧ b1 = v) → Fr h₀ L h' m → News h₀ L h' (g (listOf [b0, b1].toArray n)) → Q () { s with heap := h' }) :
    wpAny (model prog w) A (setItem (.ref D) (.int j u) v) Q E s := by
  obtain ⟨pre, post, rfl, e, a, b⟩ := U.split
  have z := N (D, listOf [a0, a1].toArray n) (List.mem_append.mpr (.inr (.head _)))
  have c : j = 0 ∨ j = 1 := by omega
  rcases c with rfl | rfl
  · refine ki_setAt z.1 (by omega) (by omega) (by simp) (h _ v a1 (.inl ⟨rfl, rfl, rfl⟩) (F.change (Heap.SameBut.update ..) z.2.1 z.2.2) ?_)
    rw [e]
    exact ki_turn _ N a b rfl rfl
  · refine ki_setAt z.1 (by omega) (by omega) (by simp) (h _ a0 v (.inr ⟨rfl, rfl, rfl⟩) (F.change (Heap.SameBut.update ..) z.2.1 z.2.2) ?_)
    rw [e]
    exact ki_turn _ N a b rfl rfl
local macro_rules | `(tactic| walk_at "call ref") => `(tactic| (k_here; (with_reducible show wpAny _ _ (call (Value.ref 249) _) _ _ _); k_dflt (apply c_line3; walk_at "c std"); k_dflt (intro x' d' lc' b' e' pen' t1' t2' t3' t6' k' h' tk' a1' a2' a3' a4' a5' b1' b2' b3' b4' F' N'; have b1' : @LT.lt Nat _ _ _ := b1'; have b2' : @LT.lt Nat _ _ _ := b2'; have b3' : @LT.lt Nat _ _ _ := b3'; have b4' : @LT.lt Nat _ _ _ := b4'; have o1' := a1'; have o2' := a2'; have o3' := a3'; have o4' := a4'; (try k_lt a1'); (try k_lt a2'); (try k_lt a3'); (try k_lt a4'); have n6' := lt_ne (lt_tail (lt_tail a5')); have o5' := a5'; (try k_lt a5'); (try dsimp only at N')); walk_at "c end"))
local macro_rules | `(tactic| walk_at "call ref") => `(tactic| (k_here; (with_reducible show wpAny _ _ (call (Value.ref 1147) _) _ _ _); k_dflt (apply c_cell; walk_at "c std"); k_dflt (intro c0' cd' t4' t5' h' tk' y1' y2' y3' F' N'; have o6' := y1'; have o7' := y3'; (try k_lt y1'); (try k_lt y3')); walk_at "c end"))
local macro_rules | `(tactic| walk_at "call ref") => useM 167 `Mine.c_put "N:news_swap3 stn l1:m l2:m l6:m l7:m l4:m l5:m hlc:l" "k' h' tk' F' N'"
local macro_rules | `(tactic| walk_at "call ref") => useM 1088 `Mine.c_push "N:news_front8 stn m3:m m4:m h6:o hhl:l" "k' h' tk' F' N'"
local macro_rules | `(tactic| walk_at "call ref") => useM 1140 `Mine.c_drawB "std hd:a hS:a hn:o mx0:o mx1:o NTdk:a NTlf:a hld:a mdk:a mlf:a ndk:a nlf:a qq0:o qq1:o" "d' td' o' j3' xs' n' k' mx' h' tk' y0' y1' hd' hS' hn' x0' x1' F' N'"
local macro_rules | `(tactic| walk_at "call ref") => useM 225 `Mine.c_codes "std Li:i" "l' t' k' h' tk' l1! F' N'"
theorem comp_end1 {h₀ : Heap} {L I C D : Addr} {m : Str → Option Value} {s₁ : Shared} {oI oC oD : Obj} {S : List (Addr × Obj) → Prop} {rest : Value → List (Addr × Obj) → Prop} {y : Value} {h' : Heap} {tk : Nat} {x1 x2 : Addr × Obj} {all : List (Addr × Obj)}
    (F : Fr h₀ L h' m) (N : News h₀ L h' (x1 :: x2 :: (I, oI) :: (C, oC) :: (D, oD) :: all)) (off : LCg.Off3 I C D all) (o1 : @LT.lt Nat _ I x1.1) (o2 : @LT.lt Nat _ C x1.1) (o3 : @LT.lt Nat _ D x1.1) (hS : S (x1 :: all)) (r : rest y (x1 :: all)) :
    LCg.CompEnd h₀ L m s₁ I oI C oC D oD S rest y { s₁ with heap := h', toks := tk } :=
  LCg.CompEnd.intro F N (x1 :: all) (fun q hq => (List.mem_cons.mp hq).elim (fun e => e ▸ .tail _ (.tail _ (.head _))) fun h => (List.mem_cons.mp h).elim (fun e => e ▸ .tail _ (.tail _ (.tail _ (.head _)))) fun h => (List.mem_cons.mp h).elim (fun e => e ▸ .tail _ (.tail _ (.tail _ (.tail _ (.head _))))) fun h => (List.mem_cons.mp h).elim (fun e => e ▸ .head _) fun h => .tail _ (.tail _ (.tail _ (.tail _ (.tail _ (h)))))) ⟨⟨Nat.ne_of_gt o1, Nat.ne_of_gt o2, Nat.ne_of_gt o3⟩, off⟩ hS r
local macro_rules | `(tactic| walk_at "CompEnd") => `(tactic| (k_dflt (refine' comp_end1 ?F ?N ?off ?o1 ?o2 ?o3 ?S ?_; (case F => k_asm); (case N => k_asm); (case off => assumption); (case o1 => (first | walk_at "c lt" | ((show @LT.lt Nat _ _ _); (try dsimp only); omega))); (case o2 => (first | walk_at "c lt" | ((show @LT.lt Nat _ _ _); (try dsimp only); omega))); (case o3 => (first | walk_at "c lt" | ((show @LT.lt Nat _ _ _); (try dsimp only); omega))); (case S => exact Or.inr ⟨_, by k_mem, rfl, _, rfl⟩))))
local macro_rules | `(tactic| walk_at "call ref") => `(tactic| (k_here; (with_reducible show wpAny _ _ (call (Value.ref 1154) _) _ _ _); refine Hold.intro ?_))
local macro_rules | `(tactic| walk_at "call ref") => `(tactic| (k_here; (with_reducible show wpAny _ _ (call (Value.ref 563) _) _ _ _); refine Hold.intro ?_))
theorem wp_gen {M : Model} {A : Around} {α : Type} {x : Sem α} {Q : α → Shared → Prop} {E : Value → Shared → Prop} {s : Shared} (P : (α → Shared → Prop) → Prop) (h : ∀ (Q' : α → Shared → Prop), P Q' → wpAny M A x Q' (fun _ _ => False) s) (hq : P Q) : wpAny M A x Q E s := wpAny_mono (h Q hq) (fun _ _ h => h) (fun _ _ h => h.elim)
theorem tabs_order {h₀ h : Heap} {L : Addr} {a871 a836 a878 a754 a733 a726 a698 a899 a740 a796 a768 : Obj} (N : News h₀ L h [(871, a871), (836, a836), (878, a878), (754, a754), (733, a733), (726, a726), (698, a698), (899, a899), (740, a740), (796, a796), (768, a768)]) : News h₀ L h (((740 : Addr), a740) :: ((698 : Addr), a698) :: ((726 : Addr), a726) :: ((733 : Addr), a733) :: ((754 : Addr), a754) :: ((878 : Addr), a878) :: ((899 : Addr), a899) :: ((836 : Addr), a836) :: ((871 : Addr), a871) :: ((768 : Addr), a768) :: ((796 : Addr), a796) :: []) :=
  News.order N (List.forall_mem_cons.mpr ⟨by repeat (first | exact .head _ | apply List.Mem.tail), List.forall_mem_cons.mpr ⟨by repeat (first | exact .head _ | apply List.Mem.tail), List.forall_mem_cons.mpr ⟨by repeat (first | exact .head _ | apply List.Mem.tail), List.forall_mem_cons.mpr ⟨by repeat (first | exact .head _ | apply List.Mem.tail), List.forall_mem_cons.mpr ⟨by repeat (first | exact .head _ | apply List.Mem.tail), List.forall_mem_cons.mpr ⟨by repeat (first | exact .head _ | apply List.Mem.tail), List.forall_mem_cons.mpr ⟨by repeat (first | exact .head _ | apply List.Mem.tail), List.forall_mem_cons.mpr ⟨by repeat (first | exact .head _ | apply List.Mem.tail), List.forall_mem_cons.mpr ⟨by repeat (first | exact .head _ | apply List.Mem.tail), List.forall_mem_cons.mpr ⟨by repeat (first | exact .head _ | apply List.Mem.tail), List.forall_mem_cons.mpr ⟨by repeat (first | exact .head _ | apply List.Mem.tail), List.forall_mem_nil _⟩⟩⟩⟩⟩⟩⟩⟩⟩⟩⟩)
set_option maxHeartbeats 16000000 in
theorem hd : PySem.Challenge.rw_og0290_01.Holds := by
  w_on
  refine holds_law hSaid fun said => ?_
  refine holds_open (q := hQ) (loose := hLoose) (Xt := fun s => xlAt hQ [] s && recOk [] s) (XP := XL hQ []) (Yf := Hook.obs (kmHook hK hAs hKas [740, 698, 726, 733, 754, 878, 836, 871, 768, 796, 899])) (Ya := Hook.val (kmHook hK hAs hKas [740, 698, 726, 733, 754, 878, 836, 871, 768, 796, 899])) (YP := Hook.says (kmHook hK hAs hKas [740, 698, 726, 733, 754, 878, 836, 871, 768, 796, 899])) (N := 20000)
    hLeft (Hook.of (kmHook hK hAs hKas [740, 698, 726, 733, 754, 878, 836, 871, 768, 796, 899])) (Hook.keeps (kmHook hK hAs hKas [740, 698, 726, 733, 754, 878, 836, 871, 768, 796, 899])) (fun s e => xl_of s (Bool.and_eq_true_iff.mp e).1) XL.keeps (by rfl) (by rfl) (by rfl) (fun s e => recFacts_of (Bool.and_eq_true_iff.mp e).2) (by rfl) said (by decide +kernel) ⟨rfl, rfl, rfl, rfl, rfl, by decide +kernel⟩ ?hw ?hc
  case hw => w_witness2
  k_fill
  intro w s₀ s₁ mg mb G Y fa o pm cd doc dV kV ho hd hcd hD hmg hg args vals as hpre hlay hrd hwl hlo
  have KX := km_in_of Y
  km_tabs Y
  have X := (Ground.X G).1
  have V := (Ground.X G).2
  refine Ground.open G ?_
  intro T B D TE TW
  try (refine guard_noD D (by decide +kernel) ?_; clear D)
  km_lay T hmg ho hd cd
  clear hmg
  wrow_args hpre hlay hrd hwl hlo
  all_goals (
    first | refine callC_kw (enter_call ?_) | refine enter_call ?_
    w_top on
    kn_posts
    w_call any ho hd hcd hD T F
    clear hd
    kn_ghosts F T
    k_drop
    skip)
  clear hd
  rename_i hJ0 XJ TJ KJ FJ cJ1 cJ2 cJ3 cJ4 cJ5 cJ6 cJ7 cJ8 cJ9 cJ10 NJ lJ
  generalize hGJ : ghostOf s₁.heap [(875, 871), (840, 836), (882, 878), (758, 754), (737, 733), (730, 726), (702, 698), (903, 899), (744, 740), (800, 796), (772, 768)] = GJ at *
  have hdp : 302 + 200 < recursionLimit := by decide
  have hun : 7 + 2000 < cLine := by rw [cLine_is]; decide
  have HC : CodeAll tCs GJ := by repeat (first | exact True.intro | refine And.intro (by assumption) ?_)
  obtain ⟨p0, p1, p2, p3, p4, p5, p6, p7, p8, p9, p10, nw, ht0, ht1, ht2, ht3, ht4, ht5, ht6, ht7, ht8, ht9, ht10, hlow, N⟩ : ∃ (p0 p1 p2 p3 p4 p5 p6 p7 p8 p9 p10 : Array Value) (nw : List (Addr × Obj)), TabOk p0.toList ∧ TabOk p1.toList ∧ TabOk p2.toList ∧ TabOk p3.toList ∧ TabOk p4.toList ∧ TabOk p5.toList ∧ TabOk p6.toList ∧ TabOk p7.toList ∧ TabOk p8.toList ∧ TabOk p9.toList ∧ TabOk p10.toList ∧ (∀ q ∈ nw, NT q.1) ∧ News GJ s₁.heap.objs.size hJ0 (((740 : Addr), tabObj p0) :: ((698 : Addr), tabObj p1) :: ((726 : Addr), tabObj p2) :: ((733 : Addr), tabObj p3) :: ((754 : Addr), tabObj p4) :: ((878 : Addr), tabObj p5) :: ((899 : Addr), tabObj p6) :: ((836 : Addr), tabObj p7) :: ((871 : Addr), tabObj p8) :: ((768 : Addr), tabObj p9) :: ((796 : Addr), tabObj p10) :: nw) :=
    ⟨#[], #[], #[], #[], #[], #[], #[], #[], #[], #[], #[], [], True.intro, True.intro, True.intro, True.intro, True.intro, True.intro, True.intro, True.intro, True.intro, True.intro, True.intro, (fun _ h => nomatch h), tabs_order NJ⟩
  clear NJ lJ hGJ
  refine wp_gen (fun Q' => ∀ h' tk m, Fr GJ s₁.heap.objs.size h' m → GrownAll [(875, 871), (840, 836), (882, 878), (758, 754), (737, 733), (730, 726), (702, 698), (903, 899), (744, 740), (800, 796), (772, 768)] h' → Q' (Flow.ret (Value.bool true)) { s₁ with heap := h', toks := tk }) ?body ?fin
  case fin =>
    intro h' tk m Fx gr
    refine ⟨?_, gr⟩
    dsimp only
    refine goodW_bool Fx hg (raisesW_false ?_) ?_
    · wrow_none_raised
    · kc_post
  case body =>
  intro Q' hret
  clear said G Y ho hcd hg X V T B TE TW hT9 hT8 hD
  k_steps
  refine Hold.of ?_
  rename_i tkA dk lf o1 j31 xs1 n1 k1 mx1 hA tkB hd1 lo hS1 hn1 x01 x11 nlf ld ldk hB tkC d td o j3 xs n k mx hC tkD y0 y1 hd hS hn x0 x1 D1 hD lD1 hE hF hG tkE hi hdd hl t3 t4 t5 u1 u2 hH tkF a1h a2h b1h b2h a3h g gd gl t6 t7 t8 u3 u4 a0 a1 kg hI tkG c1 c2 c3 c4 c5 D hJ lD hK1 hK2 hK3 FA NA eL hbL hN1 tkH tt1 uu1 vv1 aR aF aN aN2
  obtain ⟨many, rfl⟩ : ∃ many : Nat, d = (many : Int) := ⟨d.toNat, (Int.toNat_of_nonneg y0).symm⟩
  have hmany : many ≤ 6 := by omega
  have hlg : @Ne Nat hl gl := c5 _ (.head _)
  clear aN2
  k_dflt (refine law_loop1 (hl := hl) (gl := gl) (nw₀ := (g, instObj 1056 gd) :: (gd, dictOf [ent w (Str.ofString "rows") t6 (Value.int 2 u3), ent w (Str.ofString "columns") t7 (Value.int 3 u4), ent w (Str.ofString "lines") t8 (Value.ref gl)] 3) :: (hi, instObj 1124 hdd) :: (hdd, dictOf [ent w (Str.ofString "most") t3 (Value.int 9 u1), ent w (Str.ofString "lines") t4 (Value.ref hl), ent w (Str.ofString "gone") t5 (Value.int 0 u2)] 3) :: (dk, o) :: (lf, listOf xs.toArray k) :: ((740 : Addr), tabObj p0) :: ((698 : Addr), tabObj p1) :: ((726 : Addr), tabObj p2) :: ((733 : Addr), tabObj p3) :: ((754 : Addr), tabObj p4) :: ((878 : Addr), tabObj p5) :: ((899 : Addr), tabObj p6) :: ((836 : Addr), tabObj p7) :: ((871 : Addr), tabObj p8) :: ((768 : Addr), tabObj p9) :: ((796 : Addr), tabObj p10) :: nw) (a0 := a0) (a1 := a1) (kg := kg) rfl aR rfl hmany aF aN ?sub ?nhl ?ngl ?turn ?done)
  case sub => exact fun q hq => (List.mem_cons.mp hq).elim (fun e => e ▸ .tail _ (.tail _ (.tail _ (.tail _ (.head _))))) fun h => (List.mem_cons.mp h).elim (fun e => e ▸ .tail _ (.head _)) fun h => (List.mem_cons.mp h).elim (fun e => e ▸ .tail _ (.tail _ (.head _))) fun h => (List.mem_cons.mp h).elim (fun e => e ▸ .tail _ (.tail _ (.tail _ (.head _)))) fun h => (List.mem_cons.mp h).elim (fun e => e ▸ .tail _ (.tail _ (.tail _ (.tail _ (.tail _ (.head _)))))) fun h => (List.mem_cons.mp h).elim (fun e => e ▸ .tail _ (.tail _ (.tail _ (.tail _ (.tail _ (.tail _ (.head _))))))) fun h => (List.mem_cons.mp h).elim (fun e => e ▸ .tail _ (.tail _ (.tail _ (.tail _ (.tail _ (.tail _ (.tail _ (.tail _ (.head _))))))))) fun h => (List.mem_cons.mp h).elim (fun e => e ▸ .tail _ (.tail _ (.tail _ (.tail _ (.tail _ (.tail _ (.tail _ (.tail _ (.tail _ (.head _)))))))))) fun h => (tbl_iff.mp h).elim (fun h => .tail _ (.tail _ (.tail _ (.tail _ (.tail _ (.tail _ (.tail _ (.tail _ (.tail _ (.tail _ (tbl_iff.mpr (.inl h)))))))))))) fun h => .tail _ (.tail _ (.tail _ (.tail _ (.tail _ (.tail _ (.tail _ (.tail _ (.tail _ (.tail _ (tbl_iff.mpr (.inr (h))))))))))))
  case nhl => exact List.forall_mem_cons.mpr ⟨Nat.ne_of_gt (c1 _ (.head _)), List.forall_mem_cons.mpr ⟨Nat.ne_of_gt (c2 _ (.head _)), List.forall_mem_cons.mpr ⟨Nat.ne_of_lt b1h, List.forall_mem_cons.mpr ⟨Nat.ne_of_lt b2h, fun p hp => Nat.ne_of_lt (a3h p (.tail _ hp))⟩⟩⟩⟩
  case ngl => exact List.forall_mem_cons.mpr ⟨c3, List.forall_mem_cons.mpr ⟨c4, List.forall_mem_cons.mpr ⟨c5 _ (.tail _ (.head _)), List.forall_mem_cons.mpr ⟨c5 _ (.tail _ (.tail _ (.head _))), fun p hp => c5 p (.tail _ (.tail _ (.tail _ (.tail _ hp))))⟩⟩⟩⟩
  case turn =>
    intro i tn u1' hs a0 a1 kh kg nz h tk hi' hlen hsub nhl ngl F1 N1
    have m3 := hsub _ (.tail _ (.tail _ (.head _)))
    have m4 := hsub _ (.tail _ (.tail _ (.tail _ (.head _))))
    have m6 := hsub _ (.head _)
    have m7 := hsub _ (.tail _ (.head _))
    clear FA NA aF aN
    k_steps
    · exact step1_of (step_push (by k_asm)) (by k_asm) (fun y h1 h2 => by simp only [h1, h2, if_false]) (by repeat (first | exact List.forall_mem_nil _ | (refine List.forall_mem_cons.mpr ⟨by first | exact ord_of (by assumption) | exact ord_of (lt_tail (lt_tail (lt_tail (lt_tail (lt_tail (by assumption))))) ) | exact ord_of (lt_tail (lt_tail (lt_tail (lt_tail (lt_tail (lt_tail (by assumption)))))) ), ?_⟩))) (LineIn.mk (by k_mem) (by k_mem) (by k_mem) (by k_mem) (by k_mem) (by k_mem) (by k_mem)) (.inl ⟨by omega, rfl, rfl, rfl⟩)
    · k_dflt (refine' my_set01 ?F ?N ?jlo ?jhi ?U ?_; (case F => k_asm); (case N => k_asm); (case jlo => omega); (case jhi => omega); (case U => k_updF))
      intro h9 b0 b1 hc F9 N9
      k_steps
      exact step1_of (step_set (by k_asm)) (by k_asm) (fun y h1 h2 => by simp only [h1, h2, if_false]) (by repeat (first | exact List.forall_mem_nil _ | (refine List.forall_mem_cons.mpr ⟨by first | exact ord_of (by assumption) | exact ord_of (lt_tail (lt_tail (lt_tail (lt_tail (lt_tail (by assumption))))) ) | exact ord_of (lt_tail (lt_tail (lt_tail (lt_tail (lt_tail (lt_tail (by assumption)))))) ), ?_⟩))) (LineIn.mk (by k_mem) (by k_mem) (by k_mem) (by k_mem) (by k_mem) (by k_mem) (by k_mem)) (.inr (hc.imp (fun z => ⟨by omega, rfl, z.2⟩) fun z => ⟨by omega, rfl, z.2⟩))
  case done =>
    intro m hs a0 a1 kh kg new h tk hlen hlines l0 l1 hnew hm F1 N1
    have F2 := Fr.two2 F1 hm
    obtain ⟨nwB, hB⟩ : ∃ l : List (Addr × Obj), l = (hl, listOf hs.toArray kh) :: (gl, listOf [a0, a1].toArray kg) :: (g, instObj 1056 gd) :: (gd, dictOf [ent w (Str.ofString "rows") t6 (Value.int 2 u3), ent w (Str.ofString "columns") t7 (Value.int 3 u4), ent w (Str.ofString "lines") t8 (Value.ref gl)] 3) :: (hi, instObj 1124 hdd) :: (hdd, dictOf [ent w (Str.ofString "most") t3 (Value.int 9 u1), ent w (Str.ofString "lines") t4 (Value.ref hl), ent w (Str.ofString "gone") t5 (Value.int 0 u2)] 3) :: (new ++ nw) := ⟨_, rfl⟩
    have N2 := News.order N1 (l' := ((740 : Addr), tabObj p0) :: ((698 : Addr), tabObj p1) :: ((726 : Addr), tabObj p2) :: ((733 : Addr), tabObj p3) :: ((754 : Addr), tabObj p4) :: ((878 : Addr), tabObj p5) :: ((899 : Addr), tabObj p6) :: ((836 : Addr), tabObj p7) :: ((871 : Addr), tabObj p8) :: ((768 : Addr), tabObj p9) :: ((796 : Addr), tabObj p10) :: (dk, o) :: (lf, listOf xs.toArray k) :: nwB) (by rw [hB]; exact fun q hq => (tbl_iff.mp hq).elim (fun h => .tail _ (.tail _ (List.mem_append_right _ (.tail _ (.tail _ (.tail _ (.tail _ (.tail _ (.tail _ (tbl_iff.mpr (.inl h))))))))))) fun h => (List.mem_cons.mp h).elim (fun e => e ▸ .tail _ (.tail _ (List.mem_append_right _ (.tail _ (.tail _ (.tail _ (.tail _ (.head _)))))))) fun h => (List.mem_cons.mp h).elim (fun e => e ▸ .tail _ (.tail _ (List.mem_append_right _ (.tail _ (.tail _ (.tail _ (.tail _ (.tail _ (.head _))))))))) fun h => (List.mem_cons.mp h).elim (fun e => e ▸ .head _) fun h => (List.mem_cons.mp h).elim (fun e => e ▸ .tail _ (.head _)) fun h => (List.mem_cons.mp h).elim (fun e => e ▸ .tail _ (.tail _ (List.mem_append_right _ (.head _)))) fun h => (List.mem_cons.mp h).elim (fun e => e ▸ .tail _ (.tail _ (List.mem_append_right _ (.tail _ (.head _))))) fun h => (List.mem_cons.mp h).elim (fun e => e ▸ .tail _ (.tail _ (List.mem_append_right _ (.tail _ (.tail _ (.head _)))))) fun h => (List.mem_cons.mp h).elim (fun e => e ▸ .tail _ (.tail _ (List.mem_append_right _ (.tail _ (.tail _ (.tail _ (.head _))))))) fun h => (List.mem_append.mp h).elim (fun h => .tail _ (.tail _ (List.mem_append_left _ h))) fun h => .tail _ (.tail _ (List.mem_append_right _ (.tail _ (.tail _ (.tail _ (.tail _ (.tail _ (.tail _ (tbl_iff.mpr (.inr h)))))))))))
    have mB1 : (hl, listOf hs.toArray kh) ∈ nwB := by rw [hB]; exact .head _
    have mB2 : (gl, listOf [a0, a1].toArray kg) ∈ nwB := by rw [hB]; exact .tail _ (.head _)
    have mB3 : (g, instObj 1056 gd) ∈ nwB := by rw [hB]; exact .tail _ (.tail _ (.head _))
    have mB4 : (gd, dictOf [ent w (Str.ofString "rows") t6 (Value.int 2 u3), ent w (Str.ofString "columns") t7 (Value.int 3 u4), ent w (Str.ofString "lines") t8 (Value.ref gl)] 3) ∈ nwB := by rw [hB]; exact .tail _ (.tail _ (.tail _ (.head _)))
    have mB5 : (hi, instObj 1124 hdd) ∈ nwB := by rw [hB]; exact .tail _ (.tail _ (.tail _ (.tail _ (.head _))))
    have mB6 : (hdd, dictOf [ent w (Str.ofString "most") t3 (Value.int 9 u1), ent w (Str.ofString "lines") t4 (Value.ref hl), ent w (Str.ofString "gone") t5 (Value.int 0 u2)] 3) ∈ nwB := by rw [hB]; exact .tail _ (.tail _ (.tail _ (.tail _ (.tail _ (.head _)))))
    have mBn : ∀ q ∈ new, q ∈ nwB := fun q hq => by rw [hB]; exact .tail _ (.tail _ (.tail _ (.tail _ (.tail _ (.tail _ (List.mem_append_left _ hq))))))
    have lowB : ∀ q ∈ nwB, NT q.1 := by
      rw [hB]
      exact List.forall_mem_cons.mpr ⟨NT.of_lt (a3h _ (.tail _ (.tail _ (.tail _ (.tail _ (.tail _ (.tail _ (.tail _ (.tail _ (.tail _ (.head _))))))))))), List.forall_mem_cons.mpr ⟨NT.of_ne fun q hq => (c5 q (.tail _ (.tail _ (.tail _ (.tail _ (.tail _ (.tail _ (tbl_iff.mpr (.inl hq))))))))).symm, List.forall_mem_cons.mpr ⟨NT.of_lt (c1 _ (.tail _ (.tail _ (.tail _ (.tail _ (.tail _ (.tail _ (.tail _ (.tail _ (.tail _ (.tail _ (.tail _ (.tail _ (.head _)))))))))))))), List.forall_mem_cons.mpr ⟨NT.of_lt (c2 _ (.tail _ (.tail _ (.tail _ (.tail _ (.tail _ (.tail _ (.tail _ (.tail _ (.tail _ (.tail _ (.tail _ (.tail _ (.head _)))))))))))))), List.forall_mem_cons.mpr ⟨NT.of_lt (a1h _ (.tail _ (.tail _ (.tail _ (.tail _ (.tail _ (.tail _ (.tail _ (.tail _ (.tail _ (.head _))))))))))), List.forall_mem_cons.mpr ⟨NT.of_lt (a2h _ (.tail _ (.tail _ (.tail _ (.tail _ (.tail _ (.tail _ (.tail _ (.tail _ (.tail _ (.head _))))))))))), fun q hq => (List.mem_append.mp hq).elim (fun z => NT.of_lt ((hnew q z).2.2 _ (.tail _ (.tail _ (.tail _ (.tail _ (.tail _ (.tail _ (.tail _ (.tail _ (.tail _ (.tail _ (.tail _ (.tail _ (.head _))))))))))))))) (hlow q)⟩⟩⟩⟩⟩⟩
    have ndkB : ∀ q ∈ nwB, q.1 ≠ dk := by
      rw [hB]
      exact List.forall_mem_cons.mpr ⟨Nat.ne_of_gt (a3h _ (.tail _ (.head _))), List.forall_mem_cons.mpr ⟨(c5 _ (.tail _ (.tail _ (.tail _ (.tail _ (.head _)))))).symm, List.forall_mem_cons.mpr ⟨Nat.ne_of_gt (c1 _ (.tail _ (.tail _ (.tail _ (.tail _ (.head _)))))), List.forall_mem_cons.mpr ⟨Nat.ne_of_gt (c2 _ (.tail _ (.tail _ (.tail _ (.tail _ (.head _)))))), List.forall_mem_cons.mpr ⟨Nat.ne_of_gt (a1h _ (.tail _ (.head _))), List.forall_mem_cons.mpr ⟨Nat.ne_of_gt (a2h _ (.tail _ (.head _))), fun q hq => (List.mem_append.mp hq).elim (fun z => Nat.ne_of_gt ((hnew q z).2.2 _ (.tail _ (.tail _ (.tail _ (.tail _ (.head _))))))) fun z => Nat.ne_of_lt (ldk q (.tail _ (.tail _ (.tail _ (.tail _ (.tail _ (.tail _ (.tail _ (.tail _ (.tail _ (.tail _ (.tail _ (z)))))))))))))⟩⟩⟩⟩⟩⟩
    have nlfB : ∀ q ∈ nwB, q.1 ≠ lf := by
      rw [hB]
      exact List.forall_mem_cons.mpr ⟨Nat.ne_of_gt (a3h _ (.tail _ (.tail _ (.head _)))), List.forall_mem_cons.mpr ⟨(c5 _ (.tail _ (.tail _ (.tail _ (.tail _ (.tail _ (.head _))))))).symm, List.forall_mem_cons.mpr ⟨Nat.ne_of_gt (c1 _ (.tail _ (.tail _ (.tail _ (.tail _ (.tail _ (.head _))))))), List.forall_mem_cons.mpr ⟨Nat.ne_of_gt (c2 _ (.tail _ (.tail _ (.tail _ (.tail _ (.tail _ (.head _))))))), List.forall_mem_cons.mpr ⟨Nat.ne_of_gt (a1h _ (.tail _ (.tail _ (.head _)))), List.forall_mem_cons.mpr ⟨Nat.ne_of_gt (a2h _ (.tail _ (.tail _ (.head _)))), fun q hq => (List.mem_append.mp hq).elim (fun z => Nat.ne_of_gt ((hnew q z).2.2 _ (.tail _ (.tail _ (.tail _ (.tail _ (.tail _ (.head _)))))))) fun z => nlf q (.tail _ (.tail _ (.tail _ (.tail _ (.tail _ (.tail _ (.tail _ (.tail _ (.tail _ (.tail _ (.tail _ (z))))))))))))⟩⟩⟩⟩⟩⟩
    have NTdk : NT dk := NT.of_lt (ldk _ (.tail _ (.tail _ (.tail _ (.tail _ (.tail _ (.tail _ (.head _))))))))
    have NTlf : NT lf := NT.of_ne fun q hq => (nlf q (tbl_iff.mpr (.inl hq))).symm
    clear hB N1 F1 FA NA aF aN hnew
    k_steps
    refine Hold.of ?_
    rename_i vw vd hV FV NV lV l2V gV LV hV2 FGV BV XV TV hV3 hV4 FV2 NV2 kF kN Tc kX
    subst hlen
    obtain ⟨tv1, tv2, kN2⟩ := view_shape kN
    clear FV NV FV2 NV2 kN FGV BV XV TV
    k_dflt (refine' c_mode (B := ?B) (F := ?F) (X := ?X) (N := ?N) (T := ?T) (hk := ?hk) (hdp := ?hdp) (hun := ?hun) (V := ?V) (hs := hs) (g0 := a0) (g1 := a1) (hret := ?_))
    (case B => k_asm)
    (case F => exact kF)
    (case X => k_asm)
    (case N => exact kN2)
    (case T => k_asm)
    (case hk => first | exact rfl | assumption)
    (case hdp => k_room)
    walk_at "c hun"
    (case V => exact ViewIn.mk (.head _) (.tail _ (.head _)) (.tail _ <| .tail _ <| .tail _ <| .tail _ <| .tail _ <| .tail _ <| .tail _ <| .tail _ <| .tail _ <| .tail _ <| .tail _ <| .tail _ <| .tail _ <| .tail _ <| .tail _ <| mB5) (.tail _ <| .tail _ <| .tail _ <| .tail _ <| .tail _ <| .tail _ <| .tail _ <| .tail _ <| .tail _ <| .tail _ <| .tail _ <| .tail _ <| .tail _ <| .tail _ <| .tail _ <| mB6) (.tail _ <| .tail _ <| .tail _ <| .tail _ <| .tail _ <| .tail _ <| .tail _ <| .tail _ <| .tail _ <| .tail _ <| .tail _ <| .tail _ <| .tail _ <| .tail _ <| .tail _ <| mB1) (.tail _ <| .tail _ <| .tail _ <| .tail _ <| .tail _ <| .tail _ <| .tail _ <| .tail _ <| .tail _ <| .tail _ <| .tail _ <| .tail _ <| .tail _ <| .tail _ <| .tail _ <| mB3) (.tail _ <| .tail _ <| .tail _ <| .tail _ <| .tail _ <| .tail _ <| .tail _ <| .tail _ <| .tail _ <| .tail _ <| .tail _ <| .tail _ <| .tail _ <| .tail _ <| .tail _ <| mB4) (.tail _ <| .tail _ <| .tail _ <| .tail _ <| .tail _ <| .tail _ <| .tail _ <| .tail _ <| .tail _ <| .tail _ <| .tail _ <| .tail _ <| .tail _ <| .tail _ <| .tail _ <| mB2) hmany (fun j v e => (hlines j v e).mono fun q hq => (.tail _ <| .tail _ <| .tail _ <| .tail _ <| .tail _ <| .tail _ <| .tail _ <| .tail _ <| .tail _ <| .tail _ <| .tail _ <| .tail _ <| .tail _ <| .tail _ <| .tail _ <| (mBn q hq))) (l0.mono fun q hq => (.tail _ <| .tail _ <| .tail _ <| .tail _ <| .tail _ <| .tail _ <| .tail _ <| .tail _ <| .tail _ <| .tail _ <| .tail _ <| .tail _ <| .tail _ <| .tail _ <| .tail _ <| (mBn q hq))) (l1.mono fun q hq => (.tail _ <| .tail _ <| .tail _ <| .tail _ <| .tail _ <| .tail _ <| .tail _ <| .tail _ <| .tail _ <| .tail _ <| .tail _ <| .tail _ <| .tail _ <| .tail _ <| .tail _ <| (mBn q hq))))
    intro mo md pl sep tp r tr tt tw kk1 kk2 kk3 kk4 kk5 kk6 kk7 kk8 kk9 kk10 kk11 kk12 kk13 kk14 am1 am2 hM tkM e1 e2 h1 h2 h3 h4 FM NM
    subst e1 e2
    obtain ⟨nwC, hC⟩ : ∃ l : List (Addr × Obj), l = (pl, tup [Value.int (hs.length + 1) am1, Value.int 0 am2]) :: (mo, instObj 566 md) :: (vw, instObj 319 vd) :: (vd, dictOf [ent w (Str.ofString "history") tv1 (Value.ref hi), ent w (Str.ofString "grid") tv2 (Value.ref g)] 2) :: nwB := ⟨_, rfl⟩
    have hm9 : ltN9 md := h1 _ (.tail _ (.tail _ (.tail _ (.tail _ (.tail _ (.tail _ (.tail _ (.tail _ (.head _)))))))))
    have NC := News.order NM (l' := ((740 : Addr), tabObj p0) :: ((698 : Addr), tabObj p1) :: ((726 : Addr), tabObj p2) :: ((733 : Addr), tabObj p3) :: ((754 : Addr), tabObj p4) :: ((878 : Addr), tabObj p5) :: ((899 : Addr), tabObj p6) :: ((836 : Addr), tabObj p7) :: ((871 : Addr), tabObj p8) :: ((768 : Addr), tabObj p9) :: ((796 : Addr), tabObj p10) :: (md, modeD w vw sep hs.length pl tr tt tw kk1 kk2 kk3 kk4 kk5 kk6 kk7 kk8 kk9 kk10 kk11 kk12 kk13 kk14) :: (dk, o) :: (lf, listOf xs.toArray k) :: nwC) (by rw [hC]; exact fun q hq => (tbl_iff.mp hq).elim (fun h => .tail _ (.tail _ (.tail _ (.tail _ (.tail _ (tbl_iff.mpr (.inl h))))))) fun h => (List.mem_cons.mp h).elim (fun e => e ▸ .head _) fun h => (List.mem_cons.mp h).elim (fun e => e ▸ .tail _ (.tail _ (.tail _ (.tail _ (.tail _ (tbl_iff.mpr (.inr (.head _)))))))) fun h => (List.mem_cons.mp h).elim (fun e => e ▸ .tail _ (.tail _ (.tail _ (.tail _ (.tail _ (tbl_iff.mpr (.inr (.tail _ (.head _))))))))) fun h => (List.mem_cons.mp h).elim (fun e => e ▸ .tail _ (.head _)) fun h => (List.mem_cons.mp h).elim (fun e => e ▸ .tail _ (.tail _ (.head _))) fun h => (List.mem_cons.mp h).elim (fun e => e ▸ .tail _ (.tail _ (.tail _ (.head _)))) fun h => (List.mem_cons.mp h).elim (fun e => e ▸ .tail _ (.tail _ (.tail _ (.tail _ (.head _))))) fun h => .tail _ (.tail _ (.tail _ (.tail _ (.tail _ (tbl_iff.mpr (.inr (.tail _ (.tail _ (h))))))))))
    have lowC : ∀ q ∈ nwC, NT q.1 := by
      rw [hC]
      exact List.forall_mem_cons.mpr ⟨NT.of_lt (h4 _ (.tail _ (.tail _ (.tail _ (.tail _ (.tail _ (.tail _ (.tail _ (.tail _ (.head _)))))))))), List.forall_mem_cons.mpr ⟨NT.of_lt (Nat.lt_trans hm9 h2), List.forall_mem_cons.mpr ⟨NT.of_lt (Nat.lt_trans lV.2.2.2.2.2.2.1 l2V), List.forall_mem_cons.mpr ⟨NT.of_lt lV.2.2.2.2.2.2.1, lowB⟩⟩⟩⟩
    have nmdC : ∀ q ∈ nwC, q.1 ≠ md := by
      rw [hC]
      exact List.forall_mem_cons.mpr ⟨Nat.ne_of_gt h3, List.forall_mem_cons.mpr ⟨Nat.ne_of_gt h2, List.forall_mem_cons.mpr ⟨Nat.ne_of_lt (h1 _ (.head _)), List.forall_mem_cons.mpr ⟨Nat.ne_of_lt (h1 _ (.tail _ (.head _))), fun q hq => Nat.ne_of_lt (h1 q (.tail _ (.tail _ (.tail _ (.tail _ (.tail _ (.tail _ (.tail _ (.tail _ (.tail _ (.tail _ (.tail _ (.tail _ (.tail _ (.tail _ (.tail _ (hq)))))))))))))))))⟩⟩⟩⟩
    have ndkC : ∀ q ∈ nwC, q.1 ≠ dk := by
      rw [hC]
      exact List.forall_mem_cons.mpr ⟨Nat.ne_of_gt (h4 _ (.tail _ (.tail _ (.tail _ (.tail _ (.tail _ (.tail _ (.tail _ (.tail _ (.tail _ (.tail _ (.tail _ (.tail _ (.tail _ (.head _))))))))))))))), List.forall_mem_cons.mpr ⟨Nat.ne_of_gt (Nat.lt_trans (h1 _ (.tail _ (.tail _ (.tail _ (.tail _ (.tail _ (.tail _ (.tail _ (.tail _ (.tail _ (.tail _ (.tail _ (.tail _ (.tail _ (.head _))))))))))))))) h2), List.forall_mem_cons.mpr ⟨Nat.ne_of_gt (Nat.lt_trans lV.2.2.2.2.2.2.2.2.2.2.2.1 l2V), List.forall_mem_cons.mpr ⟨Nat.ne_of_gt lV.2.2.2.2.2.2.2.2.2.2.2.1, ndkB⟩⟩⟩⟩
    have nlfC : ∀ q ∈ nwC, q.1 ≠ lf := by
      rw [hC]
      exact List.forall_mem_cons.mpr ⟨Nat.ne_of_gt (h4 _ (.tail _ (.tail _ (.tail _ (.tail _ (.tail _ (.tail _ (.tail _ (.tail _ (.tail _ (.tail _ (.tail _ (.tail _ (.tail _ (.tail _ (.head _)))))))))))))))), List.forall_mem_cons.mpr ⟨Nat.ne_of_gt (Nat.lt_trans (h1 _ (.tail _ (.tail _ (.tail _ (.tail _ (.tail _ (.tail _ (.tail _ (.tail _ (.tail _ (.tail _ (.tail _ (.tail _ (.tail _ (.tail _ (.head _)))))))))))))))) h2), List.forall_mem_cons.mpr ⟨Nat.ne_of_gt (Nat.lt_trans lV.2.2.2.2.2.2.2.2.2.2.2.2.1 l2V), List.forall_mem_cons.mpr ⟨Nat.ne_of_gt lV.2.2.2.2.2.2.2.2.2.2.2.2.1, nlfB⟩⟩⟩⟩
    have mdk : md ≠ dk := Nat.ne_of_gt (h1 _ (.tail _ (.tail _ (.tail _ (.tail _ (.tail _ (.tail _ (.tail _ (.tail _ (.tail _ (.tail _ (.tail _ (.tail _ (.tail _ (.head _)))))))))))))))
    have mlf : md ≠ lf := Nat.ne_of_gt (h1 _ (.tail _ (.tail _ (.tail _ (.tail _ (.tail _ (.tail _ (.tail _ (.tail _ (.tail _ (.tail _ (.tail _ (.tail _ (.tail _ (.tail _ (.head _))))))))))))))))
    have hpl : (pl, tup [Value.int (hs.length + 1) am1, Value.int 0 am2]) ∈ nwC := by rw [hC]; exact .head _
    have hmoC : (mo, instObj 566 md) ∈ nwC := by rw [hC]; exact .tail _ (.head _)
    have VC : ViewIn w nwC vw hs a0 a1 := by
      rw [hC]
      exact ViewIn.mk (.tail _ (.tail _ (.head _))) (.tail _ (.tail _ (.tail _ (.head _)))) (.tail _ (.tail _ (.tail _ (.tail _ (mB5))))) (.tail _ (.tail _ (.tail _ (.tail _ (mB6))))) (.tail _ (.tail _ (.tail _ (.tail _ (mB1))))) (.tail _ (.tail _ (.tail _ (.tail _ (mB3))))) (.tail _ (.tail _ (.tail _ (.tail _ (mB4))))) (.tail _ (.tail _ (.tail _ (.tail _ (mB2))))) hmany (fun j v e => (hlines j v e).mono fun q hq => (.tail _ (.tail _ (.tail _ (.tail _ ((mBn q hq))))))) (l0.mono fun q hq => (.tail _ (.tail _ (.tail _ (.tail _ ((mBn q hq))))))) (l1.mono fun q hq => (.tail _ (.tail _ (.tail _ (.tail _ ((mBn q hq)))))))
    have mC : ∀ q ∈ nwB, q ∈ nwC := fun q hq => by rw [hC]; exact .tail _ (.tail _ (.tail _ (.tail _ (hq))))
    have hld : @LT.lt Nat _ lf dk := ld
    clear hC NM kN2 h1 h2 h3 h4 lV l2V kF
    k_steps
    refine Hold.of ?_
    k_dflt (refine' c_right (B := ?B) (F := ?F) (X := ?X) (N := ?N) (T := ?T) (hk := ?hk) (hdp := ?hdp) (hun := ?hun) (V := ?V) (hmo := ?hmo) (hmd := ?hmd) (p0 := ?p0) (p1 := ?p1) (ha := ?ha) (hm := ?hm) (hret := ?_))
    (case B => k_asm)
    (case F => k_asm)
    (case X => k_asm)
    (case N => k_asm)
    (case T => k_asm)
    (case hk => first | exact rfl | assumption)
    (case hdp => k_room)
    walk_at "c hun"
    (case V => exact VC.mono (fun q hq => by repeat (first | exact hq | apply List.Mem.tail)))
    (case hmo => exact .tail _ (.tail _ (.tail _ (.tail _ (.tail _ (.tail _ (.tail _ (.tail _ (.tail _ (.tail _ (.tail _ (.tail _ (.tail _ (.tail _ (.tail _ (hmoC))))))))))))))))
    (case hmd => k_mem)
    (case p0 => omega)
    (case p1 => omega)
    (case ha => omega)
    (case hm => rfl)
    intro hR tkR FR NR
    have NR2 := cb_drop NR (fun _ h => List.Mem.tail _ h)
    clear NR
    k_steps
    refine Hold.of ?_
    rename_i D2 hZ1 lZ hZ2 hZ3 hZ4 d2 td2 o2 j32 xs2 n2 k2 mx2 hZ5 tkZ y02 y12 hd2 hS2 hn2 x02 x12 F2x N2x eL2 hbL2 hZ6 tkZ6 tt2 uu2 vv2 aR2 aF2 aN2 aN3
    obtain ⟨goes, rfl⟩ : ∃ n : Nat, d2 = (n : Int) := ⟨d2.toNat, (Int.toNat_of_nonneg y02).symm⟩
    clear aN3 F2x N2x
    k_dflt (refine law_loop2s (nk := nwC) (ng := 1 + goes) (vw := vw) (hs := hs) (g0 := a0) (g1 := a1) (mo := mo) (md := md) (dk := dk) (lf := lf) (sep := sep) (tr := tr) (k1 := kk1) (k2 := kk2) (k3 := kk3) (k4 := kk4) (k5 := kk5) (k6 := kk6) (k7 := kk7) (k8 := kk8) (k9 := kk9) (k10 := kk10) (k11 := kk11) (k12 := kk12) (k13 := kk13) (k14 := kk14) (nx₀ := ((740 : Addr), tabObj p0) :: ((698 : Addr), tabObj p1) :: ((726 : Addr), tabObj p2) :: ((733 : Addr), tabObj p3) :: ((754 : Addr), tabObj p4) :: ((878 : Addr), tabObj p5) :: ((899 : Addr), tabObj p6) :: ((836 : Addr), tabObj p7) :: ((871 : Addr), tabObj p8) :: ((768 : Addr), tabObj p9) :: ((796 : Addr), tabObj p10) :: (md, modeD w vw sep hs.length pl tr tt tw kk1 kk2 kk3 kk4 kk5 kk6 kk7 kk8 kk9 kk10 kk11 kk12 kk13 kk14) :: (dk, o2) :: (lf, listOf xs2.toArray k2) :: nwC) rfl aR2 ?hb ?hng aF2 aN2 (fun q hq => hq) ?hj ?turn ?done)
    case hb => omega
    case hng => omega
    case hj =>
      refine' J2.mk ht0 ht1 ht2 ht3 ht4 ht5 ht6 ht7 ht8 ht9 ht10 hd2 hS2 hn2 x02 x12 VC hmoC hpl (by omega) (by omega) (by omega) (by omega) lowC nmdC ndkC nlfC (fun _ hx => hx) (fun _ _ _ _ _ => rfl) ?_
      any_goals (rw [Int.sub_self]; rfl)
    case turn =>
      intro i tg u1 u2 z0 z1 z2 z3 z4 z5 z6 z7 z8 z9 z10 o3 j33 xs3 n3 k3 mx3 tp r q t0 t1 tt3 tw3 nz ta3 h3 tk3 b0 b1 b2 b3 b4 b5 b6 b7 b8 b9 b10 b11 b12 b13 b14 b15 b16 b17 b18 b19 b20 b21 b22 b23 b24 b25 b26 b27 F3 N3
      clear aF2 aN2 aR aR2 hd hd1 hd2 hS hS1 hS2 hn hn1 hn2 x0 x1 x01 x11 x02 x12 VC hpl hmoC hlines l0 l1 mB1 mB2 mB3 mB4 mB5 mB6 mBn lowB ndkB nlfB lowC nmdC ndkC nlfC a1h a2h a3h c1 c2 c5 hm lZ lD lD1 nlf ldk ht0 ht1 ht2 ht3 ht4 ht5 ht6 ht7 ht8 ht9 ht10
      k_steps
      · refine Hold.of ?_
        rename_i d5 td5 o5 j5 xs5 n5 k5 mx5 h5 tk5 w0 w1 hd5 hS5 hn5 x5 x6 h6 F5 N5 tk6 e6
        k_dflt (refine' c_runB_top (B := ?B) (F := ?F) (X := ?X) (N := ?N) (T := ?T) (hk := ?hk) (hdp := ?hdp) (hun := ?hun) (HC := ?HC) (ht0 := b0) (ht1 := b1) (ht2 := b2) (ht3 := b3) (ht4 := b4) (ht5 := b5) (ht6 := b6) (ht7 := b7) (ht8 := b8) (ht9 := b9) (ht10 := b10) (hlow := b23) (V := b16) (hmo := b17) (hmd := b24) (hm9 := hm9) (hp := b18) (q0 := b19) (q1 := b20) (z0 := b21) (z1 := b22) (NTdk := NTdk) (NTlf := NTlf) (hld := hld) (mdk := mdk) (mlf := mlf) (ndk := b25) (nlf := b26) (hret := ?_))
        (case B => k_asm)
        (case F => exact F5)
        (case X => k_asm)
        (case N => exact N5)
        (case T => k_asm)
        (case hk => first | exact rfl | assumption)
        (case hdp => k_room)
        walk_at "c hun"
        (case HC => first | exact HC | exact CodeAll.keeps (Fr.keep (by assumption)) HC)
        intro tp5 r5 pl5 tt5 tw5 am3 am4 nw5 y0 y1 y2 y3 y4 y5 y6 y7 y8 y9 y10 h7 tk8 v1 v2 v3 v4 v5 g0 g1 g2 g3 g4 g5 g6 g7 g8 g9 g10 hsub5 hlow5 hmd5 ndk5 nlf5 hpl5 hlt5 F7 N7
        have V5 := b16.mono hsub5
        have hmo5 := hsub5 _ b17
        clear F5 N5
        k_steps
        refine Hold.of ?_
        rename_i h8 F8 N8
        have p05 : 0 ≤ tp5 := by omega
        have p15 : tp5 ≤ hs.length := by omega
        k_dflt (refine' c_right (B := ?B) (F := ?F) (X := ?X) (N := ?N) (T := ?T) (hk := ?hk) (hdp := ?hdp) (hun := ?hun) (V := ?V) (hmo := ?hmo) (hmd := ?hmd) (p0 := p05) (p1 := p15) (ha := ?ha) (hm := ?hm) (hret := ?_))
        (case B => k_asm)
        (case F => exact F8)
        (case X => k_asm)
        (case N => exact N8)
        (case T => k_asm)
        (case hk => first | exact rfl | assumption)
        (case hdp => k_room)
        walk_at "c hun"
        (case V => exact V5.mono (fun q hq => by repeat (first | exact hq | apply List.Mem.tail)))
        (case hmo => first | k_mem | simp [hmo5])
        (case hmd => k_mem)
        (case ha => omega)
        (case hm => rfl)
        intro h9 tk9 F9 N9
        clear F8 N8
        k_steps
        exact Step2.mk F9 (fun y q1 q2 q3 q4 => by simp only [q1, q2, q3, q4, if_false]) ((if_pos rfl).trans (congrArg (fun z : Int => some (Value.int z _)) (by omega))) N9 hsub5 hlt5 g0 g1 g2 g3 g4 g5 g6 g7 g8 g9 g10 hd5 hS5 hn5 x5 x6 hpl5 v2 v3 p05 p15 hlow5 hmd5 ndk5 nlf5
      · refine Hold.of ?_
        rename_i d5 td5 o5 j5 xs5 n5 k5 mx5 h5 tk5 w0 w1 hd5 hS5 hn5 x5 x6 h6 F5 N5 tk6 e6 tk7 e7
        k_dflt (refine' c_runB_bot (B := ?B) (F := ?F) (X := ?X) (N := ?N) (T := ?T) (hk := ?hk) (hdp := ?hdp) (hun := ?hun) (HC := ?HC) (ht0 := b0) (ht1 := b1) (ht2 := b2) (ht3 := b3) (ht4 := b4) (ht5 := b5) (ht6 := b6) (ht7 := b7) (ht8 := b8) (ht9 := b9) (ht10 := b10) (hlow := b23) (V := b16) (hmo := b17) (hmd := b24) (hm9 := hm9) (hp := b18) (q0 := b19) (q1 := b20) (z0 := b21) (z1 := b22) (NTdk := NTdk) (NTlf := NTlf) (hld := hld) (mdk := mdk) (mlf := mlf) (ndk := b25) (nlf := b26) (hret := ?_))
        (case B => k_asm)
        (case F => exact F5)
        (case X => k_asm)
        (case N => exact N5)
        (case T => k_asm)
        (case hk => first | exact rfl | assumption)
        (case hdp => k_room)
        walk_at "c hun"
        (case HC => first | exact HC | exact CodeAll.keeps (Fr.keep (by assumption)) HC)
        intro tp5 r5 pl5 tt5 tw5 am3 am4 nw5 y0 y1 y2 y3 y4 y5 y6 y7 y8 y9 y10 h7 tk8 v1 v2 v3 v4 v5 g0 g1 g2 g3 g4 g5 g6 g7 g8 g9 g10 hsub5 hlow5 hmd5 ndk5 nlf5 hpl5 hlt5 F7 N7
        have V5 := b16.mono hsub5
        have hmo5 := hsub5 _ b17
        clear F5 N5
        k_steps
        refine Hold.of ?_
        rename_i h8 F8 N8
        have p05 : 0 ≤ tp5 := by omega
        have p15 : tp5 ≤ hs.length := by omega
        k_dflt (refine' c_right (B := ?B) (F := ?F) (X := ?X) (N := ?N) (T := ?T) (hk := ?hk) (hdp := ?hdp) (hun := ?hun) (V := ?V) (hmo := ?hmo) (hmd := ?hmd) (p0 := p05) (p1 := p15) (ha := ?ha) (hm := ?hm) (hret := ?_))
        (case B => k_asm)
        (case F => exact F8)
        (case X => k_asm)
        (case N => exact N8)
        (case T => k_asm)
        (case hk => first | exact rfl | assumption)
        (case hdp => k_room)
        walk_at "c hun"
        (case V => exact V5.mono (fun q hq => by repeat (first | exact hq | apply List.Mem.tail)))
        (case hmo => first | k_mem | simp [hmo5])
        (case hmd => k_mem)
        (case ha => omega)
        (case hm => rfl)
        intro h9 tk9 F9 N9
        clear F8 N8
        k_steps
        exact Step2.mk F9 (fun y q1 q2 q3 q4 => by simp only [q1, q2, q3, q4, if_false]) ((if_pos rfl).trans (congrArg (fun z : Int => some (Value.int z _)) (by omega))) N9 hsub5 hlt5 g0 g1 g2 g3 g4 g5 g6 g7 g8 g9 g10 hd5 hS5 hn5 x5 x6 hpl5 v2 v3 p05 p15 hlow5 hmd5 ndk5 nlf5
      · refine Hold.of ?_
        rename_i d5 td5 o5 j5 xs5 n5 k5 mx5 h5 tk5 w0 w1 hd5 hS5 hn5 x5 x6 h6 F5 N5
        k_dflt (refine' c_runB_goto (B := ?B) (F := ?F) (X := ?X) (N := ?N) (T := ?T) (hk := ?hk) (hdp := ?hdp) (hun := ?hun) (HC := ?HC) (ht0 := b0) (ht1 := b1) (ht2 := b2) (ht3 := b3) (ht4 := b4) (ht5 := b5) (ht6 := b6) (ht7 := b7) (ht8 := b8) (ht9 := b9) (ht10 := b10) (hlow := b23) (V := b16) (hmo := b17) (hmd := b24) (hm9 := hm9) (hp := b18) (q0 := b19) (q1 := b20) (z0 := b21) (z1 := b22) (NTdk := NTdk) (NTlf := NTlf) (hld := hld) (mdk := mdk) (mlf := mlf) (ndk := b25) (nlf := b26) (b0 := ?b0) (b1 := ?b1) (hret := ?_))
        (case B => k_asm)
        (case F => exact F5)
        (case X => k_asm)
        (case N => exact N5)
        (case T => k_asm)
        (case hk => first | exact rfl | assumption)
        (case hdp => k_room)
        walk_at "c hun"
        (case HC => first | exact HC | exact CodeAll.keeps (Fr.keep (by assumption)) HC)
        (case b0 => omega)
        (case b1 => omega)
        intro tp5 r5 pl5 tt5 tw5 am3 am4 nw5 y0 y1 y2 y3 y4 y5 y6 y7 y8 y9 y10 h7 tk8 v1 v2 v3 v4 v5 g0 g1 g2 g3 g4 g5 g6 g7 g8 g9 g10 hsub5 hlow5 hmd5 ndk5 nlf5 hpl5 hlt5 F7 N7
        have V5 := b16.mono hsub5
        have hmo5 := hsub5 _ b17
        clear F5 N5
        k_steps
        refine Hold.of ?_
        rename_i h8 F8 N8
        have p05 : 0 ≤ tp5 := by omega
        have p15 : tp5 ≤ hs.length := by omega
        k_dflt (refine' c_right (B := ?B) (F := ?F) (X := ?X) (N := ?N) (T := ?T) (hk := ?hk) (hdp := ?hdp) (hun := ?hun) (V := ?V) (hmo := ?hmo) (hmd := ?hmd) (p0 := p05) (p1 := p15) (ha := ?ha) (hm := ?hm) (hret := ?_))
        (case B => k_asm)
        (case F => exact F8)
        (case X => k_asm)
        (case N => exact N8)
        (case T => k_asm)
        (case hk => first | exact rfl | assumption)
        (case hdp => k_room)
        walk_at "c hun"
        (case V => exact V5.mono (fun q hq => by repeat (first | exact hq | apply List.Mem.tail)))
        (case hmo => first | k_mem | simp [hmo5])
        (case hmd => k_mem)
        (case ha => omega)
        (case hm => rfl)
        intro h9 tk9 F9 N9
        clear F8 N8
        k_steps
        exact Step2.mk F9 (fun y q1 q2 q3 q4 => by simp only [q1, q2, q3, q4, if_false]) ((if_pos rfl).trans (congrArg (fun z : Int => some (Value.int z _)) (by omega))) N9 hsub5 hlt5 g0 g1 g2 g3 g4 g5 g6 g7 g8 g9 g10 hd5 hS5 hn5 x5 x6 hpl5 v2 v3 p05 p15 hlow5 hmd5 ndk5 nlf5
    case done =>
      intro m2 nx h tk hj2 F3 N3
      refine hj2.out ?_
      clear hj2
      intro z0 z1 z2 z3 z4 z5 z6 z7 z8 z9 z10 o3 j33 xs3 n3 k3 mx3 tp r q t0 t1 tt3 tw3 nz ta3 enx b0 b1 b2 b3 b4 b5 b6 b7 b8 b9 b10 b11 b12 b13 b14 b15 b16 b17 b18 b19 b20 b21 b22 b23 b24 b25 b26 b27 hm2 hab2
      subst enx
      clear aF2 aN2 aR aR2 hd hd1 hd2 hS hS1 hS2 hn hn1 hn2 x0 x1 x01 x11 x02 x12 hpl hmoC lowB ndkB nlfB lowC nmdC ndkC nlfC a1h a2h a3h c1 c2 c5 hm lZ lD lD1 nlf ldk ht0 ht1 ht2 ht3 ht4 ht5 ht6 ht7 ht8 ht9 ht10
      have F4 := Fr.four F3 hm2
      clear F3 hm2
      have s1 := b27 _ (mC _ mB1)
      have s2 := b27 _ (mC _ mB2)
      have s3 := b27 _ (mC _ mB3)
      have s4 := b27 _ (mC _ mB4)
      have s5 := b27 _ (mC _ mB5)
      have s6 := b27 _ (mC _ mB6)
      have L0 := l0.mono (fun q hq => b27 _ (mC _ (mBn q hq)))
      have L1 := l1.mono (fun q hq => b27 _ (mC _ (mBn q hq)))
      clear mB1 mB2 mB3 mB4 mB5 mB6 mBn mC l0 l1 hlines VC b16 b18 b23 b24 b25 b26 b27
      refine L0.out ?_
      intro xA dA lcA c0A cdA bA eA penA tA1 tA2 tA3 tA4 tA5 tA6 kA qA A1 A2 A3 A4 A5 A6 A7
      subst qA
      refine L1.out ?_
      intro xB dB lcB c0B cdB bB eB penB tB1 tB2 tB3 tB4 tB5 tB6 kB qB B1 B2 B3 B4 B5 B6 B7
      subst qB
      clear eL hbL eL2 hbL2 y02 y12 hlg b1h b2h c3 c4 NTdk NTlf hm9 mdk mlf hld b0 b1 b2 b3 b4 b5 b6 b7 b8 b9 b10 b11 b12 b13 b14 b15 b17 b19 b20 b21 b22 hab2 ld lo
      k_steps
      all_goals (first
        | exact absurd rfl (by assumption)
        | (rw [show ((97:Int) + ((hs.length:Int) + 1) == 98 + (hs.length:Int)) = true from by rw [beq_iff_eq]; omega]
           exact hret _ _ _ (by k_asm) (by repeat' (first | exact True.intro | (refine And.intro (GrownAt.of (by k_asm) (by k_mem)) ?_)))))
end
end
end Mine
theorem PySem.Challenge.cw_og0290_01_holds : PySem.Challenge.rw_og0290_01.Holds :=
  Mine.hd
