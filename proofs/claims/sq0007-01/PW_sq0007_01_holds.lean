import PyProof.Rows.All
import Wide.All
import OpenK.AllK
import Wide.FinOn
import PySem.Challenge.RW_sq0007_01
open PySem PySem.W PySem.Calls PyProof.Rows PySem.Spec
set_option Elab.async false
set_option maxRecDepth 100000
set_option maxHeartbeats 4000000
set_option linter.unusedVariables false
namespace Mine
noncomputable def ofDef : Option Stmt → Arguments × List Stmt × Scope
  | some (.FunctionDef _ a b _ _ _ s _ _ _) => (a, b, s)
  | _ => default
noncomputable def fTop (i : Nat) : Arguments × List Stmt × Scope := ofDef PySem.Challenge.pw_sq0007_01.main.body[i]?
noncomputable def fIn (i j : Nat) : Arguments × List Stmt × Scope := match PySem.Challenge.pw_sq0007_01.main.body[i]? with
  | some (.ClassDef _ _ _ b _ _ _ _ _ _ _) => ofDef b[j]?
  | _ => default
noncomputable def kf (P : Params) : Frag :=
  (nat_lit 2, ⟨.none, none, (.dict #[] 0), #[]⟩) ::
  (nat_lit 3, ⟨(.type "dict"), none, (.dict #[⟨PyData.keyHash P "__name__", .str "__name__" 165, (.str "law_sq0007_01" 1008)⟩, ⟨PyData.keyHash P "__doc__", .str "__doc__" 166, .none⟩, ⟨PyData.keyHash P "__package__", .str "__package__" 167, .none⟩, ⟨PyData.keyHash P "__loader__", .str "__loader__" 168, (.builtin "__main__.__loader__#opaque")⟩, ⟨PyData.keyHash P "__spec__", .str "__spec__" 169, .none⟩, ⟨PyData.keyHash P "__annotations__", .str "__annotations__" 170, (.ref 6)⟩, ⟨PyData.keyHash P "__builtins__", .str "__builtins__" 171, (.ref 4)⟩, ⟨PyData.keyHash P "__file__", .str "__file__" 173, (.str "/claim/cut.py" 172)⟩, ⟨PyData.keyHash P "__cached__", .str "__cached__" 174, .none⟩, ⟨PyData.keyHash P "_wall", .str "_wall" 193, (.ref 21)⟩, ⟨PyData.keyHash P "NOWHERE", .str "NOWHERE" 198, (.int (-1) 197)⟩, ⟨PyData.keyHash P "NEWLINE", .str "NEWLINE" 200, (.int (10) 199)⟩, ⟨PyData.keyHash P "TAB", .str "TAB" 202, (.int (9) 201)⟩, ⟨PyData.keyHash P "BLANK", .str "BLANK" 204, (.int (32) 203)⟩, ⟨PyData.keyHash P "DELETE", .str "DELETE" 206, (.int (127) 205)⟩, ⟨PyData.keyHash P "CARET", .str "CARET" 208, (.int (94) 207)⟩, ⟨PyData.keyHash P "BACKSLASH", .str "BACKSLASH" 210, (.int (92) 209)⟩, ⟨PyData.keyHash P "DOLLAR", .str "DOLLAR" 212, (.int (36) 211)⟩, ⟨PyData.keyHash P "POINT", .str "POINT" 214, (.int (46) 213)⟩, ⟨PyData.keyHash P "Options", .str "Options" 253, (.ref 39)⟩, ⟨PyData.keyHash P "is_control", .str "is_control" 260, (.ref 50)⟩, ⟨PyData.keyHash P "is_raw", .str "is_raw" 267, (.ref 57)⟩, ⟨PyData.keyHash P "figures_of", .str "figures_of" 274, (.ref 64)⟩, ⟨PyData.keyHash P "shown_codes", .str "shown_codes" 283, (.ref 71)⟩, ⟨PyData.keyHash P "SHOWN", .str "SHOWN" 287, (.int (0) 286)⟩, ⟨PyData.keyHash P "POINTS", .str "POINTS" 289, (.int (2) 288)⟩, ⟨PyData.keyHash P "View", .str "View" 375, (.ref 138)⟩, ⟨PyData.keyHash P "ToldView", .str "ToldView" 437, (.ref 188)⟩, ⟨PyData.keyHash P "Signs", .str "Signs" 472, (.ref 207)⟩, ⟨PyData.keyHash P "is_break", .str "is_break" 480, (.ref 218)⟩, ⟨PyData.keyHash P "hidden_end", .str "hidden_end" 488, (.ref 225)⟩, ⟨PyData.keyHash P "hidden_begin", .str "hidden_begin" 496, (.ref 232)⟩, ⟨PyData.keyHash P "shown_place", .str "shown_place" 505, (.ref 239)⟩, ⟨PyData.keyHash P "string_signs", .str "string_signs" 511, (.ref 244)⟩, ⟨PyData.keyHash P "string_count", .str "string_count" 517, (.ref 249)⟩, ⟨PyData.keyHash P "shown_count", .str "shown_count" 526, (.ref 256)⟩, ⟨PyData.keyHash P "hidden_signs", .str "hidden_signs" 538, (.ref 263)⟩, ⟨PyData.keyHash P "signs_at", .str "signs_at" 544, (.ref 268)⟩, ⟨PyData.keyHash P "Walk", .str "Walk" 608, (.ref 313)⟩, ⟨PyData.keyHash P "Row", .str "Row" 668, (.ref 348)⟩, ⟨PyData.keyHash P "put_sign", .str "put_sign" 678, (.ref 359)⟩, ⟨PyData.keyHash P "end_of_line", .str "end_of_line" 688, (.ref 366)⟩, ⟨PyData.keyHash P "overflow", .str "overflow" 702, (.ref 373)⟩, ⟨PyData.keyHash P "folded_row", .str "folded_row" 720, (.ref 380)⟩, ⟨PyData.keyHash P "cut_row", .str "cut_row" 738, (.ref 387)⟩, ⟨PyData.keyHash P "laid_row", .str "laid_row" 750, (.ref 394)⟩, ⟨PyData.keyHash P "laid_rows", .str "laid_rows" 765, (.ref 401)⟩, ⟨PyData.keyHash P "line_begin", .str "line_begin" 775, (.ref 408)⟩, ⟨PyData.keyHash P "rows_of_line", .str "rows_of_line" 788, (.ref 415)⟩, ⟨PyData.keyHash P "own_spot", .str "own_spot" 800, (.ref 422)⟩, ⟨PyData.keyHash P "index_of", .str "index_of" 810, (.ref 429)⟩, ⟨PyData.keyHash P "has_place", .str "has_place" 819, (.ref 436)⟩, ⟨PyData.keyHash P "column_in", .str "column_in" 829, (.ref 443)⟩, ⟨PyData.keyHash P "cursor_in", .str "cursor_in" 839, (.ref 450)⟩, ⟨PyData.keyHash P "row_ahead", .str "row_ahead" 853, (.ref 457)⟩, ⟨PyData.keyHash P "row_behind", .str "row_behind" 865, (.ref 464)⟩, ⟨PyData.keyHash P "gone_from", .str "gone_from" 881, (.ref 471)⟩, ⟨PyData.keyHash P "vertical_motion", .str "vertical_motion" 896, (.ref 478)⟩, ⟨PyData.keyHash P "begin_moved", .str "begin_moved" 902, (.ref 483)⟩, ⟨PyData.keyHash P "DEFAULT", .str "DEFAULT" 906, (.str "default" 905)⟩, ⟨PyData.keyHash P "PLAIN", .str "PLAIN" 913, (.ref 484)⟩, ⟨PyData.keyHash P "UNTOLD", .str "UNTOLD" 914, (.ref 485)⟩, ⟨PyData.keyHash P "Face", .str "Face" 945, (.ref 504)⟩, ⟨PyData.keyHash P "FaceTable", .str "FaceTable" 1007, (.ref 551)⟩, ⟨PyData.keyHash P "_law_draw", .str "_law_draw" 1017, (.ref 562)⟩, ⟨PyData.keyHash P "_law_signs", .str "_law_signs" 1023, (.ref 567)⟩, ⟨PyData.keyHash P "_law_rows", .str "_law_rows" 1029, (.ref 572)⟩, ⟨PyData.keyHash P "_law_seen", .str "_law_seen" 1039, (.ref 579)⟩, ⟨PyData.keyHash P "_law_moved", .str "_law_moved" 1045, (.ref 584)⟩, ⟨PyData.keyHash P "_law_cursor", .str "_law_cursor" 1051, (.ref 589)⟩, ⟨PyData.keyHash P "law", .str "law" 1057, (.ref 594)⟩] 71), #[]⟩) ::
  (nat_lit 15, ⟨(.type "tuple"), none, (.seq #[] 0), #[]⟩) ::
  (nat_lit 17, ⟨(.type "tuple"), none, (.seq #[(.str "k" 190)] 0), #[]⟩) ::
  (nat_lit 18, ⟨(.type "tuple"), none, (.seq #[] 0), #[]⟩) ::
  (nat_lit 20, ⟨(.type "code"), none, (.fields #[(.str "_wall" 187), (.str "_wall" 188), (.str "/claim/cut.py" 189), (.int (1) 0), (.int (1) 0), (.int (0) 0), (.int (0) 0), (.int (3) 0), (.ref 15), (.bool true), (.int (181) 0), (.ref 16), .none, (.ref 17), (.ref 18), (.ref 19), (.int (191) 0), (.int (1) 0), (.str "/claim/cut.py" 192)]), #[]⟩) ::
  (nat_lit 21, ⟨(.type "function"), none, (.func (fnOf "_wall" "_wall" (fTop 0).1 (fTop 0).2.1 (fTop 0).2.2 .none .none .none (.str "__main__" 164) none (.ref 20) .none)), #[]⟩) ::
  (nat_lit 29, ⟨(.type "tuple"), none, (.seq #[(.int (8) 227), (.bool true), (.bool false), (.bool false), (.int (0) 228)] 0), #[]⟩) ::
  (nat_lit 30, ⟨(.type "tuple"), none, (.seq #[] 0), #[]⟩) ::
  (nat_lit 32, ⟨(.type "tuple"), none, (.seq #[(.str "self" 232), (.str "tab_width" 233), (.str "has_carets" 234), (.str "truncates" 235), (.str "wraps_words" 236), (.str "hscroll" 237)] 0), #[]⟩) ::
  (nat_lit 33, ⟨(.type "tuple"), none, (.seq #[] 0), #[]⟩) ::
  (nat_lit 35, ⟨(.type "code"), none, (.fields #[(.str "__init__" 229), (.str "Options.__init__" 230), (.str "/claim/cut.py" 231), (.int (16) 0), (.int (6) 0), (.int (0) 0), (.int (0) 0), (.int (3) 0), (.ref 30), (.bool true), (.int (181) 0), (.ref 31), .none, (.ref 32), (.ref 33), (.ref 34), (.int (238) 0), (.int (16) 0), (.str "/claim/cut.py" 239)]), #[]⟩) ::
  (nat_lit 36, ⟨(.type "function"), none, (.func (fnOf "__init__" "Options.__init__" (fIn 11 0).1 (fIn 11 0).2.1 (fIn 11 0).2.2 (.ref 29) .none .none (.str "emacs.glyphs" 194) none (.ref 35) .none)), #[]⟩) ::
  (nat_lit 37, ⟨(.type "tuple"), none, (.seq #[(.str "has_carets" 241), (.str "hscroll" 242), (.str "tab_width" 243), (.str "truncates" 244), (.str "wraps_words" 245)] 0), #[]⟩) ::
  (nat_lit 38, ⟨(.type "dict"), none, (.dict #[⟨PyData.keyHash P "__module__", .str "__module__" 222, (.str "emacs.glyphs" 194)⟩, ⟨PyData.keyHash P "__firstlineno__", .str "__firstlineno__" 226, (.int (14) 225)⟩, ⟨PyData.keyHash P "__init__", .str "__init__" 240, (.ref 36)⟩, ⟨PyData.keyHash P "__static_attributes__", .str "__static_attributes__" 246, (.ref 37)⟩, ⟨PyData.keyHash P "__dict__", .str "__dict__" 248, (.ref 40)⟩, ⟨PyData.keyHash P "__weakref__", .str "__weakref__" 250, (.ref 41)⟩, ⟨PyData.keyHash P "__doc__", .str "__doc__" 251, .none⟩] 4), #[]⟩) ::
  (nat_lit 39, ⟨(.type "type"), none, (.cls { name := "Options", bases := [(.type "object")], mro := [(.ref 39), (.type "object")], ns := 38, qualname := "Options", hasDict := true, slotNames := [], subclasses := [], abstract := false, collection := none, hasDel := false }), #[none, none, (some (.str "Options" 215)), (some (.str "Options" 223)), (some (.builtin "object.__new__")), (some (.bool true))]⟩) ::
  (nat_lit 40, ⟨(.type "getset_descriptor"), none, (.fields #[(.str "__dict__" 247), (.ref 39), (.builtin "function.__dict__"), (.builtin "function.__dict__#set")]), #[]⟩) ::
  (nat_lit 41, ⟨(.type "getset_descriptor"), none, (.fields #[(.str "__weakref__" 249), (.ref 39), (.builtin "ExceptionGroup.__weakref__"), .none]), #[]⟩) ::
  (nat_lit 44, ⟨(.type "tuple"), none, (.seq #[] 0), #[]⟩) ::
  (nat_lit 46, ⟨(.type "tuple"), none, (.seq #[(.str "code" 257)] 0), #[]⟩) ::
  (nat_lit 47, ⟨(.type "tuple"), none, (.seq #[] 0), #[]⟩) ::
  (nat_lit 49, ⟨(.type "code"), none, (.fields #[(.str "is_control" 254), (.str "is_control" 255), (.str "/claim/cut.py" 256), (.int (22) 0), (.int (1) 0), (.int (0) 0), (.int (0) 0), (.int (3) 0), (.ref 44), (.bool true), (.int (181) 0), (.ref 45), .none, (.ref 46), (.ref 47), (.ref 48), (.int (258) 0), (.int (22) 0), (.str "/claim/cut.py" 259)]), #[]⟩) ::
  (nat_lit 50, ⟨(.type "function"), none, (.func (fnOf "is_control" "is_control" (fTop 12).1 (fTop 12).2.1 (fTop 12).2.2 .none .none .none (.str "emacs.glyphs" 194) none (.ref 49) .none)), #[]⟩) ::
  (nat_lit 51, ⟨(.type "tuple"), none, (.seq #[] 0), #[]⟩) ::
  (nat_lit 53, ⟨(.type "tuple"), none, (.seq #[(.str "code" 264)] 0), #[]⟩) ::
  (nat_lit 54, ⟨(.type "tuple"), none, (.seq #[] 0), #[]⟩) ::
  (nat_lit 56, ⟨(.type "code"), none, (.fields #[(.str "is_raw" 261), (.str "is_raw" 262), (.str "/claim/cut.py" 263), (.int (24) 0), (.int (1) 0), (.int (0) 0), (.int (0) 0), (.int (3) 0), (.ref 51), (.bool true), (.int (181) 0), (.ref 52), .none, (.ref 53), (.ref 54), (.ref 55), (.int (265) 0), (.int (24) 0), (.str "/claim/cut.py" 266)]), #[]⟩) ::
  (nat_lit 57, ⟨(.type "function"), none, (.func (fnOf "is_raw" "is_raw" (fTop 13).1 (fTop 13).2.1 (fTop 13).2.2 .none .none .none (.str "emacs.glyphs" 194) none (.ref 56) .none)), #[]⟩) ::
  (nat_lit 58, ⟨(.type "tuple"), none, (.seq #[] 0), #[]⟩) ::
  (nat_lit 60, ⟨(.type "tuple"), none, (.seq #[(.str "code" 271)] 0), #[]⟩) ::
  (nat_lit 61, ⟨(.type "tuple"), none, (.seq #[] 0), #[]⟩) ::
  (nat_lit 63, ⟨(.type "code"), none, (.fields #[(.str "figures_of" 268), (.str "figures_of" 269), (.str "/claim/cut.py" 270), (.int (26) 0), (.int (1) 0), (.int (0) 0), (.int (0) 0), (.int (3) 0), (.ref 58), (.bool true), (.int (181) 0), (.ref 59), .none, (.ref 60), (.ref 61), (.ref 62), (.int (272) 0), (.int (26) 0), (.str "/claim/cut.py" 273)]), #[]⟩) ::
  (nat_lit 64, ⟨(.type "function"), none, (.func (fnOf "figures_of" "figures_of" (fTop 14).1 (fTop 14).2.1 (fTop 14).2.2 .none .none .none (.str "emacs.glyphs" 194) none (.ref 63) .none)), #[]⟩) ::
  (nat_lit 65, ⟨(.type "tuple"), none, (.seq #[] 0), #[]⟩) ::
  (nat_lit 67, ⟨(.type "tuple"), none, (.seq #[(.str "code" 278), (.str "column" 279), (.str "options" 280)] 0), #[]⟩) ::
  (nat_lit 68, ⟨(.type "tuple"), none, (.seq #[] 0), #[]⟩) ::
  (nat_lit 70, ⟨(.type "code"), none, (.fields #[(.str "shown_codes" 275), (.str "shown_codes" 276), (.str "/claim/cut.py" 277), (.int (28) 0), (.int (3) 0), (.int (0) 0), (.int (0) 0), (.int (3) 0), (.ref 65), (.bool true), (.int (181) 0), (.ref 66), .none, (.ref 67), (.ref 68), (.ref 69), (.int (281) 0), (.int (28) 0), (.str "/claim/cut.py" 282)]), #[]⟩) ::
  (nat_lit 71, ⟨(.type "function"), none, (.func (fnOf "shown_codes" "shown_codes" (fTop 15).1 (fTop 15).2.1 (fTop 15).2.2 .none .none .none (.str "emacs.glyphs" 194) none (.ref 70) .none)), #[]⟩) ::
  (nat_lit 79, ⟨(.type "tuple"), none, (.seq #[(.int (1) 302)] 0), #[]⟩) ::
  (nat_lit 80, ⟨(.type "tuple"), none, (.seq #[] 0), #[]⟩) ::
  (nat_lit 82, ⟨(.type "tuple"), none, (.seq #[(.str "self" 306), (.str "codes" 307), (.str "begin" 308)] 0), #[]⟩) ::
  (nat_lit 83, ⟨(.type "tuple"), none, (.seq #[] 0), #[]⟩) ::
  (nat_lit 85, ⟨(.type "code"), none, (.fields #[(.str "__init__" 303), (.str "View.__init__" 304), (.str "/claim/cut.py" 305), (.int (43) 0), (.int (3) 0), (.int (0) 0), (.int (0) 0), (.int (3) 0), (.ref 80), (.bool true), (.int (181) 0), (.ref 81), .none, (.ref 82), (.ref 83), (.ref 84), (.int (309) 0), (.int (43) 0), (.str "/claim/cut.py" 310)]), #[]⟩) ::
  (nat_lit 86, ⟨(.type "function"), none, (.func (fnOf "__init__" "View.__init__" (fIn 19 0).1 (fIn 19 0).2.1 (fIn 19 0).2.2 (.ref 79) .none .none (.str "emacs.views" 284) none (.ref 85) .none)), #[]⟩) ::
  (nat_lit 87, ⟨(.type "tuple"), none, (.seq #[] 0), #[]⟩) ::
  (nat_lit 89, ⟨(.type "tuple"), none, (.seq #[(.str "self" 315)] 0), #[]⟩) ::
  (nat_lit 90, ⟨(.type "tuple"), none, (.seq #[] 0), #[]⟩) ::
  (nat_lit 92, ⟨(.type "code"), none, (.fields #[(.str "begin" 312), (.str "View.begin" 313), (.str "/claim/cut.py" 314), (.int (47) 0), (.int (1) 0), (.int (0) 0), (.int (0) 0), (.int (3) 0), (.ref 87), (.bool true), (.int (181) 0), (.ref 88), .none, (.ref 89), (.ref 90), (.ref 91), (.int (316) 0), (.int (47) 0), (.str "/claim/cut.py" 317)]), #[]⟩) ::
  (nat_lit 93, ⟨(.type "function"), none, (.func (fnOf "begin" "View.begin" (fIn 19 1).1 (fIn 19 1).2.1 (fIn 19 1).2.2 .none .none .none (.str "emacs.views" 284) none (.ref 92) .none)), #[]⟩) ::
  (nat_lit 94, ⟨(.type "tuple"), none, (.seq #[] 0), #[]⟩) ::
  (nat_lit 96, ⟨(.type "tuple"), none, (.seq #[(.str "self" 322)] 0), #[]⟩) ::
  (nat_lit 97, ⟨(.type "tuple"), none, (.seq #[] 0), #[]⟩) ::
  (nat_lit 99, ⟨(.type "code"), none, (.fields #[(.str "end" 319), (.str "View.end" 320), (.str "/claim/cut.py" 321), (.int (50) 0), (.int (1) 0), (.int (0) 0), (.int (0) 0), (.int (3) 0), (.ref 94), (.bool true), (.int (181) 0), (.ref 95), .none, (.ref 96), (.ref 97), (.ref 98), (.int (323) 0), (.int (50) 0), (.str "/claim/cut.py" 324)]), #[]⟩) ::
  (nat_lit 100, ⟨(.type "function"), none, (.func (fnOf "end" "View.end" (fIn 19 2).1 (fIn 19 2).2.1 (fIn 19 2).2.2 .none .none .none (.str "emacs.views" 284) none (.ref 99) .none)), #[]⟩) ::
  (nat_lit 101, ⟨(.type "tuple"), none, (.seq #[] 0), #[]⟩) ::
  (nat_lit 103, ⟨(.type "tuple"), none, (.seq #[(.str "self" 329), (.str "place" 330)] 0), #[]⟩) ::
  (nat_lit 104, ⟨(.type "tuple"), none, (.seq #[] 0), #[]⟩) ::
  (nat_lit 106, ⟨(.type "code"), none, (.fields #[(.str "code_at" 326), (.str "View.code_at" 327), (.str "/claim/cut.py" 328), (.int (53) 0), (.int (2) 0), (.int (0) 0), (.int (0) 0), (.int (3) 0), (.ref 101), (.bool true), (.int (181) 0), (.ref 102), .none, (.ref 103), (.ref 104), (.ref 105), (.int (331) 0), (.int (53) 0), (.str "/claim/cut.py" 332)]), #[]⟩) ::
  (nat_lit 107, ⟨(.type "function"), none, (.func (fnOf "code_at" "View.code_at" (fIn 19 3).1 (fIn 19 3).2.1 (fIn 19 3).2.2 .none .none .none (.str "emacs.views" 284) none (.ref 106) .none)), #[]⟩) ::
  (nat_lit 108, ⟨(.type "tuple"), none, (.seq #[] 0), #[]⟩) ::
  (nat_lit 110, ⟨(.type "tuple"), none, (.seq #[(.str "self" 337), (.str "place" 338)] 0), #[]⟩) ::
  (nat_lit 111, ⟨(.type "tuple"), none, (.seq #[] 0), #[]⟩) ::
  (nat_lit 113, ⟨(.type "code"), none, (.fields #[(.str "faces_at" 334), (.str "View.faces_at" 335), (.str "/claim/cut.py" 336), (.int (56) 0), (.int (2) 0), (.int (0) 0), (.int (0) 0), (.int (3) 0), (.ref 108), (.bool true), (.int (181) 0), (.ref 109), .none, (.ref 110), (.ref 111), (.ref 112), (.int (339) 0), (.int (56) 0), (.str "/claim/cut.py" 340)]), #[]⟩) ::
  (nat_lit 114, ⟨(.type "function"), none, (.func (fnOf "faces_at" "View.faces_at" (fIn 19 4).1 (fIn 19 4).2.1 (fIn 19 4).2.2 .none .none .none (.str "emacs.views" 284) none (.ref 113) .none)), #[]⟩) ::
  (nat_lit 115, ⟨(.type "tuple"), none, (.seq #[] 0), #[]⟩) ::
  (nat_lit 117, ⟨(.type "tuple"), none, (.seq #[(.str "self" 345), (.str "place" 346)] 0), #[]⟩) ::
  (nat_lit 118, ⟨(.type "tuple"), none, (.seq #[] 0), #[]⟩) ::
  (nat_lit 120, ⟨(.type "code"), none, (.fields #[(.str "hidden_at" 342), (.str "View.hidden_at" 343), (.str "/claim/cut.py" 344), (.int (59) 0), (.int (2) 0), (.int (0) 0), (.int (0) 0), (.int (3) 0), (.ref 115), (.bool true), (.int (181) 0), (.ref 116), .none, (.ref 117), (.ref 118), (.ref 119), (.int (347) 0), (.int (59) 0), (.str "/claim/cut.py" 348)]), #[]⟩) ::
  (nat_lit 121, ⟨(.type "function"), none, (.func (fnOf "hidden_at" "View.hidden_at" (fIn 19 5).1 (fIn 19 5).2.1 (fIn 19 5).2.2 .none .none .none (.str "emacs.views" 284) none (.ref 120) .none)), #[]⟩) ::
  (nat_lit 122, ⟨(.type "tuple"), none, (.seq #[] 0), #[]⟩) ::
  (nat_lit 124, ⟨(.type "tuple"), none, (.seq #[(.str "self" 353), (.str "place" 354)] 0), #[]⟩) ::
  (nat_lit 125, ⟨(.type "tuple"), none, (.seq #[] 0), #[]⟩) ::
  (nat_lit 127, ⟨(.type "code"), none, (.fields #[(.str "shown_at" 350), (.str "View.shown_at" 351), (.str "/claim/cut.py" 352), (.int (62) 0), (.int (2) 0), (.int (0) 0), (.int (0) 0), (.int (3) 0), (.ref 122), (.bool true), (.int (181) 0), (.ref 123), .none, (.ref 124), (.ref 125), (.ref 126), (.int (355) 0), (.int (62) 0), (.str "/claim/cut.py" 356)]), #[]⟩) ::
  (nat_lit 128, ⟨(.type "function"), none, (.func (fnOf "shown_at" "View.shown_at" (fIn 19 6).1 (fIn 19 6).2.1 (fIn 19 6).2.2 .none .none .none (.str "emacs.views" 284) none (.ref 127) .none)), #[]⟩) ::
  (nat_lit 129, ⟨(.type "tuple"), none, (.seq #[] 0), #[]⟩) ::
  (nat_lit 131, ⟨(.type "tuple"), none, (.seq #[(.str "self" 361), (.str "place" 362)] 0), #[]⟩) ::
  (nat_lit 132, ⟨(.type "tuple"), none, (.seq #[] 0), #[]⟩) ::
  (nat_lit 134, ⟨(.type "code"), none, (.fields #[(.str "strings_at" 358), (.str "View.strings_at" 359), (.str "/claim/cut.py" 360), (.int (65) 0), (.int (2) 0), (.int (0) 0), (.int (0) 0), (.int (3) 0), (.ref 129), (.bool true), (.int (181) 0), (.ref 130), .none, (.ref 131), (.ref 132), (.ref 133), (.int (363) 0), (.int (65) 0), (.str "/claim/cut.py" 364)]), #[]⟩) ::
  (nat_lit 135, ⟨(.type "function"), none, (.func (fnOf "strings_at" "View.strings_at" (fIn 19 7).1 (fIn 19 7).2.1 (fIn 19 7).2.2 .none .none .none (.str "emacs.views" 284) none (.ref 134) .none)), #[]⟩) ::
  (nat_lit 136, ⟨(.type "tuple"), none, (.seq #[(.str "codes" 366), (.str "first" 367)] 0), #[]⟩) ::
  (nat_lit 137, ⟨(.type "dict"), none, (.dict #[⟨PyData.keyHash P "__module__", .str "__module__" 297, (.str "emacs.views" 284)⟩, ⟨PyData.keyHash P "__firstlineno__", .str "__firstlineno__" 301, (.int (41) 300)⟩, ⟨PyData.keyHash P "__init__", .str "__init__" 311, (.ref 86)⟩, ⟨PyData.keyHash P "begin", .str "begin" 318, (.ref 93)⟩, ⟨PyData.keyHash P "end", .str "end" 325, (.ref 100)⟩, ⟨PyData.keyHash P "code_at", .str "code_at" 333, (.ref 107)⟩, ⟨PyData.keyHash P "faces_at", .str "faces_at" 341, (.ref 114)⟩, ⟨PyData.keyHash P "hidden_at", .str "hidden_at" 349, (.ref 121)⟩, ⟨PyData.keyHash P "shown_at", .str "shown_at" 357, (.ref 128)⟩, ⟨PyData.keyHash P "strings_at", .str "strings_at" 365, (.ref 135)⟩, ⟨PyData.keyHash P "__static_attributes__", .str "__static_attributes__" 368, (.ref 136)⟩, ⟨PyData.keyHash P "__dict__", .str "__dict__" 370, (.ref 139)⟩, ⟨PyData.keyHash P "__weakref__", .str "__weakref__" 372, (.ref 140)⟩, ⟨PyData.keyHash P "__doc__", .str "__doc__" 373, .none⟩] 4), #[]⟩) ::
  (nat_lit 138, ⟨(.type "type"), none, (.cls { name := "View", bases := [(.type "object")], mro := [(.ref 138), (.type "object")], ns := 137, qualname := "View", hasDict := true, slotNames := [], subclasses := [(.ref 188)], abstract := false, collection := none, hasDel := false }), #[none, none, (some (.str "View" 290)), (some (.str "View" 298)), (some (.builtin "object.__new__")), (some (.bool true))]⟩) ::
  (nat_lit 139, ⟨(.type "getset_descriptor"), none, (.fields #[(.str "__dict__" 369), (.ref 138), (.builtin "function.__dict__"), (.builtin "function.__dict__#set")]), #[]⟩) ::
  (nat_lit 140, ⟨(.type "getset_descriptor"), none, (.fields #[(.str "__weakref__" 371), (.ref 138), (.builtin "ExceptionGroup.__weakref__"), .none]), #[]⟩) ::
  (nat_lit 143, ⟨(.type "tuple"), none, (.seq #[(.ref 138)] 0), #[]⟩) ::
  (nat_lit 150, ⟨(.type "tuple"), none, (.seq #[(.int (1) 388)] 0), #[]⟩) ::
  (nat_lit 151, ⟨(.type "tuple"), none, (.seq #[] 0), #[]⟩) ::
  (nat_lit 153, ⟨(.type "tuple"), none, (.seq #[(.str "self" 392), (.str "codes" 393), (.str "begin" 394)] 0), #[]⟩) ::
  (nat_lit 154, ⟨(.type "tuple"), none, (.seq #[] 0), #[]⟩) ::
  (nat_lit 156, ⟨(.type "code"), none, (.fields #[(.str "__init__" 389), (.str "ToldView.__init__" 390), (.str "/claim/cut.py" 391), (.int (69) 0), (.int (3) 0), (.int (0) 0), (.int (0) 0), (.int (3) 0), (.ref 151), (.bool true), (.int (181) 0), (.ref 152), .none, (.ref 153), (.ref 154), (.ref 155), (.int (395) 0), (.int (69) 0), (.str "/claim/cut.py" 396)]), #[]⟩) ::
  (nat_lit 157, ⟨(.type "function"), none, (.func (fnOf "__init__" "ToldView.__init__" (fIn 20 0).1 (fIn 20 0).2.1 (fIn 20 0).2.2 (.ref 150) .none .none (.str "emacs.views" 284) none (.ref 156) .none)), #[]⟩) ::
  (nat_lit 158, ⟨(.type "tuple"), none, (.seq #[] 0), #[]⟩) ::
  (nat_lit 160, ⟨(.type "tuple"), none, (.seq #[(.str "self" 401), (.str "place" 402)] 0), #[]⟩) ::
  (nat_lit 161, ⟨(.type "tuple"), none, (.seq #[] 0), #[]⟩) ::
  (nat_lit 163, ⟨(.type "code"), none, (.fields #[(.str "faces_at" 398), (.str "ToldView.faces_at" 399), (.str "/claim/cut.py" 400), (.int (76) 0), (.int (2) 0), (.int (0) 0), (.int (0) 0), (.int (3) 0), (.ref 158), (.bool true), (.int (181) 0), (.ref 159), .none, (.ref 160), (.ref 161), (.ref 162), (.int (403) 0), (.int (76) 0), (.str "/claim/cut.py" 404)]), #[]⟩) ::
  (nat_lit 164, ⟨(.type "function"), none, (.func (fnOf "faces_at" "ToldView.faces_at" (fIn 20 1).1 (fIn 20 1).2.1 (fIn 20 1).2.2 .none .none .none (.str "emacs.views" 284) none (.ref 163) .none)), #[]⟩) ::
  (nat_lit 165, ⟨(.type "tuple"), none, (.seq #[] 0), #[]⟩) ::
  (nat_lit 167, ⟨(.type "tuple"), none, (.seq #[(.str "self" 409), (.str "place" 410)] 0), #[]⟩) ::
  (nat_lit 168, ⟨(.type "tuple"), none, (.seq #[] 0), #[]⟩) ::
  (nat_lit 170, ⟨(.type "code"), none, (.fields #[(.str "hidden_at" 406), (.str "ToldView.hidden_at" 407), (.str "/claim/cut.py" 408), (.int (79) 0), (.int (2) 0), (.int (0) 0), (.int (0) 0), (.int (3) 0), (.ref 165), (.bool true), (.int (181) 0), (.ref 166), .none, (.ref 167), (.ref 168), (.ref 169), (.int (411) 0), (.int (79) 0), (.str "/claim/cut.py" 412)]), #[]⟩) ::
  (nat_lit 171, ⟨(.type "function"), none, (.func (fnOf "hidden_at" "ToldView.hidden_at" (fIn 20 2).1 (fIn 20 2).2.1 (fIn 20 2).2.2 .none .none .none (.str "emacs.views" 284) none (.ref 170) .none)), #[]⟩) ::
  (nat_lit 172, ⟨(.type "tuple"), none, (.seq #[] 0), #[]⟩) ::
  (nat_lit 174, ⟨(.type "tuple"), none, (.seq #[(.str "self" 417), (.str "place" 418)] 0), #[]⟩) ::
  (nat_lit 175, ⟨(.type "tuple"), none, (.seq #[] 0), #[]⟩) ::
  (nat_lit 177, ⟨(.type "code"), none, (.fields #[(.str "shown_at" 414), (.str "ToldView.shown_at" 415), (.str "/claim/cut.py" 416), (.int (82) 0), (.int (2) 0), (.int (0) 0), (.int (0) 0), (.int (3) 0), (.ref 172), (.bool true), (.int (181) 0), (.ref 173), .none, (.ref 174), (.ref 175), (.ref 176), (.int (419) 0), (.int (82) 0), (.str "/claim/cut.py" 420)]), #[]⟩) ::
  (nat_lit 178, ⟨(.type "function"), none, (.func (fnOf "shown_at" "ToldView.shown_at" (fIn 20 3).1 (fIn 20 3).2.1 (fIn 20 3).2.2 .none .none .none (.str "emacs.views" 284) none (.ref 177) .none)), #[]⟩) ::
  (nat_lit 179, ⟨(.type "tuple"), none, (.seq #[] 0), #[]⟩) ::
  (nat_lit 181, ⟨(.type "tuple"), none, (.seq #[(.str "self" 425), (.str "place" 426)] 0), #[]⟩) ::
  (nat_lit 182, ⟨(.type "tuple"), none, (.seq #[] 0), #[]⟩) ::
  (nat_lit 184, ⟨(.type "code"), none, (.fields #[(.str "strings_at" 422), (.str "ToldView.strings_at" 423), (.str "/claim/cut.py" 424), (.int (85) 0), (.int (2) 0), (.int (0) 0), (.int (0) 0), (.int (3) 0), (.ref 179), (.bool true), (.int (181) 0), (.ref 180), .none, (.ref 181), (.ref 182), (.ref 183), (.int (427) 0), (.int (85) 0), (.str "/claim/cut.py" 428)]), #[]⟩) ::
  (nat_lit 185, ⟨(.type "function"), none, (.func (fnOf "strings_at" "ToldView.strings_at" (fIn 20 4).1 (fIn 20 4).2.1 (fIn 20 4).2.2 .none .none .none (.str "emacs.views" 284) none (.ref 184) .none)), #[]⟩) ::
  (nat_lit 186, ⟨(.type "tuple"), none, (.seq #[(.str "faces" 430), (.str "hidden" 431), (.str "shown" 432), (.str "strings" 433)] 0), #[]⟩) ::
  (nat_lit 187, ⟨(.type "dict"), none, (.dict #[⟨PyData.keyHash P "__module__", .str "__module__" 383, (.str "emacs.views" 284)⟩, ⟨PyData.keyHash P "__firstlineno__", .str "__firstlineno__" 387, (.int (67) 386)⟩, ⟨PyData.keyHash P "__init__", .str "__init__" 397, (.ref 157)⟩, ⟨PyData.keyHash P "faces_at", .str "faces_at" 405, (.ref 164)⟩, ⟨PyData.keyHash P "hidden_at", .str "hidden_at" 413, (.ref 171)⟩, ⟨PyData.keyHash P "shown_at", .str "shown_at" 421, (.ref 178)⟩, ⟨PyData.keyHash P "strings_at", .str "strings_at" 429, (.ref 185)⟩, ⟨PyData.keyHash P "__static_attributes__", .str "__static_attributes__" 434, (.ref 186)⟩, ⟨PyData.keyHash P "__doc__", .str "__doc__" 435, .none⟩] 2), #[]⟩) ::
  (nat_lit 188, ⟨(.type "type"), none, (.cls { name := "ToldView", bases := [(.ref 138)], mro := [(.ref 188), (.ref 138), (.type "object")], ns := 187, qualname := "ToldView", hasDict := true, slotNames := [], subclasses := [], abstract := false, collection := none, hasDel := false }), #[(some (.ref 143)), none, (some (.str "ToldView" 376)), (some (.str "ToldView" 384)), (some (.builtin "object.__new__")), (some (.bool true))]⟩) ::
  (nat_lit 198, ⟨(.type "tuple"), none, (.seq #[] 0), #[]⟩) ::
  (nat_lit 200, ⟨(.type "tuple"), none, (.seq #[(.str "self" 455), (.str "rows" 456), (.str "after" 457), (.str "reach" 458)] 0), #[]⟩) ::
  (nat_lit 201, ⟨(.type "tuple"), none, (.seq #[] 0), #[]⟩) ::
  (nat_lit 203, ⟨(.type "code"), none, (.fields #[(.str "__init__" 452), (.str "Signs.__init__" 453), (.str "/claim/cut.py" 454), (.int (90) 0), (.int (4) 0), (.int (0) 0), (.int (0) 0), (.int (3) 0), (.ref 198), (.bool true), (.int (181) 0), (.ref 199), .none, (.ref 200), (.ref 201), (.ref 202), (.int (459) 0), (.int (90) 0), (.str "/claim/cut.py" 460)]), #[]⟩) ::
  (nat_lit 204, ⟨(.type "function"), none, (.func (fnOf "__init__" "Signs.__init__" (fIn 22 0).1 (fIn 22 0).2.1 (fIn 22 0).2.2 .none .none .none (.str "emacs.signs" 438) none (.ref 203) .none)), #[]⟩) ::
  (nat_lit 205, ⟨(.type "tuple"), none, (.seq #[(.str "after" 462), (.str "reach" 463), (.str "rows" 464)] 0), #[]⟩) ::
  (nat_lit 206, ⟨(.type "dict"), none, (.dict #[⟨PyData.keyHash P "__module__", .str "__module__" 447, (.str "emacs.signs" 438)⟩, ⟨PyData.keyHash P "__firstlineno__", .str "__firstlineno__" 451, (.int (88) 450)⟩, ⟨PyData.keyHash P "__init__", .str "__init__" 461, (.ref 204)⟩, ⟨PyData.keyHash P "__static_attributes__", .str "__static_attributes__" 465, (.ref 205)⟩, ⟨PyData.keyHash P "__dict__", .str "__dict__" 467, (.ref 208)⟩, ⟨PyData.keyHash P "__weakref__", .str "__weakref__" 469, (.ref 209)⟩, ⟨PyData.keyHash P "__doc__", .str "__doc__" 470, .none⟩] 4), #[]⟩) ::
  (nat_lit 207, ⟨(.type "type"), none, (.cls { name := "Signs", bases := [(.type "object")], mro := [(.ref 207), (.type "object")], ns := 206, qualname := "Signs", hasDict := true, slotNames := [], subclasses := [], abstract := false, collection := none, hasDel := false }), #[none, none, (some (.str "Signs" 440)), (some (.str "Signs" 448)), (some (.builtin "object.__new__")), (some (.bool true))]⟩) ::
  (nat_lit 208, ⟨(.type "getset_descriptor"), none, (.fields #[(.str "__dict__" 466), (.ref 207), (.builtin "function.__dict__"), (.builtin "function.__dict__#set")]), #[]⟩) ::
  (nat_lit 209, ⟨(.type "getset_descriptor"), none, (.fields #[(.str "__weakref__" 468), (.ref 207), (.builtin "ExceptionGroup.__weakref__"), .none]), #[]⟩) ::
  (nat_lit 212, ⟨(.type "tuple"), none, (.seq #[] 0), #[]⟩) ::
  (nat_lit 214, ⟨(.type "tuple"), none, (.seq #[(.str "view" 476), (.str "place" 477)] 0), #[]⟩) ::
  (nat_lit 215, ⟨(.type "tuple"), none, (.seq #[] 0), #[]⟩) ::
  (nat_lit 217, ⟨(.type "code"), none, (.fields #[(.str "is_break" 473), (.str "is_break" 474), (.str "/claim/cut.py" 475), (.int (94) 0), (.int (2) 0), (.int (0) 0), (.int (0) 0), (.int (3) 0), (.ref 212), (.bool true), (.int (181) 0), (.ref 213), .none, (.ref 214), (.ref 215), (.ref 216), (.int (478) 0), (.int (94) 0), (.str "/claim/cut.py" 479)]), #[]⟩) ::
  (nat_lit 218, ⟨(.type "function"), none, (.func (fnOf "is_break" "is_break" (fTop 23).1 (fTop 23).2.1 (fTop 23).2.2 .none .none .none (.str "emacs.signs" 438) none (.ref 217) .none)), #[]⟩) ::
  (nat_lit 219, ⟨(.type "tuple"), none, (.seq #[] 0), #[]⟩) ::
  (nat_lit 221, ⟨(.type "tuple"), none, (.seq #[(.str "view" 484), (.str "place" 485)] 0), #[]⟩) ::
  (nat_lit 222, ⟨(.type "tuple"), none, (.seq #[] 0), #[]⟩) ::
  (nat_lit 224, ⟨(.type "code"), none, (.fields #[(.str "hidden_end" 481), (.str "hidden_end" 482), (.str "/claim/cut.py" 483), (.int (96) 0), (.int (2) 0), (.int (0) 0), (.int (0) 0), (.int (3) 0), (.ref 219), (.bool true), (.int (181) 0), (.ref 220), .none, (.ref 221), (.ref 222), (.ref 223), (.int (486) 0), (.int (96) 0), (.str "/claim/cut.py" 487)]), #[]⟩) ::
  (nat_lit 225, ⟨(.type "function"), none, (.func (fnOf "hidden_end" "hidden_end" (fTop 24).1 (fTop 24).2.1 (fTop 24).2.2 .none .none .none (.str "emacs.signs" 438) none (.ref 224) .none)), #[]⟩) ::
  (nat_lit 226, ⟨(.type "tuple"), none, (.seq #[] 0), #[]⟩) ::
  (nat_lit 228, ⟨(.type "tuple"), none, (.seq #[(.str "view" 492), (.str "place" 493)] 0), #[]⟩) ::
  (nat_lit 229, ⟨(.type "tuple"), none, (.seq #[] 0), #[]⟩) ::
  (nat_lit 231, ⟨(.type "code"), none, (.fields #[(.str "hidden_begin" 489), (.str "hidden_begin" 490), (.str "/claim/cut.py" 491), (.int (100) 0), (.int (2) 0), (.int (0) 0), (.int (0) 0), (.int (3) 0), (.ref 226), (.bool true), (.int (181) 0), (.ref 227), .none, (.ref 228), (.ref 229), (.ref 230), (.int (494) 0), (.int (100) 0), (.str "/claim/cut.py" 495)]), #[]⟩) ::
  (nat_lit 232, ⟨(.type "function"), none, (.func (fnOf "hidden_begin" "hidden_begin" (fTop 25).1 (fTop 25).2.1 (fTop 25).2.2 .none .none .none (.str "emacs.signs" 438) none (.ref 231) .none)), #[]⟩) ::
  (nat_lit 233, ⟨(.type "tuple"), none, (.seq #[] 0), #[]⟩) ::
  (nat_lit 235, ⟨(.type "tuple"), none, (.seq #[(.str "view" 500), (.str "place" 501), (.str "begin" 502)] 0), #[]⟩) ::
  (nat_lit 236, ⟨(.type "tuple"), none, (.seq #[] 0), #[]⟩) ::
  (nat_lit 238, ⟨(.type "code"), none, (.fields #[(.str "shown_place" 497), (.str "shown_place" 498), (.str "/claim/cut.py" 499), (.int (104) 0), (.int (2) 0), (.int (0) 0), (.int (0) 0), (.int (3) 0), (.ref 233), (.bool true), (.int (181) 0), (.ref 234), .none, (.ref 235), (.ref 236), (.ref 237), (.int (503) 0), (.int (104) 0), (.str "/claim/cut.py" 504)]), #[]⟩) ::
  (nat_lit 239, ⟨(.type "function"), none, (.func (fnOf "shown_place" "shown_place" (fTop 26).1 (fTop 26).2.1 (fTop 26).2.2 .none .none .none (.str "emacs.signs" 438) none (.ref 238) .none)), #[]⟩) ::
  (nat_lit 240, ⟨(.type "tuple"), none, (.seq #[] 0), #[]⟩) ::
  (nat_lit 243, ⟨(.type "code"), none, (.fields #[(.str "string_signs" 506), (.str "string_signs" 507), (.str "/claim/cut.py" 508), (.int (109) 0), (.int (3) 0), (.int (0) 0), (.int (0) 0), (.int (3) 0), (.ref 240), (.bool true), (.int (181) 0), (.ref 241), .none, .none, .none, (.ref 242), (.int (509) 0), (.int (109) 0), (.str "/claim/cut.py" 510)]), #[]⟩) ::
  (nat_lit 244, ⟨(.type "function"), none, (.func (fnOf "string_signs" "string_signs" (fTop 27).1 (fTop 27).2.1 (fTop 27).2.2 .none .none .none (.str "emacs.signs" 438) none (.ref 243) .none)), #[]⟩) ::
  (nat_lit 245, ⟨(.type "tuple"), none, (.seq #[] 0), #[]⟩) ::
  (nat_lit 248, ⟨(.type "code"), none, (.fields #[(.str "string_count" 512), (.str "string_count" 513), (.str "/claim/cut.py" 514), (.int (115) 0), (.int (2) 0), (.int (0) 0), (.int (0) 0), (.int (3) 0), (.ref 245), (.bool true), (.int (181) 0), (.ref 246), .none, .none, .none, (.ref 247), (.int (515) 0), (.int (115) 0), (.str "/claim/cut.py" 516)]), #[]⟩) ::
  (nat_lit 249, ⟨(.type "function"), none, (.func (fnOf "string_count" "string_count" (fTop 28).1 (fTop 28).2.1 (fTop 28).2.2 .none .none .none (.str "emacs.signs" 438) none (.ref 248) .none)), #[]⟩) ::
  (nat_lit 250, ⟨(.type "tuple"), none, (.seq #[] 0), #[]⟩) ::
  (nat_lit 252, ⟨(.type "tuple"), none, (.seq #[(.str "view" 521), (.str "place" 522), (.str "shown" 523)] 0), #[]⟩) ::
  (nat_lit 253, ⟨(.type "tuple"), none, (.seq #[] 0), #[]⟩) ::
  (nat_lit 255, ⟨(.type "code"), none, (.fields #[(.str "shown_count" 518), (.str "shown_count" 519), (.str "/claim/cut.py" 520), (.int (117) 0), (.int (2) 0), (.int (0) 0), (.int (0) 0), (.int (3) 0), (.ref 250), (.bool true), (.int (181) 0), (.ref 251), .none, (.ref 252), (.ref 253), (.ref 254), (.int (524) 0), (.int (117) 0), (.str "/claim/cut.py" 525)]), #[]⟩) ::
  (nat_lit 256, ⟨(.type "function"), none, (.func (fnOf "shown_count" "shown_count" (fTop 29).1 (fTop 29).2.1 (fTop 29).2.2 .none .none .none (.str "emacs.signs" 438) none (.ref 255) .none)), #[]⟩) ::
  (nat_lit 257, ⟨(.type "tuple"), none, (.seq #[] 0), #[]⟩) ::
  (nat_lit 259, ⟨(.type "tuple"), none, (.seq #[(.str "view" 530), (.str "table" 531), (.str "place" 532), (.str "ahead" 533), (.str "after" 534), (.str "point" 535)] 0), #[]⟩) ::
  (nat_lit 260, ⟨(.type "tuple"), none, (.seq #[] 0), #[]⟩) ::
  (nat_lit 262, ⟨(.type "code"), none, (.fields #[(.str "hidden_signs" 527), (.str "hidden_signs" 528), (.str "/claim/cut.py" 529), (.int (122) 0), (.int (4) 0), (.int (0) 0), (.int (0) 0), (.int (3) 0), (.ref 257), (.bool true), (.int (181) 0), (.ref 258), .none, (.ref 259), (.ref 260), (.ref 261), (.int (536) 0), (.int (122) 0), (.str "/claim/cut.py" 537)]), #[]⟩) ::
  (nat_lit 263, ⟨(.type "function"), none, (.func (fnOf "hidden_signs" "hidden_signs" (fTop 30).1 (fTop 30).2.1 (fTop 30).2.2 .none .none .none (.str "emacs.signs" 438) none (.ref 262) .none)), #[]⟩) ::
  (nat_lit 264, ⟨(.type "tuple"), none, (.seq #[] 0), #[]⟩) ::
  (nat_lit 267, ⟨(.type "code"), none, (.fields #[(.str "signs_at" 539), (.str "signs_at" 540), (.str "/claim/cut.py" 541), (.int (128) 0), (.int (3) 0), (.int (0) 0), (.int (0) 0), (.int (3) 0), (.ref 264), (.bool true), (.int (181) 0), (.ref 265), .none, .none, .none, (.ref 266), (.int (542) 0), (.int (128) 0), (.str "/claim/cut.py" 543)]), #[]⟩) ::
  (nat_lit 268, ⟨(.type "function"), none, (.func (fnOf "signs_at" "signs_at" (fTop 31).1 (fTop 31).2.1 (fTop 31).2.2 .none .none .none (.str "emacs.signs" 438) none (.ref 267) .none)), #[]⟩) ::
  (nat_lit 276, ⟨(.type "tuple"), none, (.seq #[] 0), #[]⟩) ::
  (nat_lit 278, ⟨(.type "tuple"), none, (.seq #[(.str "self" 560), (.str "view" 561), (.str "table" 562), (.str "spot" 563)] 0), #[]⟩) ::
  (nat_lit 279, ⟨(.type "tuple"), none, (.seq #[] 0), #[]⟩) ::
  (nat_lit 281, ⟨(.type "code"), none, (.fields #[(.str "__init__" 557), (.str "Walk.__init__" 558), (.str "/claim/cut.py" 559), (.int (143) 0), (.int (4) 0), (.int (0) 0), (.int (0) 0), (.int (3) 0), (.ref 276), (.bool true), (.int (181) 0), (.ref 277), .none, (.ref 278), (.ref 279), (.ref 280), (.int (564) 0), (.int (143) 0), (.str "/claim/cut.py" 565)]), #[]⟩) ::
  (nat_lit 282, ⟨(.type "function"), none, (.func (fnOf "__init__" "Walk.__init__" (fIn 32 0).1 (fIn 32 0).2.1 (fIn 32 0).2.2 .none .none .none (.str "emacs.signs" 438) none (.ref 281) .none)), #[]⟩) ::
  (nat_lit 283, ⟨(.type "tuple"), none, (.seq #[] 0), #[]⟩) ::
  (nat_lit 285, ⟨(.type "tuple"), none, (.seq #[(.str "self" 570)] 0), #[]⟩) ::
  (nat_lit 286, ⟨(.type "tuple"), none, (.seq #[] 0), #[]⟩) ::
  (nat_lit 288, ⟨(.type "code"), none, (.fields #[(.str "settle" 567), (.str "Walk.settle" 568), (.str "/claim/cut.py" 569), (.int (150) 0), (.int (1) 0), (.int (0) 0), (.int (0) 0), (.int (3) 0), (.ref 283), (.bool true), (.int (181) 0), (.ref 284), .none, (.ref 285), (.ref 286), (.ref 287), (.int (571) 0), (.int (150) 0), (.str "/claim/cut.py" 572)]), #[]⟩) ::
  (nat_lit 289, ⟨(.type "function"), none, (.func (fnOf "settle" "Walk.settle" (fIn 32 1).1 (fIn 32 1).2.1 (fIn 32 1).2.2 .none .none .none (.str "emacs.signs" 438) none (.ref 288) .none)), #[]⟩) ::
  (nat_lit 290, ⟨(.type "tuple"), none, (.seq #[] 0), #[]⟩) ::
  (nat_lit 292, ⟨(.type "tuple"), none, (.seq #[(.str "self" 577)] 0), #[]⟩) ::
  (nat_lit 293, ⟨(.type "tuple"), none, (.seq #[] 0), #[]⟩) ::
  (nat_lit 295, ⟨(.type "code"), none, (.fields #[(.str "sign" 574), (.str "Walk.sign" 575), (.str "/claim/cut.py" 576), (.int (160) 0), (.int (1) 0), (.int (0) 0), (.int (0) 0), (.int (3) 0), (.ref 290), (.bool true), (.int (181) 0), (.ref 291), .none, (.ref 292), (.ref 293), (.ref 294), (.int (578) 0), (.int (160) 0), (.str "/claim/cut.py" 579)]), #[]⟩) ::
  (nat_lit 296, ⟨(.type "function"), none, (.func (fnOf "sign" "Walk.sign" (fIn 32 2).1 (fIn 32 2).2.1 (fIn 32 2).2.2 .none .none .none (.str "emacs.signs" 438) none (.ref 295) .none)), #[]⟩) ::
  (nat_lit 297, ⟨(.type "tuple"), none, (.seq #[] 0), #[]⟩) ::
  (nat_lit 299, ⟨(.type "tuple"), none, (.seq #[(.str "self" 584)] 0), #[]⟩) ::
  (nat_lit 300, ⟨(.type "tuple"), none, (.seq #[] 0), #[]⟩) ::
  (nat_lit 302, ⟨(.type "code"), none, (.fields #[(.str "step" 581), (.str "Walk.step" 582), (.str "/claim/cut.py" 583), (.int (163) 0), (.int (1) 0), (.int (0) 0), (.int (0) 0), (.int (3) 0), (.ref 297), (.bool true), (.int (181) 0), (.ref 298), .none, (.ref 299), (.ref 300), (.ref 301), (.int (585) 0), (.int (163) 0), (.str "/claim/cut.py" 586)]), #[]⟩) ::
  (nat_lit 303, ⟨(.type "function"), none, (.func (fnOf "step" "Walk.step" (fIn 32 3).1 (fIn 32 3).2.1 (fIn 32 3).2.2 .none .none .none (.str "emacs.signs" 438) none (.ref 302) .none)), #[]⟩) ::
  (nat_lit 304, ⟨(.type "tuple"), none, (.seq #[] 0), #[]⟩) ::
  (nat_lit 306, ⟨(.type "tuple"), none, (.seq #[(.str "self" 591)] 0), #[]⟩) ::
  (nat_lit 307, ⟨(.type "tuple"), none, (.seq #[] 0), #[]⟩) ::
  (nat_lit 309, ⟨(.type "code"), none, (.fields #[(.str "spot" 588), (.str "Walk.spot" 589), (.str "/claim/cut.py" 590), (.int (166) 0), (.int (1) 0), (.int (0) 0), (.int (0) 0), (.int (3) 0), (.ref 304), (.bool true), (.int (181) 0), (.ref 305), .none, (.ref 306), (.ref 307), (.ref 308), (.int (592) 0), (.int (166) 0), (.str "/claim/cut.py" 593)]), #[]⟩) ::
  (nat_lit 310, ⟨(.type "function"), none, (.func (fnOf "spot" "Walk.spot" (fIn 32 4).1 (fIn 32 4).2.1 (fIn 32 4).2.2 .none .none .none (.str "emacs.signs" 438) none (.ref 309) .none)), #[]⟩) ::
  (nat_lit 311, ⟨(.type "tuple"), none, (.seq #[(.str "here" 595), (.str "number" 596), (.str "place" 597), (.str "reach" 598), (.str "table" 599), (.str "view" 600)] 0), #[]⟩) ::
  (nat_lit 312, ⟨(.type "dict"), none, (.dict #[⟨PyData.keyHash P "__module__", .str "__module__" 552, (.str "emacs.signs" 438)⟩, ⟨PyData.keyHash P "__firstlineno__", .str "__firstlineno__" 556, (.int (141) 555)⟩, ⟨PyData.keyHash P "__init__", .str "__init__" 566, (.ref 282)⟩, ⟨PyData.keyHash P "settle", .str "settle" 573, (.ref 289)⟩, ⟨PyData.keyHash P "sign", .str "sign" 580, (.ref 296)⟩, ⟨PyData.keyHash P "step", .str "step" 587, (.ref 303)⟩, ⟨PyData.keyHash P "spot", .str "spot" 594, (.ref 310)⟩, ⟨PyData.keyHash P "__static_attributes__", .str "__static_attributes__" 601, (.ref 311)⟩, ⟨PyData.keyHash P "__dict__", .str "__dict__" 603, (.ref 314)⟩, ⟨PyData.keyHash P "__weakref__", .str "__weakref__" 605, (.ref 315)⟩, ⟨PyData.keyHash P "__doc__", .str "__doc__" 606, .none⟩] 4), #[]⟩) ::
  (nat_lit 313, ⟨(.type "type"), none, (.cls { name := "Walk", bases := [(.type "object")], mro := [(.ref 313), (.type "object")], ns := 312, qualname := "Walk", hasDict := true, slotNames := [], subclasses := [], abstract := false, collection := none, hasDel := false }), #[none, none, (some (.str "Walk" 545)), (some (.str "Walk" 553)), (some (.builtin "object.__new__")), (some (.bool true))]⟩) ::
  (nat_lit 314, ⟨(.type "getset_descriptor"), none, (.fields #[(.str "__dict__" 602), (.ref 313), (.builtin "function.__dict__"), (.builtin "function.__dict__#set")]), #[]⟩) ::
  (nat_lit 315, ⟨(.type "getset_descriptor"), none, (.fields #[(.str "__weakref__" 604), (.ref 313), (.builtin "ExceptionGroup.__weakref__"), .none]), #[]⟩) ::
  (nat_lit 325, ⟨(.type "tuple"), none, (.seq #[] 0), #[]⟩) ::
  (nat_lit 327, ⟨(.type "tuple"), none, (.seq #[(.str "self" 626), (.str "start" 627), (.str "column" 628)] 0), #[]⟩) ::
  (nat_lit 328, ⟨(.type "tuple"), none, (.seq #[] 0), #[]⟩) ::
  (nat_lit 330, ⟨(.type "code"), none, (.fields #[(.str "__init__" 623), (.str "Row.__init__" 624), (.str "/claim/cut.py" 625), (.int (172) 0), (.int (3) 0), (.int (0) 0), (.int (0) 0), (.int (3) 0), (.ref 325), (.bool true), (.int (181) 0), (.ref 326), .none, (.ref 327), (.ref 328), (.ref 329), (.int (629) 0), (.int (172) 0), (.str "/claim/cut.py" 630)]), #[]⟩) ::
  (nat_lit 331, ⟨(.type "function"), none, (.func (fnOf "__init__" "Row.__init__" (fIn 34 0).1 (fIn 34 0).2.1 (fIn 34 0).2.2 .none .none .none (.str "emacs.rows" 609) none (.ref 330) .none)), #[]⟩) ::
  (nat_lit 332, ⟨(.type "tuple"), none, (.seq #[] 0), #[]⟩) ::
  (nat_lit 334, ⟨(.type "tuple"), none, (.seq #[(.str "self" 635), (.str "walk" 636), (.str "column" 637)] 0), #[]⟩) ::
  (nat_lit 335, ⟨(.type "tuple"), none, (.seq #[] 0), #[]⟩) ::
  (nat_lit 337, ⟨(.type "code"), none, (.fields #[(.str "stop" 632), (.str "Row.stop" 633), (.str "/claim/cut.py" 634), (.int (184) 0), (.int (3) 0), (.int (0) 0), (.int (0) 0), (.int (3) 0), (.ref 332), (.bool true), (.int (181) 0), (.ref 333), .none, (.ref 334), (.ref 335), (.ref 336), (.int (638) 0), (.int (184) 0), (.str "/claim/cut.py" 639)]), #[]⟩) ::
  (nat_lit 338, ⟨(.type "function"), none, (.func (fnOf "stop" "Row.stop" (fIn 34 1).1 (fIn 34 1).2.1 (fIn 34 1).2.2 .none .none .none (.str "emacs.rows" 609) none (.ref 337) .none)), #[]⟩) ::
  (nat_lit 339, ⟨(.type "tuple"), none, (.seq #[] 0), #[]⟩) ::
  (nat_lit 341, ⟨(.type "tuple"), none, (.seq #[(.str "self" 644), (.str "many" 645), (.str "spot" 646), (.str "column" 647)] 0), #[]⟩) ::
  (nat_lit 342, ⟨(.type "tuple"), none, (.seq #[] 0), #[]⟩) ::
  (nat_lit 344, ⟨(.type "code"), none, (.fields #[(.str "cut_back" 641), (.str "Row.cut_back" 642), (.str "/claim/cut.py" 643), (.int (189) 0), (.int (4) 0), (.int (0) 0), (.int (0) 0), (.int (3) 0), (.ref 339), (.bool true), (.int (181) 0), (.ref 340), .none, (.ref 341), (.ref 342), (.ref 343), (.int (648) 0), (.int (189) 0), (.str "/claim/cut.py" 649)]), #[]⟩) ::
  (nat_lit 345, ⟨(.type "function"), none, (.func (fnOf "cut_back" "Row.cut_back" (fIn 34 2).1 (fIn 34 2).2.1 (fIn 34 2).2.2 .none .none .none (.str "emacs.rows" 609) none (.ref 344) .none)), #[]⟩) ::
  (nat_lit 346, ⟨(.type "tuple"), none, (.seq #[(.str "column" 651), (.str "end" 652), (.str "glyphs" 653), (.str "is_break" 654), (.str "is_end" 655), (.str "is_line_end" 656), (.str "mark" 657), (.str "next_column" 658), (.str "reach" 659), (.str "start" 660)] 0), #[]⟩) ::
  (nat_lit 347, ⟨(.type "dict"), none, (.dict #[⟨PyData.keyHash P "__module__", .str "__module__" 618, (.str "emacs.rows" 609)⟩, ⟨PyData.keyHash P "__firstlineno__", .str "__firstlineno__" 622, (.int (170) 621)⟩, ⟨PyData.keyHash P "__init__", .str "__init__" 631, (.ref 331)⟩, ⟨PyData.keyHash P "stop", .str "stop" 640, (.ref 338)⟩, ⟨PyData.keyHash P "cut_back", .str "cut_back" 650, (.ref 345)⟩, ⟨PyData.keyHash P "__static_attributes__", .str "__static_attributes__" 661, (.ref 346)⟩, ⟨PyData.keyHash P "__dict__", .str "__dict__" 663, (.ref 349)⟩, ⟨PyData.keyHash P "__weakref__", .str "__weakref__" 665, (.ref 350)⟩, ⟨PyData.keyHash P "__doc__", .str "__doc__" 666, .none⟩] 4), #[]⟩) ::
  (nat_lit 348, ⟨(.type "type"), none, (.cls { name := "Row", bases := [(.type "object")], mro := [(.ref 348), (.type "object")], ns := 347, qualname := "Row", hasDict := true, slotNames := [], subclasses := [], abstract := false, collection := none, hasDel := false }), #[none, none, (some (.str "Row" 611)), (some (.str "Row" 619)), (some (.builtin "object.__new__")), (some (.bool true))]⟩) ::
  (nat_lit 349, ⟨(.type "getset_descriptor"), none, (.fields #[(.str "__dict__" 662), (.ref 348), (.builtin "function.__dict__"), (.builtin "function.__dict__#set")]), #[]⟩) ::
  (nat_lit 350, ⟨(.type "getset_descriptor"), none, (.fields #[(.str "__weakref__" 664), (.ref 348), (.builtin "ExceptionGroup.__weakref__"), .none]), #[]⟩) ::
  (nat_lit 353, ⟨(.type "tuple"), none, (.seq #[] 0), #[]⟩) ::
  (nat_lit 355, ⟨(.type "tuple"), none, (.seq #[(.str "row" 672), (.str "sign" 673), (.str "codes" 674), (.str "code" 675)] 0), #[]⟩) ::
  (nat_lit 356, ⟨(.type "tuple"), none, (.seq #[] 0), #[]⟩) ::
  (nat_lit 358, ⟨(.type "code"), none, (.fields #[(.str "put_sign" 669), (.str "put_sign" 670), (.str "/claim/cut.py" 671), (.int (193) 0), (.int (3) 0), (.int (0) 0), (.int (0) 0), (.int (3) 0), (.ref 353), (.bool true), (.int (181) 0), (.ref 354), .none, (.ref 355), (.ref 356), (.ref 357), (.int (676) 0), (.int (193) 0), (.str "/claim/cut.py" 677)]), #[]⟩) ::
  (nat_lit 359, ⟨(.type "function"), none, (.func (fnOf "put_sign" "put_sign" (fTop 35).1 (fTop 35).2.1 (fTop 35).2.2 .none .none .none (.str "emacs.rows" 609) none (.ref 358) .none)), #[]⟩) ::
  (nat_lit 360, ⟨(.type "tuple"), none, (.seq #[] 0), #[]⟩) ::
  (nat_lit 362, ⟨(.type "tuple"), none, (.seq #[(.str "row" 682), (.str "walk" 683), (.str "sign" 684), (.str "column" 685)] 0), #[]⟩) ::
  (nat_lit 363, ⟨(.type "tuple"), none, (.seq #[] 0), #[]⟩) ::
  (nat_lit 365, ⟨(.type "code"), none, (.fields #[(.str "end_of_line" 679), (.str "end_of_line" 680), (.str "/claim/cut.py" 681), (.int (196) 0), (.int (4) 0), (.int (0) 0), (.int (0) 0), (.int (3) 0), (.ref 360), (.bool true), (.int (181) 0), (.ref 361), .none, (.ref 362), (.ref 363), (.ref 364), (.int (686) 0), (.int (196) 0), (.str "/claim/cut.py" 687)]), #[]⟩) ::
  (nat_lit 366, ⟨(.type "function"), none, (.func (fnOf "end_of_line" "end_of_line" (fTop 36).1 (fTop 36).2.1 (fTop 36).2.2 .none .none .none (.str "emacs.rows" 609) none (.ref 365) .none)), #[]⟩) ::
  (nat_lit 367, ⟨(.type "tuple"), none, (.seq #[] 0), #[]⟩) ::
  (nat_lit 369, ⟨(.type "tuple"), none, (.seq #[(.str "row" 692), (.str "walk" 693), (.str "sign" 694), (.str "codes" 695), (.str "column" 696), (.str "room" 697), (.str "last_break" 698), (.str "used" 699)] 0), #[]⟩) ::
  (nat_lit 370, ⟨(.type "tuple"), none, (.seq #[] 0), #[]⟩) ::
  (nat_lit 372, ⟨(.type "code"), none, (.fields #[(.str "overflow" 689), (.str "overflow" 690), (.str "/claim/cut.py" 691), (.int (205) 0), (.int (7) 0), (.int (0) 0), (.int (0) 0), (.int (3) 0), (.ref 367), (.bool true), (.int (181) 0), (.ref 368), .none, (.ref 369), (.ref 370), (.ref 371), (.int (700) 0), (.int (205) 0), (.str "/claim/cut.py" 701)]), #[]⟩) ::
  (nat_lit 373, ⟨(.type "function"), none, (.func (fnOf "overflow" "overflow" (fTop 37).1 (fTop 37).2.1 (fTop 37).2.2 .none .none .none (.str "emacs.rows" 609) none (.ref 372) .none)), #[]⟩) ::
  (nat_lit 374, ⟨(.type "tuple"), none, (.seq #[] 0), #[]⟩) ::
  (nat_lit 376, ⟨(.type "tuple"), none, (.seq #[(.str "view" 706), (.str "table" 707), (.str "spot" 708), (.str "column" 709), (.str "width" 710), (.str "options" 711), (.str "walk" 712), (.str "room" 713), (.str "last_break" 714), (.str "row" 715), (.str "sign" 716), (.str "codes" 717)] 0), #[]⟩) ::
  (nat_lit 377, ⟨(.type "tuple"), none, (.seq #[] 0), #[]⟩) ::
  (nat_lit 379, ⟨(.type "code"), none, (.fields #[(.str "folded_row" 703), (.str "folded_row" 704), (.str "/claim/cut.py" 705), (.int (215) 0), (.int (6) 0), (.int (0) 0), (.int (0) 0), (.int (3) 0), (.ref 374), (.bool true), (.int (181) 0), (.ref 375), .none, (.ref 376), (.ref 377), (.ref 378), (.int (718) 0), (.int (215) 0), (.str "/claim/cut.py" 719)]), #[]⟩) ::
  (nat_lit 380, ⟨(.type "function"), none, (.func (fnOf "folded_row" "folded_row" (fTop 38).1 (fTop 38).2.1 (fTop 38).2.2 .none .none .none (.str "emacs.rows" 609) none (.ref 379) .none)), #[]⟩) ::
  (nat_lit 381, ⟨(.type "tuple"), none, (.seq #[] 0), #[]⟩) ::
  (nat_lit 383, ⟨(.type "tuple"), none, (.seq #[(.str "view" 724), (.str "table" 725), (.str "spot" 726), (.str "width" 727), (.str "options" 728), (.str "walk" 729), (.str "column" 730), (.str "left" 731), (.str "row" 732), (.str "right" 733), (.str "sign" 734), (.str "codes" 735)] 0), #[]⟩) ::
  (nat_lit 384, ⟨(.type "tuple"), none, (.seq #[] 0), #[]⟩) ::
  (nat_lit 386, ⟨(.type "code"), none, (.fields #[(.str "cut_row" 721), (.str "cut_row" 722), (.str "/claim/cut.py" 723), (.int (233) 0), (.int (5) 0), (.int (0) 0), (.int (0) 0), (.int (3) 0), (.ref 381), (.bool true), (.int (181) 0), (.ref 382), .none, (.ref 383), (.ref 384), (.ref 385), (.int (736) 0), (.int (233) 0), (.str "/claim/cut.py" 737)]), #[]⟩) ::
  (nat_lit 387, ⟨(.type "function"), none, (.func (fnOf "cut_row" "cut_row" (fTop 39).1 (fTop 39).2.1 (fTop 39).2.2 .none .none .none (.str "emacs.rows" 609) none (.ref 386) .none)), #[]⟩) ::
  (nat_lit 388, ⟨(.type "tuple"), none, (.seq #[] 0), #[]⟩) ::
  (nat_lit 390, ⟨(.type "tuple"), none, (.seq #[(.str "view" 742), (.str "table" 743), (.str "spot" 744), (.str "column" 745), (.str "width" 746), (.str "options" 747)] 0), #[]⟩) ::
  (nat_lit 391, ⟨(.type "tuple"), none, (.seq #[] 0), #[]⟩) ::
  (nat_lit 393, ⟨(.type "code"), none, (.fields #[(.str "laid_row" 739), (.str "laid_row" 740), (.str "/claim/cut.py" 741), (.int (249) 0), (.int (6) 0), (.int (0) 0), (.int (0) 0), (.int (3) 0), (.ref 388), (.bool true), (.int (181) 0), (.ref 389), .none, (.ref 390), (.ref 391), (.ref 392), (.int (748) 0), (.int (249) 0), (.str "/claim/cut.py" 749)]), #[]⟩) ::
  (nat_lit 394, ⟨(.type "function"), none, (.func (fnOf "laid_row" "laid_row" (fTop 40).1 (fTop 40).2.1 (fTop 40).2.2 .none .none .none (.str "emacs.rows" 609) none (.ref 393) .none)), #[]⟩) ::
  (nat_lit 395, ⟨(.type "tuple"), none, (.seq #[] 0), #[]⟩) ::
  (nat_lit 397, ⟨(.type "tuple"), none, (.seq #[(.str "view" 754), (.str "table" 755), (.str "spot" 756), (.str "column" 757), (.str "height" 758), (.str "width" 759), (.str "options" 760), (.str "found" 761), (.str "row" 762)] 0), #[]⟩) ::
  (nat_lit 398, ⟨(.type "tuple"), none, (.seq #[] 0), #[]⟩) ::
  (nat_lit 400, ⟨(.type "code"), none, (.fields #[(.str "laid_rows" 751), (.str "laid_rows" 752), (.str "/claim/cut.py" 753), (.int (253) 0), (.int (7) 0), (.int (0) 0), (.int (0) 0), (.int (3) 0), (.ref 395), (.bool true), (.int (181) 0), (.ref 396), .none, (.ref 397), (.ref 398), (.ref 399), (.int (763) 0), (.int (253) 0), (.str "/claim/cut.py" 764)]), #[]⟩) ::
  (nat_lit 401, ⟨(.type "function"), none, (.func (fnOf "laid_rows" "laid_rows" (fTop 41).1 (fTop 41).2.1 (fTop 41).2.2 .none .none .none (.str "emacs.rows" 609) none (.ref 400) .none)), #[]⟩) ::
  (nat_lit 402, ⟨(.type "tuple"), none, (.seq #[] 0), #[]⟩) ::
  (nat_lit 404, ⟨(.type "tuple"), none, (.seq #[(.str "view" 771), (.str "place" 772)] 0), #[]⟩) ::
  (nat_lit 405, ⟨(.type "tuple"), none, (.seq #[] 0), #[]⟩) ::
  (nat_lit 407, ⟨(.type "code"), none, (.fields #[(.str "line_begin" 768), (.str "line_begin" 769), (.str "/claim/cut.py" 770), (.int (263) 0), (.int (2) 0), (.int (0) 0), (.int (0) 0), (.int (3) 0), (.ref 402), (.bool true), (.int (181) 0), (.ref 403), .none, (.ref 404), (.ref 405), (.ref 406), (.int (773) 0), (.int (263) 0), (.str "/claim/cut.py" 774)]), #[]⟩) ::
  (nat_lit 408, ⟨(.type "function"), none, (.func (fnOf "line_begin" "line_begin" (fTop 43).1 (fTop 43).2.1 (fTop 43).2.2 .none .none .none (.str "emacs.rowmotion" 766) none (.ref 407) .none)), #[]⟩) ::
  (nat_lit 409, ⟨(.type "tuple"), none, (.seq #[] 0), #[]⟩) ::
  (nat_lit 411, ⟨(.type "tuple"), none, (.seq #[(.str "view" 779), (.str "table" 780), (.str "spot" 781), (.str "width" 782), (.str "options" 783), (.str "found" 784), (.str "last" 785)] 0), #[]⟩) ::
  (nat_lit 412, ⟨(.type "tuple"), none, (.seq #[] 0), #[]⟩) ::
  (nat_lit 414, ⟨(.type "code"), none, (.fields #[(.str "rows_of_line" 776), (.str "rows_of_line" 777), (.str "/claim/cut.py" 778), (.int (267) 0), (.int (5) 0), (.int (0) 0), (.int (0) 0), (.int (3) 0), (.ref 409), (.bool true), (.int (181) 0), (.ref 410), .none, (.ref 411), (.ref 412), (.ref 413), (.int (786) 0), (.int (267) 0), (.str "/claim/cut.py" 787)]), #[]⟩) ::
  (nat_lit 415, ⟨(.type "function"), none, (.func (fnOf "rows_of_line" "rows_of_line" (fTop 44).1 (fTop 44).2.1 (fTop 44).2.2 .none .none .none (.str "emacs.rowmotion" 766) none (.ref 414) .none)), #[]⟩) ::
  (nat_lit 416, ⟨(.type "tuple"), none, (.seq #[] 0), #[]⟩) ::
  (nat_lit 418, ⟨(.type "tuple"), none, (.seq #[(.str "view" 792), (.str "place" 793), (.str "own" 794), (.str "number" 795), (.str "many" 796), (.str "after" 797)] 0), #[]⟩) ::
  (nat_lit 419, ⟨(.type "tuple"), none, (.seq #[] 0), #[]⟩) ::
  (nat_lit 421, ⟨(.type "code"), none, (.fields #[(.str "own_spot" 789), (.str "own_spot" 790), (.str "/claim/cut.py" 791), (.int (273) 0), (.int (2) 0), (.int (0) 0), (.int (0) 0), (.int (3) 0), (.ref 416), (.bool true), (.int (181) 0), (.ref 417), .none, (.ref 418), (.ref 419), (.ref 420), (.int (798) 0), (.int (273) 0), (.str "/claim/cut.py" 799)]), #[]⟩) ::
  (nat_lit 422, ⟨(.type "function"), none, (.func (fnOf "own_spot" "own_spot" (fTop 45).1 (fTop 45).2.1 (fTop 45).2.2 .none .none .none (.str "emacs.rowmotion" 766) none (.ref 421) .none)), #[]⟩) ::
  (nat_lit 423, ⟨(.type "tuple"), none, (.seq #[] 0), #[]⟩) ::
  (nat_lit 425, ⟨(.type "tuple"), none, (.seq #[(.str "rows" 804), (.str "spot" 805), (.str "number" 806), (.str "row" 807)] 0), #[]⟩) ::
  (nat_lit 426, ⟨(.type "tuple"), none, (.seq #[] 0), #[]⟩) ::
  (nat_lit 428, ⟨(.type "code"), none, (.fields #[(.str "index_of" 801), (.str "index_of" 802), (.str "/claim/cut.py" 803), (.int (283) 0), (.int (2) 0), (.int (0) 0), (.int (0) 0), (.int (3) 0), (.ref 423), (.bool true), (.int (181) 0), (.ref 424), .none, (.ref 425), (.ref 426), (.ref 427), (.int (808) 0), (.int (283) 0), (.str "/claim/cut.py" 809)]), #[]⟩) ::
  (nat_lit 429, ⟨(.type "function"), none, (.func (fnOf "index_of" "index_of" (fTop 46).1 (fTop 46).2.1 (fTop 46).2.2 .none .none .none (.str "emacs.rowmotion" 766) none (.ref 428) .none)), #[]⟩) ::
  (nat_lit 430, ⟨(.type "tuple"), none, (.seq #[] 0), #[]⟩) ::
  (nat_lit 432, ⟨(.type "tuple"), none, (.seq #[(.str "view" 814), (.str "rows" 815), (.str "place" 816)] 0), #[]⟩) ::
  (nat_lit 433, ⟨(.type "tuple"), none, (.seq #[] 0), #[]⟩) ::
  (nat_lit 435, ⟨(.type "code"), none, (.fields #[(.str "has_place" 811), (.str "has_place" 812), (.str "/claim/cut.py" 813), (.int (288) 0), (.int (3) 0), (.int (0) 0), (.int (0) 0), (.int (3) 0), (.ref 430), (.bool true), (.int (181) 0), (.ref 431), .none, (.ref 432), (.ref 433), (.ref 434), (.int (817) 0), (.int (288) 0), (.str "/claim/cut.py" 818)]), #[]⟩) ::
  (nat_lit 436, ⟨(.type "function"), none, (.func (fnOf "has_place" "has_place" (fTop 47).1 (fTop 47).2.1 (fTop 47).2.2 .none .none .none (.str "emacs.rowmotion" 766) none (.ref 435) .none)), #[]⟩) ::
  (nat_lit 437, ⟨(.type "tuple"), none, (.seq #[] 0), #[]⟩) ::
  (nat_lit 439, ⟨(.type "tuple"), none, (.seq #[(.str "row" 823), (.str "place" 824), (.str "column" 825), (.str "glyph" 826)] 0), #[]⟩) ::
  (nat_lit 440, ⟨(.type "tuple"), none, (.seq #[] 0), #[]⟩) ::
  (nat_lit 442, ⟨(.type "code"), none, (.fields #[(.str "column_in" 820), (.str "column_in" 821), (.str "/claim/cut.py" 822), (.int (292) 0), (.int (2) 0), (.int (0) 0), (.int (0) 0), (.int (3) 0), (.ref 437), (.bool true), (.int (181) 0), (.ref 438), .none, (.ref 439), (.ref 440), (.ref 441), (.int (827) 0), (.int (292) 0), (.str "/claim/cut.py" 828)]), #[]⟩) ::
  (nat_lit 443, ⟨(.type "function"), none, (.func (fnOf "column_in" "column_in" (fTop 48).1 (fTop 48).2.1 (fTop 48).2.2 .none .none .none (.str "emacs.rowmotion" 766) none (.ref 442) .none)), #[]⟩) ::
  (nat_lit 444, ⟨(.type "tuple"), none, (.seq #[] 0), #[]⟩) ::
  (nat_lit 446, ⟨(.type "tuple"), none, (.seq #[(.str "view" 833), (.str "rows" 834), (.str "place" 835), (.str "number" 836)] 0), #[]⟩) ::
  (nat_lit 447, ⟨(.type "tuple"), none, (.seq #[] 0), #[]⟩) ::
  (nat_lit 449, ⟨(.type "code"), none, (.fields #[(.str "cursor_in" 830), (.str "cursor_in" 831), (.str "/claim/cut.py" 832), (.int (297) 0), (.int (3) 0), (.int (0) 0), (.int (0) 0), (.int (3) 0), (.ref 444), (.bool true), (.int (181) 0), (.ref 445), .none, (.ref 446), (.ref 447), (.ref 448), (.int (837) 0), (.int (297) 0), (.str "/claim/cut.py" 838)]), #[]⟩) ::
  (nat_lit 450, ⟨(.type "function"), none, (.func (fnOf "cursor_in" "cursor_in" (fTop 49).1 (fTop 49).2.1 (fTop 49).2.2 .none .none .none (.str "emacs.rowmotion" 766) none (.ref 449) .none)), #[]⟩) ::
  (nat_lit 451, ⟨(.type "tuple"), none, (.seq #[] 0), #[]⟩) ::
  (nat_lit 453, ⟨(.type "tuple"), none, (.seq #[(.str "view" 843), (.str "table" 844), (.str "rows" 845), (.str "number" 846), (.str "width" 847), (.str "options" 848), (.str "begin" 849), (.str "ahead" 850)] 0), #[]⟩) ::
  (nat_lit 454, ⟨(.type "tuple"), none, (.seq #[] 0), #[]⟩) ::
  (nat_lit 456, ⟨(.type "code"), none, (.fields #[(.str "row_ahead" 840), (.str "row_ahead" 841), (.str "/claim/cut.py" 842), (.int (302) 0), (.int (6) 0), (.int (0) 0), (.int (0) 0), (.int (3) 0), (.ref 451), (.bool true), (.int (181) 0), (.ref 452), .none, (.ref 453), (.ref 454), (.ref 455), (.int (851) 0), (.int (302) 0), (.str "/claim/cut.py" 852)]), #[]⟩) ::
  (nat_lit 457, ⟨(.type "function"), none, (.func (fnOf "row_ahead" "row_ahead" (fTop 50).1 (fTop 50).2.1 (fTop 50).2.2 .none .none .none (.str "emacs.rowmotion" 766) none (.ref 456) .none)), #[]⟩) ::
  (nat_lit 458, ⟨(.type "tuple"), none, (.seq #[] 0), #[]⟩) ::
  (nat_lit 460, ⟨(.type "tuple"), none, (.seq #[(.str "view" 857), (.str "table" 858), (.str "rows" 859), (.str "number" 860), (.str "width" 861), (.str "options" 862)] 0), #[]⟩) ::
  (nat_lit 461, ⟨(.type "tuple"), none, (.seq #[] 0), #[]⟩) ::
  (nat_lit 463, ⟨(.type "code"), none, (.fields #[(.str "row_behind" 854), (.str "row_behind" 855), (.str "/claim/cut.py" 856), (.int (310) 0), (.int (6) 0), (.int (0) 0), (.int (0) 0), (.int (3) 0), (.ref 458), (.bool true), (.int (181) 0), (.ref 459), .none, (.ref 460), (.ref 461), (.ref 462), (.int (863) 0), (.int (310) 0), (.str "/claim/cut.py" 864)]), #[]⟩) ::
  (nat_lit 464, ⟨(.type "function"), none, (.func (fnOf "row_behind" "row_behind" (fTop 51).1 (fTop 51).2.1 (fTop 51).2.2 .none .none .none (.str "emacs.rowmotion" 766) none (.ref 463) .none)), #[]⟩) ::
  (nat_lit 465, ⟨(.type "tuple"), none, (.seq #[] 0), #[]⟩) ::
  (nat_lit 467, ⟨(.type "tuple"), none, (.seq #[(.str "view" 869), (.str "table" 870), (.str "rows" 871), (.str "number" 872), (.str "count" 873), (.str "width" 874), (.str "options" 875), (.str "gone" 876), (.str "step" 877), (.str "found" 878)] 0), #[]⟩) ::
  (nat_lit 468, ⟨(.type "tuple"), none, (.seq #[] 0), #[]⟩) ::
  (nat_lit 470, ⟨(.type "code"), none, (.fields #[(.str "gone_from" 866), (.str "gone_from" 867), (.str "/claim/cut.py" 868), (.int (316) 0), (.int (7) 0), (.int (0) 0), (.int (0) 0), (.int (3) 0), (.ref 465), (.bool true), (.int (181) 0), (.ref 466), .none, (.ref 467), (.ref 468), (.ref 469), (.int (879) 0), (.int (316) 0), (.str "/claim/cut.py" 880)]), #[]⟩) ::
  (nat_lit 471, ⟨(.type "function"), none, (.func (fnOf "gone_from" "gone_from" (fTop 52).1 (fTop 52).2.1 (fTop 52).2.2 .none .none .none (.str "emacs.rowmotion" 766) none (.ref 470) .none)), #[]⟩) ::
  (nat_lit 472, ⟨(.type "tuple"), none, (.seq #[] 0), #[]⟩) ::
  (nat_lit 474, ⟨(.type "tuple"), none, (.seq #[(.str "view" 885), (.str "table" 886), (.str "place" 887), (.str "count" 888), (.str "width" 889), (.str "options" 890), (.str "rows" 891), (.str "number" 892), (.str "gone" 893)] 0), #[]⟩) ::
  (nat_lit 475, ⟨(.type "tuple"), none, (.seq #[] 0), #[]⟩) ::
  (nat_lit 477, ⟨(.type "code"), none, (.fields #[(.str "vertical_motion" 882), (.str "vertical_motion" 883), (.str "/claim/cut.py" 884), (.int (326) 0), (.int (6) 0), (.int (0) 0), (.int (0) 0), (.int (3) 0), (.ref 472), (.bool true), (.int (181) 0), (.ref 473), .none, (.ref 474), (.ref 475), (.ref 476), (.int (894) 0), (.int (326) 0), (.str "/claim/cut.py" 895)]), #[]⟩) ::
  (nat_lit 478, ⟨(.type "function"), none, (.func (fnOf "vertical_motion" "vertical_motion" (fTop 53).1 (fTop 53).2.1 (fTop 53).2.2 .none .none .none (.str "emacs.rowmotion" 766) none (.ref 477) .none)), #[]⟩) ::
  (nat_lit 479, ⟨(.type "tuple"), none, (.seq #[] 0), #[]⟩) ::
  (nat_lit 482, ⟨(.type "code"), none, (.fields #[(.str "begin_moved" 897), (.str "begin_moved" 898), (.str "/claim/cut.py" 899), (.int (331) 0), (.int (6) 0), (.int (0) 0), (.int (0) 0), (.int (3) 0), (.ref 479), (.bool true), (.int (181) 0), (.ref 480), .none, .none, .none, (.ref 481), (.int (900) 0), (.int (331) 0), (.str "/claim/cut.py" 901)]), #[]⟩) ::
  (nat_lit 483, ⟨(.type "function"), none, (.func (fnOf "begin_moved" "begin_moved" (fTop 54).1 (fTop 54).2.1 (fTop 54).2.2 .none .none .none (.str "emacs.rowmotion" 766) none (.ref 482) .none)), #[]⟩) ::
  (nat_lit 484, ⟨(.type "tuple"), none, (.seq #[(.int (0) 907), (.int (0) 908), (.int (0) 909), (.int (0) 910), (.int (0) 911), (.int (0) 912)] 0), #[]⟩) ::
  (nat_lit 485, ⟨(.type "tuple"), none, (.seq #[.none, .none, .none, .none, .none, .none] 0), #[]⟩) ::
  (nat_lit 493, ⟨(.type "tuple"), none, (.seq #[] 0), #[]⟩) ::
  (nat_lit 494, ⟨(.type "tuple"), none, (.seq #[(.ref 493)] 0), #[]⟩) ::
  (nat_lit 495, ⟨(.type "tuple"), none, (.seq #[] 0), #[]⟩) ::
  (nat_lit 497, ⟨(.type "tuple"), none, (.seq #[(.str "self" 930), (.str "parts" 931), (.str "parents" 932)] 0), #[]⟩) ::
  (nat_lit 498, ⟨(.type "tuple"), none, (.seq #[] 0), #[]⟩) ::
  (nat_lit 500, ⟨(.type "code"), none, (.fields #[(.str "__init__" 927), (.str "Face.__init__" 928), (.str "/claim/cut.py" 929), (.int (348) 0), (.int (3) 0), (.int (0) 0), (.int (0) 0), (.int (3) 0), (.ref 495), (.bool true), (.int (181) 0), (.ref 496), .none, (.ref 497), (.ref 498), (.ref 499), (.int (933) 0), (.int (348) 0), (.str "/claim/cut.py" 934)]), #[]⟩) ::
  (nat_lit 501, ⟨(.type "function"), none, (.func (fnOf "__init__" "Face.__init__" (fIn 59 0).1 (fIn 59 0).2.1 (fIn 59 0).2.2 (.ref 494) .none .none (.str "emacs.faces" 903) none (.ref 500) .none)), #[]⟩) ::
  (nat_lit 502, ⟨(.type "tuple"), none, (.seq #[(.str "parents" 936), (.str "parts" 937)] 0), #[]⟩) ::
  (nat_lit 503, ⟨(.type "dict"), none, (.dict #[⟨PyData.keyHash P "__module__", .str "__module__" 922, (.str "emacs.faces" 903)⟩, ⟨PyData.keyHash P "__firstlineno__", .str "__firstlineno__" 926, (.int (346) 925)⟩, ⟨PyData.keyHash P "__init__", .str "__init__" 935, (.ref 501)⟩, ⟨PyData.keyHash P "__static_attributes__", .str "__static_attributes__" 938, (.ref 502)⟩, ⟨PyData.keyHash P "__dict__", .str "__dict__" 940, (.ref 505)⟩, ⟨PyData.keyHash P "__weakref__", .str "__weakref__" 942, (.ref 506)⟩, ⟨PyData.keyHash P "__doc__", .str "__doc__" 943, .none⟩] 4), #[]⟩) ::
  (nat_lit 504, ⟨(.type "type"), none, (.cls { name := "Face", bases := [(.type "object")], mro := [(.ref 504), (.type "object")], ns := 503, qualname := "Face", hasDict := true, slotNames := [], subclasses := [], abstract := false, collection := none, hasDel := false }), #[none, none, (some (.str "Face" 915)), (some (.str "Face" 923)), (some (.builtin "object.__new__")), (some (.bool true))]⟩) ::
  (nat_lit 505, ⟨(.type "getset_descriptor"), none, (.fields #[(.str "__dict__" 939), (.ref 504), (.builtin "function.__dict__"), (.builtin "function.__dict__#set")]), #[]⟩) ::
  (nat_lit 506, ⟨(.type "getset_descriptor"), none, (.fields #[(.str "__weakref__" 941), (.ref 504), (.builtin "ExceptionGroup.__weakref__"), .none]), #[]⟩) ::
  (nat_lit 516, ⟨(.type "tuple"), none, (.seq #[] 0), #[]⟩) ::
  (nat_lit 518, ⟨(.type "tuple"), none, (.seq #[(.str "self" 961)] 0), #[]⟩) ::
  (nat_lit 519, ⟨(.type "tuple"), none, (.seq #[] 0), #[]⟩) ::
  (nat_lit 521, ⟨(.type "code"), none, (.fields #[(.str "__init__" 958), (.str "FaceTable.__init__" 959), (.str "/claim/cut.py" 960), (.int (353) 0), (.int (1) 0), (.int (0) 0), (.int (0) 0), (.int (3) 0), (.ref 516), (.bool true), (.int (181) 0), (.ref 517), .none, (.ref 518), (.ref 519), (.ref 520), (.int (962) 0), (.int (353) 0), (.str "/claim/cut.py" 963)]), #[]⟩) ::
  (nat_lit 522, ⟨(.type "function"), none, (.func (fnOf "__init__" "FaceTable.__init__" (fIn 60 0).1 (fIn 60 0).2.1 (fIn 60 0).2.2 .none .none .none (.str "emacs.faces" 903) none (.ref 521) .none)), #[]⟩) ::
  (nat_lit 523, ⟨(.type "tuple"), none, (.seq #[] 0), #[]⟩) ::
  (nat_lit 525, ⟨(.type "tuple"), none, (.seq #[(.str "self" 968), (.str "name" 969), (.str "face" 970)] 0), #[]⟩) ::
  (nat_lit 526, ⟨(.type "tuple"), none, (.seq #[] 0), #[]⟩) ::
  (nat_lit 528, ⟨(.type "code"), none, (.fields #[(.str "define" 965), (.str "FaceTable.define" 966), (.str "/claim/cut.py" 967), (.int (358) 0), (.int (3) 0), (.int (0) 0), (.int (0) 0), (.int (3) 0), (.ref 523), (.bool true), (.int (181) 0), (.ref 524), .none, (.ref 525), (.ref 526), (.ref 527), (.int (971) 0), (.int (358) 0), (.str "/claim/cut.py" 972)]), #[]⟩) ::
  (nat_lit 529, ⟨(.type "function"), none, (.func (fnOf "define" "FaceTable.define" (fIn 60 1).1 (fIn 60 1).2.1 (fIn 60 1).2.2 .none .none .none (.str "emacs.faces" 903) none (.ref 528) .none)), #[]⟩) ::
  (nat_lit 530, ⟨(.type "tuple"), none, (.seq #[] 0), #[]⟩) ::
  (nat_lit 533, ⟨(.type "code"), none, (.fields #[(.str "merged" 974), (.str "FaceTable.merged" 975), (.str "/claim/cut.py" 976), (.int (361) 0), (.int (2) 0), (.int (0) 0), (.int (0) 0), (.int (3) 0), (.ref 530), (.bool true), (.int (181) 0), (.ref 531), .none, .none, .none, (.ref 532), (.int (977) 0), (.int (361) 0), (.str "/claim/cut.py" 978)]), #[]⟩) ::
  (nat_lit 534, ⟨(.type "function"), none, (.func (fnOf "merged" "FaceTable.merged" (fIn 60 2).1 (fIn 60 2).2.1 (fIn 60 2).2.2 .none .none .none (.str "emacs.faces" 903) none (.ref 533) .none)), #[]⟩) ::
  (nat_lit 535, ⟨(.type "tuple"), none, (.seq #[] 0), #[]⟩) ::
  (nat_lit 537, ⟨(.type "tuple"), none, (.seq #[(.str "self" 983), (.str "names" 984), (.str "look" 985)] 0), #[]⟩) ::
  (nat_lit 538, ⟨(.type "tuple"), none, (.seq #[] 0), #[]⟩) ::
  (nat_lit 540, ⟨(.type "code"), none, (.fields #[(.str "number_of" 980), (.str "FaceTable.number_of" 981), (.str "/claim/cut.py" 982), (.int (372) 0), (.int (2) 0), (.int (0) 0), (.int (0) 0), (.int (3) 0), (.ref 535), (.bool true), (.int (181) 0), (.ref 536), .none, (.ref 537), (.ref 538), (.ref 539), (.int (986) 0), (.int (372) 0), (.str "/claim/cut.py" 987)]), #[]⟩) ::
  (nat_lit 541, ⟨(.type "function"), none, (.func (fnOf "number_of" "FaceTable.number_of" (fIn 60 3).1 (fIn 60 3).2.1 (fIn 60 3).2.2 .none .none .none (.str "emacs.faces" 903) none (.ref 540) .none)), #[]⟩) ::
  (nat_lit 542, ⟨(.type "tuple"), none, (.seq #[] 0), #[]⟩) ::
  (nat_lit 544, ⟨(.type "tuple"), none, (.seq #[(.str "self" 992), (.str "number" 993)] 0), #[]⟩) ::
  (nat_lit 545, ⟨(.type "tuple"), none, (.seq #[] 0), #[]⟩) ::
  (nat_lit 547, ⟨(.type "code"), none, (.fields #[(.str "look_of" 989), (.str "FaceTable.look_of" 990), (.str "/claim/cut.py" 991), (.int (381) 0), (.int (2) 0), (.int (0) 0), (.int (0) 0), (.int (3) 0), (.ref 542), (.bool true), (.int (181) 0), (.ref 543), .none, (.ref 544), (.ref 545), (.ref 546), (.int (994) 0), (.int (381) 0), (.str "/claim/cut.py" 995)]), #[]⟩) ::
  (nat_lit 548, ⟨(.type "function"), none, (.func (fnOf "look_of" "FaceTable.look_of" (fIn 60 4).1 (fIn 60 4).2.1 (fIn 60 4).2.2 .none .none .none (.str "emacs.faces" 903) none (.ref 547) .none)), #[]⟩) ::
  (nat_lit 549, ⟨(.type "tuple"), none, (.seq #[(.str "by_name" 997), (.str "looks" 998), (.str "numbers" 999)] 0), #[]⟩) ::
  (nat_lit 550, ⟨(.type "dict"), none, (.dict #[⟨PyData.keyHash P "__module__", .str "__module__" 953, (.str "emacs.faces" 903)⟩, ⟨PyData.keyHash P "__firstlineno__", .str "__firstlineno__" 957, (.int (351) 956)⟩, ⟨PyData.keyHash P "__init__", .str "__init__" 964, (.ref 522)⟩, ⟨PyData.keyHash P "define", .str "define" 973, (.ref 529)⟩, ⟨PyData.keyHash P "merged", .str "merged" 979, (.ref 534)⟩, ⟨PyData.keyHash P "number_of", .str "number_of" 988, (.ref 541)⟩, ⟨PyData.keyHash P "look_of", .str "look_of" 996, (.ref 548)⟩, ⟨PyData.keyHash P "__static_attributes__", .str "__static_attributes__" 1000, (.ref 549)⟩, ⟨PyData.keyHash P "__dict__", .str "__dict__" 1002, (.ref 552)⟩, ⟨PyData.keyHash P "__weakref__", .str "__weakref__" 1004, (.ref 553)⟩, ⟨PyData.keyHash P "__doc__", .str "__doc__" 1005, .none⟩] 4), #[]⟩) ::
  (nat_lit 551, ⟨(.type "type"), none, (.cls { name := "FaceTable", bases := [(.type "object")], mro := [(.ref 551), (.type "object")], ns := 550, qualname := "FaceTable", hasDict := true, slotNames := [], subclasses := [], abstract := false, collection := none, hasDel := false }), #[none, none, (some (.str "FaceTable" 946)), (some (.str "FaceTable" 954)), (some (.builtin "object.__new__")), (some (.bool true))]⟩) ::
  (nat_lit 552, ⟨(.type "getset_descriptor"), none, (.fields #[(.str "__dict__" 1001), (.ref 551), (.builtin "function.__dict__"), (.builtin "function.__dict__#set")]), #[]⟩) ::
  (nat_lit 553, ⟨(.type "getset_descriptor"), none, (.fields #[(.str "__weakref__" 1003), (.ref 551), (.builtin "ExceptionGroup.__weakref__"), .none]), #[]⟩) ::
  (nat_lit 556, ⟨(.type "tuple"), none, (.seq #[] 0), #[]⟩) ::
  (nat_lit 558, ⟨(.type "tuple"), none, (.seq #[(.str "deck" 1013), (.str "many" 1014)] 0), #[]⟩) ::
  (nat_lit 559, ⟨(.type "tuple"), none, (.seq #[] 0), #[]⟩) ::
  (nat_lit 561, ⟨(.type "code"), none, (.fields #[(.str "_law_draw" 1010), (.str "_law_draw" 1011), (.str "/claim/cut.py" 1012), (.int (384) 0), (.int (2) 0), (.int (0) 0), (.int (0) 0), (.int (3) 0), (.ref 556), (.bool true), (.int (181) 0), (.ref 557), .none, (.ref 558), (.ref 559), (.ref 560), (.int (1015) 0), (.int (384) 0), (.str "/claim/cut.py" 1016)]), #[]⟩) ::
  (nat_lit 562, ⟨(.type "function"), none, (.func (fnOf "_law_draw" "_law_draw" (fTop 62).1 (fTop 62).2.1 (fTop 62).2.2 .none .none .none (.str "law_sq0007_01" 1008) none (.ref 561) .none)), #[]⟩) ::
  (nat_lit 563, ⟨(.type "tuple"), none, (.seq #[] 0), #[]⟩) ::
  (nat_lit 566, ⟨(.type "code"), none, (.fields #[(.str "_law_signs" 1018), (.str "_law_signs" 1019), (.str "/claim/cut.py" 1020), (.int (386) 0), (.int (2) 0), (.int (0) 0), (.int (0) 0), (.int (3) 0), (.ref 563), (.bool true), (.int (181) 0), (.ref 564), .none, .none, .none, (.ref 565), (.int (1021) 0), (.int (386) 0), (.str "/claim/cut.py" 1022)]), #[]⟩) ::
  (nat_lit 567, ⟨(.type "function"), none, (.func (fnOf "_law_signs" "_law_signs" (fTop 63).1 (fTop 63).2.1 (fTop 63).2.2 .none .none .none (.str "law_sq0007_01" 1008) none (.ref 566) .none)), #[]⟩) ::
  (nat_lit 568, ⟨(.type "tuple"), none, (.seq #[] 0), #[]⟩) ::
  (nat_lit 571, ⟨(.type "code"), none, (.fields #[(.str "_law_rows" 1024), (.str "_law_rows" 1025), (.str "/claim/cut.py" 1026), (.int (394) 0), (.int (3) 0), (.int (0) 0), (.int (0) 0), (.int (3) 0), (.ref 568), (.bool true), (.int (181) 0), (.ref 569), .none, .none, .none, (.ref 570), (.int (1027) 0), (.int (394) 0), (.str "/claim/cut.py" 1028)]), #[]⟩) ::
  (nat_lit 572, ⟨(.type "function"), none, (.func (fnOf "_law_rows" "_law_rows" (fTop 64).1 (fTop 64).2.1 (fTop 64).2.2 .none .none .none (.str "law_sq0007_01" 1008) none (.ref 571) .none)), #[]⟩) ::
  (nat_lit 573, ⟨(.type "tuple"), none, (.seq #[] 0), #[]⟩) ::
  (nat_lit 575, ⟨(.type "tuple"), none, (.seq #[(.str "lines_here" 1033), (.str "spot" 1034), (.str "number" 1035), (.str "own" 1036)] 0), #[]⟩) ::
  (nat_lit 576, ⟨(.type "tuple"), none, (.seq #[] 0), #[]⟩) ::
  (nat_lit 578, ⟨(.type "code"), none, (.fields #[(.str "_law_seen" 1030), (.str "_law_seen" 1031), (.str "/claim/cut.py" 1032), (.int (408) 0), (.int (2) 0), (.int (0) 0), (.int (0) 0), (.int (3) 0), (.ref 573), (.bool true), (.int (181) 0), (.ref 574), .none, (.ref 575), (.ref 576), (.ref 577), (.int (1037) 0), (.int (408) 0), (.str "/claim/cut.py" 1038)]), #[]⟩) ::
  (nat_lit 579, ⟨(.type "function"), none, (.func (fnOf "_law_seen" "_law_seen" (fTop 65).1 (fTop 65).2.1 (fTop 65).2.2 .none .none .none (.str "law_sq0007_01" 1008) none (.ref 578) .none)), #[]⟩) ::
  (nat_lit 580, ⟨(.type "tuple"), none, (.seq #[] 0), #[]⟩) ::
  (nat_lit 583, ⟨(.type "code"), none, (.fields #[(.str "_law_moved" 1040), (.str "_law_moved" 1041), (.str "/claim/cut.py" 1042), (.int (413) 0), (.int (4) 0), (.int (0) 0), (.int (0) 0), (.int (3) 0), (.ref 580), (.bool true), (.int (181) 0), (.ref 581), .none, .none, .none, (.ref 582), (.int (1043) 0), (.int (413) 0), (.str "/claim/cut.py" 1044)]), #[]⟩) ::
  (nat_lit 584, ⟨(.type "function"), none, (.func (fnOf "_law_moved" "_law_moved" (fTop 66).1 (fTop 66).2.1 (fTop 66).2.2 .none .none .none (.str "law_sq0007_01" 1008) none (.ref 583) .none)), #[]⟩) ::
  (nat_lit 585, ⟨(.type "tuple"), none, (.seq #[] 0), #[]⟩) ::
  (nat_lit 588, ⟨(.type "code"), none, (.fields #[(.str "_law_cursor" 1046), (.str "_law_cursor" 1047), (.str "/claim/cut.py" 1048), (.int (421) 0), (.int (5) 0), (.int (0) 0), (.int (0) 0), (.int (3) 0), (.ref 585), (.bool true), (.int (181) 0), (.ref 586), .none, .none, .none, (.ref 587), (.int (1049) 0), (.int (421) 0), (.str "/claim/cut.py" 1050)]), #[]⟩) ::
  (nat_lit 589, ⟨(.type "function"), none, (.func (fnOf "_law_cursor" "_law_cursor" (fTop 67).1 (fTop 67).2.1 (fTop 67).2.2 .none .none .none (.str "law_sq0007_01" 1008) none (.ref 588) .none)), #[]⟩) ::
  (nat_lit 590, ⟨(.type "tuple"), none, (.seq #[] 0), #[]⟩) ::
  (nat_lit 593, ⟨(.type "code"), none, (.fields #[(.str "law" 1052), (.str "law" 1053), (.str "/claim/cut.py" 1054), (.int (428) 0), (.int (1) 0), (.int (0) 0), (.int (0) 0), (.int (3) 0), (.ref 590), (.bool true), (.int (181) 0), (.ref 591), .none, .none, .none, (.ref 592), (.int (1055) 0), (.int (428) 0), (.str "/claim/cut.py" 1056)]), #[]⟩) ::
  (nat_lit 594, ⟨(.type "function"), none, (.func (fnOf "law" "law" (fTop 68).1 (fTop 68).2.1 (fTop 68).2.2 .none .none .none (.str "law_sq0007_01" 1008) none (.ref 593) .none)), #[]⟩) :: []
theorem fill_KF : (PySem.Challenge.rw_sq0007_01 = PySem.Challenge.rw_sq0007_01 ∧ kf = kf) := by k_fill; exact ⟨rfl, rfl⟩
-- DA
section
open PySem PySem.W PySem.Calls PyProof.Rows PySem.Spec
set_option Elab.async false
set_option maxRecDepth 100000
set_option maxHeartbeats 4000000

/-- what a cell of the heap holds, told without its hashes, tokens and epochs -/
inductive Cell where
  | inst (C d : Addr)
  | attrs (l : List (Str × Value))
  | list (vs : List Value)
  | tup (vs : List Value)
  | var (v : Option Value)
  | idict (l : List (Int × Value))
  | obj (o : Obj)
  | prop (p : Obj → Prop)

inductive AttrsAre (P : Params) : List DictEntry → List (Str × Value) → Prop
  | nil : AttrsAre P [] []
  | cons (x : Str) (t : Tok) (v : Value) {es : List DictEntry} {l : List (Str × Value)} : AttrsAre P es l → AttrsAre P (⟨PyData.keyHash P x, .str x t, v⟩ :: es) ((x, v) :: l)

abbrev tupOf (vs : Array Value) (n : Nat) : Obj := { cls := .type "tuple", data := .seq vs n }

def Cell.is (prog : Program) (w : World) : Cell → Addr → Obj → Prop
  | .inst C d, _, o => o = instObj C d
  | .attrs l, _, o => ∃ es n, o = dictOf es n ∧ AttrsAre w.params es l
  | .list vs, _, o => ∃ n, o = listOf vs.toArray n
  | .tup vs, _, o => ∃ n, o = tupOf vs.toArray n
  | .var v, _, o => o.data = .cell v
  | .idict l, a, o => (a == sysModules) = false ∧ o.IsDictOf (intKind prog w) l
  | .obj o', _, o => o = o'
  | .prop p, _, o => p o

abbrev Loc := Str → Option Value
abbrev Led := List (Addr × Cell)
def upd (m : Loc) (x : Str) (v : Value) : Loc := fun y => if y = x then some v else m y
theorem upd_hit (m : Loc) (x : Str) (v : Value) : upd m x v x = some v := if_pos rfl
theorem upd_miss {m : Loc} {x y : Str} {v u : Value} (k : m y = some u) (h : y ≠ x) : upd m x v y = some u := (if_neg h).trans k
theorem upd_miss2 {m : Loc} {x y : Str} {v u : Value} (k : m y = some u) (h : decide (y = x) = false) : upd m x v y = some u := (if_neg (of_decide_eq_false h)).trans k

/-- the ledger as objects -/
inductive Rep (prog : Program) (w : World) : Led → List (Addr × Obj) → Prop
  | nil : Rep prog w [] []
  | cons {a : Addr} {c : Cell} {o : Obj} {n : Led} {r : List (Addr × Obj)} : c.is prog w a o → Rep prog w n r → Rep prog w ((a, c) :: n) ((a, o) :: r)

structure Holds (prog : Program) (w : World) (h₀ : Heap) (L : Addr) (m : Loc) (n : Led) (h : Heap) : Prop where
  F : Fr h₀ L h m
  N : ∃ r, News h₀ L h r ∧ Rep prog w n r
  D : (n.map (·.1)).Nodup

def At (prog : Program) (w : World) (h₀ : Heap) (a : Addr) (c : Cell) : Prop := ∃ o, h₀.get? a = some o ∧ c.is prog w a o
def Kn (prog : Program) (w : World) (h₀ : Heap) (n : Led) (a : Addr) (c : Cell) : Prop := At prog w h₀ a c ∨ (a, c) ∈ n

structure Base (prog : Program) (w : World) (h₀ : Heap) : Prop where
  X : (kf w.params).In h₀
  T : ∃ p loose mg mb, TopRead p loose mg mb h₀

section
variable {prog : Program} {w : World} {h₀ h h' : Heap} {L a d : Addr} {m m' : Loc} {n n' : Led} {c c' : Cell} {r : List (Addr × Obj)} {o o' : Obj}

theorem Rep.mem (R : Rep prog w n r) (hm : (a, c) ∈ n) : ∃ o, (a, o) ∈ r ∧ c.is prog w a o := by
  induction R with
  | nil => cases hm
  | cons hc _ ih =>
    cases hm with
    | head => exact ⟨_, .head _, hc⟩
    | tail _ hm => obtain ⟨o, h1, h2⟩ := ih hm; exact ⟨o, .tail _ h1, h2⟩
theorem Rep.addrs (R : Rep prog w n r) : n.map (·.1) = r.map (·.1) := by
  induction R with
  | nil => rfl
  | cons _ _ ih => simp [ih]
theorem Rep.append {n₁ n₂ : Led} {r₁ r₂} (R₁ : Rep prog w n₁ r₁) (R₂ : Rep prog w n₂ r₂) : Rep prog w (n₁ ++ n₂) (r₁ ++ r₂) := by
  induction R₁ with
  | nil => exact R₂
  | cons h _ ih => exact .cons h ih
/-- position of a cell that is changed -/
inductive Alt (d : Addr) (c c' : Cell) : Led → Led → Prop
  | head {q : Led} : Alt d c c' ((d, c) :: q) ((d, c') :: q)
  | tail {p : Addr × Cell} {q q' : Led} : Alt d c c' q q' → Alt d c c' (p :: q) (p :: q')
theorem Alt.split (U : Alt d c c' n n') : ∃ pre post, n = pre ++ (d, c) :: post ∧ n' = pre ++ (d, c') :: post := by
  induction U with
  | @head q => exact ⟨[], q, rfl, rfl⟩
  | @tail p _ _ _ ih => obtain ⟨a, b, rfl, rfl⟩ := ih; exact ⟨p :: a, b, rfl, rfl⟩
theorem Alt.addrs (U : Alt d c c' n n') : n'.map (·.1) = n.map (·.1) := by
  obtain ⟨a, b, rfl, rfl⟩ := U.split; simp
theorem Alt.mem (U : Alt d c c' n n') : (d, c) ∈ n := by
  obtain ⟨a, b, rfl, rfl⟩ := U.split; simp
theorem Alt.append_left {k : Led} (U : Alt d c c' n n') : Alt d c c' (k ++ n) (k ++ n') := by
  induction k with
  | nil => exact U
  | cons p k ih => exact .tail ih

theorem Holds.get (H : Holds prog w h₀ L m n h) (k : Kn prog w h₀ n a c) : ∃ o, h.get? a = some o ∧ c.is prog w a o := by
  rcases k with ⟨o, h1, h2⟩ | hm
  · exact ⟨o, H.F.keep _ _ h1, h2⟩
  · obtain ⟨r, N, R⟩ := H.N
    obtain ⟨o, h1, h2⟩ := R.mem hm
    exact ⟨o, (N _ h1).1, h2⟩

theorem Holds.mem (H : Holds prog w h₀ L m n h) (hm : (a, c) ∈ n) : ∃ o, h.get? a = some o ∧ c.is prog w a o ∧ a ≠ L ∧ h₀.get? a = none := by
  obtain ⟨r, N, R⟩ := H.N
  obtain ⟨o, h1, h2⟩ := R.mem hm
  exact ⟨o, (N _ h1).1, h2, (N _ h1).2⟩
theorem Holds.of (F : Fr h₀ L h m) (k : ∀ p ∈ n, ∃ o, h.get? p.1 = some o ∧ p.2.is prog w p.1 o ∧ p.1 ≠ L ∧ h₀.get? p.1 = none) (D : (n.map (·.1)).Nodup) : Holds prog w h₀ L m n h := by
  refine ⟨F, ?_, D⟩
  clear D
  induction n with
  | nil => exact ⟨[], News.nil, .nil⟩
  | cons p n ih =>
    obtain ⟨r, N, R⟩ := ih fun q hq => k q (.tail _ hq)
    obtain ⟨o, h1, h2, h3⟩ := k p (.head _)
    refine ⟨(p.1, o) :: r, fun q hq => ?_, .cons h2 R⟩
    cases hq with
    | head => exact ⟨h1, h3⟩
    | tail _ hq => exact N q hq
theorem Holds.fr {h' : Heap} (H : Holds prog w h₀ L m n h) (k : ∀ b o, b ∉ n.map (·.1) → h.get? b = some o → h'.get? b = some o) : Fr h₀ L h' m := by
  obtain ⟨oL, es, ep, hL, q⟩ := H.F.ns
  have no : ∀ b, b = L ∨ (∃ o, h₀.get? b = some o) → b ∉ n.map (·.1) := fun b hb hm => by
    obtain ⟨p, hp, rfl⟩ := List.mem_map.mp hm
    obtain ⟨o, _, _, h1, h2⟩ := H.mem (a := p.1) (c := p.2) hp
    rcases hb with e | ⟨o, e⟩
    · exact h1 e
    · rw [h2] at e; cases e
  exact ⟨⟨oL, es, ep, k _ _ (no _ (.inl rfl)) hL, q⟩, fun b o e => k _ _ (no _ (.inr ⟨o, e⟩)) (H.F.keep b o e), H.F.above⟩

/-- a new object -/
theorem Holds.push (H : Holds prog w h₀ L m n h) (o : Obj) (hc : c.is prog w h.objs.size o) (hf : o.isFreed = false := by rfl) : Holds prog w h₀ L m ((h.objs.size, c) :: n) (h.push o) := by
  obtain ⟨r, N, R⟩ := H.N
  refine ⟨H.F.push o, ⟨_, N.push H.F o hf, .cons hc R⟩, ?_⟩
  rw [List.map_cons, List.nodup_cons]
  refine ⟨fun hm => ?_, H.D⟩
  rw [R.addrs] at hm
  obtain ⟨p, hp, e⟩ := List.mem_map.mp hm
  exact absurd (Heap.lt_size (N p hp).1) (by rw [e]; exact Nat.lt_irrefl _)

/-- one cell of the ledger is changed -/
theorem Holds.change (H : Holds prog w h₀ L m n h) (U : Alt d c c' n n') (hs : ∀ b o, b ≠ d → h.get? b = some o → h'.get? b = some o) (ho : h'.get? d = some o') (hc : c'.is prog w d o') : Holds prog w h₀ L m n' h' := by
  obtain ⟨r, N, R⟩ := H.N
  have hD := H.D
  have hdr : ∃ od, (d, od) ∈ r := by obtain ⟨o, h1, _⟩ := R.mem U.mem; exact ⟨o, h1⟩
  obtain ⟨od, hod⟩ := hdr
  have dL := (N _ hod).2.1
  have d0 := (N _ hod).2.2
  obtain ⟨oL, es, ep, hL, q⟩ := H.F.ns
  refine ⟨⟨⟨oL, es, ep, hs _ _ (Ne.symm dL) hL, q⟩, fun b o e => hs _ _ (fun z => by rw [z, d0] at e; cases e) (H.F.keep b o e), H.F.above⟩, ?_, by rw [U.addrs]; exact hD⟩
  clear q hL
  have gen : ∀ {n n' : Led} {r : List (Addr × Obj)}, Alt d c c' n n' → (n.map (·.1)).Nodup → Rep prog w n r → News h₀ L h r → ∃ r', News h₀ L h' r' ∧ Rep prog w n' r' := by
    intro n n' r U hD R N
    induction U generalizing r with
    | head =>
      cases R with
      | @cons a c o n r hc₀ R =>
        rw [List.map_cons, List.nodup_cons] at hD
        refine ⟨(d, o') :: r, fun p hp => ?_, .cons hc R⟩
        cases hp with
        | head => exact ⟨ho, dL, d0⟩
        | tail _ hp =>
          have z := N p (.tail _ hp)
          refine ⟨hs _ _ (fun e => hD.1 ?_) z.1, z.2⟩
          rw [R.addrs, ← e]; exact List.mem_map_of_mem hp
    | @tail p n n' U ih =>
      cases R with
      | @cons a c₁ o n r hc₀ R =>
        rw [List.map_cons, List.nodup_cons] at hD
        obtain ⟨r', N', R'⟩ := ih hD.2 R fun p hp => N p (.tail _ hp)
        refine ⟨(a, o) :: r', fun p hp => ?_, .cons hc₀ R'⟩
        cases hp with
        | head =>
          have z := N _ (.head _)
          refine ⟨hs _ _ (fun e => hD.1 ?_) z.1, z.2⟩
          have := U.mem
          rw [show a = d from e]
          exact List.mem_map.mpr ⟨_, this, rfl⟩
        | tail _ hp => exact N' p hp
  exact gen U hD R N

/-- the locals are changed -/
theorem Holds.locals (H : Holds prog w h₀ L m n h) (hn : h'.Ns L m') (hs : Heap.SameBut L h h') : Holds prog w h₀ L m' n h' := by
  obtain ⟨r, N, R⟩ := H.N
  exact ⟨H.F.set hn hs, ⟨r, N.set hs, R⟩, H.D⟩
/-- the heap grows -/
theorem Holds.grow (H : Holds prog w h₀ L m n h) (hs : ∀ b o, h.get? b = some o → h'.get? b = some o) : Holds prog w h₀ L m n h' := by
  obtain ⟨r, N, R⟩ := H.N
  obtain ⟨oL, es, ep, hL, q⟩ := H.F.ns
  exact ⟨⟨⟨oL, es, ep, hs _ _ hL, q⟩, fun b o e => hs _ _ (H.F.keep b o e), H.F.above⟩, ⟨r, fun p hp => ⟨hs _ _ (N p hp).1, (N p hp).2⟩, R⟩, H.D⟩
theorem Rep.perm {n n' : Led} (p : n.Perm n') : ∀ {r}, Rep prog w n r → ∃ r', r.Perm r' ∧ Rep prog w n' r' := by
  induction p with
  | nil => intro r R; exact ⟨r, .refl _, R⟩
  | cons x _ ih =>
    intro r R
    cases R with
    | cons hc R => obtain ⟨r', p, R'⟩ := ih R; exact ⟨_, p.cons _, .cons hc R'⟩
  | swap x y l =>
    intro r R
    cases R with
    | cons hc R =>
      cases R with
      | cons hc' R => exact ⟨_, .swap _ _ _, .cons hc' (.cons hc R)⟩
  | trans _ _ ih1 ih2 =>
    intro r R
    obtain ⟨r1, p1, R1⟩ := ih1 R
    obtain ⟨r2, p2, R2⟩ := ih2 R1
    exact ⟨r2, p1.trans p2, R2⟩
theorem Rep.sub {n n' : Led} (p : n'.Sublist n) : ∀ {r}, Rep prog w n r → ∃ r', r'.Sublist r ∧ Rep prog w n' r' := by
  induction p with
  | slnil => intro r R; exact ⟨r, .refl _, R⟩
  | cons _ _ ih =>
    intro r R
    cases R with
    | cons _ R => obtain ⟨r', p, R'⟩ := ih R; exact ⟨r', p.cons _, R'⟩
  | cons_cons _ _ ih =>
    intro r R
    cases R with
    | cons h R => obtain ⟨r', p, R'⟩ := ih R; exact ⟨_, p.cons_cons _, .cons h R'⟩
/-- a ledger may be turned and thinned -/
def Less (n' n : Led) : Prop := ∃ k : Led, k.Perm n' ∧ k.Sublist n
theorem Less.refl (n : Led) : Less n n := ⟨n, .refl _, .refl _⟩
theorem Less.of_perm {n' n : Led} (p : n.Perm n') : Less n' n := ⟨n, p, .refl _⟩
theorem Less.of_sub {n' n : Led} (p : n'.Sublist n) : Less n' n := ⟨n', .refl _, p⟩
theorem Less.trans {a b c : Led} (h1 : Less a b) (h2 : Less b c) : Less a c := by
  obtain ⟨k, p, s⟩ := h1
  obtain ⟨j, q, t⟩ := h2
  obtain ⟨z, p', s'⟩ := List.exists_perm_sublist s q.symm
  exact ⟨z, p'.trans p, s'.trans t⟩
theorem Holds.less (H : Holds prog w h₀ L m n h) (q : Less n' n) : Holds prog w h₀ L m n' h := by
  obtain ⟨k, p, s⟩ := q
  obtain ⟨r, N, R⟩ := H.N
  obtain ⟨r1, s1, R1⟩ := R.sub s
  obtain ⟨r2, p2, R2⟩ := R1.perm p
  exact ⟨H.F, ⟨r2, fun x hx => N x (s1.subset (p2.symm.subset hx)), R2⟩, (p.map (·.1)).nodup_iff.mp (H.D.sublist (s.map (·.1)))⟩

theorem Base.keeps (B : Base prog w h₀) (k : ∀ b o, h₀.get? b = some o → h.get? b = some o) : Base prog w h := by
  obtain ⟨X, p, loose, mg, mb, T⟩ := B
  exact ⟨X.keeps k, p, loose, mg, mb, T.keeps k⟩
end

/-- the judgement: tree t, run in a frame of locals m and ledger n, comes to a result of which Q holds -/
inductive Post (prog : Program) (w : World) (h₀ : Heap) (L : Addr) {α : Type} (Q : α → Loc → Led → Prop) (s : Shared) (a : α) (s' : Shared) : Prop
  | mk (m' : Loc) (n' : Led) (H : Holds prog w h₀ L m' n' s'.heap) (g : s'.gens = s.gens) (o : s'.os = s.os) (q : Q a m' n') : Post prog w h₀ L Q s a s'
def Does (prog : Program) (w : World) (A : Around) (h₀ : Heap) (L : Addr) {α : Type} (t : Sem α) (m : Loc) (n : Led) (Q : α → Loc → Led → Prop) : Prop :=
  ∀ (s : Shared) (E : Value → Shared → Prop), Holds prog w h₀ L m n s.heap →
    wpAny (model prog w) A t (Post prog w h₀ L Q s) E s
theorem Post.to {prog : Program} {w : World} {h₀ : Heap} {L : Addr} {α β : Type} {Q : α → Loc → Led → Prop} {Q' : β → Loc → Led → Prop} {s s' : Shared} {a : α} {b : β} (z : Post prog w h₀ L Q s a s') (k : ∀ m n, Q a m n → Q' b m n) : Post prog w h₀ L Q' s b s' := by
  obtain ⟨m', n', H, g, o, q⟩ := z; exact ⟨m', n', H, g, o, k _ _ q⟩
theorem Post.keep {prog : Program} {w : World} {h₀ : Heap} {L : Addr} {α : Type} {Q : α → Loc → Led → Prop} {s s' : Shared} {a : α} (z : Post prog w h₀ L Q s a s') : ∀ b o, h₀.get? b = some o → s'.heap.get? b = some o := by
  obtain ⟨m', n', H, g, o, q⟩ := z; exact H.F.keep
theorem Post.next {prog : Program} {w : World} {A : Around} {h₀ : Heap} {L : Addr} {α β : Type} {Q : α → Loc → Led → Prop} {Q' : β → Loc → Led → Prop} {s s' : Shared} {a : α} {t : Sem β} {E : Value → Shared → Prop} (z : Post prog w h₀ L Q s a s') (k : ∀ m n, Q a m n → Does prog w A h₀ L t m n Q') :
    wpAny (model prog w) A t (Post prog w h₀ L Q' s) E s' := by
  obtain ⟨m', n', H, g, o, q⟩ := z
  exact wpAny_mono (k _ _ q s' E H) (fun _ _ ⟨m'', n'', H'', g', o', z⟩ => ⟨m'', n'', H'', g'.trans g, o'.trans o, z⟩) fun _ _ e => e

section
variable {prog : Program} {w : World} {A : Around} {h₀ : Heap} {L : Addr} {α β : Type} {m m' : Loc} {n n' : Led}

theorem Does.pure {a : α} {Q : α → Loc → Led → Prop} (q : Q a m n) : Does prog w A h₀ L (pure a) m n Q :=
  fun _ _ H => wpAny_pure ⟨m, n, H, rfl, rfl, q⟩
theorem Does.mono {t : Sem α} {Q Q' : α → Loc → Led → Prop} (x : Does prog w A h₀ L t m n Q) (k : ∀ a m' n', Q a m' n' → Q' a m' n') : Does prog w A h₀ L t m n Q' :=
  fun s E H => wpAny_mono (x s E H) (fun _ _ z => z.to (k _)) fun _ _ e => e
theorem Does.bind {t : Sem α} {f : α → Sem β} {Q : β → Loc → Led → Prop} (x : Does prog w A h₀ L t m n fun a m' n' => Does prog w A h₀ L (f a) m' n' Q) : Does prog w A h₀ L (t >>= f) m n Q :=
  fun s E H => wpAny_bind (wpAny_mono (x s E H) (fun a s' z => z.next fun _ _ q => q) fun _ _ e => e)
/-- an inner rule of the library used at one place -/
theorem Does.of {t : Sem α} {Q : α → Loc → Led → Prop} (x : ∀ (s : Shared) (E : Value → Shared → Prop), Holds prog w h₀ L m n s.heap → ∀ (R : α → Shared → Prop), (∀ a (s' : Shared) m' n', Holds prog w h₀ L m' n' s'.heap → s'.gens = s.gens → s'.os = s.os → Q a m' n' → R a s') → wpAny (model prog w) A t R E s) : Does prog w A h₀ L t m n Q :=
  fun s E H => x s E H _ fun _ _ m' n' a b c d => ⟨m', n', a, b, c, d⟩
theorem Does.use {t : Sem α} {Q : α → Loc → Led → Prop} (x : Does prog w A h₀ L t m n Q) {s : Shared} {E : Value → Shared → Prop} (H : Holds prog w h₀ L m n s.heap) {R : α → Shared → Prop}
    (k : ∀ a (s' : Shared) m' n', Holds prog w h₀ L m' n' s'.heap → s'.gens = s.gens → s'.os = s.os → Q a m' n' → R a s') : wpAny (model prog w) A t R E s :=
  wpAny_mono (x s E H) (fun a s' ⟨m', n', b, c, d, e⟩ => k a s' m' n' b c d e) fun _ _ e => e
theorem Does.less {t : Sem α} {Q : α → Loc → Led → Prop} (q : Less n' n) (x : Does prog w A h₀ L t m n' Q) : Does prog w A h₀ L t m n Q :=
  fun s E H => x s E (H.less q)
end

end
-- DB
section
open PySem PySem.W PySem.Calls PyProof.Rows PySem.Spec
set_option Elab.async false
set_option maxRecDepth 100000
set_option maxHeartbeats 4000000
set_option linter.unusedVariables false

/-- room on the stack for k calls more -/
structure Room (A : Around) (k : Nat) : Prop where
  depth : A.depth + 2 * k < 900
  units : A.units + 20 * k + 200 < 9000
  handled : A.handled = none
theorem Room.less {A : Around} {k j : Nat} (R : Room A k) (h : j ≤ k := by decide) : Room A j := ⟨by have := R.depth; lia, by have := R.units; lia, R.handled⟩
theorem Room.lt {A : Around} {k : Nat} (R : Room A k) : A.depth < recursionLimit := by have := R.depth; show A.depth < 1000; lia
theorem Room.cl {A : Around} {k : Nat} (R : Room A k) : A.units + 200 < cLine := by have := R.units; show _ < 9900; lia
theorem Room.cl0 {A : Around} {k : Nat} (R : Room A k) : A.units < cLine := by have := R.cl; lia
theorem Room.deeper {A : Around} {k : Nat} {env : Env} (R : Room A (k + 1)) : Room (A.deeper env) k := ⟨by have := R.depth; show A.depth + 1 + _ < _; lia, by have := R.units; show A.units + 3 + _ + _ < _; lia, R.handled⟩

section
variable {prog : Program} {w : World} {A : Around} {h₀ : Heap} {L : Addr} {m m' : Loc} {n n' : Led} {env : Env}

-- statements
def Then (prog : Program) (w : World) (A : Around) (h₀ : Heap) (L : Addr) (rest : List Stmt) (env : Env) (Q : Flow → Loc → Led → Prop) (f : Flow) (m : Loc) (n : Led) : Prop :=
  match f with | .next => Does prog w A h₀ L (execs rest env) m n Q | f => Q f m n
abbrev Kr (prog : Program) (w : World) (A : Around) (h₀ : Heap) (L : Addr) {α : Type} (env : Env) (rest : List Stmt) (Q : Flow → Loc → Led → Prop) : α → Loc → Led → Prop := fun _ m n => Does prog w A h₀ L (execs rest env) m n Q
abbrev Kst (prog : Program) (w : World) (A : Around) (h₀ : Heap) (L : Addr) (env : Env) (x : Str) (rest : List Stmt) (Q : Flow → Loc → Led → Prop) : Value → Loc → Led → Prop := fun v m n => Does prog w A h₀ L (storeName env x v) m n (Kr prog w A h₀ L env rest Q)
abbrev Kif (prog : Program) (w : World) (A : Around) (h₀ : Heap) (L : Addr) (env : Env) (body orelse rest : List Stmt) (Q : Flow → Loc → Led → Prop) : Bool → Loc → Led → Prop := fun b m n => (b = true → Does prog w A h₀ L (execs body env) m n (Then prog w A h₀ L rest env Q)) ∧ (b = false → Does prog w A h₀ L (execs orelse env) m n (Then prog w A h₀ L rest env Q))
abbrev Kret (Q : Flow → Loc → Led → Prop) : Value → Loc → Led → Prop := fun v m n => Q (.ret v) m n
abbrev Kat (prog : Program) (w : World) (A : Around) (h₀ : Heap) (L : Addr) (attr : Str) (Q : Value → Loc → Led → Prop) : Value → Loc → Led → Prop := fun o m n => Does prog w A h₀ L (getAttr o attr true) m n Q
abbrev Kvs (v : Value) (Q : List Value → Loc → Led → Prop) : List Value → Loc → Led → Prop := fun vs m n => Q (v :: vs) m n
abbrev Kar (prog : Program) (w : World) (A : Around) (h₀ : Heap) (L : Addr) (env : Env) (pos : Pos) (rest : List Expr) (Q : List Value → Loc → Led → Prop) : Value → Loc → Led → Prop := fun v m n => Does prog w A h₀ L (spliced (backTo pos (starEach rest env))) m n (Kvs v Q)
abbrev Kcf (prog : Program) (w : World) (A : Around) (h₀ : Heap) (L : Addr) (f : Value) (first : List Value) (Q : Value → Loc → Led → Prop) : List Value → Loc → Led → Prop := fun vs m n => Does prog w A h₀ L (call f (first ++ vs)) m n Q
abbrev Kc0 (prog : Program) (w : World) (A : Around) (h₀ : Heap) (L : Addr) (f : Value) (Q : Value → Loc → Led → Prop) : List Value → Loc → Led → Prop := fun vs m n => Does prog w A h₀ L (call f vs) m n Q
abbrev Kc1 (prog : Program) (w : World) (A : Around) (h₀ : Heap) (L : Addr) (f a : Value) (Q : Value → Loc → Led → Prop) : List Value → Loc → Led → Prop := fun vs m n => Does prog w A h₀ L (call f (a :: vs)) m n Q
abbrev Kcw (prog : Program) (w : World) (A : Around) (h₀ : Heap) (L : Addr) (env : Env) (pos : Pos) (args : List Expr) (Q : Value → Loc → Led → Prop) : Value → Loc → Led → Prop := fun f m n => Does prog w A h₀ L (callWith pos f [] (backTo pos (starEach args env)) []) m n Q
abbrev Kco1 (prog : Program) (w : World) (A : Around) (h₀ : Heap) (L : Addr) (op : CmpOp) (a : Value) (Q : Value → Loc → Led → Prop) : Value → Loc → Led → Prop := fun b m n => Does prog w A h₀ L (compareOp op a b) m n Q
abbrev Kco (prog : Program) (w : World) (A : Around) (h₀ : Heap) (L : Addr) (env : Env) (op : CmpOp) (r : Expr) (Q : Value → Loc → Led → Prop) : Value → Loc → Led → Prop := fun a m n => Does prog w A h₀ L (eval r env) m n (Kco1 prog w A h₀ L op a Q)
abbrev Ktr (prog : Program) (w : World) (A : Around) (h₀ : Heap) (L : Addr) (Q : Bool → Loc → Led → Prop) : Value → Loc → Led → Prop := fun c m n => Does prog w A h₀ L (truthy c) m n Q
abbrev Knot (Q : Bool → Loc → Led → Prop) : Bool → Loc → Led → Prop := fun b m n => Q (!b) m n
abbrev Knb (Q : Value → Loc → Led → Prop) : Bool → Loc → Led → Prop := fun b m n => Q (.bool (!b)) m n
abbrev Kand (prog : Program) (w : World) (A : Around) (h₀ : Heap) (L : Addr) (env : Env) (rest : List Expr) (pos : Pos) (whole : Sem Value) (Q : Bool → Loc → Led → Prop) : Bool → Loc → Led → Prop := fun c m n => (c = true → Does prog w A h₀ L (isTrue (.BoolOp .And rest pos) env whole) m n Q) ∧ (c = false → Q false m n)
abbrev Kor (prog : Program) (w : World) (A : Around) (h₀ : Heap) (L : Addr) (env : Env) (rest : List Expr) (pos : Pos) (whole : Sem Value) (Q : Bool → Loc → Led → Prop) : Bool → Loc → Led → Prop := fun c m n => (c = true → Q true m n) ∧ (c = false → Does prog w A h₀ L (isTrue (.BoolOp .Or rest pos) env whole) m n Q)
abbrev Kife (prog : Program) (w : World) (A : Around) (h₀ : Heap) (L : Addr) (env : Env) (body orelse : Expr) (Q : Value → Loc → Led → Prop) : Bool → Loc → Led → Prop := fun c m n => (c = true → Does prog w A h₀ L (eval body env) m n Q) ∧ (c = false → Does prog w A h₀ L (eval orelse env) m n Q)
abbrev Kea1 (prog : Program) (w : World) (A : Around) (h₀ : Heap) (L : Addr) (env : Env) (e₂ : Expr) (rest : List Expr) (pos : Pos) (v : Value) (Q : Value → Loc → Led → Prop) : Bool → Loc → Led → Prop := fun c m n => (c = true → Does prog w A h₀ L (eval (.BoolOp .And (e₂ :: rest) pos) env) m n Q) ∧ (c = false → Q v m n)
abbrev Kea (prog : Program) (w : World) (A : Around) (h₀ : Heap) (L : Addr) (env : Env) (e₂ : Expr) (rest : List Expr) (pos : Pos) (Q : Value → Loc → Led → Prop) : Value → Loc → Led → Prop := fun v m n => Does prog w A h₀ L (truthy v) m n (Kea1 prog w A h₀ L env e₂ rest pos v Q)
abbrev Keo1 (prog : Program) (w : World) (A : Around) (h₀ : Heap) (L : Addr) (env : Env) (e₂ : Expr) (rest : List Expr) (pos : Pos) (v : Value) (Q : Value → Loc → Led → Prop) : Bool → Loc → Led → Prop := fun c m n => (c = true → Q v m n) ∧ (c = false → Does prog w A h₀ L (eval (.BoolOp .Or (e₂ :: rest) pos) env) m n Q)
abbrev Keo (prog : Program) (w : World) (A : Around) (h₀ : Heap) (L : Addr) (env : Env) (e₂ : Expr) (rest : List Expr) (pos : Pos) (Q : Value → Loc → Led → Prop) : Value → Loc → Led → Prop := fun v m n => Does prog w A h₀ L (truthy v) m n (Keo1 prog w A h₀ L env e₂ rest pos v Q)
abbrev Kbi1 (prog : Program) (w : World) (A : Around) (h₀ : Heap) (L : Addr) (op : Operator) (a : Value) (Q : Value → Loc → Led → Prop) : Value → Loc → Led → Prop := fun b m n => Does prog w A h₀ L (binaryOp op a b) m n Q
abbrev Kbi (prog : Program) (w : World) (A : Around) (h₀ : Heap) (L : Addr) (env : Env) (op : Operator) (r : Expr) (Q : Value → Loc → Led → Prop) : Value → Loc → Led → Prop := fun a m n => Does prog w A h₀ L (eval r env) m n (Kbi1 prog w A h₀ L op a Q)
abbrev Kh4 (prog : Program) (w : World) (A : Around) (h₀ : Heap) (L : Addr) (env : Env) (r₂ : Expr) (op₂ : CmpOp) (b c : Value) (Q : Value → Loc → Led → Prop) : Bool → Loc → Led → Prop := fun t m n => (t = true → Does prog w A h₀ L (eval r₂ env) m n (Kco1 prog w A h₀ L op₂ b Q)) ∧ (t = false → Q c m n)
abbrev Kh3 (prog : Program) (w : World) (A : Around) (h₀ : Heap) (L : Addr) (env : Env) (r₂ : Expr) (op₂ : CmpOp) (b : Value) (Q : Value → Loc → Led → Prop) : Value → Loc → Led → Prop := fun c m n => Does prog w A h₀ L (truthy c) m n (Kh4 prog w A h₀ L env r₂ op₂ b c Q)
abbrev Kh2 (prog : Program) (w : World) (A : Around) (h₀ : Heap) (L : Addr) (env : Env) (op₁ : CmpOp) (r₂ : Expr) (op₂ : CmpOp) (a : Value) (Q : Value → Loc → Led → Prop) : Value → Loc → Led → Prop := fun b m n => Does prog w A h₀ L (compareOp op₁ a b) m n (Kh3 prog w A h₀ L env r₂ op₂ b Q)
abbrev Kh1 (prog : Program) (w : World) (A : Around) (h₀ : Heap) (L : Addr) (env : Env) (r₁ : Expr) (op₁ : CmpOp) (r₂ : Expr) (op₂ : CmpOp) (Q : Value → Loc → Led → Prop) : Value → Loc → Led → Prop := fun a m n => Does prog w A h₀ L (eval r₁ env) m n (Kh2 prog w A h₀ L env op₁ r₂ op₂ a Q)
abbrev Kg4 (prog : Program) (w : World) (A : Around) (h₀ : Heap) (L : Addr) (env : Env) (r₂ : Expr) (op₂ : CmpOp) (b : Value) (Q : Bool → Loc → Led → Prop) : Bool → Loc → Led → Prop := fun t m n => (t = true → Does prog w A h₀ L (eval r₂ env) m n (Kco1 prog w A h₀ L op₂ b (Ktr prog w A h₀ L Q))) ∧ (t = false → Q false m n)
abbrev Kg3 (prog : Program) (w : World) (A : Around) (h₀ : Heap) (L : Addr) (env : Env) (r₂ : Expr) (op₂ : CmpOp) (b : Value) (Q : Bool → Loc → Led → Prop) : Value → Loc → Led → Prop := fun c m n => Does prog w A h₀ L (truthy c) m n (Kg4 prog w A h₀ L env r₂ op₂ b Q)
abbrev Kg2 (prog : Program) (w : World) (A : Around) (h₀ : Heap) (L : Addr) (env : Env) (op₁ : CmpOp) (r₂ : Expr) (op₂ : CmpOp) (a : Value) (Q : Bool → Loc → Led → Prop) : Value → Loc → Led → Prop := fun b m n => Does prog w A h₀ L (compareOp op₁ a b) m n (Kg3 prog w A h₀ L env r₂ op₂ b Q)
abbrev Kg1 (prog : Program) (w : World) (A : Around) (h₀ : Heap) (L : Addr) (env : Env) (r₁ : Expr) (op₁ : CmpOp) (r₂ : Expr) (op₂ : CmpOp) (Q : Bool → Loc → Led → Prop) : Value → Loc → Led → Prop := fun a m n => Does prog w A h₀ L (eval r₁ env) m n (Kg2 prog w A h₀ L env op₁ r₂ op₂ a Q)
abbrev Ks2 (prog : Program) (w : World) (A : Around) (h₀ : Heap) (L : Addr) (env : Env) (x : Str) (v : Value) (rest : List Stmt) (Q : Flow → Loc → Led → Prop) : Value → Loc → Led → Prop := fun ov m n => Does prog w A h₀ L (setAttr ov x v) m n (Kr prog w A h₀ L env rest Q)
abbrev Ks1 (prog : Program) (w : World) (A : Around) (h₀ : Heap) (L : Addr) (env : Env) (o : Expr) (x : Str) (rest : List Stmt) (Q : Flow → Loc → Led → Prop) : Value → Loc → Led → Prop := fun v m n => Does prog w A h₀ L (eval o env) m n (Ks2 prog w A h₀ L env x v rest Q)
abbrev Kas (prog : Program) (w : World) (A : Around) (h₀ : Heap) (L : Addr) (env : Env) (rest : List Expr) (vs : List Value) (Q : Unit → Loc → Led → Prop) : Unit → Loc → Led → Prop := fun _ m n => Does prog w A h₀ L (assignInOrder ((assignEach rest env).map (·.2)) vs) m n Q
abbrev Kasa (prog : Program) (w : World) (A : Around) (h₀ : Heap) (L : Addr) (env : Env) (x : Str) (v : Value) (rest : List Expr) (vs : List Value) (Q : Unit → Loc → Led → Prop) : Value → Loc → Led → Prop := fun ov m n => Does prog w A h₀ L (setAttr ov x v) m n (Kas prog w A h₀ L env rest vs Q)
abbrev Ksw (prog : Program) (w : World) (A : Around) (h₀ : Heap) (L : Addr) (env : Env) (rest : List Str) (vs : List Value) (Q : Unit → Loc → Led → Prop) : Unit → Loc → Led → Prop := fun _ m n => Does prog w A h₀ L (assignInOrder (rest.map fun x => bindName env x) vs) m n Q
abbrev Ktp (Q : Value → Loc → Led → Prop) : List Value → Loc → Led → Prop := fun vs m n => vs.length ≤ 1000 ∧ ∀ a, Q (.ref a) m ((a, .tup vs) :: n)
abbrev Klp (Q : Value → Loc → Led → Prop) : List Value → Loc → Led → Prop := fun vs m n => vs.length ≤ 1000 ∧ ∀ a, Q (.ref a) m ((a, .list vs) :: n)
abbrev Ksu1 (prog : Program) (w : World) (A : Around) (h₀ : Heap) (L : Addr) (value slice : Expr) (o : Value) (Q : Value → Loc → Led → Prop) : Value → Loc → Led → Prop := fun i m n => Does prog w A h₀ L (subscriptTail value slice o i) m n Q
abbrev Ksu (prog : Program) (w : World) (A : Around) (h₀ : Heap) (L : Addr) (env : Env) (value slice : Expr) (Q : Value → Loc → Led → Prop) : Value → Loc → Led → Prop := fun o m n => Does prog w A h₀ L (eval slice env) m n (Ksu1 prog w A h₀ L value slice o Q)
abbrev Kt3 (prog : Program) (w : World) (A : Around) (h₀ : Heap) (L : Addr) (env : Env) (v ov : Value) (rest : List Stmt) (Q : Flow → Loc → Led → Prop) : Value → Loc → Led → Prop := fun iv m n => Does prog w A h₀ L (setItem ov iv v) m n (Kr prog w A h₀ L env rest Q)
abbrev Kt2 (prog : Program) (w : World) (A : Around) (h₀ : Heap) (L : Addr) (env : Env) (i : Expr) (v : Value) (rest : List Stmt) (Q : Flow → Loc → Led → Prop) : Value → Loc → Led → Prop := fun ov m n => Does prog w A h₀ L (eval i env) m n (Kt3 prog w A h₀ L env v ov rest Q)
abbrev Kt1 (prog : Program) (w : World) (A : Around) (h₀ : Heap) (L : Addr) (env : Env) (o i : Expr) (rest : List Stmt) (Q : Flow → Loc → Led → Prop) : Value → Loc → Led → Prop := fun v m n => Does prog w A h₀ L (eval o env) m n (Kt2 prog w A h₀ L env i v rest Q)
abbrev Kfn (m : Loc) (rest : Led) (Q : Value → Loc → Led → Prop) : Flow → Loc → Led → Prop := fun fl _ n' => ∃ n'', Less n'' n' ∧ Q (match fl with | .ret v => v | _ => .none) m (n'' ++ rest)
abbrev Kmk (x : Addr) (Q : Value → Loc → Led → Prop) : Value → Loc → Led → Prop := fun v m n => v = .none ∧ Q (.ref x) m n
theorem x_nil {Q : Flow → Loc → Led → Prop} (q : Q .next m n) : Does prog w A h₀ L (execs [] env) m n Q := Does.of fun s E H R k => wpAny_execs_nil (k _ _ _ _ H rfl rfl q)
theorem x_cons {st : Stmt} {rest : List Stmt} {Q : Flow → Loc → Led → Prop} (x : Does prog w A h₀ L (exec st env) m n (Then prog w A h₀ L rest env Q)) : Does prog w A h₀ L (execs (st :: rest) env) m n Q := by
  intro s E H
  refine wpAny_execs_cons (wpAny_mono (x s E H) (fun f s' z => ?_) fun _ _ e => e)
  cases f with
  | next => exact z.next fun _ _ q => q
  | brk => exact z.to fun _ _ q => q
  | cont => exact z.to fun _ _ q => q
  | ret v => exact z.to fun _ _ q => q

theorem st_local {x : Str} {v : Value} {Q : Unit → Loc → Led → Prop} (q : Q () (upd m x v) n) (hL : env.locals = L := by k_dflt (exact rfl)) (hk : env.scope.kind = .function := by k_dflt (exact rfl)) (hl : env.kindOf x = some .local := by k_dflt (exact rfl)) :
    Does prog w A h₀ L (storeName env x v) m n Q := by
  subst hL
  exact Does.of fun s E H R k => wpAny_storeName_local hl H.F.ns (fun h' hn hs => k _ _ _ _ (H.locals hn hs) rfl rfl q) (by rw [hk]; rfl)
theorem st_cell {x : Str} {v : Value} {c : Addr} {v₀ : Option Value} {Q : Unit → Loc → Led → Prop} (hc : env.cells.lookup x = some c) (U : Alt c (.var v₀) (.var (some v)) n n') (q : Q () m n') (hk : env.scope.kind = .function := by k_dflt (exact rfl)) (hl : env.kindOf x = some .cell := by k_dflt (exact rfl)) :
    Does prog w A h₀ L (storeName env x v) m n Q := Does.of fun s E H R k => by
  obtain ⟨o, h1, h2⟩ := H.get (.inr U.mem)
  refine wpAny_storeName_cell hk hl hc ⟨o, h1, h2⟩ fun h' hv hs => ?_
  obtain ⟨o', h3, h4⟩ := hv
  exact k _ _ _ _ (H.change U (fun b o e h => (hs.2 b e).trans h) h3 h4) rfl rfl q

theorem x_assign {x : Str} {p pos : Pos} {value : Expr} {rest : List Stmt} {Q : Flow → Loc → Led → Prop}
    (h : Does prog w A h₀ L (eval value env) m n (Kst prog w A h₀ L env x rest Q))
    (hs : swapsWith value (some (.Name x p)) pos.line env = pure false := by k_dflt (exact rfl)) : Does prog w A h₀ L (execs (.Assign [.Name x p] value pos :: rest) env) m n Q := by
  exact x_cons fun s E H => wpAny_Assign_Name (wpAny_mono (h s E H) (fun v s' z => wpAny_mono (z.next fun _ _ q => q) (fun _ _ z => z.to fun _ _ q => q) fun _ _ e => e) fun _ _ e => e) hs
theorem x_if {test : Expr} {body orelse rest : List Stmt} {pos : Pos} {Q : Flow → Loc → Led → Prop}
    (h : Does prog w A h₀ L (isTrue test env (eval test env)) m n (Kif prog w A h₀ L env body orelse rest Q)) :
    Does prog w A h₀ L (execs (.If test body orelse pos :: rest) env) m n Q := by
  refine x_cons fun s E H => wpAny_If (wpAny_mono (h s E H) (fun b s' z => ?_) fun _ _ e => e)
  cases b with
  | true => exact z.next fun _ _ q => q.1 rfl
  | false => exact z.next fun _ _ q => q.2 rfl
theorem x_ret {e : Expr} {pos : Pos} {rest : List Stmt} {Q : Flow → Loc → Led → Prop} (h : Does prog w A h₀ L (eval e env) m n (Kret Q)) :
    Does prog w A h₀ L (execs (.Return (some e) pos :: rest) env) m n Q :=
  x_cons fun s E H => wpAny_Return_some (wpAny_mono (h s E H) (fun v s' z => z.to fun _ _ q => q) fun _ _ e => e)
theorem t_next {rest : List Stmt} {Q : Flow → Loc → Led → Prop} (h : Does prog w A h₀ L (execs rest env) m n Q) : Then prog w A h₀ L rest env Q .next m n := h
theorem t_ret {rest : List Stmt} {Q : Flow → Loc → Led → Prop} {v : Value} (h : Q (.ret v) m n) : Then prog w A h₀ L rest env Q (.ret v) m n := h

-- expressions
theorem e_int {i : Int} {k : Nat} {pos : Pos} {Q : Value → Loc → Led → Prop} (q : ∀ t, Q (.int i t) m n) : Does prog w A h₀ L (eval (.Constant (.int i) k pos) env) m n Q :=
  Does.of fun s E H R k => wpAny_Constant_int (k _ _ _ _ H rfl rfl (q _))
theorem e_bool {b : Bool} {k : Nat} {pos : Pos} {Q : Value → Loc → Led → Prop} (q : Q (.bool b) m n) : Does prog w A h₀ L (eval (.Constant (.bool b) k pos) env) m n Q :=
  Does.of fun s E H R k => Constant_bool (k _ _ _ _ H rfl rfl q)
theorem e_none {k : Nat} {pos : Pos} {Q : Value → Loc → Led → Prop} (q : Q .none m n) : Does prog w A h₀ L (eval (.Constant .none k pos) env) m n Q :=
  Does.of fun s E H R k => Constant_none (k _ _ _ _ H rfl rfl q)
theorem e_local {x : Str} {pos : Pos} {v : Value} {Q : Value → Loc → Led → Prop} (hl : env.kindOf x = some .local) (hv : m x = some v) (q : Q v m n) (hL : env.locals = L := by k_dflt (exact rfl)) (hk : env.scope.kind = .function := by k_dflt (exact rfl))
    (hd : (x == ("__debug__" : Str)) = false := by kernel_rfl) : Does prog w A h₀ L (eval (.Name x pos) env) m n Q := by
  subst hL
  exact Does.of fun s E H R k => wpAny_Name (wpAny_loadName_local hk hl H.F.ns hv (k _ _ _ _ H rfl rfl q)) hd
theorem e_cell {x : Str} {pos : Pos} {v : Value} {c : Addr} {Q : Value → Loc → Led → Prop} (hl : env.kindOf x = some .cell) (hc : env.cells.lookup x = some c) (kn : Kn prog w h₀ n c (.var (some v))) (q : Q v m n) (hk : env.scope.kind = .function := by k_dflt (exact rfl))
    (hd : (x == ("__debug__" : Str)) = false := by kernel_rfl) : Does prog w A h₀ L (eval (.Name x pos) env) m n Q := Does.of fun s E H R k => by
  obtain ⟨o, h1, h2⟩ := H.get kn
  exact wpAny_Name (wpAny_loadName_cell hk hl hc ⟨o, h1, h2⟩ (k _ _ _ _ H rfl rfl q)) hd
theorem e_free {x : Str} {pos : Pos} {v : Value} {c : Addr} {Q : Value → Loc → Led → Prop} (kn : Kn prog w h₀ n c (.var (some v))) (q : Q v m n) (hc : env.cells.lookup x = some c := by k_dflt (exact rfl)) (hk : env.scope.kind = .function := by k_dflt (exact rfl)) (hl : env.kindOf x = some .free := by k_dflt (exact rfl))
    (hd : (x == ("__debug__" : Str)) = false := by kernel_rfl) (hn : (x == ("__classdict__" : Str)) = false := by decide) : Does prog w A h₀ L (eval (.Name x pos) env) m n Q := Does.of fun s E H R k => by
  obtain ⟨o, h1, h2⟩ := H.get kn
  exact wpAny_Name (wpAny_loadName_free hk hl hc ⟨o, h1, h2⟩ (k _ _ _ _ H rfl rfl q) hn) hd
theorem e_glob {x : Str} {pos : Pos} {v : Value} {Q : Value → Loc → Led → Prop} (B : Base prog w h₀) (e : nsIn (kf w.params) mainGlobals x = some (some v)) (q : Q v m n) (hg : env.globals = mainGlobals := by k_dflt (exact rfl)) (hk : env.scope.kind = .function := by k_dflt (exact rfl)) (hx : env.kindOf x = some .globalImplicit := by k_dflt (exact rfl))
    (hd : (x == ("__debug__" : Str)) = false := by kernel_rfl) : Does prog w A h₀ L (eval (.Name x pos) env) m n Q := Does.of fun s E H R k => by
  obtain ⟨X, p, loose, mg, mb, T⟩ := B
  exact Name_function_global hk hx (loadGlobal_global (by rw [hg]; exact T.g.keeps H.F.keep) (mg_of X T.g e) (k _ _ _ _ H rfl rfl q)) hd
theorem e_boot {x : Str} {pos : Pos} {v : Value} {Q : Value → Loc → Led → Prop} (B : Base prog w h₀) (e : nsIn (kf w.params) mainGlobals x = some none) (hv : bootBuiltins x = some v) (q : Q v m n) (hn : x ≠ "__name__" := by k_dflt decide) (hg : env.globals = mainGlobals := by k_dflt (exact rfl)) (hb : env.builtins = builtinsNs := by k_dflt (exact rfl)) (hk : env.scope.kind = .function := by k_dflt (exact rfl)) (hx : env.kindOf x = some .globalImplicit := by k_dflt (exact rfl))
    (hd : (x == ("__debug__" : Str)) = false := by kernel_rfl) : Does prog w A h₀ L (eval (.Name x pos) env) m n Q := Does.of fun s E H R k => by
  obtain ⟨X, p, loose, mg, mb, T⟩ := B
  exact Name_function_global hk hx (loadGlobal_builtin (by rw [hg]; exact T.g.keeps H.F.keep) (mg_none_of X T.g e) (by rw [hb]; exact T.b.keeps H.F.keep) ((T.builtins x hn).trans hv) (k _ _ _ _ H rfl rfl q)) hd

theorem e_attr {value : Expr} {attr : Str} {pos : Pos} {Q : Value → Loc → Led → Prop} (h : Does prog w A h₀ L (eval value env) m n (Kat prog w A h₀ L attr Q))
    (he : eval (.Attribute value attr pos) env = (do
      let o ← eval value env
      standAt pos.atName
      let r ← holding [o] (getAttr o attr true)
      letTemporaryGo value o r
      pure r) := by with_unfolding_all exact rfl) : Does prog w A h₀ L (eval (.Attribute value attr pos) env) m n Q :=
  fun s E H => Attribute_any_ (wpAny_mono (h s E H) (fun v s' z => z.next fun _ _ q => q) fun _ _ e => e) he

-- instances
theorem AttrsAre.lookup {P : Params} {es : List DictEntry} {l : List (Str × Value)} (h : AttrsAre P es l) {x : Str} {v : Value} (e : l.lookup x = some v) : getL x es = some (some v) := by
  unfold getL
  induction h with
  | nil => cases e
  | @cons y t u es l h ih =>
    rw [List.lookup_cons] at e
    rw [List.find?_cons]
    by_cases hxy : x = y
    · subst hxy
      have h0 : (Value.str x t).isStr x = true := beq_self_eq_true x
      simp only [beq_self_eq_true] at e
      simp only [h0, Option.some.inj e]
    · have h1 : (x == y) = false := beq_eq_false_iff_ne.mpr hxy
      have h2 : (Value.str y t).isStr x = false := beq_eq_false_iff_ne.mpr (Ne.symm hxy)
      rw [h1] at e
      have := ih e
      simp only [h2]
      cases hf : List.find? (fun x_1 => x_1.key.isStr x) es with
      | some en => rw [hf] at this; exact this
      | none =>
        rw [hf] at this
        dsimp only at this
        split at this <;> cases this
theorem AttrsAre.missing {P : Params} {es : List DictEntry} {l : List (Str × Value)} (h : AttrsAre P es l) {x : Str} (e : l.lookup x = none) : getL x es = some none := by
  unfold getL
  have gen : es.find? (·.key.isStr x) = none ∧ es.any (·.refKey) = false := by
    induction h with
    | nil => exact ⟨rfl, rfl⟩
    | @cons y t u es l h ih =>
      rw [List.lookup_cons] at e
      by_cases hxy : x = y
      · subst hxy; simp at e
      · have h1 : (x == y) = false := beq_eq_false_iff_ne.mpr hxy
        have h2 : (y == x) = false := beq_eq_false_iff_ne.mpr (Ne.symm hxy)
        rw [h1] at e
        obtain ⟨a, b⟩ := ih e
        refine ⟨?_, ?_⟩
        · rw [List.find?_cons]
          show (match (y == x) with | true => _ | false => _) = _
          rw [h2]; exact a
        · rw [List.any_cons, b]; rfl
  rw [gen.1]; dsimp only; rw [gen.2]; rfl
/-- an attribute stored -/
def setA (x : Str) (v : Value) : List (Str × Value) → List (Str × Value)
  | [] => [(x, v)]
  | (y, u) :: r => if y = x then (y, v) :: r else (y, u) :: setA x v r
theorem AttrsAre.put {P : Params} {es : List DictEntry} {l : List (Str × Value)} (h : AttrsAre P es l) (x : Str) (t : Tok) (v : Value) : AttrsAre P (putL x (PyData.keyHash P x) (.str x t) v es) (setA x v l) := by
  induction h with
  | nil => exact .cons x t v .nil
  | @cons y u z es l h ih =>
    unfold putL setA
    show AttrsAre P (if (y == x) = true then _ else _) _
    by_cases hxy : y = x
    · rw [if_pos (beq_iff_eq.mpr hxy), if_pos hxy]; exact .cons y u v h
    · rw [if_neg (by simpa using hxy), if_neg hxy]; exact .cons y u z ih
theorem AttrsAre.getSome {P : Params} {es : List DictEntry} {l : List (Str × Value)} (h : AttrsAre P es l) (x : Str) : (getL x es).isSome = true := by
  cases e : l.lookup x with
  | some v => rw [h.lookup e]; rfl
  | none => rw [h.missing e]; rfl
theorem putL_length (x : Str) (hs : Int) (k v : Value) : ∀ es : List DictEntry, (putL x hs k v es).length ≤ es.length + 1
  | [] => Nat.le_refl _
  | e :: r => by
    unfold putL
    split
    · simp
    · have := putL_length x hs k v r; simp only [List.length_cons]; lia
theorem AttrsAre.len {P : Params} {es : List DictEntry} {l : List (Str × Value)} (h : AttrsAre P es l) : es.length = l.length := by
  induction h with
  | nil => rfl
  | cons _ _ _ _ ih => simp [ih]

theorem Holds.alt {h : Heap} {d : Addr} {c c' : Cell} (H : Holds prog w h₀ L m n h) (U : Alt d c c' n n') : ∃ pre o post, News h₀ L h (pre ++ (d, o) :: post) ∧ c.is prog w d o ∧ (∀ p ∈ pre, p.1 ≠ d) ∧ (∀ p ∈ post, p.1 ≠ d) ∧
    ∀ h' m' o', Fr h₀ L h' m' → News h₀ L h' (pre ++ (d, o') :: post) → c'.is prog w d o' → Holds prog w h₀ L m' n' h' := by
  obtain ⟨r, N, R⟩ := H.N
  have D := H.D
  have D' := U.addrs ▸ D
  have gen : ∀ {n n' : Led} {r : List (Addr × Obj)}, Alt d c c' n n' → (n.map (·.1)).Nodup → Rep prog w n r → ∃ pre o post, r = pre ++ (d, o) :: post ∧ c.is prog w d o ∧ (∀ p ∈ pre, p.1 ≠ d) ∧ (∀ p ∈ post, p.1 ≠ d) ∧ ∀ o', c'.is prog w d o' → Rep prog w n' (pre ++ (d, o') :: post) := by
    intro n n' r U D R
    induction U generalizing r with
    | head =>
      cases R with
      | @cons _ _ o _ r hc R =>
        rw [List.map_cons, List.nodup_cons, R.addrs] at D
        exact ⟨[], o, r, rfl, hc, (fun _ h => nomatch h), (fun p hp e => D.1 (e ▸ List.mem_map_of_mem hp)), fun o' h => .cons h R⟩
    | @tail p _ _ U ih =>
      cases R with
      | @cons a₁ c₁ o₁ _ r hc R =>
        rw [List.map_cons, List.nodup_cons] at D
        obtain ⟨pre, o, post, rfl, h1, h2, h3, h4⟩ := ih D.2 R
        refine ⟨(a₁, o₁) :: pre, o, post, rfl, h1, fun p hp e => ?_, h3, fun o' h => .cons hc (h4 o' h)⟩
        cases hp with
        | head => exact D.1 (by rw [show a₁ = d from e]; exact List.mem_map.mpr ⟨_, U.mem, rfl⟩)
        | tail _ hp => exact h2 p hp e
  obtain ⟨pre, o, post, rfl, h1, h2, h3, h4⟩ := gen U D R
  exact ⟨pre, o, post, N, h1, h2, h3, fun h' m' o' F' N' hc => ⟨F', ⟨_, N', h4 o' hc⟩, by rw [U.addrs]; exact D⟩⟩
theorem updOf {d : Addr} {o o' : Obj} {pre post : List (Addr × Obj)} (h1 : ∀ p ∈ pre, p.1 ≠ d) (h2 : ∀ p ∈ post, p.1 ≠ d) : Upd d o o' (pre ++ (d, o) :: post) (pre ++ (d, o') :: post) := by
  induction pre with
  | nil => exact .head h2
  | cons p pre ih => exact .tail (h1 p (.head _)) (ih fun q hq => h1 q (.tail _ hq))
theorem instAt (H : Holds prog w h₀ L m n h') {a C d : Addr} {l : List (Str × Value)} (k1 : Kn prog w h₀ n a (.inst C d)) (k2 : Kn prog w h₀ n d (.attrs l)) :
    ∃ es k, AttrsAre w.params es l ∧ InstAt h' a (instObj C d) C (some (dictOf es k)) := by
  obtain ⟨o, h1, rfl⟩ := H.get k1
  obtain ⟨o', h2, es, k, rfl, h3⟩ := H.get k2
  exact ⟨es, k, h3, h1, rfl, rfl, h2⟩
theorem g_attr {a C d : Addr} {l : List (Str × Value)} {x : Str} {v : Value} {ex : Bool} {Q : Value → Loc → Led → Prop} (B : Base prog w h₀) (k1 : Kn prog w h₀ n a (.inst C d)) (k2 : Kn prog w h₀ n d (.attrs l)) (hl : l.lookup x = some v)
    (s1 : plainGet (kf w.params) C x = true) (s2 : hasDictIn (kf w.params) C = true) (s3 : findIn (kf w.params) (.ref C) x = some none) (hh : handedIn v = true) (q : Q v m n) : Does prog w A h₀ L (getAttr (.ref a) x ex) m n Q := Does.of fun s E H R k => by
  obtain ⟨es, j, h3, I⟩ := instAt H k1 k2
  exact get_own H.F B.X I s1 s2 s3 rfl (h3.lookup hl) hh (k _ _ _ _ H rfl rfl q)
theorem s_attr {a C d : Addr} {l : List (Str × Value)} {x : Str} {v : Value} {Q : Unit → Loc → Led → Prop} (B : Base prog w h₀) (k1 : Kn prog w h₀ n a (.inst C d)) (U : Alt d (.attrs l) (.attrs (setA x v l)) n n')
    (s1 : findIn (kf w.params) (.ref C) "__setattr__" = some (some (.builtin "object.__setattr__"))) (s2 : plainOver (kf w.params) C = true) (s3 : takerIn (kf w.params) C x = some none) (s4 : hasDictIn (kf w.params) C = true) (hz : l.length ≤ 900) (q : Q () m n') : Does prog w A h₀ L (setAttr (.ref a) x v) m n Q := Does.of fun s E H R k => by
  obtain ⟨es, j, h3, I⟩ := instAt H k1 (.inr U.mem)
  obtain ⟨pre, o, post, N, hc, a1, a2, fin⟩ := H.alt U
  have ho : o = dictOf es j := by
    have e1 := (N (d, o) (by simp)).1
    have e2 : s.heap.get? d = some (dictOf es j) := I.dict
    exact Option.some.inj (e1.symm.trans e2)
  subst ho
  have hsz := h3.len
  have hp := putL_length x (PyData.keyHash w.params x) (.str x (s.toks + 1)) v es
  exact set_dict H.F B.X N I rfl s1 s2 s3 s4 (h3.getSome x) rfl (updOf a1 a2) (by lia) fun h' F' N' => k _ _ _ _ (fin _ _ _ F' N' ⟨_, _, rfl, h3.put x _ v⟩) rfl rfl q
end

end
-- DC
section
open PySem PySem.W PySem.Calls PyProof.Rows PySem.Spec
set_option Elab.async false
set_option maxRecDepth 100000
set_option maxHeartbeats 4000000
set_option linter.unusedVariables false

inductive Take (p : Addr × Cell) : Led → Led → Prop
  | here {n : Led} : Take p (p :: n) n
  | there {q : Addr × Cell} {n r : Led} : Take p n r → Take p (q :: n) (q :: r)
inductive Pick : Led → Led → Led → Prop
  | nil {n : Led} : Pick [] n n
  | cons {p : Addr × Cell} {own n n1 r : Led} : Take p n n1 → Pick own n1 r → Pick (p :: own) n r
theorem Take.perm {p : Addr × Cell} {n r : Led} (h : Take p n r) : n.Perm (p :: r) := by
  induction h with
  | here => exact .refl _
  | there _ ih => exact (ih.cons _).trans (.swap _ _ _)
theorem Pick.perm {own n r : Led} (h : Pick own n r) : n.Perm (own ++ r) := by
  induction h with
  | nil => exact .refl _
  | cons t _ ih => exact t.perm.trans (ih.cons _)
theorem Pick.less {own n r : Led} (h : Pick own n r) : Less (own ++ r) n := .of_perm h.perm

section
variable {prog : Program} {w : World} {A : Around} {h₀ : Heap} {L : Addr} {m m' : Loc} {n n' : Led} {env : Env}

theorem Holds.cut {own rest : Led} {h : Heap} (H : Holds prog w h₀ L m (own ++ rest) h) : ∃ r₁ r₂, News h₀ L h r₁ ∧ News h₀ L h r₂ ∧ Rep prog w own r₁ ∧ Rep prog w rest r₂ := by
  obtain ⟨r, N, R⟩ := H.N
  have gen : ∀ {own rest : Led} {r : List (Addr × Obj)}, Rep prog w (own ++ rest) r → ∃ r₁ r₂, r = r₁ ++ r₂ ∧ Rep prog w own r₁ ∧ Rep prog w rest r₂ := by
    intro own rest r R
    induction own generalizing r with
    | nil => exact ⟨[], r, rfl, .nil, R⟩
    | cons p own ih =>
      cases R with
      | cons hc R => obtain ⟨r₁, r₂, rfl, a, b⟩ := ih R; exact ⟨_ :: r₁, r₂, rfl, .cons hc a, b⟩
  obtain ⟨r₁, r₂, rfl, a, b⟩ := gen R
  exact ⟨r₁, r₂, fun p hp => N p (List.mem_append.mpr (.inl hp)), fun p hp => N p (List.mem_append.mpr (.inr hp)), a, b⟩

/-- the ground of a callee: the heap without the cells that it may turn -/
structure Under (prog : Program) (w : World) (h₀ : Heap) (L : Addr) (m : Loc) (own rest : Led) (h g : Heap) : Prop where
  base : Base prog w h₀ → Base prog w g
  kn : ∀ a c, Kn prog w h₀ rest a c → At prog w g a c
  of : ∀ b o, g.get? b = some o → h.get? b = some o
  size : g.objs.size = h.objs.size
  owned : ∃ r, Rep prog w own r ∧ ∀ p ∈ r, h.get? p.1 = some p.2 ∧ g.get? p.1 = none
  nodup : (own.map (·.1)).Nodup
  back : ∀ L' m' n' h', Holds prog w g L' m' n' h' → Holds prog w h₀ L m (n' ++ rest) h'
theorem Holds.under {own rest : Led} {h : Heap} (H : Holds prog w h₀ L m (own ++ rest) h) : ∃ g, Under prog w h₀ L m own rest h g := by
  obtain ⟨r₁, r₂, N₁, N₂, R₁, R₂⟩ := H.cut
  have D := H.D
  rw [List.map_append, List.nodup_append] at D
  obtain ⟨D1, D2, D3⟩ := D
  rw [R₁.addrs, R₂.addrs] at D3
  have nm : ∀ b o, h₀.get? b = some o → b ∉ r₁.map (·.1) := fun b o e q => by
    obtain ⟨p, hp, rfl⟩ := List.mem_map.mp q
    rw [(N₁ p hp).2.2] at e; cases e
  have st : ∀ b o, h₀.get? b = some o → (hideAll h (r₁.map (·.1))).get? b = some o := fun b o e => hideAll_get _ (H.F.keep b o e) (nm b o e)
  obtain ⟨oL, es, ep, hL, q⟩ := H.F.ns
  have nL : L ∉ r₁.map (·.1) := fun q => by
    obtain ⟨p, hp, e⟩ := List.mem_map.mp q
    exact (N₁ p hp).2.1 e
  have hLg := hideAll_get (r₁.map (·.1)) hL nL
  have n2 : ∀ p ∈ r₂, p.1 ∉ r₁.map (·.1) := fun p hp hm => D3 p.1 hm p.1 (List.mem_map_of_mem hp) rfl
  refine ⟨hideAll h (r₁.map (·.1)), fun B => B.keeps st, fun a c k => ?_, fun b o e => of_hideAll _ e, hideAll_size _ _, ⟨r₁, R₁, fun p hp => ⟨(N₁ p hp).1, hideAll_none _ (List.mem_map_of_mem hp)⟩⟩, D1, fun L' m' n' h' H' => ?_⟩
  · rcases k with ⟨o, e, hc⟩ | hm
    · exact ⟨o, st _ _ e, hc⟩
    · obtain ⟨o, ho, hc⟩ := R₂.mem hm
      exact ⟨o, hideAll_get _ (N₂ _ ho).1 (n2 _ ho), hc⟩
  · obtain ⟨r', N', R'⟩ := H'.N
    have k := H'.F.keep
    refine ⟨⟨⟨oL, es, ep, k _ _ hLg, q⟩, fun b o e => k _ _ (st _ _ e), H.F.above⟩, ⟨r' ++ r₂, fun p hp => ?_, R'.append R₂⟩, ?_⟩
    · rcases List.mem_append.mp hp with hp | hp
      · refine ⟨(N' p hp).1, fun e => ?_, ?_⟩
        · have := (N' p hp).2.2; rw [e, hLg] at this; cases this
        · cases q : h₀.get? p.1 with
          | none => rfl
          | some o => have := (N' p hp).2.2; rw [st _ _ q] at this; cases this
      · exact ⟨k _ _ (hideAll_get _ (N₂ p hp).1 (n2 p hp)), (N₂ p hp).2⟩
    · rw [List.map_append, List.nodup_append]
      refine ⟨H'.D, D2, fun a ha b hb e => ?_⟩
      rw [R'.addrs] at ha
      rw [R₂.addrs] at hb
      obtain ⟨p, hp, rfl⟩ := List.mem_map.mp ha
      obtain ⟨p2, hp2, rfl⟩ := List.mem_map.mp hb
      have := (N' p hp).2.2
      rw [e, hideAll_get _ (N₂ p2 hp2).1 (n2 p2 hp2)] at this
      cases this

/-- the code of a call, as the judgement -/
def Codes (prog : Program) (w : World) (A : Around) (h₀ : Heap) (L : Addr) (f : Value) (args : List Value) (m : Loc) (n : Led) (Q : Value → Loc → Led → Prop) : Prop :=
  ∀ (s : Shared) (E : Value → Shared → Prop), Holds prog w h₀ L m n s.heap → codeAny (model prog w) A (.call f ⟨args, []⟩) (fun r s' => match r with
    | .ok (.ret v) => Post prog w h₀ L Q s v s'
    | .ok _ => False
    | .error e => E e s') s
theorem Codes.call {f : Value} {args : List Value} {Q : Value → Loc → Led → Prop} (h : Codes prog w A h₀ L f args m n Q) : Does prog w A h₀ L (call f args) m n Q := fun s E H => wpAny_call (h s E H)
theorem Codes.mono {f : Value} {args : List Value} {Q Q' : Value → Loc → Led → Prop} (h : Codes prog w A h₀ L f args m n Q) (k : ∀ a m' n', Q a m' n' → Q' a m' n') : Codes prog w A h₀ L f args m n Q' := fun s E H =>
  codeAny_mono (h s E H) fun r s' z => by
    rcases r with e | (v | _ | _ | _) <;> first | exact z | exact z.elim | skip
    exact z.to (k _)
theorem code_fn {k : Nat} {own rest : Led} {name qual : Str} {params : Arguments} {body : List Stmt} {scope : Scope} {dV kV doc pm cdv ct oc : Value} {an od : Option Addr} {osl : Array (Option Value)} {f : Addr} {args : List Value} {binds : List (Str × Value)} {Q : Value → Loc → Led → Prop}
    (B : Base prog w h₀) (R : Room A (k + 1)) (P : Pick own n rest)
    (ho : (kf w.params).lookup f = some ⟨oc, od, .func (fnOf name qual params body scope dV kV doc pm an cdv ct), osl⟩) (hcd : codeIn (kf w.params) cdv qual = true)
    (hbind : ∀ s : Shared, (kf w.params).In s.heap → BindsTo s (fnOf name qual params body scope dV kV doc pm an cdv ct) ⟨args, []⟩ binds) (hloc : ∀ y ∈ binds, scope.names.lookup y.1 = some .local)
    (hcell : ∀ x ∈ scope.names, x.2 ≠ .cell) (hco : scope.isCoroutine = false) (hgen : scope.isGenerator = false) (hk : scope.kind = .function)
    (h : ∀ g L', Base prog w g → (∀ a c, Kn prog w h₀ rest a c → At prog w g a c) → Room (A.deeper (envX qual scope L' f cdv [])) k →
      Does prog w (A.deeper (envX qual scope L' f cdv [])) g L' (execs body (envX qual scope L' f cdv [])) (fun y => binds.reverse.lookup y) own (Kfn m rest Q)) :
    Codes prog w A h₀ L (.ref f) args m n Q := by
  intro s E H
  have H := H.less P.less
  obtain ⟨g, U⟩ := H.under
  have X : (kf w.params).In s.heap := B.X.keeps H.F.keep
  obtain ⟨p, loose, mg, mb, T⟩ := B.T
  refine (codeAny_call_def (fd := fnOf name qual params body scope dV kV doc pm an cdv ct) (body := body) (binds := binds) R.lt (X _ _ ho) rfl (T.nolimit.keeps H.F.keep) (codeRec_of X hcd) rfl (hbind s X) hcell hloc (fun h₁ hns hk₁ => ?_) hco hgen hk)
  obtain ⟨r, Rp, hr⟩ := U.owned
  have H₁ : Holds prog w g s.heap.objs.size (fun y => binds.reverse.lookup y) own h₁ :=
    ⟨⟨hns, fun b o e => hk₁ b o (U.of _ _ e), Nat.le_of_eq U.size⟩, ⟨r, fun p hp => ⟨hk₁ _ _ (hr p hp).1, Nat.ne_of_lt (Heap.lt_size (hr p hp).1), (hr p hp).2⟩, Rp⟩, U.nodup⟩
  refine wpAny_mono (h g _ (U.base B) U.kn R.deeper { s with heap := h₁, toks := s.toks + binds.length } _ H₁) (fun fl s' z => ?_) fun _ _ e => e
  obtain ⟨m', n', H', hg, hos, n'', hl, q⟩ := z
  exact ⟨m, n'' ++ rest, U.back _ _ _ _ (H'.less hl), hg, hos, q⟩

theorem Room.make {k : Nat} (R : Room A (k + 1)) (C : Addr) (pos : List Value) : Room (A.under (.builtin "type.__call__" ⟨.ref C :: pos, []⟩)) k := by
  have e1 : (A.under (.builtin "type.__call__" ⟨.ref C :: pos, []⟩)).depth = A.depth + (Code.builtin "type.__call__" ⟨.ref C :: pos, []⟩).weight := rfl
  have e2 : (A.under (.builtin "type.__call__" ⟨.ref C :: pos, []⟩)).units = A.units + (Code.builtin "type.__call__" ⟨.ref C :: pos, []⟩).cUnits := rfl
  have e3 : (Code.builtin "type.__call__" ⟨.ref C :: pos, []⟩).weight ≤ 2 := by
    have h1 : (Code.builtin "type.__call__" ⟨.ref C :: pos, []⟩).frames = 0 := by with_unfolding_all rfl
    have h2 : (Code.builtin "type.__call__" ⟨.ref C :: pos, []⟩).isGuard = false := by show guardIds.contains "type.__call__" = false; decide
    have h3 : (Code.builtin "type.__call__" ⟨.ref C :: pos, []⟩).isCaller = false := by unfold Code.isCaller; rfl
    unfold Code.weight
    rw [h2, h3]
    simp only [Bool.false_eq_true, if_false]
    split <;> lia
  have e4 : (Code.builtin "type.__call__" ⟨.ref C :: pos, []⟩).cUnits ≤ 10 := by
    have h1 : (Code.builtin "type.__call__" ⟨.ref C :: pos, []⟩).frames = 0 := by with_unfolding_all rfl
    show 1 + 3 * (Code.builtin "type.__call__" ⟨.ref C :: pos, []⟩).frames ≤ 10
    rw [h1]; decide
  have a1 := R.depth
  have a2 := R.units
  exact ⟨by lia, by lia, R.handled⟩
theorem make_cls {k : Nat} {C fI : Addr} {args : List Value} {Q : Value → Loc → Led → Prop} (B : Base prog w h₀) (R : Room A (k + 1)) (hm : makesIn (kf w.params) C = true) (hi : findIn (kf w.params) (.ref C) "__init__" = some (some (.ref fI)))
    (hf : isFn (kf w.params) (.ref fI) = true)
    (h : ∀ x dx A', Room A' k → Codes prog w A' h₀ L (.ref fI) (.ref x :: args) m ((x, .inst C dx) :: (dx, .attrs []) :: n) (Kmk x Q)) : Does prog w A h₀ L (call (.ref C) args) m n Q := fun s E H => by
  obtain ⟨r, N, Rp⟩ := H.N
  refine wpAny_call (make_K H.F N (B.X.keeps H.F.keep) hm hi (beq_iff_eq.mp hf) fun x dx h' F' N' l1 l2 => ?_)
  have H' : Holds prog w h₀ L m ((x, .inst C dx) :: (dx, .attrs []) :: n) h' := by
    refine ⟨F', ⟨_, N', .cons rfl (.cons ⟨[], 0, rfl, .nil⟩ Rp)⟩, ?_⟩
    have D := H.D
    simp only [List.map_cons, List.nodup_cons, List.mem_cons]
    have lt : ∀ a ∈ n.map (·.1), a < dx := fun a ha => by
      rw [Rp.addrs] at ha
      obtain ⟨p, hp, rfl⟩ := List.mem_map.mp ha
      exact l1 p hp
    refine ⟨fun e => ?_, fun e => absurd (lt _ e) (Nat.lt_irrefl _), D⟩
    rcases e with e | e
    · exact absurd l2 (by rw [e]; exact Nat.lt_irrefl _)
    · exact absurd (Nat.lt_trans (lt _ e) l2) (Nat.lt_irrefl _)
  refine codeAny_mono (h x dx _ (R.make C args) { s with heap := h' } E H') fun r' s' z => ?_
  rcases r' with e | (v | _ | _ | _) <;> first | exact z | exact z.elim | skip
  obtain ⟨m', n', a, b, c, rfl, q⟩ := z
  exact ⟨rfl, m', n', a, b, c, q⟩

/-- who keeps the operands of a call -/
def Keeps' (prog : Program) (w : World) (h₀ : Heap) (f : Value) : Prop := ∀ h, (∀ b o, h₀.get? b = some o → h.get? b = some o) → ∃ k, (k = Keeper.frame ∨ k = Keeper.machine ∨ k = Keeper.boundFrame) ∧ Looks (model prog w) h (keeperOf f) k
theorem keeps_b {i : String} : Keeps' prog w h₀ (.builtin i) := fun _ _ => ⟨.machine, .inr (.inl rfl), .now⟩
theorem keeps_t {i : String} : Keeps' prog w h₀ (.type i) := fun _ _ => ⟨.machine, .inr (.inl rfl), .now⟩
theorem keeps_r {f : Value} (B : Base prog w h₀) (hk : keepIn (kf w.params) f = true) : Keeps' prog w h₀ f := fun h k => keeps_K hk h (B.X.keeps k)

theorem a_nil {pos : Pos} {Q : List Value → Loc → Led → Prop} (q : Q [] m n) : Does prog w A h₀ L (spliced (backTo pos (starEach [] env))) m n Q := Does.of fun s E H R k => spliced_none (k _ _ _ _ H rfl rfl q)
theorem a_cons {e : Expr} {rest : List Expr} {pos : Pos} {Q : List Value → Loc → Led → Prop}
    (h : Does prog w A h₀ L (eval e env) m n (Kar prog w A h₀ L env pos rest Q))
    (he : starEach (e :: rest) env = (false, eval e env) :: starEach rest env := by k_dflt (exact rfl)) : Does prog w A h₀ L (spliced (backTo pos (starEach (e :: rest) env))) m n Q :=
  fun s E H => spliced_more (wpAny_mono (h s E H) (fun v s' z => wpAny_mono (z.next fun _ _ q => q) (fun _ _ z => z.to fun _ _ q => q) fun _ _ e => e) fun _ _ e => e) he

theorem c_with {f : Value} {first : List Value} {e : Expr} {rest : List Expr} {pos : Pos} {Q : Value → Loc → Led → Prop} (hk : Keeps' prog w h₀ f)
    (h : Does prog w A h₀ L (spliced (backTo pos (starEach (e :: rest) env))) m n (Kcf prog w A h₀ L f first Q))
    (he : starEach (e :: rest) env = (false, eval e env) :: starEach rest env := by k_dflt (exact rfl)) (hplain : (backTo pos (starEach rest env)).any (·.1) = false := by k_dflt (exact rfl)) :
    Does prog w A h₀ L (callWith pos f first (backTo pos (starEach (e :: rest) env)) []) m n Q := fun s E H => by
  rw [he] at h ⊢
  refine callWith_of (P := fun h => ∀ b o, h₀.get? b = some o → h.get? b = some o) (by show ((false || (backTo pos (starEach rest env)).any (·.1)) || false) = false; rw [hplain]; rfl) hk (evalArgs_plain (wpAny_mono (h s E H) (fun vs s' z => ?_) fun _ _ e => e))
  exact ⟨z.keep, z.next fun _ _ q => q⟩
theorem c_with0 {f : Value} {first : List Value} {pos : Pos} {Q : Value → Loc → Led → Prop} (hk : Keeps' prog w h₀ f)
    (h : Does prog w A h₀ L (call f (first ++ [])) m n Q) : Does prog w A h₀ L (callWith pos f first (backTo pos (starEach [] env)) []) m n Q := fun s E H =>
  callWith_of (P := fun h => ∀ b o, h₀.get? b = some o → h.get? b = some o) rfl hk (evalArgs_nil3 ⟨H.F.keep, h s E H⟩)

theorem e_call {x : Str} {p pos : Pos} {args : List Expr} {Q : Value → Loc → Led → Prop} (h : Does prog w A h₀ L (eval (.Name x p) env) m n (Kcw prog w A h₀ L env pos args Q)) :
    Does prog w A h₀ L (eval (.Call (.Name x p) args [] pos) env) m n Q := fun s E H =>
  Call_Name rfl (wpAny_mono (h s E H) (fun v s' z => z.next fun _ _ q => q) fun _ _ e => e)
theorem e_meth {o : Expr} {x : Str} {apos pos : Pos} {args : List Expr} {pl : Sem Bool} {Q : Value → Loc → Led → Prop}
    (h : Does prog w A h₀ L (eval o env) m n fun ov m' n' => Does prog w A h₀ L (getMethod ov x pl) m' n' fun fx m'' n'' => Does prog w A h₀ L (callWith pos fx.1 fx.2 (backTo pos (starEach args env)) []) m'' n'' Q)
    (he : eval (.Call (.Attribute o x apos) args [] pos) env = (do
      let ov ← eval o env
      standAt apos.atName
      let (f, first) ← holding [ov] (getMethod ov x pl)
      callWith pos f first (backTo pos (starEach args env)) (backToKw pos (keywordEach [] env))) := by k_dflt (exact rfl)) : Does prog w A h₀ L (eval (.Call (.Attribute o x apos) args [] pos) env) m n Q := fun s E H =>
  methodCall_KW (wpAny_mono (h s E H) (fun v s' ⟨m', n', H', g, o, q⟩ => wpAny_mono (q s' E H') (fun fx s'' ⟨m'', n'', H'', g', o', z⟩ => wpAny_mono (z s'' E H'') (fun _ _ ⟨m3, n3, H3, g3, o3, z3⟩ => ⟨m3, n3, H3, (g3.trans g').trans g, (o3.trans o').trans o, z3⟩) fun _ _ e => e) fun _ _ e => e) fun _ _ e => e) he
theorem m_inst {a C d f : Addr} {l : List (Str × Value)} {x : Str} {pl : Sem Bool} {Q : Value × List Value → Loc → Led → Prop} (B : Base prog w h₀) (k1 : Kn prog w h₀ n a (.inst C d)) (k2 : Kn prog w h₀ n d (.attrs l)) (hl : l.lookup x = none)
    (s1 : plainGet (kf w.params) C x = true) (s2 : findIn (kf w.params) (.ref C) x = some (some (.ref f))) (s3 : isFn (kf w.params) (.ref f) = true) (q : Q (.ref f, [.ref a]) m n) : Does prog w A h₀ L (getMethod (.ref a) x pl) m n Q := Does.of fun s E H R k => by
  obtain ⟨es, j, h3, I⟩ := instAt H k1 k2
  exact method_inst H.F B.X I s1 s2 s3 (h3.missing hl) (k _ _ _ _ H rfl rfl q)
end

end
-- DD
section
open PySem PySem.W PySem.Calls PyProof.Rows PySem.Spec
set_option Elab.async false
set_option maxRecDepth 100000
set_option maxHeartbeats 4000000
set_option linter.unusedVariables false
section
variable {prog : Program} {w : World} {A : Around} {h₀ : Heap} {L : Addr} {α : Type} {m m' : Loc} {n n' : Led} {env : Env}

theorem Does.holding {vs : List Value} {t : Sem α} {Q : α → Loc → Led → Prop} (x : Does prog w A h₀ L t m n Q) : Does prog w A h₀ L (holding vs t) m n Q := fun s E H => wpAny_holding (x s E H)
theorem Does.operate {vs : List Value} {t : Sem Value} {Q : Value → Loc → Led → Prop} (x : Does prog w A h₀ L t m n Q) : Does prog w A h₀ L (operate vs t) m n Q := fun s E H => wpAny_operate' (x s E H)
theorem Does.at {pos : Pos} {Q : Unit → Loc → Led → Prop} (q : Q () m n) : Does prog w A h₀ L (standAt pos) m n Q := Does.of fun s E H R k => wpAny_standAt (k _ _ _ _ H rfl rfl q)
theorem Does.release {vs ks : List Value} {Q : Unit → Loc → Led → Prop} (q : Q () m n) : Does prog w A h₀ L (release vs ks) m n Q := Does.of fun s E H R k => wpAny_release' (k _ _ _ _ H rfl rfl q)
theorem Does.rule {x : String} {Q : Unit → Loc → Led → Prop} (q : Q () m n) : Does prog w A h₀ L (rule x) m n Q := Does.of fun s E H R k => wpAny_rule (k _ _ _ _ H rfl rfl q)
theorem Does.eq {t u : Sem α} {Q : α → Loc → Led → Prop} (e : t = u) (x : Does prog w A h₀ L u m n Q) : Does prog w A h₀ L t m n Q := e ▸ x

theorem tr_bool {b : Bool} {Q : Bool → Loc → Led → Prop} (q : Q b m n) : Does prog w A h₀ L (truthy (.bool b)) m n Q := Does.of fun s E H R k => wpAny_truthy_bool (k _ _ _ _ H rfl rfl q)

theorem e_cmp {l r : Expr} {op : CmpOp} {pos : Pos} {Q : Value → Loc → Led → Prop}
    (h : Does prog w A h₀ L (eval l env) m n (Kco prog w A h₀ L env op r Q))
    (hm : behindInMarks op r = false := by with_unfolding_all exact rfl) : Does prog w A h₀ L (eval (.Compare l [op] [r] pos) env) m n Q := by
  rw [eval_Compare1, markedBehindIn_of_false hm]
  exact Does.bind (h.mono fun a m' n' h1 => Does.bind (Does.holding (h1.mono fun b m'' n'' h2 => Does.bind (Does.at (Does.operate h2)))))
theorem b_cmp {l r : Expr} {op : CmpOp} {pos : Pos} {whole : Sem Value} {Q : Bool → Loc → Led → Prop}
    (h : Does prog w A h₀ L (eval l env) m n (Kco prog w A h₀ L env op r (Ktr prog w A h₀ L Q)))
    (hm : behindInMarks op r = false := by with_unfolding_all exact rfl) : Does prog w A h₀ L (isTrue (.Compare l [op] [r] pos) env whole) m n Q := by
  rw [isTrue_Compare1, markedBehindIn_of_false hm]
  exact Does.bind (h.mono fun a m' n' h1 => Does.bind (Does.holding (h1.mono fun b m'' n'' h2 => Does.bind (Does.at (Does.bind (Does.operate (h2.mono fun c m3 n3 h3 => Does.holding h3)))))))
theorem b_plain {e : Expr} {whole : Sem Value} {Q : Bool → Loc → Led → Prop} (h : Does prog w A h₀ L whole m n (Ktr prog w A h₀ L Q))
    (he : isTrue e env whole = (do let v ← whole; standAt e.pos; PySem.holding [v] (truthy v)) := by k_dflt (exact rfl)) : Does prog w A h₀ L (isTrue e env whole) m n Q := by
  rw [he]
  exact Does.bind (h.mono fun v m' n' h1 => Does.bind (Does.at (Does.holding h1)))
theorem b_not {x : Expr} {pos : Pos} {whole : Sem Value} {Q : Bool → Loc → Led → Prop} (h : Does prog w A h₀ L (isTrue x env (eval x env)) m n (Knot Q)) : Does prog w A h₀ L (isTrue (.UnaryOp .Not x pos) env whole) m n Q := by
  show Does prog w A h₀ L (do return !(← isTrue x env (eval x env))) m n Q
  exact Does.bind (h.mono fun b m' n' h1 => Does.pure h1)
theorem b_and0 {pos : Pos} {whole : Sem Value} {Q : Bool → Loc → Led → Prop} (q : Q true m n) : Does prog w A h₀ L (isTrue (.BoolOp .And [] pos) env whole) m n Q := Does.pure (a := true) q
theorem b_or0 {pos : Pos} {whole : Sem Value} {Q : Bool → Loc → Led → Prop} (q : Q false m n) : Does prog w A h₀ L (isTrue (.BoolOp .Or [] pos) env whole) m n Q := Does.pure (a := false) q
theorem b_and {x : Expr} {rest : List Expr} {pos : Pos} {whole : Sem Value} {Q : Bool → Loc → Led → Prop}
    (h : Does prog w A h₀ L (isTrue x env (eval x env)) m n (Kand prog w A h₀ L env rest pos whole Q)) :
    Does prog w A h₀ L (isTrue (.BoolOp .And (x :: rest) pos) env whole) m n Q := by
  show Does prog w A h₀ L (do
    match BoolOp.And, ← isTrue x env (eval x env) with
    | .And, false => Pure.pure false
    | .Or, true => Pure.pure true
    | _, _ => allTrue .And rest env) m n Q
  refine Does.bind (h.mono fun c m' n' h1 => ?_)
  cases c with
  | false => exact Does.pure (h1.2 rfl)
  | true => exact h1.1 rfl
theorem b_or {x : Expr} {rest : List Expr} {pos : Pos} {whole : Sem Value} {Q : Bool → Loc → Led → Prop}
    (h : Does prog w A h₀ L (isTrue x env (eval x env)) m n (Kor prog w A h₀ L env rest pos whole Q)) :
    Does prog w A h₀ L (isTrue (.BoolOp .Or (x :: rest) pos) env whole) m n Q := by
  show Does prog w A h₀ L (do
    match BoolOp.Or, ← isTrue x env (eval x env) with
    | .And, false => Pure.pure false
    | .Or, true => Pure.pure true
    | _, _ => allTrue .Or rest env) m n Q
  refine Does.bind (h.mono fun c m' n' h1 => ?_)
  cases c with
  | false => exact h1.2 rfl
  | true => exact Does.pure (h1.1 rfl)
theorem e_ifexp {test body orelse : Expr} {pos : Pos} {Q : Value → Loc → Led → Prop}
    (h : Does prog w A h₀ L (isTrue test env (eval test env)) m n (Kife prog w A h₀ L env body orelse Q)) :
    Does prog w A h₀ L (eval (.IfExp test body orelse pos) env) m n Q := by
  rw [eval_IfExp]
  refine Does.bind (h.mono fun c m' n' h1 => ?_)
  cases c with
  | false => exact h1.2 rfl
  | true => exact h1.1 rfl
theorem e_and {e₁ e₂ : Expr} {rest : List Expr} {pos : Pos} {Q : Value → Loc → Led → Prop}
    (h : Does prog w A h₀ L (eval e₁ env) m n (Kea prog w A h₀ L env e₂ rest pos Q)) :
    Does prog w A h₀ L (eval (.BoolOp .And (e₁ :: e₂ :: rest) pos) env) m n Q := by
  show Does prog w A h₀ L (do
    let v ← eval e₁ env
    standAt pos
    let c ← PySem.holding [v] (truthy v)
    match BoolOp.And, c with
    | .And, false | .Or, true => Pure.pure v
    | _, _ => boolOp pos .And (eval e₂ env :: evalEach rest env)) m n Q
  refine Does.bind (h.mono fun v m' n' h1 => Does.bind (Does.at (Does.bind (Does.holding (h1.mono fun c m'' n'' h2 => ?_)))))
  cases c with
  | false => exact Does.pure (h2.2 rfl)
  | true => exact h2.1 rfl
theorem e_or {e₁ e₂ : Expr} {rest : List Expr} {pos : Pos} {Q : Value → Loc → Led → Prop}
    (h : Does prog w A h₀ L (eval e₁ env) m n (Keo prog w A h₀ L env e₂ rest pos Q)) :
    Does prog w A h₀ L (eval (.BoolOp .Or (e₁ :: e₂ :: rest) pos) env) m n Q := by
  show Does prog w A h₀ L (do
    let v ← eval e₁ env
    standAt pos
    let c ← PySem.holding [v] (truthy v)
    match BoolOp.Or, c with
    | .And, false | .Or, true => Pure.pure v
    | _, _ => boolOp pos .Or (eval e₂ env :: evalEach rest env)) m n Q
  refine Does.bind (h.mono fun v m' n' h1 => Does.bind (Does.at (Does.bind (Does.holding (h1.mono fun c m'' n'' h2 => ?_)))))
  cases c with
  | false => exact h2.2 rfl
  | true => exact Does.pure (h2.1 rfl)
theorem e_bool1 {op : BoolOp} {e : Expr} {pos : Pos} {Q : Value → Loc → Led → Prop} (h : Does prog w A h₀ L (eval e env) m n Q) : Does prog w A h₀ L (eval (.BoolOp op [e] pos) env) m n Q := h
theorem e_not {x : Expr} {pos : Pos} {Q : Value → Loc → Led → Prop} (h : Does prog w A h₀ L (eval x env) m n (Ktr prog w A h₀ L (Knb Q))) : Does prog w A h₀ L (eval (.UnaryOp .Not x pos) env) m n Q := by
  rw [eval_UnaryOp]
  refine Does.bind (h.mono fun v m' n' h1 => Does.bind (Does.at (Does.holding ?_)))
  exact Does.of fun s E H R k => not_of (wpAny_mono (h1 s E H) (fun c s' ⟨m'', n'', H'', g, o, q⟩ => k _ _ _ _ H'' g o q) fun _ _ e => e)
theorem e_neg {i : Int} {k : Nat} {p pos : Pos} {Q : Value → Loc → Led → Prop} (q : ∀ t, Q (.int (-i) t) m n) : Does prog w A h₀ L (eval (.UnaryOp .USub (.Constant (.int i) k p) pos) env) m n Q := by
  rw [eval_UnaryOp]
  exact Does.bind (e_int fun t => Does.bind (Does.at (Does.holding (Does.of fun s E H R k => PySem.P.neg_int (k _ _ _ _ H rfl rfl (q _))))))
theorem e_bin {l r : Expr} {op : Operator} {pos : Pos} {Q : Value → Loc → Led → Prop}
    (h : Does prog w A h₀ L (eval l env) m n (Kbi prog w A h₀ L env op r Q)) : Does prog w A h₀ L (eval (.BinOp l op r pos) env) m n Q := by
  rw [eval_BinOp]
  exact Does.bind (h.mono fun a m' n' h1 => Does.bind (Does.holding (h1.mono fun b m'' n'' h2 => Does.bind (Does.at (Does.operate h2)))))
-- chains
theorem e_chain {l r₁ r₂ : Expr} {op₁ op₂ : CmpOp} {pos : Pos} {Q : Value → Loc → Led → Prop}
    (h : Does prog w A h₀ L (eval l env) m n (Kh1 prog w A h₀ L env r₁ op₁ r₂ op₂ Q))
    (hm : lastMarks [op₁, op₂] [r₁, r₂] = false := by with_unfolding_all exact rfl) : Does prog w A h₀ L (eval (.Compare l [op₁, op₂] [r₁, r₂] pos) env) m n Q := by
  show Does prog w A h₀ L (do compareChain pos (← eval l env) [op₁, op₂] (markedEach [op₁, op₂] [r₁, r₂] (evalEach [r₁, r₂] env))) m n Q
  rw [markedEach_of_false _ _ _ hm]
  refine Does.bind (h.mono fun a m1 n1 h1 => ?_)
  show Does prog w A h₀ L (do
    let rv ← PySem.holding [a] (eval r₁ env)
    standAt pos
    let c ← PySem.holding [a, rv] (compareOp op₁ a rv)
    PySem.release [a, rv] [c]
    if ← PySem.holding [c, rv] (truthy c) then compareChain pos rv [op₂] [eval r₂ env] else Pure.pure c) m1 n1 Q
  refine Does.bind (Does.holding (h1.mono fun b m2 n2 h2 => Does.bind (Does.at (Does.bind (Does.holding (h2.mono fun c m3 n3 h3 => Does.bind (Does.release (Does.bind (Does.holding (h3.mono fun t m4 n4 h4 => ?_))))))))))
  cases t with
  | false => exact Does.pure (h4.2 rfl)
  | true => exact Does.bind (Does.holding ((h4.1 rfl).mono fun d m5 n5 h5 => Does.bind (Does.at (Does.operate h5))))
theorem b_chain {l r₁ r₂ : Expr} {op₁ op₂ : CmpOp} {pos : Pos} {whole : Sem Value} {Q : Bool → Loc → Led → Prop}
    (h : Does prog w A h₀ L (eval l env) m n (Kg1 prog w A h₀ L env r₁ op₁ r₂ op₂ Q))
    (hm : lastMarks [op₁, op₂] [r₁, r₂] = false := by with_unfolding_all exact rfl) : Does prog w A h₀ L (isTrue (.Compare l [op₁, op₂] [r₁, r₂] pos) env whole) m n Q := by
  show Does prog w A h₀ L (do testChain pos (← eval l env) [op₁, op₂] (markedEach [op₁, op₂] [r₁, r₂] (evalEach [r₁, r₂] env))) m n Q
  rw [markedEach_of_false _ _ _ hm]
  refine Does.bind (h.mono fun a m1 n1 h1 => ?_)
  show Does prog w A h₀ L (do
    let rv ← PySem.holding [a] (eval r₁ env)
    standAt pos
    let c ← PySem.holding [a, rv] (compareOp op₁ a rv)
    PySem.release [a, rv] [c]
    if ← PySem.holding [c, rv] (truthy c) then testChain pos rv [op₂] [eval r₂ env] else Pure.pure false) m1 n1 Q
  refine Does.bind (Does.holding (h1.mono fun b m2 n2 h2 => Does.bind (Does.at (Does.bind (Does.holding (h2.mono fun c m3 n3 h3 => Does.bind (Does.release (Does.bind (Does.holding (h3.mono fun t m4 n4 h4 => ?_))))))))))
  cases t with
  | false => exact Does.pure (h4.2 rfl)
  | true => exact Does.bind (Does.holding ((h4.1 rfl).mono fun d m5 n5 h5 => Does.bind (Does.at (Does.bind (Does.operate (h5.mono fun c' m6 n6 h6 => Does.holding h6))))))
-- ints
section
variable {a b : Int} {t u : Tok} {Q : Value → Loc → Led → Prop}
theorem c_lt (q : Q (.bool (decide (a < b))) m n) : Does prog w A h₀ L (compareOp .Lt (.int a t) (.int b u)) m n Q := Does.of fun s E H R k => PySem.P.lt_int (k _ _ _ _ H rfl rfl q)
theorem c_le (q : Q (.bool (decide (a ≤ b))) m n) : Does prog w A h₀ L (compareOp .LtE (.int a t) (.int b u)) m n Q := Does.of fun s E H R k => PySem.P.le_int (k _ _ _ _ H rfl rfl q)
theorem c_gt (q : Q (.bool (decide (b < a))) m n) : Does prog w A h₀ L (compareOp .Gt (.int a t) (.int b u)) m n Q := Does.of fun s E H R k => PySem.P.gt_int (k _ _ _ _ H rfl rfl q)
theorem c_ge (q : Q (.bool (decide (b ≤ a))) m n) : Does prog w A h₀ L (compareOp .GtE (.int a t) (.int b u)) m n Q := Does.of fun s E H R k => PySem.P.ge_int (k _ _ _ _ H rfl rfl q)
theorem c_eq (q : Q (.bool (decide (a = b))) m n) : Does prog w A h₀ L (compareOp .Eq (.int a t) (.int b u)) m n Q := Does.of fun s E H R k => PySem.P.eq_int (k _ _ _ _ H rfl rfl (by rw [show (a == b) = decide (a = b) from by by_cases h : a = b <;> simp [h]]; exact q))
theorem c_ne (q : Q (.bool (decide (¬ a = b))) m n) : Does prog w A h₀ L (compareOp .NotEq (.int a t) (.int b u)) m n Q := Does.of fun s E H R k => PySem.P.ne_int (k _ _ _ _ H rfl rfl (by rw [show (a != b) = decide (¬ a = b) from by by_cases h : a = b <;> simp [h]]; exact q))
theorem o_add (q : ∀ t, Q (.int (a + b) t) m n) : Does prog w A h₀ L (binaryOp .Add (.int a t) (.int b u)) m n Q := Does.of fun s E H R k => PySem.P.add_int (k _ _ _ _ H rfl rfl (q _))
theorem o_sub (q : ∀ t, Q (.int (a - b) t) m n) : Does prog w A h₀ L (binaryOp .Sub (.int a t) (.int b u)) m n Q := Does.of fun s E H R k => PySem.P.sub_int (k _ _ _ _ H rfl rfl (q _))
theorem o_mod (hb : b ≠ 0) (q : ∀ t, Q (.int (a.fmod b) t) m n) : Does prog w A h₀ L (binaryOp .Mod (.int a t) (.int b u)) m n Q := Does.of fun s E H R k => PyProof.Rows.mod_int' hb (k _ _ _ _ H rfl rfl (q _))
theorem c_is {v : Value} (q : Q (.bool (v == .none)) m n) : Does prog w A h₀ L (compareOp .Is v .none) m n Q := Does.of fun s E H R k => is_none_gen (k _ _ _ _ H rfl rfl q)
theorem c_isnot {v : Value} (q : Q (.bool (!(v == .none))) m n) : Does prog w A h₀ L (compareOp .IsNot v .none) m n Q := Does.of fun s E H R k => isnot_none_gen (k _ _ _ _ H rfl rfl q)
end
end

end
-- DS
section
open PySem PySem.W PySem.Calls PyProof.Rows PySem.Spec
set_option Elab.async false
set_option maxRecDepth 100000
set_option maxHeartbeats 4000000
set_option linter.unusedVariables false
theorem gl_xNOWHERE (P : Params) : nsIn (kf P) mainGlobals "NOWHERE" = some (some (.int (-1) 197)) := by k_is
theorem gl_xNEWLINE (P : Params) : nsIn (kf P) mainGlobals "NEWLINE" = some (some (.int 10 199)) := by k_is
theorem gl_xTAB (P : Params) : nsIn (kf P) mainGlobals "TAB" = some (some (.int 9 201)) := by k_is
theorem gl_xBLANK (P : Params) : nsIn (kf P) mainGlobals "BLANK" = some (some (.int 32 203)) := by k_is
theorem gl_xDELETE (P : Params) : nsIn (kf P) mainGlobals "DELETE" = some (some (.int 127 205)) := by k_is
theorem gl_xBACKSLASH (P : Params) : nsIn (kf P) mainGlobals "BACKSLASH" = some (some (.int 92 209)) := by k_is
theorem gl_xSHOWN (P : Params) : nsIn (kf P) mainGlobals "SHOWN" = some (some (.int 0 286)) := by k_is
theorem gl_xOptions (P : Params) : nsIn (kf P) mainGlobals "Options" = some (some (.ref 39)) := by k_is
theorem gl_xis_control (P : Params) : nsIn (kf P) mainGlobals "is_control" = some (some (.ref 50)) := by k_is
theorem gl_xis_raw (P : Params) : nsIn (kf P) mainGlobals "is_raw" = some (some (.ref 57)) := by k_is
theorem gl_xshown_codes (P : Params) : nsIn (kf P) mainGlobals "shown_codes" = some (some (.ref 71)) := by k_is
theorem gl_xView (P : Params) : nsIn (kf P) mainGlobals "View" = some (some (.ref 138)) := by k_is
theorem gl_xToldView (P : Params) : nsIn (kf P) mainGlobals "ToldView" = some (some (.ref 188)) := by k_is
theorem gl_xSigns (P : Params) : nsIn (kf P) mainGlobals "Signs" = some (some (.ref 207)) := by k_is
theorem gl_xis_break (P : Params) : nsIn (kf P) mainGlobals "is_break" = some (some (.ref 218)) := by k_is
theorem gl_xshown_place (P : Params) : nsIn (kf P) mainGlobals "shown_place" = some (some (.ref 239)) := by k_is
theorem gl_xstring_signs (P : Params) : nsIn (kf P) mainGlobals "string_signs" = some (some (.ref 244)) := by k_is
theorem gl_xstring_count (P : Params) : nsIn (kf P) mainGlobals "string_count" = some (some (.ref 249)) := by k_is
theorem gl_xshown_count (P : Params) : nsIn (kf P) mainGlobals "shown_count" = some (some (.ref 256)) := by k_is
theorem gl_xsigns_at (P : Params) : nsIn (kf P) mainGlobals "signs_at" = some (some (.ref 268)) := by k_is
theorem gl_xWalk (P : Params) : nsIn (kf P) mainGlobals "Walk" = some (some (.ref 313)) := by k_is
theorem gl_xRow (P : Params) : nsIn (kf P) mainGlobals "Row" = some (some (.ref 348)) := by k_is
theorem gl_xput_sign (P : Params) : nsIn (kf P) mainGlobals "put_sign" = some (some (.ref 359)) := by k_is
theorem gl_xend_of_line (P : Params) : nsIn (kf P) mainGlobals "end_of_line" = some (some (.ref 366)) := by k_is
theorem gl_xoverflow (P : Params) : nsIn (kf P) mainGlobals "overflow" = some (some (.ref 373)) := by k_is
theorem gl_xfolded_row (P : Params) : nsIn (kf P) mainGlobals "folded_row" = some (some (.ref 380)) := by k_is
theorem gl_xlaid_row (P : Params) : nsIn (kf P) mainGlobals "laid_row" = some (some (.ref 394)) := by k_is
theorem gl_xlaid_rows (P : Params) : nsIn (kf P) mainGlobals "laid_rows" = some (some (.ref 401)) := by k_is
theorem gl_xline_begin (P : Params) : nsIn (kf P) mainGlobals "line_begin" = some (some (.ref 408)) := by k_is
theorem gl_xrows_of_line (P : Params) : nsIn (kf P) mainGlobals "rows_of_line" = some (some (.ref 415)) := by k_is
theorem gl_xown_spot (P : Params) : nsIn (kf P) mainGlobals "own_spot" = some (some (.ref 422)) := by k_is
theorem gl_xindex_of (P : Params) : nsIn (kf P) mainGlobals "index_of" = some (some (.ref 429)) := by k_is
theorem gl_xhas_place (P : Params) : nsIn (kf P) mainGlobals "has_place" = some (some (.ref 436)) := by k_is
theorem gl_xcolumn_in (P : Params) : nsIn (kf P) mainGlobals "column_in" = some (some (.ref 443)) := by k_is
theorem gl_xcursor_in (P : Params) : nsIn (kf P) mainGlobals "cursor_in" = some (some (.ref 450)) := by k_is
theorem gl_xrow_ahead (P : Params) : nsIn (kf P) mainGlobals "row_ahead" = some (some (.ref 457)) := by k_is
theorem gl_xrow_behind (P : Params) : nsIn (kf P) mainGlobals "row_behind" = some (some (.ref 464)) := by k_is
theorem gl_xgone_from (P : Params) : nsIn (kf P) mainGlobals "gone_from" = some (some (.ref 471)) := by k_is
theorem gl_xvertical_motion (P : Params) : nsIn (kf P) mainGlobals "vertical_motion" = some (some (.ref 478)) := by k_is
theorem gl_xbegin_moved (P : Params) : nsIn (kf P) mainGlobals "begin_moved" = some (some (.ref 483)) := by k_is
theorem gl_xPLAIN (P : Params) : nsIn (kf P) mainGlobals "PLAIN" = some (some (.ref 484)) := by k_is
theorem gl_xFace (P : Params) : nsIn (kf P) mainGlobals "Face" = some (some (.ref 504)) := by k_is
theorem gl_xFaceTable (P : Params) : nsIn (kf P) mainGlobals "FaceTable" = some (some (.ref 551)) := by k_is
theorem gl_x_law_draw (P : Params) : nsIn (kf P) mainGlobals "_law_draw" = some (some (.ref 562)) := by k_is
theorem gl_x_law_signs (P : Params) : nsIn (kf P) mainGlobals "_law_signs" = some (some (.ref 567)) := by k_is
theorem gl_x_law_rows (P : Params) : nsIn (kf P) mainGlobals "_law_rows" = some (some (.ref 572)) := by k_is
theorem gl_x_law_seen (P : Params) : nsIn (kf P) mainGlobals "_law_seen" = some (some (.ref 579)) := by k_is
theorem gl_x_law_moved (P : Params) : nsIn (kf P) mainGlobals "_law_moved" = some (some (.ref 584)) := by k_is
theorem gl_x_law_cursor (P : Params) : nsIn (kf P) mainGlobals "_law_cursor" = some (some (.ref 589)) := by k_is
theorem gn_xlen (P : Params) : nsIn (kf P) mainGlobals "len" = some none := by k_is
theorem gn_xenumerate (P : Params) : nsIn (kf P) mainGlobals "enumerate" = some none := by k_is
theorem gn_xmax (P : Params) : nsIn (kf P) mainGlobals "max" = some none := by k_is
theorem gn_xmin (P : Params) : nsIn (kf P) mainGlobals "min" = some none := by k_is
theorem gn_xrange (P : Params) : nsIn (kf P) mainGlobals "range" = some none := by k_is
theorem gn_xabs (P : Params) : nsIn (kf P) mainGlobals "abs" = some none := by k_is
theorem gn_xlist (P : Params) : nsIn (kf P) mainGlobals "list" = some none := by k_is
theorem gn_xsorted (P : Params) : nsIn (kf P) mainGlobals "sorted" = some none := by k_is
theorem gn_xsum (P : Params) : nsIn (kf P) mainGlobals "sum" = some none := by k_is
structure ClsOk (K : Frag) (C : Addr) (names : List Str) : Prop where
  get : ∀ x, plainGet K C x = true
  dict : hasDictIn K C = true
  set : findIn K (.ref C) "__setattr__" = some (some (.builtin "object.__setattr__"))
  over : plainOver K C = true
  own : ∀ x ∈ names, findIn K (.ref C) x = some none
abbrev nms_Options : List Str := ["tab_width", "has_carets", "truncates", "wraps_words", "hscroll"]
theorem ck_Options (P : Params) : ClsOk (kf P) 39 nms_Options where
  get := fun x => (by k_is : plainGet (kf P) 39 "a" = true)
  dict := by k_is
  set := by k_is
  over := by k_is
  own := fun x hx => by
    simp only [List.mem_cons, List.not_mem_nil, or_false] at hx
    rcases hx with rfl | rfl | rfl | rfl | rfl <;> k_is
theorem mk_Options (P : Params) : makesIn (kf P) 39 = true := by k_is
theorem in_Options (P : Params) : findIn (kf P) (.ref 39) "__init__" = some (some (.ref 36)) := by k_is
theorem if_Options (P : Params) : isFn (kf P) (.ref 36) = true := by k_is
abbrev nms_ToldView : List Str := ["codes", "first", "faces", "hidden", "shown", "strings"]
theorem ck_ToldView (P : Params) : ClsOk (kf P) 188 nms_ToldView where
  get := fun x => (by k_is : plainGet (kf P) 188 "a" = true)
  dict := by k_is
  set := by k_is
  over := by k_is
  own := fun x hx => by
    simp only [List.mem_cons, List.not_mem_nil, or_false] at hx
    rcases hx with rfl | rfl | rfl | rfl | rfl | rfl <;> k_is
theorem mk_ToldView (P : Params) : makesIn (kf P) 188 = true := by k_is
theorem in_ToldView (P : Params) : findIn (kf P) (.ref 188) "__init__" = some (some (.ref 157)) := by k_is
theorem if_ToldView (P : Params) : isFn (kf P) (.ref 157) = true := by k_is
abbrev nms_Signs : List Str := ["rows", "after", "reach"]
theorem ck_Signs (P : Params) : ClsOk (kf P) 207 nms_Signs where
  get := fun x => (by k_is : plainGet (kf P) 207 "a" = true)
  dict := by k_is
  set := by k_is
  over := by k_is
  own := fun x hx => by
    simp only [List.mem_cons, List.not_mem_nil, or_false] at hx
    rcases hx with rfl | rfl | rfl <;> k_is
theorem mk_Signs (P : Params) : makesIn (kf P) 207 = true := by k_is
theorem in_Signs (P : Params) : findIn (kf P) (.ref 207) "__init__" = some (some (.ref 204)) := by k_is
theorem if_Signs (P : Params) : isFn (kf P) (.ref 204) = true := by k_is
abbrev nms_Walk : List Str := ["view", "table", "place", "number", "here", "reach"]
theorem ck_Walk (P : Params) : ClsOk (kf P) 313 nms_Walk where
  get := fun x => (by k_is : plainGet (kf P) 313 "a" = true)
  dict := by k_is
  set := by k_is
  over := by k_is
  own := fun x hx => by
    simp only [List.mem_cons, List.not_mem_nil, or_false] at hx
    rcases hx with rfl | rfl | rfl | rfl | rfl | rfl <;> k_is
theorem mk_Walk (P : Params) : makesIn (kf P) 313 = true := by k_is
theorem in_Walk (P : Params) : findIn (kf P) (.ref 313) "__init__" = some (some (.ref 282)) := by k_is
theorem if_Walk (P : Params) : isFn (kf P) (.ref 282) = true := by k_is
abbrev nms_Row : List Str := ["start", "column", "end", "next_column", "glyphs", "is_line_end", "is_break", "is_end", "mark", "reach"]
theorem ck_Row (P : Params) : ClsOk (kf P) 348 nms_Row where
  get := fun x => (by k_is : plainGet (kf P) 348 "a" = true)
  dict := by k_is
  set := by k_is
  over := by k_is
  own := fun x hx => by
    simp only [List.mem_cons, List.not_mem_nil, or_false] at hx
    rcases hx with rfl | rfl | rfl | rfl | rfl | rfl | rfl | rfl | rfl | rfl <;> k_is
theorem mk_Row (P : Params) : makesIn (kf P) 348 = true := by k_is
theorem in_Row (P : Params) : findIn (kf P) (.ref 348) "__init__" = some (some (.ref 331)) := by k_is
theorem if_Row (P : Params) : isFn (kf P) (.ref 331) = true := by k_is
abbrev nms_Face : List Str := ["parts", "parents"]
theorem ck_Face (P : Params) : ClsOk (kf P) 504 nms_Face where
  get := fun x => (by k_is : plainGet (kf P) 504 "a" = true)
  dict := by k_is
  set := by k_is
  over := by k_is
  own := fun x hx => by
    simp only [List.mem_cons, List.not_mem_nil, or_false] at hx
    rcases hx with rfl | rfl <;> k_is
theorem mk_Face (P : Params) : makesIn (kf P) 504 = true := by k_is
theorem in_Face (P : Params) : findIn (kf P) (.ref 504) "__init__" = some (some (.ref 501)) := by k_is
theorem if_Face (P : Params) : isFn (kf P) (.ref 501) = true := by k_is
abbrev nms_FaceTable : List Str := ["by_name", "looks", "numbers"]
theorem ck_FaceTable (P : Params) : ClsOk (kf P) 551 nms_FaceTable where
  get := fun x => (by k_is : plainGet (kf P) 551 "a" = true)
  dict := by k_is
  set := by k_is
  over := by k_is
  own := fun x hx => by
    simp only [List.mem_cons, List.not_mem_nil, or_false] at hx
    rcases hx with rfl | rfl | rfl <;> k_is
theorem mk_FaceTable (P : Params) : makesIn (kf P) 551 = true := by k_is
theorem in_FaceTable (P : Params) : findIn (kf P) (.ref 551) "__init__" = some (some (.ref 522)) := by k_is
theorem if_FaceTable (P : Params) : isFn (kf P) (.ref 522) = true := by k_is
theorem mt_xbegin (P : Params) : findIn (kf P) (.ref 188) "begin" = some (some (.ref 93)) ∧ isFn (kf P) (.ref 93) = true := ⟨by k_is, by k_is⟩
theorem mt_xend (P : Params) : findIn (kf P) (.ref 188) "end" = some (some (.ref 100)) ∧ isFn (kf P) (.ref 100) = true := ⟨by k_is, by k_is⟩
theorem mt_xcode_at (P : Params) : findIn (kf P) (.ref 188) "code_at" = some (some (.ref 107)) ∧ isFn (kf P) (.ref 107) = true := ⟨by k_is, by k_is⟩
theorem mt_xhidden_at (P : Params) : findIn (kf P) (.ref 188) "hidden_at" = some (some (.ref 171)) ∧ isFn (kf P) (.ref 171) = true := ⟨by k_is, by k_is⟩
theorem mt_xfaces_at (P : Params) : findIn (kf P) (.ref 188) "faces_at" = some (some (.ref 164)) ∧ isFn (kf P) (.ref 164) = true := ⟨by k_is, by k_is⟩
theorem mt_xshown_at (P : Params) : findIn (kf P) (.ref 188) "shown_at" = some (some (.ref 178)) ∧ isFn (kf P) (.ref 178) = true := ⟨by k_is, by k_is⟩
theorem mt_xstrings_at (P : Params) : findIn (kf P) (.ref 188) "strings_at" = some (some (.ref 185)) ∧ isFn (kf P) (.ref 185) = true := ⟨by k_is, by k_is⟩
theorem mt_xsettle (P : Params) : findIn (kf P) (.ref 313) "settle" = some (some (.ref 289)) ∧ isFn (kf P) (.ref 289) = true := ⟨by k_is, by k_is⟩
theorem mt_xsign (P : Params) : findIn (kf P) (.ref 313) "sign" = some (some (.ref 296)) ∧ isFn (kf P) (.ref 296) = true := ⟨by k_is, by k_is⟩
theorem mt_xstep (P : Params) : findIn (kf P) (.ref 313) "step" = some (some (.ref 303)) ∧ isFn (kf P) (.ref 303) = true := ⟨by k_is, by k_is⟩
theorem mt_xspot (P : Params) : findIn (kf P) (.ref 313) "spot" = some (some (.ref 310)) ∧ isFn (kf P) (.ref 310) = true := ⟨by k_is, by k_is⟩
theorem mt_xstop (P : Params) : findIn (kf P) (.ref 348) "stop" = some (some (.ref 338)) ∧ isFn (kf P) (.ref 338) = true := ⟨by k_is, by k_is⟩
theorem mt_xnumber_of (P : Params) : findIn (kf P) (.ref 551) "number_of" = some (some (.ref 541)) ∧ isFn (kf P) (.ref 541) = true := ⟨by k_is, by k_is⟩

end
-- DE
section
open PySem PySem.W PySem.Calls PyProof.Rows PySem.Spec
set_option Elab.async false
set_option maxRecDepth 100000
set_option maxHeartbeats 400000
set_option linter.unusedVariables false
section
variable {prog : Program} {w : World} {A : Around} {h₀ : Heap} {L : Addr} {α : Type} {m m' : Loc} {n n' : Led} {env : Env}

theorem ga {a C d : Addr} {l : List (Str × Value)} {x : Str} {v : Value} {ex : Bool} {names : List Str} {Q : Value → Loc → Led → Prop} (B : Base prog w h₀) (k1 : Kn prog w h₀ n a (.inst C d)) (S : ClsOk (kf w.params) C names) (k2 : Kn prog w h₀ n d (.attrs l)) (hl : l.lookup x = some v)
    (hx : x ∈ names) (hh : handedIn v = true) (q : Q v m n) : Does prog w A h₀ L (getAttr (.ref a) x ex) m n Q := g_attr B k1 k2 hl (S.get x) S.dict (S.own x hx) hh q
inductive SetA (x : Str) (v : Value) : List (Str × Value) → List (Str × Value) → Prop
  | nil : SetA x v [] [(x, v)]
  | hit {u : Value} {r : List (Str × Value)} : SetA x v ((x, u) :: r) ((x, v) :: r)
  | miss {y : Str} {u : Value} {r r' : List (Str × Value)} : y ≠ x → SetA x v r r' → SetA x v ((y, u) :: r) ((y, u) :: r')
theorem SetA.eq {x : Str} {v : Value} {l l' : List (Str × Value)} (h : SetA x v l l') : setA x v l = l' := by
  induction h with
  | nil => rfl
  | hit => unfold setA; rw [if_pos rfl]
  | miss hn _ ih => unfold setA; rw [if_neg hn, ih]
theorem sa {a C d : Addr} {l l' : List (Str × Value)} {x : Str} {v : Value} {names : List Str} {Q : Unit → Loc → Led → Prop} (B : Base prog w h₀) (k1 : Kn prog w h₀ n a (.inst C d)) (S : ClsOk (kf w.params) C names) (U : Alt d (.attrs l) (.attrs l') n n') (hs : SetA x v l l')
    (hx : x ∈ names) (hz : l.length ≤ 900) (q : Q () m n') : Does prog w A h₀ L (setAttr (.ref a) x v) m n Q := by
  rw [← hs.eq] at U
  refine s_attr B k1 U S.set S.over ?_ S.dict hz q
  unfold takerIn
  rw [S.own x hx]
  rfl
theorem ma {a C d f : Addr} {l : List (Str × Value)} {x : Str} {pl : Sem Bool} {names : List Str} {Q : Value × List Value → Loc → Led → Prop} (B : Base prog w h₀) (k1 : Kn prog w h₀ n a (.inst C d)) (S : ClsOk (kf w.params) C names) (k2 : Kn prog w h₀ n d (.attrs l))
    (s2 : findIn (kf w.params) (.ref C) x = some (some (.ref f)) ∧ isFn (kf w.params) (.ref f) = true) (hl : l.lookup x = none) (q : Q (.ref f, [.ref a]) m n) : Does prog w A h₀ L (getMethod (.ref a) x pl) m n Q := m_inst B k1 k2 hl (S.get x) s2.1 s2.2 q
theorem mk {k : Nat} {C fI : Addr} {args : List Value} {Q : Value → Loc → Led → Prop} (B : Base prog w h₀) (R : Room A (k + 1)) (hm : makesIn (kf w.params) C = true) (hi : findIn (kf w.params) (.ref C) "__init__" = some (some (.ref fI)))
    (hf : isFn (kf w.params) (.ref fI) = true)
    (h : ∀ x dx A', Room A' k → Codes prog w A' h₀ L (.ref fI) (.ref x :: args) m ((x, .inst C dx) :: (dx, .attrs []) :: n) (Kmk x Q)) : Does prog w A h₀ L (call (.ref C) args) m n Q := make_cls B R hm hi hf h

-- stores through targets
theorem x_set {o : Expr} {x : Str} {tp pos : Pos} {value : Expr} {rest : List Stmt} {Q : Flow → Loc → Led → Prop}
    (h : Does prog w A h₀ L (eval value env) m n (Ks1 prog w A h₀ L env o x rest Q))
    (hs : swapsWithSole [.Attribute o x tp] value pos.line env = pure false := by k_dflt (exact rfl)) (hw : swappedStores [.Attribute o x tp] value env = pure none := by k_dflt (exact rfl)) : Does prog w A h₀ L (execs (.Assign [.Attribute o x tp] value pos :: rest) env) m n Q := by
  refine x_cons ?_
  rw [exec_Assign, hs]
  refine Does.bind (Does.at (Does.bind (Does.pure ?_)))
  rw [if_neg (by decide)]
  refine Does.bind (h.mono fun v m1 n1 h1 => ?_)
  rw [hw]
  refine Does.bind (Does.pure ?_)
  show Does prog w A h₀ L (do
    (do let ov ← holding [v] (eval o env); standAt tp.atName; holding [v, ov] (setAttr ov x v); release [v, ov] [] : Sem Unit)
    Pure.pure Flow.next) m1 n1 _
  exact Does.bind (Does.bind (Does.holding (h1.mono fun ov m2 n2 h2 => Does.bind (Does.at (Does.bind (Does.holding (h2.mono fun _ m3 n3 h3 => Does.release (Does.pure h3))))))))
theorem isTup (H : Holds prog w h₀ L m n h₁) {t : Addr} {vs : List Value} (k : Kn prog w h₀ n t (.tup vs)) : IsTup h₁ t vs.toArray := by
  obtain ⟨o, h1, j, rfl⟩ := H.get k
  exact ⟨_, h1, rfl, j, rfl⟩
theorem isLst (H : Holds prog w h₀ L m n h₁) {t : Addr} {vs : List Value} (k : Kn prog w h₀ n t (.list vs)) : h₁.IsList t vs.toArray := by
  obtain ⟨o, h1, j, rfl⟩ := H.get k
  exact ⟨_, h1, rfl, j, rfl⟩
theorem unp {t : Addr} {vs : List Value} {k : Nat} {Q : List Value → Loc → Led → Prop} (hh : A.handled = none) (kn : Kn prog w h₀ n t (.tup vs)) (hk : k = vs.length) (q : Q vs m n) : Does prog w A h₀ L (unpackItems (.ref t) k none) m n Q := Does.of fun s E H R j => by
  subst hk
  have T := isTup H kn
  have e : vs.toArray.size = vs.length := by simp
  rw [← e]
  refine unpackItems_tuple (items := vs.toArray) hh T fun h' he => ?_
  refine j _ _ _ _ (H.grow fun b o eb => he b o (Nat.ne_of_lt (Heap.lt_size eb)) eb) rfl rfl ?_
  simpa using q
theorem bn {x : Str} {v : Value} {Q : Unit → Loc → Led → Prop} (q : Does prog w A h₀ L (storeName env x v) m n Q) : Does prog w A h₀ L (bindName env x v) m n Q := fun s E H => wpAny_bindName (q s E H)
theorem asg_nil {Q : Unit → Loc → Led → Prop} (q : Q () m n) : Does prog w A h₀ L (assignInOrder ((assignEach [] env).map (·.2)) []) m n Q := Does.pure (a := ()) q
theorem asg_name {x : Str} {p : Pos} {rest : List Expr} {v : Value} {vs : List Value} {Q : Unit → Loc → Led → Prop} (q : Does prog w A h₀ L (storeName env x v) m n (Kas prog w A h₀ L env rest vs Q)) :
    Does prog w A h₀ L (assignInOrder ((assignEach (.Name x p :: rest) env).map (·.2)) (v :: vs)) m n Q := by
  show Does prog w A h₀ L (do holding vs (do standAt p; bindName env x v); assignInOrder ((assignEach rest env).map (·.2)) vs) m n Q
  exact Does.bind (Does.holding (Does.bind (Does.at (bn q))))
theorem asg_attr {o : Expr} {x : Str} {p : Pos} {rest : List Expr} {v : Value} {vs : List Value} {Q : Unit → Loc → Led → Prop} (q : Does prog w A h₀ L (eval o env) m n (Kasa prog w A h₀ L env x v rest vs Q)) :
    Does prog w A h₀ L (assignInOrder ((assignEach (.Attribute o x p :: rest) env).map (·.2)) (v :: vs)) m n Q := by
  show Does prog w A h₀ L (do holding vs (do let ov ← holding [v] (eval o env); standAt p.atName; holding [v, ov] (setAttr ov x v); release [v, ov] []); assignInOrder ((assignEach rest env).map (·.2)) vs) m n Q
  exact Does.bind (Does.holding (Does.bind (Does.holding (q.mono fun ov m1 n1 h1 => Does.bind (Does.at (Does.bind (Does.holding (h1.mono fun _ m2 n2 h2 => Does.release h2))))))))
theorem asgT_eq (env : Env) (elts : List Expr) (k : Nat) (tp : Pos) (v : Value) : assignStores env v none ((assignEach [.Tuple elts k tp] env).map (·.2)) = (do (do standAt tp; unpack v (assignEach elts env)); Pure.pure Flow.next) := rfl
theorem x_tup {elts : List Expr} {k : Nat} {tp pos : Pos} {value : Expr} {rest : List Stmt} {Q : Flow → Loc → Led → Prop} (hh : A.handled = none)
    (h : Does prog w A h₀ L (eval value env) m n fun v m1 n1 => ∃ t vs, v = .ref t ∧ Kn prog w h₀ n1 t (.tup vs) ∧ (assignEach elts env).length = vs.length ∧ Does prog w A h₀ L (assignInOrder ((assignEach elts env).map (·.2)) vs) m1 n1 (Kr prog w A h₀ L env rest Q))
    (hs : swapsWithSole [.Tuple elts k tp] value pos.line env = pure false := by k_dflt (exact rfl)) (hw : swappedStores [.Tuple elts k tp] value env = pure none := by k_dflt (exact rfl)) (hf : ((assignEach elts env).findIdx? (·.1)) = none := by k_dflt (exact rfl)) : Does prog w A h₀ L (execs (.Assign [.Tuple elts k tp] value pos :: rest) env) m n Q := by
  refine x_cons ?_
  rw [exec_Assign, hs]
  refine Does.bind (Does.at (Does.bind (Does.pure ?_)))
  rw [if_neg (by decide)]
  refine Does.bind (h.mono fun v m1 n1 h1 => ?_)
  obtain ⟨t, vs, rfl, kn, hl, h1⟩ := h1
  rw [hw]
  refine Does.bind (Does.pure ?_)
  refine Does.eq (asgT_eq env elts k tp (.ref t)) ?_
  unfold unpack
  rw [hf]
  refine Does.bind (Does.bind (Does.at (Does.bind (Does.holding (unp hh kn hl ?_)))))
  exact h1.mono fun _ m2 n2 h2 => Does.pure h2
theorem sw_nil {Q : Unit → Loc → Led → Prop} (q : Q () m n) : Does prog w A h₀ L (assignInOrder (([] : List Str).map fun x => bindName env x) []) m n Q := Does.pure (a := ()) q
theorem sw_cons {x : Str} {rest : List Str} {v : Value} {vs : List Value} {Q : Unit → Loc → Led → Prop} (q : Does prog w A h₀ L (storeName env x v) m n (Ksw prog w A h₀ L env rest vs Q)) :
    Does prog w A h₀ L (assignInOrder ((x :: rest).map fun x => bindName env x) (v :: vs)) m n Q := by
  show Does prog w A h₀ L (do holding vs (bindName env x v); assignInOrder (rest.map fun x => bindName env x) vs) m n Q
  exact Does.bind (Does.holding (bn q))
theorem x_swap {elts : List Expr} {k : Nat} {tp pos : Pos} {value : Expr} {rest : List Stmt} {names rn : List Str} {Q : Flow → Loc → Led → Prop} (hh : A.handled = none)
    (hw : swappedStores [.Tuple elts k tp] value env = pure (some names)) (hr : names.reverse = rn)
    (h : Does prog w A h₀ L (eval value env) m n fun v m1 n1 => ∃ t vs rv, v = .ref t ∧ Kn prog w h₀ n1 t (.tup vs) ∧ names.length = vs.length ∧ vs.reverse = rv ∧ Does prog w A h₀ L (assignInOrder (rn.map fun x => bindName env x) rv) m1 n1 (Kr prog w A h₀ L env rest Q))
    (hs : swapsWithSole [.Tuple elts k tp] value pos.line env = pure false := by k_dflt (exact rfl)) : Does prog w A h₀ L (execs (.Assign [.Tuple elts k tp] value pos :: rest) env) m n Q := by
  refine x_cons ?_
  rw [exec_Assign, hs]
  refine Does.bind (Does.at (Does.bind (Does.pure ?_)))
  rw [if_neg (by decide)]
  refine Does.bind (h.mono fun v m1 n1 h1 => ?_)
  obtain ⟨t, vs, rv, rfl, kn, hl, rfl, h1⟩ := h1
  subst hr
  rw [hw]
  refine Does.bind (Does.pure ?_)
  show Does prog w A h₀ L (do rule "assign.swapped-stores"; let items ← unpackItems (.ref t) names.length none; assignInOrder (names.reverse.map fun x => bindName env x) items.reverse; Pure.pure Flow.next) m1 n1 _
  exact Does.bind (Does.rule (Does.bind (unp hh kn hl (Does.bind (h1.mono fun _ m2 n2 h2 => Does.pure h2)))))

-- displays
theorem e_tup {elts : List Expr} {k : Nat} {pos : Pos} {Q : Value → Loc → Led → Prop} (h : Does prog w A h₀ L (spliced (backTo pos (starEach elts env))) m n (Ktp Q)) :
    Does prog w A h₀ L (eval (.Tuple elts k pos) env) m n Q := by
  show Does prog w A h₀ L (do standAt pos; newTuple (← spliced (backTo pos (starEach elts env)))) m n Q
  refine Does.bind (Does.at (Does.bind (h.mono fun vs m1 n1 h1 => Does.of fun s E H R k => ?_)))
  exact wpAny_newObj_type (k _ _ _ _ (H.push (c := .tup vs) { cls := .type "tuple", data := .seq vs.toArray } ⟨0, rfl⟩) rfl rfl (h1.2 _)) (by show vs.toArray.size ≤ sizeLine; rw [List.size_toArray, sizeLine_eq]; lia)
theorem e_list {elts : List Expr} {pos : Pos} {Q : Value → Loc → Led → Prop} (h : Does prog w A h₀ L (spliced (backTo pos (starEach elts env))) m n (Klp Q)) :
    Does prog w A h₀ L (eval (.List elts pos) env) m n Q := by
  show Does prog w A h₀ L (do standAt pos; newList (← spliced (backTo pos (starEach elts env)))) m n Q
  refine Does.bind (Does.at (Does.bind (h.mono fun vs m1 n1 h1 => Does.of fun s E H R k => ?_)))
  exact wpAny_newObj_type (k _ _ _ _ (H.push (c := .list vs) { cls := .type "list", data := .seq vs.toArray } ⟨0, rfl⟩) rfl rfl (h1.2 _)) (by show vs.toArray.size ≤ sizeLine; rw [List.size_toArray, sizeLine_eq]; lia)
theorem new_list {vs : List Value} {Q : Value → Loc → Led → Prop} (hz : vs.length ≤ 1000) (q : ∀ a, Q (.ref a) m ((a, .list vs) :: n)) : Does prog w A h₀ L (newList vs) m n Q := Does.of fun s E H R k =>
  wpAny_newObj_type (k _ _ _ _ (H.push (c := .list vs) { cls := .type "list", data := .seq vs.toArray } ⟨0, rfl⟩) rfl rfl (q _)) (by show vs.toArray.size ≤ sizeLine; rw [List.size_toArray, sizeLine_eq]; lia)

-- subscripts
theorem e_sub {value slice : Expr} {pos : Pos} {Q : Value → Loc → Led → Prop} (h : Does prog w A h₀ L (eval value env) m n (Ksu prog w A h₀ L env value slice Q)) :
    Does prog w A h₀ L (eval (.Subscript value slice pos) env) m n Q := by
  rw [eval_Subscript]
  exact Does.bind (h.mono fun o m1 n1 h1 => Does.bind (Does.holding (h1.mono fun i m2 n2 h2 => Does.bind (Does.at h2))))
theorem seqIx {i : Int} {k : Nat} (h0 : 0 ≤ i) (h : i.toNat < k) : seqIndex? i k = some i.toNat := by
  unfold seqIndex?
  have h1 : ¬ i < 0 := by lia
  simp only [h1, if_false]
  rw [if_pos]
  simp only [Bool.and_eq_true, decide_eq_true_eq]
  lia
theorem i_tup {value slice : Expr} {t : Addr} {vs : List Value} {i : Int} {u : Tok} {v : Value} {Q : Value → Loc → Led → Prop} (kn : Kn prog w h₀ n t (.tup vs)) (h0 : 0 ≤ i) (hi : i < 1000000) (hv : vs[i.toNat]? = some v) (q : Q v m n)
    (hs : subscripted slice false (.ref t) (.int i u) = operate [.ref t, .int i u] (getItem (.ref t) (.int i u)) := by with_unfolding_all exact rfl) : Does prog w A h₀ L (subscriptTail value slice (.ref t) (.int i u)) m n Q := Does.of fun s E H R k =>
  item_tupleT (j := i.toNat) (isTup H kn) (by lia) (by lia) (seqIx h0 (List.getElem?_eq_some_iff.mp hv).1) hv (k _ _ _ _ H rfl rfl q) hs
theorem i_lst {value slice : Expr} {t : Addr} {vs : List Value} {i : Int} {u : Tok} {v : Value} {Q : Value → Loc → Led → Prop} (kn : Kn prog w h₀ n t (.list vs)) (h0 : 0 ≤ i) (hi : i < 1000000) (hv : vs[i.toNat]? = some v) (q : Q v m n)
    (hs : subscripted slice false (.ref t) (.int i u) = operate [.ref t, .int i u] (getItem (.ref t) (.int i u)) := by with_unfolding_all exact rfl) : Does prog w A h₀ L (subscriptTail value slice (.ref t) (.int i u)) m n Q := Does.of fun s E H R k =>
  item_litK (isLst H kn) h0 (by lia) hv (k _ _ _ _ H rfl rfl q) hs
theorem i_last {value slice : Expr} {t : Addr} {vs : List Value} {u : Tok} {v : Value} {Q : Value → Loc → Led → Prop} (kn : Kn prog w h₀ n t (.list vs)) (hv : vs.getLast? = some v) (q : Q v m n)
    (hs : subscripted slice false (.ref t) (.int (-1) u) = operate [.ref t, .int (-1) u] (getItem (.ref t) (.int (-1) u)) := by with_unfolding_all exact rfl) : Does prog w A h₀ L (subscriptTail value slice (.ref t) (.int (-1) u)) m n Q := Does.of fun s E H R k => by
  have hne : vs ≠ [] := fun e => by rw [e] at hv; cases hv
  have hlen : 0 < vs.length := List.length_pos_iff.mpr hne
  have hL := isLst H kn
  refine tail_any hL.typeIs slot_list_getitem.lookup (wpAny_getItem_list_neg hL (by lia) (by simp only [List.size_toArray]; lia) (by lia) (x := v) ?_ (k _ _ _ _ H rfl rfl q)) hs
  rw [List.size_toArray, List.getElem?_toArray, ← hv, List.getLast?_eq_getElem?]
  congr 1
  lia
theorem o_cat {a b : Addr} {xs ys : List Value} {Q : Value → Loc → Led → Prop} (k1 : Kn prog w h₀ n a (.list xs)) (k2 : Kn prog w h₀ n b (.list ys)) (hz : xs.length + ys.length ≤ 1000) (q : ∀ c, Q (.ref c) m ((c, .list (xs ++ ys)) :: n)) : Does prog w A h₀ L (binaryOp .Add (.ref a) (.ref b)) m n Q := Does.of fun s E H R k => by
  obtain ⟨r, N, Rp⟩ := H.N
  refine add_arrays (its := xs.toArray) (its2 := ys.toArray) H.F N (isLst H k1) (isLst H k2) (fun h' F' N' => ?_) (by simp only [List.size_toArray, sizeLine_eq]; lia)
  have H' : Holds prog w h₀ L m ((s.heap.objs.size, .list (xs ++ ys)) :: n) h' := by
    refine ⟨F', ⟨_, N', .cons ⟨0, by simp⟩ Rp⟩, ?_⟩
    have := (H.push (c := .list (xs ++ ys)) { cls := .type "list", data := .seq (xs ++ ys).toArray } ⟨0, rfl⟩).D
    exact this
  exact k _ _ _ _ H' rfl rfl (q _)
-- methods of lists
theorem m_list {a : Addr} {vs : List Value} {x : Str} {id : String} {pl : Sem Bool} {Q : Value × List Value → Loc → Led → Prop} (kn : Kn prog w h₀ n a (.list vs)) (slot : Slot "list" x id) (hty : typeOf (.builtin id) = pure (.type "method_descriptor")) (q : Q (.builtin id, [.ref a]) m n) :
    Does prog w A h₀ L (getMethod (.ref a) x pl) m n Q := Does.of fun s E H R k => by
  obtain ⟨o, h1, j, rfl⟩ := H.get kn
  exact getMethod_builtin (T := "list") ⟨_, h1, rfl⟩ PySem.F.plainAttrs_list slot hty (fun b e => by cases e; exact ⟨_, h1, rfl⟩) (k _ _ _ _ H rfl rfl q)
theorem l_append {a : Addr} {vs : List Value} {v : Value} {Q : Value → Loc → Led → Prop} (U : Alt a (.list vs) (.list (vs ++ [v])) n n') (hz : vs.length ≤ 10000) (q : Q .none m n') : Does prog w A h₀ L (call (.builtin "list.append") [.ref a, v]) m n Q := Does.of fun s E H R k => by
  obtain ⟨pre, o, post, N, hc, a1, a2, fin⟩ := H.alt U
  obtain ⟨j, rfl⟩ := hc
  refine append_K H.F N (updOf a1 a2) (fun h' F' N' => k _ _ _ _ (fin _ _ _ F' N' ⟨_, by simp; rfl⟩) rfl rfl q) (by rw [List.size_toArray, sizeLine_eq]; lia)
theorem l_len {a : Addr} {vs : List Value} {Q : Value → Loc → Led → Prop} (kn : Kn prog w h₀ n a (.list vs)) (hz : vs.length ≤ 10000) (q : ∀ t, Q (.int vs.length t) m n) : Does prog w A h₀ L (call (.builtin "len") [.ref a]) m n Q := Does.of fun s E H R k => by
  refine call_len_list (isLst H kn) (by rw [List.size_toArray]; lia) ?_
  rw [List.size_toArray]
  exact k _ _ _ _ H rfl rfl (q _)
theorem f_max {a b : Int} {t u : Tok} {Q : Value → Loc → Led → Prop} (hh : A.handled = none) (q : ∀ t, Q (.int (max a b) t) m n) : Does prog w A h₀ L (call (.builtin "max") [.int a t, .int b u]) m n Q := Does.of fun s E H R k => by
  refine max_two_ints hh fun h' tk hk => ?_
  by_cases hc : b > a
  · rw [if_pos hc]; have := q u; rw [show max a b = b from by lia] at this; exact k _ _ _ _ (H.grow hk) rfl rfl this
  · rw [if_neg hc]; have := q t; rw [show max a b = a from by lia] at this; exact k _ _ _ _ (H.grow hk) rfl rfl this
theorem f_min {a b : Int} {t u : Tok} {Q : Value → Loc → Led → Prop} (hh : A.handled = none) (q : ∀ t, Q (.int (min a b) t) m n) : Does prog w A h₀ L (call (.builtin "min") [.int a t, .int b u]) m n Q := Does.of fun s E H R k => by
  refine min_two_ints hh fun h' tk hk => ?_
  by_cases hc : b < a
  · rw [if_pos hc]; have := q u; rw [show min a b = b from by lia] at this; exact k _ _ _ _ (H.grow hk) rfl rfl this
  · rw [if_neg hc]; have := q t; rw [show min a b = a from by lia] at this; exact k _ _ _ _ (H.grow hk) rfl rfl this
theorem f_abs {a : Int} {t : Tok} {Q : Value → Loc → Led → Prop} (q : ∀ t, Q (.int a.natAbs t) m n) : Does prog w A h₀ L (call (.builtin "abs") [.int a t]) m n Q := Does.of fun s E H R k => by
  refine PyProof.Rows.call_abs_int fun u tk => ?_
  have e : (if a < 0 then -a else a) = (a.natAbs : Int) := by split <;> lia
  rw [e]
  exact k _ _ _ _ H rfl rfl (q _)
-- dicts with int keys
theorem m_dict {a : Addr} {kvs : List (Int × Value)} {x : Str} {id : String} {pl : Sem Bool} {Q : Value × List Value → Loc → Led → Prop} (kn : Kn prog w h₀ n a (.idict kvs)) (slot : Slot "dict" x id) (hty : typeOf (.builtin id) = pure (.type "method_descriptor")) (q : Q (.builtin id, [.ref a]) m n) :
    Does prog w A h₀ L (getMethod (.ref a) x pl) m n Q := Does.of fun s E H R k => by
  obtain ⟨o, h1, _, h2⟩ := H.get kn
  have hd : s.heap.DictOf (intKind prog w) a kvs := Heap.dictOf_iff.mpr ⟨o, h1, h2⟩
  exact getMethod_builtin hd.typeIs PySem.F.plainAttrs_dict slot hty hd.mapOf.noDict (k _ _ _ _ H rfl rfl q)
end

end
-- DF
section
open PySem PySem.W PySem.Calls PyProof.Rows PySem.Spec
set_option Elab.async false
set_option maxRecDepth 100000
set_option maxHeartbeats 400000
set_option linter.unusedVariables false
section
variable {prog : Program} {w : World} {A : Around} {h₀ : Heap} {L : Addr} {α : Type} {m m' : Loc} {n n' : Led} {env : Env}

/-- the end of a turn: the invariant at a lower measure, or leaving -/
inductive TE (J : Loc → Led → Prop) (m : Loc) (n : Led) : Prop
  | mk (n' : Led) (h : Less n' n) (j : J m n') : TE J m n
def TurnEnd (prog : Program) (w : World) (A : Around) (h₀ : Heap) (L : Addr) (J : Loc → Led → Prop) (rest : List Stmt) (env : Env) (Q : Flow → Loc → Led → Prop) (f : Flow) (m : Loc) (n : Led) : Prop :=
  match f with
  | .next | .cont => TE J m n
  | .brk => Does prog w A h₀ L (execs rest env) m n Q
  | .ret v => Q (.ret v) m n
theorem te_next {J : Loc → Led → Prop} {rest : List Stmt} {Q : Flow → Loc → Led → Prop} (n' : Led) (h : Less n' n) (j : J m n') : TurnEnd prog w A h₀ L J rest env Q .next m n := ⟨n', h, j⟩
theorem te_ret {J : Loc → Led → Prop} {rest : List Stmt} {Q : Flow → Loc → Led → Prop} {v : Value} (q : Q (.ret v) m n) : TurnEnd prog w A h₀ L J rest env Q (.ret v) m n := q

abbrev Kwh (prog : Program) (w : World) (A : Around) (h₀ : Heap) (L : Addr) (env : Env) (body rest : List Stmt) (Q : Flow → Loc → Led → Prop) (J : Loc → Led → Prop) : Bool → Loc → Led → Prop := fun b m n =>
  (b = true → Does prog w A h₀ L (execs body env) m n (TurnEnd prog w A h₀ L J rest env Q)) ∧ (b = false → Does prog w A h₀ L (execs rest env) m n Q)
inductive Jlt (I : Nat → Loc → Led → Prop) (k : Nat) (m : Loc) (n : Led) : Prop
  | mk (k' : Nat) (h : k' < k) (i : I k' m n) : Jlt I k m n
inductive Jp (F : Led → Led) (J : Loc → Led → Prop) (m : Loc) (n : Led) : Prop
  | mk (r' : Led) (e : n = F r') (j : J m r') : Jp F J m n
theorem Post.turned {α : Type} {I : Nat → Loc → Led → Prop} {k : Nat} {Q : α → Loc → Led → Prop} {s s' : Shared} {a : α} (z : Post prog w h₀ L Q s a s') (hq : ∀ m n, Q a m n → TE (Jlt I k) m n := by exact fun _ _ q => q) : ∃ k', k' < k ∧ Post prog w h₀ L I s k' s' := by
  obtain ⟨m, n, H, g, o, q⟩ := z
  obtain ⟨n', l, k', h, i⟩ := hq _ _ q
  exact ⟨k', h, m, n', H.less l, g, o, i⟩
theorem Post.after {α : Type} {Q : α → Loc → Led → Prop} {s s₁ s' : Shared} {a : α} (z : Post prog w h₀ L Q s₁ a s') (hg : s₁.gens = s.gens) (ho : s₁.os = s.os) : Post prog w h₀ L Q s a s' := by
  obtain ⟨m, n, H, g, o, q⟩ := z
  exact ⟨m, n, H, g.trans hg, o.trans ho, q⟩
theorem Post.toL {α β : Type} {Q : α → Loc → Led → Prop} {Q' : β → Loc → Led → Prop} {s s' : Shared} {a : α} {b : β} (z : Post prog w h₀ L Q s a s') (k : ∀ m n, Q a m n → TE (Q' b) m n) : Post prog w h₀ L Q' s b s' := by
  obtain ⟨m, n, H, g, o, q⟩ := z
  obtain ⟨n', l, q⟩ := k _ _ q
  exact ⟨m, n', H.less l, g, o, q⟩
theorem x_while {test : Expr} {body rest : List Stmt} {pos : Pos} {Q : Flow → Loc → Led → Prop} (I : Nat → Loc → Led → Prop) (k₀ : Nat) (hI : I k₀ m n)
    (turn : ∀ k m n, I k m n → Does prog w A h₀ L (isTrue test env (eval test env)) m n (Kwh prog w A h₀ L env body rest Q (Jlt I k))) :
    Does prog w A h₀ L (execs (.While test body [] pos :: rest) env) m n Q := by
  refine x_cons fun s E H => ?_
  refine wpAny_While (codeAny_loop (M := model prog w) rfl (Post prog w h₀ L I s) (fun k s₁ z => ?_) k₀ ⟨m, n, H, rfl, rfl, hI⟩)
  show wpAny _ A ((whileTurn test body [] env).onRaise (fun x => do noteFrame x env; theTreesLotGoes x)) _ _ s₁
  refine wpAny_noted ?_
  unfold whileTurn
  refine wpAny_bind (wpAny_mono (z.next (turn k)) (fun b s₂ z => ?_) fun _ _ e => e)
  cases b with
  | true =>
    refine wpAny_bind (wpAny_mono (z.next fun _ _ q => q.1 rfl) (fun fl s₃ z => ?_) fun _ _ e => e)
    cases fl with
    | next => obtain ⟨k', hk, z⟩ := z.turned; exact wpAny_pure ⟨rfl, k', hk, z⟩
    | cont => obtain ⟨k', hk, z⟩ := z.turned; exact wpAny_pure ⟨rfl, k', hk, z⟩
    | brk => exact wpAny_pure (z.to fun _ _ q => q)
    | ret v => exact wpAny_pure (z.to fun _ _ q => q)
  | false =>
    exact wpAny_bind (wpAny_execs_nil (wpAny_pure (z.to fun _ _ q => q.2 rfl)))

inductive It2 {α : Type} (m0 : Loc) (n0 : Led) (V : Led → Prop) (x : α) (m : Loc) (n : Led) : Prop
  | mk (new : Led) (hm : m = m0) (hn : n = new ++ n0) (hv : V new) : It2 m0 n0 V x m n
inductive It1 (prog : Program) (w : World) (A : Around) (h₀ : Heap) (L : Addr) (target : Expr) (it : Value) (m0 : Loc) (n0 : Led) (V : Value → Led → Prop) (x : Option Value) (m : Loc) (n : Led) : Prop
  | mk (v : Value) (e : x = some v) (d : Does prog w A h₀ L (letOwnedTupleGo target it v) m n (It2 m0 n0 (V v))) : It1 prog w A h₀ L target it m0 n0 V x m n
inductive Is {α : Type} (x0 : α) (m0 : Loc) (n0 : Led) (x : α) (m : Loc) (n : Led) : Prop
  | mk (hx : x = x0) (hm : m = m0) (hn : n = n0) : Is x0 m0 n0 x m n
/-- an iterator: its cells at each place, what it yields -/
structure Iters (prog : Program) (w : World) (A : Around) (it : Value) (target : Expr) (N : Nat) (St : Nat → Led) (Ok : Heap → Led → Prop) (V : Nat → Value → Led → Prop) : Prop where
  item : ∀ h₀ L i m r, i < N → Ok h₀ r → Does prog w A h₀ L (pyNext it) m (St i ++ r) (It1 prog w A h₀ L target it m (St (i + 1) ++ r) (V i))
  done : ∀ h₀ L m r, Ok h₀ r → Does prog w A h₀ L (pyNext it) m (St N ++ r) (Is none m r)
  up : ∀ h r p, Ok h r → Ok h (p :: r)
  self : ∀ h₀ L i m r, Does prog w A h₀ L (pyIter it) m (St i ++ r) (Is it m (St i ++ r))

inductive ForI (prog : Program) (w : World) (A : Around) (h₀ : Heap) (L : Addr) (env : Env) (target : Expr) (body rest : List Stmt) (Q : Flow → Loc → Led → Prop) (it : Value) (m2 : Loc) (n2 : Led) : Prop
  | mk (N : Nat) (St : Nat → Led) (Ok : Heap → Led → Prop) (V : Nat → Value → Led → Prop) (r : Led) (J : Nat → Loc → Led → Prop) (W : Iters prog w A it target N St Ok V) (l : Less (St 0 ++ r) n2) (j : J 0 m2 r) (jok : ∀ i m r, J i m r → Ok h₀ r)
      (turn : ∀ i m r v new, i < N → J i m r → V i v new → Does prog w A h₀ L (assign target env v) m (new ++ (St (i + 1) ++ r)) (Kr prog w A h₀ L env body (TurnEnd prog w A h₀ L (Jp (fun r' => St (i + 1) ++ r') (J (i + 1))) rest env Q)))
      (fin : ∀ m r, J N m r → Does prog w A h₀ L (execs rest env) m r Q) : ForI prog w A h₀ L env target body rest Q it m2 n2
inductive FI (N : Nat) (St : Nat → Led) (J : Nat → Loc → Led → Prop) (k : Nat) (m : Loc) (n : Led) : Prop
  | mk (i : Nat) (r : Led) (hk : k = N - i) (hi : i ≤ N) (hn : n = St i ++ r) (j : J i m r) : FI N St J k m n
abbrev Kit (prog : Program) (w : World) (A : Around) (h₀ : Heap) (L : Addr) (env : Env) (target : Expr) (body rest : List Stmt) (Q : Flow → Loc → Led → Prop) : Value → Loc → Led → Prop := fun x m n => Does prog w A h₀ L (pyIter x) m n (ForI prog w A h₀ L env target body rest Q)
theorem ForI.ended {N : Nat} {St : Nat → Led} {J : Nat → Loc → Led → Prop} {i : Nat} {Q : Flow → Loc → Led → Prop} {fl : Flow} {s s' : Shared} (hlt : i < N) (z : Post prog w h₀ L Q s fl s') (hq : ∀ m n, Q fl m n → TE (Jp (fun r' => St (i + 1) ++ r') (J (i + 1))) m n) : ∃ k', k' < N - i ∧ Post prog w h₀ L (FI N St J) s k' s' := by
  obtain ⟨m, n, H, g, o, q⟩ := z
  obtain ⟨_, l, r, rfl, j⟩ := hq _ _ q
  exact ⟨N - (i + 1), by lia, m, _, H.less l, g, o, i + 1, r, rfl, hlt, rfl, j⟩
theorem x_for {target iter : Expr} {body rest : List Stmt} {pos : Pos} {Q : Flow → Loc → Led → Prop}
    (h : Does prog w A h₀ L (eval iter env) m n (Kit prog w A h₀ L env target body rest Q))
    (hs : ∀ x, foldedSetIterable iter env x = pure x := by intro _; rfl) : Does prog w A h₀ L (execs (.For target iter body [] pos :: rest) env) m n Q := by
  refine x_cons fun s E H => ?_
  refine wpAny_For (wpAny_mono (h s _ H) (fun x s₁ z => ?_) fun _ _ e => e) hs
  refine wpAny_mono (z.next fun _ _ q => q) (fun it s₂ z => ?_) fun _ _ e => e
  obtain ⟨m2, n2, H2, hg2, hos2, N, St, Ok, V, r, J, W, l2, j0, jok, turn, fin⟩ := z
  refine codeAny_forLoop_any (Post prog w h₀ L (FI N St J) s) (fun k s₃ z => ?_) N ⟨m2, _, H2.less l2, hg2, hos2, 0, r, rfl, Nat.zero_le _, rfl, j0⟩
  obtain ⟨m3, _, H3, hg3, hos3, i, r3, rfl, hi, rfl, j3⟩ := z
  by_cases hlt : i < N
  · refine wpAny_mono (W.item h₀ L i m3 r3 hlt (jok _ _ _ j3) s₃ _ H3) (fun x s₄ z => ?_) fun _ _ e => e
    obtain ⟨m4, n4, H4, hg4, hos4, v, rfl, z⟩ := z
    refine wpAny_mono (z s₄ _ H4) (fun _ s₅ z => ?_) fun _ _ e => e
    refine wpAny_mono ((z.after (hg4.trans hg3) (hos4.trans hos3)).next fun _ _ ⟨new, e1, e2, hv⟩ => e1 ▸ e2 ▸ turn i m3 r3 v new hlt j3 hv) (fun _ s₆ z => ?_) fun _ _ e => e
    refine wpAny_mono (z.next fun _ _ q => q) (fun fl s₇ z => ?_) fun _ _ e => e
    cases fl with
    | next => exact ForI.ended hlt z fun _ _ q => q
    | cont => exact ForI.ended hlt z fun _ _ q => q
    | brk => exact z.to fun _ _ q => q
    | ret v => exact z.to fun _ _ q => q
  · obtain rfl : i = N := Nat.le_antisymm hi (Nat.not_lt.mp hlt)
    refine wpAny_mono (W.done h₀ L m3 r3 (jok _ _ _ j3) s₃ _ H3) (fun x s₄ z => ?_) fun _ _ e => e
    obtain ⟨m4, n4, H4, hg4, hos4, rfl, rfl, rfl⟩ := z
    exact wpAny_execs_nil ⟨m4, n4, H4, hg4.trans hg3, hos4.trans hos3, fin _ _ j3⟩

-- iterators
def lIter (l : Addr) (i : Nat) : Cell := .prop fun o => o.cls = .type "list_iterator" ∧ o.data = .fields #[.ref l, .int i 0]
def tIter (l : Addr) (i : Nat) : Cell := .prop fun o => o.cls = .type "tuple_iterator" ∧ o.data = .fields #[.ref l, .int i 0]
def rIter (x left : Int) : Cell := .obj { cls := .type "range_iterator", dict := none, data := .fields #[rawInt x, rawInt left, rawInt 1], slots := #[] }
def eIter (it : Addr) (i : Int) : Cell := .prop fun o => ∃ old, o = { cls := .type "enumerate", dict := none, data := .fields #[.none, .bool false, .ref it, rawInt i, .none, old], slots := #[] }
def eOut (it : Addr) (i : Int) (a : Addr) : Cell := .prop fun o => ∃ item, o = { cls := .type "enumerate", dict := none, data := .fields #[rawInt a, .bool false, .ref it, rawInt i, .none, item], slots := #[] }

theorem Less.drop {p : Addr × Cell} : Less n (p :: n) := .of_sub (.cons _ (.refl _))
theorem Less.tail {k : Led} : Less n (k ++ n) := .of_sub (List.sublist_append_right _ _)
theorem Holds.lose {I : Addr} {c : Cell} {r : Led} {h h' : Heap} (H : Holds prog w h₀ L m ((I, c) :: r) h) (he : ∀ b o, b ≠ I → h.get? b = some o → h'.get? b = some o) : Holds prog w h₀ L m r h' := by
  have D := H.D
  obtain ⟨r', N, R⟩ := H.N
  cases R with
  | @cons a c ob n r' hc R =>
    have hI := N (I, ob) (.head _)
    rw [List.map_cons, List.nodup_cons] at D
    obtain ⟨oL, es, ep, hL, q⟩ := H.F.ns
    refine ⟨⟨⟨oL, es, ep, he _ _ (fun e => hI.2.1 e.symm) hL, q⟩, fun b o e => he _ _ (fun z => by have := hI.2.2; rw [← z, e] at this; cases this) (H.F.keep b o e), H.F.above⟩, ⟨r', fun p hp => ?_, R⟩, D.2⟩
    have z := N p (.tail _ hp)
    refine ⟨he _ _ (fun e => D.1 ?_) z.1, z.2⟩
    rw [R.addrs, ← e]; exact List.mem_map_of_mem hp
theorem it_list {l I : Addr} {vs : List Value} {target : Expr} (hh : A.handled = none) (ht : ∀ v, letOwnedTupleGo target (.ref I) v = pure () := by intro _; rfl) :
    Iters prog w A (.ref I) target vs.length (fun i => [(I, lIter l i)]) (fun h₀ r => Kn prog w h₀ r l (.list vs)) (fun i v new => vs[i]? = some v ∧ new = []) where
  up h r p k := k.imp id (.tail _)
  item h₀ L i m r hi k := fun s E H => by
    have hl := isLst H (k.imp id (.tail _))
    obtain ⟨o, h1, h2, h3⟩ := H.get (a := I) (c := lIter l i) (.inr (.head _))
    refine wpAny_pyNext_list_item (l := l) (i := i) (x := vs[i]'hi) ⟨o, h1, h2, h3⟩ hl (by simp [hi]) fun h' hit hs => ?_
    obtain ⟨o', h4, h5, h6⟩ := hit
    refine ⟨m, _, H.change (c' := lIter l (i + 1)) .head (fun b o e h => (hs.2 b e).trans h) h4 ⟨h5, h6⟩, rfl, rfl, vs[i]'hi, rfl, ?_⟩
    rw [ht]
    exact Does.pure ⟨[], rfl, rfl, by simp [hi], rfl⟩
  done h₀ L m r k := fun s E H => by
    have hl := isLst H (k.imp id (.tail _))
    obtain ⟨o, h1, h2, h3⟩ := H.get (a := I) (c := lIter l vs.length) (.inr (.head _))
    refine wpAny_pyNext_list_end hh (l := l) (i := vs.length) ⟨o, h1, h2, h3⟩ hl (by simp) fun h' he => ?_
    exact ⟨m, r, H.lose (fun b o => he b o), rfl, rfl, rfl, rfl, rfl⟩
  self h₀ L i m r := fun s E H => by
    obtain ⟨o, h1, h2, h3⟩ := H.get (a := I) (c := lIter l i) (.inr (.head _))
    exact wpAny_pyIter_listiter ⟨o, h1, h2, h3⟩ ⟨m, _, H, rfl, rfl, rfl, rfl, rfl⟩
theorem it_tup {l I : Addr} {vs : List Value} {target : Expr} (hh : A.handled = none) (ht : ∀ i v r h₀ L m, Does prog w A h₀ L (letOwnedTupleGo target (.ref I) v) m ([(I, tIter l i)] ++ r) fun _ m' n' => m' = m ∧ n' = [(I, tIter l i)] ++ r) :
    Iters prog w A (.ref I) target vs.length (fun i => [(I, tIter l i)]) (fun h₀ r => Kn prog w h₀ r l (.tup vs)) (fun i v new => vs[i]? = some v ∧ new = []) where
  up h r p k := k.imp id (.tail _)
  item h₀ L i m r hi k := fun s E H => by
    obtain ⟨ol, l1, j, rfl⟩ := H.get (k.imp id (.tail _))
    obtain ⟨o, h1, h2, h3⟩ := H.get (a := I) (c := tIter l i) (.inr (.head _))
    refine wpAny_pyNext_tuple_item (t := l) (i := i) (items := vs.toArray) (x := vs[i]'hi) ⟨o, h1, h2, h3⟩ ⟨_, l1, rfl, j, rfl⟩ (by simp [hi]) fun h' hit hs => ?_
    obtain ⟨o', h4, h5, h6⟩ := hit
    refine ⟨m, _, H.change (c' := tIter l (i + 1)) .head (fun b o e h => (hs.2 b e).trans h) h4 ⟨h5, h6⟩, rfl, rfl, vs[i]'hi, rfl, ?_⟩
    exact (ht _ _ _ _ _ _).mono fun _ m' n' z => ⟨[], z.1, z.2, by simp [hi], rfl⟩
  done h₀ L m r k := fun s E H => by
    obtain ⟨ol, l1, j, rfl⟩ := H.get (k.imp id (.tail _))
    obtain ⟨o, h1, h2, h3⟩ := H.get (a := I) (c := tIter l vs.length) (.inr (.head _))
    refine wpAny_pyNext_tuple_end hh (t := l) (i := vs.length) (items := vs.toArray) ⟨o, h1, h2, h3⟩ ⟨_, l1, rfl, j, rfl⟩ (by simp) fun h' he => ?_
    exact ⟨m, r, H.lose (fun b o => he b o), rfl, rfl, rfl, rfl, rfl⟩
  self h₀ L i m r := fun s E H => by
    obtain ⟨o, h1, h2, h3⟩ := H.get (a := I) (c := tIter l i) (.inr (.head _))
    exact wpAny_pyIter_tupleiter ⟨o, h1, h2, h3⟩ ⟨m, _, H, rfl, rfl, rfl, rfl, rfl⟩
theorem go_tup {elts : List Expr} {k : Nat} {p : Pos} {l I : Addr} (i : Nat) (v : Value) (r : Led) (h₀ : Heap) (L : Addr) (m : Loc) : Does prog w A h₀ L (letOwnedTupleGo (.Tuple elts k p) (.ref I) v) m ([(I, tIter l i)] ++ r) fun _ m' n' => m' = m ∧ n' = [(I, tIter l i)] ++ r := by
  unfold letOwnedTupleGo
  cases v <;> first | exact Does.pure (a := ()) ⟨rfl, rfl⟩ | skip
  rename_i a
  intro s E H
  obtain ⟨o, h1, h2, h3⟩ := H.get (a := I) (c := tIter l i) (.inr (.head _))
  refine wpAny_bind (wpAny_load h1 ?_)
  rw [h2, h3]
  show wpAny _ A (if (["enumerate", "zip", "dict_itemiterator", "dict_reverseitemiterator", "odict_iterator", "itertools.zip_longest", "itertools.pairwise"].contains "tuple_iterator" && _) = true then _ else _) _ _ s
  rw [if_neg (by simp)]
  exact wpAny_pure ⟨m, _, H, rfl, rfl, rfl, rfl⟩
theorem it_range {I : Addr} {a : Int} {N : Nat} {target : Expr} (hh : A.handled = none) (ht : ∀ v, letOwnedTupleGo target (.ref I) v = pure () := by intro _; rfl) :
    Iters prog w A (.ref I) target N (fun i => [(I, rIter (a + (i : Nat)) ((N : Int) - (i : Nat)))]) (fun h₀ r => True) (fun i v new => (∃ t, v = .int (a + (i : Nat)) t) ∧ new = []) where
  up h r p k := k
  item h₀ L i m r hi k := fun s E H => by
    obtain ⟨o, h1, rfl⟩ := H.get (a := I) (c := rIter (a + (i : Nat)) ((N : Int) - (i : Nat))) (.inr (.head _))
    refine wpAny_pyNext_range_item h1 (by lia) fun h' hit hs => ?_
    refine ⟨m, _, H.change (c' := rIter (a + ((i + 1 : Nat) : Int)) ((N : Int) - ((i + 1 : Nat) : Int))) .head (fun b o e h => (hs.2 b e).trans h) hit ?_, rfl, rfl, _, rfl, ?_⟩
    · have e1 : a + ((i + 1 : Nat) : Int) = a + (i : Int) + 1 := by lia
      have e2 : (N : Int) - ((i + 1 : Nat) : Int) = (N : Int) - (i : Int) - 1 := by lia
      show _ = _
      rw [e1, e2]
    · rw [ht]
      exact Does.pure ⟨[], rfl, rfl, ⟨_, rfl⟩, rfl⟩
  done h₀ L m r k := fun s E H => by
    obtain ⟨o, h1, rfl⟩ := H.get (a := I) (c := rIter (a + (N : Nat)) ((N : Int) - (N : Nat))) (.inr (.head _))
    exact wpAny_pyNext_range_end hh h1 (by lia) fun h' he => ⟨m, r, H.lose (fun b o => he b o), rfl, rfl, rfl, rfl, rfl⟩
  self h₀ L i m r := fun s E H => by
    obtain ⟨o, h1, rfl⟩ := H.get (a := I) (c := rIter (a + (i : Nat)) ((N : Int) - (i : Nat))) (.inr (.head _))
    exact wpAny_pyIter_rangeiter h1 ⟨m, _, H, rfl, rfl, rfl, rfl, rfl⟩
theorem it_enum {l it e : Addr} {vs : List Value} {elts : List Expr} {kk : Nat} {p : Pos} (hh : A.handled = none) :
    Iters prog w A (.ref e) (.Tuple elts kk p) vs.length (fun i => [(e, eIter it i), (it, lIter l i)]) (fun h₀ r => Kn prog w h₀ r l (.list vs)) (fun i v new => ∃ t x tk, vs[i]? = some x ∧ v = .ref t ∧ new = [(t, .tup [.int i tk, x])]) where
  up h r p k := k.imp id (.tail _)
  item h₀ L i m r hi k := fun s E H => by
    have hl := isLst H (k.imp id fun z => .tail _ (.tail _ z))
    obtain ⟨o, h1, old, rfl⟩ := H.get (a := e) (c := eIter it i) (.inr (.head _))
    obtain ⟨o, h2, h3, h4⟩ := H.get (a := it) (c := lIter l i) (.inr (.tail _ (.head _)))
    have hne : e ≠ it := fun z => by subst z; rw [h1] at h2; cases h2; injection h3 with q; exact absurd q (by decide)
    refine wpAny_pyNext_enum_item (l := l) (i := i) (items := vs.toArray) (x := vs[i]'hi) h1 ⟨o, h2, h3, h4⟩ hl (by simp [hi]) hne fun h' ho hit hT hsz hk => ?_
    obtain ⟨o', h5, h6, h7⟩ := hit
    have het : e ≠ s.heap.objs.size := Nat.ne_of_lt (Heap.lt_size h1)
    have hit' : it ≠ s.heap.objs.size := Nat.ne_of_lt (Heap.lt_size h2)
    have kk : ∀ b o, b ∉ (([(e, eIter it i), (it, lIter l i)] ++ r : Led)).map (·.1) → s.heap.get? b = some o → h'.get? b = some o := fun b o hb e => hk b o (fun z => hb (by simp [z])) (fun z => hb (by simp [z])) e
    obtain ⟨oe, _, _, e1, e2⟩ := H.mem (a := e) (c := eIter it i) (.head _)
    obtain ⟨oi, _, _, i1, i2⟩ := H.mem (a := it) (c := lIter l i) (.tail _ (.head _))
    have D := H.D
    simp only [List.cons_append, List.nil_append, List.map_cons, List.nodup_cons, List.mem_cons, not_or] at D
    have T1 : s.heap.objs.size ≠ L := Nat.ne_of_gt (H.F.ns.lt)
    have T2 : h₀.get? s.heap.objs.size = none := next_is_new H.F
    have lt : ∀ p ∈ r, p.1 ≠ s.heap.objs.size := fun p hp => by
      obtain ⟨o, h1, _⟩ := H.mem (a := p.1) (c := p.2) (.tail _ (.tail _ hp))
      exact Nat.ne_of_lt (Heap.lt_size h1)
    have HH : Holds prog w h₀ L m ((s.heap.objs.size, .tup [.int i s.toks, vs[i]'hi]) :: (e, eOut it ((i : Int) + 1) s.heap.objs.size) :: (it, lIter l (i + 1)) :: r) h' := by
      refine Holds.of (H.fr kk) (fun p hp => ?_) ?_
      · rcases List.mem_cons.mp hp with rfl | hp
        · exact ⟨_, hT, ⟨0, rfl⟩, T1, T2⟩
        rcases List.mem_cons.mp hp with rfl | hp
        · exact ⟨_, ho, ⟨_, rfl⟩, e1, e2⟩
        rcases List.mem_cons.mp hp with rfl | hp
        · exact ⟨_, h5, ⟨h6, h7⟩, i1, i2⟩
        obtain ⟨o, h1, h2, h3⟩ := H.mem (a := p.1) (c := p.2) (.tail _ (.tail _ hp))
        exact ⟨o, hk _ _ (fun z => D.1.2 (z ▸ List.mem_map_of_mem hp)) (fun z => D.2.1 (z ▸ List.mem_map_of_mem hp)) h1, h2, h3⟩
      · simp only [List.map_cons, List.nodup_cons, List.mem_cons, not_or]
        refine ⟨⟨het.symm, hit'.symm, fun z => ?_⟩, D⟩
        obtain ⟨p, hp, z⟩ := List.mem_map.mp z
        exact lt p hp z
    refine ⟨m, _, HH, rfl, rfl, _, rfl, fun s2 E2 H2 => ?_⟩
    obtain ⟨o, g1, item, rfl⟩ := H2.get (a := e) (c := eOut it ((i : Int) + 1) s.heap.objs.size) (.inr (.tail _ (.head _)))
    refine wpAny_letOwnedTupleGo_enum g1 fun h2 he2 hs2 => ?_
    have U : Alt e (eOut it ((i : Int) + 1) s.heap.objs.size) (eIter it ((i + 1 : Nat) : Int)) ((s.heap.objs.size, .tup [.int i s.toks, vs[i]'hi]) :: (e, eOut it ((i : Int) + 1) s.heap.objs.size) :: (it, lIter l (i + 1)) :: r) ((s.heap.objs.size, .tup [.int i s.toks, vs[i]'hi]) :: (e, eIter it ((i + 1 : Nat) : Int)) :: (it, lIter l (i + 1)) :: r) := .tail .head
    exact ⟨m, _, H2.change U (fun b o e h => (hs2.2 b e).trans h) he2 ⟨item, by simp⟩, rfl, rfl, [(s.heap.objs.size, .tup [.int i s.toks, vs[i]'hi])], rfl, rfl, _, _, _, by simp [hi], rfl, rfl⟩
  done h₀ L m r k := fun s E H => by
    have hl := isLst H (k.imp id fun z => .tail _ (.tail _ z))
    obtain ⟨o, h1, old, rfl⟩ := H.get (a := e) (c := eIter it vs.length) (.inr (.head _))
    obtain ⟨o, h2, h3, h4⟩ := H.get (a := it) (c := lIter l vs.length) (.inr (.tail _ (.head _)))
    refine wpAny_pyNext_enum_end hh (l := l) (i := vs.length) (items := vs.toArray) h1 ⟨o, h2, h3, h4⟩ hl (by simp) fun h' he => ?_
    have H1 : Holds prog w h₀ L m ((it, lIter l vs.length) :: r) s.heap := H.less .drop
    exact ⟨m, r, H1.lose (fun b o => he b o), rfl, rfl, rfl, rfl, rfl⟩
  self h₀ L i m r := fun s E H => by
    obtain ⟨o, h1, old, rfl⟩ := H.get (a := e) (c := eIter it i) (.inr (.head _))
    exact wpAny_pyIter_enum h1 ⟨m, _, H, rfl, rfl, rfl, rfl, rfl⟩
end

end
-- DG
section
open PySem PySem.W PySem.Calls PyProof.Rows PySem.Spec
set_option Elab.async false
set_option maxRecDepth 100000
set_option maxHeartbeats 400000
set_option linter.unusedVariables false
section
variable {prog : Program} {w : World} {A : Around} {h₀ : Heap} {L : Addr} {α : Type} {m m' : Loc} {n n' : Led} {env : Env}

/-- the scope of a comprehension as its block sees it: a captured name is a cell -/
def ownScope (env : Env) (scope : Scope) : Scope :=
  { scope with names := scope.names.map fun (n, k) => if (k == .free && env.scope.kind == .function && env.kindOf n == some .cell) then (n, .cell) else (n, k) }

theorem wpAny_compC {M : Model} {E : Value → Shared → Prop} {s : Shared} {e : Expr} {scope : Scope} {pos : Pos} {newAcc first : Sem Value} {g : Comprehension} {gs : List Comprehension} {cs : List (Str × Addr)} {Q : Value → Shared → Prop}
    (hcl : clausesOf e = g :: gs) (hs : ∀ x, foldedSetIterable g.iter env x = pure x)
    (hfree : closureFor scope env = pure cs) (hkind : scope.kind = .function) (hnames : ∀ x ∈ scope.names, x.2 = .local → (ownScope env scope).names.lookup x.1 = some .local)
    (h : wpAny M A first (fun x s₁ => wpAny M A (pyIter x) (fun it s₂ => wpAny M A newAcc (fun acc s₃ =>
      wpAny M A (newFunctionEnv scope env.globals cs [] env.qual none .none (some env)) (fun cenv s₄ =>
        codeAny M A (.compStart e 0 it acc { cenv with scope := ownScope env scope }) (fun r s' => ∃ m, s'.heap.Ns cenv.locals m ∧ ∀ h', Heap.SameBut cenv.locals s'.heap h' →
          match r with | .ok _ => Q acc { s' with heap := h' } | .error x => wpAny M A (passOn "comprehension.variables-let-go" x { cenv with scope := ownScope env scope }) Q E { s' with heap := h' }) s₄) E s₃) E s₂) E s₁) E s) :
    wpAny M A (comprehension e scope env pos newAcc false first) Q E s := by
  unfold comprehension
  rw [hfree, hcl]
  refine wpAny_bind (wpAny_mono h (fun x s₁ h₁ => wpAny_bind (wpAny_standAt (wpAny_bind (wpAny_of_eq (hs x) (wpAny_bind (wpAny_holding (wpAny_mono h₁ (fun it s₂ h₂ =>
    wpAny_standIf (wpAny_bind (wpAny_mono h₂ (fun acc s₃ h₃ => wpAny_bind (wpAny_pure (wpAny_bind (wpAny_mono h₃ (fun cenv s₄ h₄ => ?_) fun _ _ h' => h')))) fun _ _ h' => h')))
      fun _ _ h' => h'))))))) fun _ _ h' => h')
  dsimp only
  have hv : ∀ x ∈ (scope.names.filter fun x => (x.2 == .local || x.2 == .cell) && x.1 != (".0" : Str)).reverse, x.2 = .local →
      Env.kindOf { cenv with scope := ownScope env scope } x.1 = some .local := fun x hx hl => hnames x (List.mem_filter.mp (List.mem_reverse.mp hx)).1 hl
  refine wpAny_holding (wpAny_bind (wpAny_attempt (wpAny_holding (wpAny_run (codeAny_mono h₄ fun r s' hr => ?_)))))
  obtain ⟨m, hn, hr⟩ := hr
  cases r with
  | ok f => exact wpAny_bind (wpAny_holding (wpAny_comp_letGo (cenv := { cenv with scope := ownScope env scope }) hkind _ s' m hv hn fun h' m' _ hs' => wpAny_pure (hr h' hs')))
  | error x => exact wpAny_bind (wpAny_holding (wpAny_comp_letGo (cenv := { cenv with scope := ownScope env scope }) hkind _ s' m hv hn fun h' m' _ hs' => hr h' hs'))

theorem codeAny_compLoopG {E : Value → Shared → Prop} {s : Shared} {R : Result → Shared → Prop} {elt target iter : Expr} {ifs : List Expr} {scope : Scope} {pos : Pos} {it acc : Value} {env : Env} (I : Nat → Shared → Prop)
    (turn : ∀ n s, I n s → wpAny (model prog w) A (pyNext it) (fun r s₁ => match r with
      | none => R (.ok .next) s₁
      | some v => wpAny (model prog w) A (letOwnedTupleGo target it v) (fun _ s₁' => wpAny (model prog w) A (assign target env v) (fun _ s₂ =>
          wpAny (model prog w) A (forIn ifs true fun c r => if r = true then do let ok ← isTrue c env (eval c env); pure (ForInStep.yield ok) else pure (ForInStep.yield r)) (fun ok s₃ =>
            if ok = true then wpAny (model prog w) A (eval elt env) (fun x s₄ =>
              wpAny (model prog w) A (call (.builtin "list.append") [acc, x]) (fun _ s₅ => ∃ m, m < n ∧ I m s₅) (notedBy (model prog w) A env fun e s' => R (.error e) s') s₄) (notedBy (model prog w) A env fun e s' => R (.error e) s') s₃
            else ∃ m, m < n ∧ I m s₃) (notedBy (model prog w) A env fun e s' => R (.error e) s') s₂) (notedBy (model prog w) A env fun e s' => R (.error e) s') s₁') (notedBy (model prog w) A env fun e s' => R (.error e) s') s₁) (notedBy (model prog w) A env fun e s' => R (.error e) s') s)
    (n : Nat) (h : I n s) : codeAny (model prog w) A (.compLoop (.ListComp elt [⟨target, iter, ifs, 0⟩] scope pos) 0 it acc env) R s := by
  refine codeAny_loop rfl I (fun n s hI => ?_) n h
  show wpAny _ A ((compTurn (.ListComp elt [⟨target, iter, ifs, 0⟩] scope pos) 0 it acc env).onRaise (fun x => do noteFrame x env; theTreesLotGoes x)) _ _ s
  refine wpAny_noted ?_
  rw [compTurn_list]
  refine wpAny_bind (wpAny_standAt (wpAny_bind (wpAny_mono (turn n s hI) (fun r s₁ h₁ => ?_) fun _ _ h' => h')))
  cases r with
  | none => exact wpAny_pure h₁
  | some v =>
    refine wpAny_bind (wpAny_mono h₁ (fun _ s₁' h₁' => ?_) fun _ _ h' => h')
    refine wpAny_bind (wpAny_mono h₁' (fun _ s₂ h₂ => wpAny_bind (wpAny_mono h₂ (fun ok s₃ h₃ => ?_) fun _ _ h' => h')) fun _ _ h' => h')
    cases ok with
    | true =>
      simp only [if_true] at h₃ ⊢
      refine wpAny_bind (wpAny_bind (wpAny_mono h₃ (fun x s₄ h₄ => ?_) fun _ _ h' => h'))
      exact wpAny_bind (wpAny_mono h₄ (fun _ s₅ h₅ => wpAny_pure (wpAny_pure ⟨rfl, h₅⟩)) fun _ _ h' => h')
    | false =>
      simp only [Bool.false_eq_true, if_false] at h₃ ⊢
      exact wpAny_pure ⟨rfl, h₃⟩

/-- the env of the comprehension's block -/
abbrev compEnv (env : Env) (scope : Scope) (L' : Addr) (cs : List (Str × Addr)) : Env :=
  { scope := ownScope env scope, locals := L', globals := env.globals, cells := cs, qual := env.qual, func := none, code := env.code, frame := env.frame, builtins := env.builtins }
def Tests (prog : Program) (w : World) (A : Around) (h₀ : Heap) (L : Addr) (ifs : List Expr) (env : Env) (m : Loc) (n : Led) (Q : Bool → Loc → Led → Prop) : Prop := match ifs with
  | [] => Q true m n
  | [c] => Does prog w A h₀ L (isTrue c env (eval c env)) m n Q
  | _ => False

theorem Tests.does {ifs : List Expr} {Q : Bool → Loc → Led → Prop} (T : Tests prog w A h₀ L ifs env m n Q) :
    Does prog w A h₀ L (forIn ifs true fun c r => if r = true then do let ok ← isTrue c env (eval c env); pure (ForInStep.yield ok) else pure (ForInStep.yield r)) m n Q := fun s E H => by
  match ifs, T with
  | [], T => exact wpAny_tests_nil ⟨m, n, H, rfl, rfl, T⟩
  | [c], T => exact wpAny_tests_one (T s E H)
inductive CJ (F : Led → Led) (J : Led → Prop) (n : Led) : Prop
  | mk (r' : Led) (l : Less (F r') n) (j : J r') : CJ F J n
abbrev Kcy (F : Led → Led) (J : List Value → Led → Prop) (ys : List Value) : Value → Loc → Led → Prop := fun y _ n => CJ F (J (ys ++ [y])) n
abbrev Kct (prog : Program) (w : World) (A : Around) (h₀ : Heap) (L : Addr) (env : Env) (elt : Expr) (F : Led → Led) (J : List Value → Led → Prop) (ys : List Value) : Bool → Loc → Led → Prop := fun ok m n => (ok = true → Does prog w A h₀ L (eval elt env) m n (Kcy F J ys)) ∧ (ok = false → CJ F (J ys) n)
abbrev Kts (prog : Program) (w : World) (A : Around) (h₀ : Heap) (L : Addr) (env : Env) (ifs : List Expr) (elt : Expr) (F : Led → Led) (J : List Value → Led → Prop) (ys : List Value) : Unit → Loc → Led → Prop := fun _ m n => Tests prog w A h₀ L ifs env m n (Kct prog w A h₀ L env elt F J ys)
/-- what a comprehension over an iterator wants -/
inductive CompI (prog : Program) (w : World) (A : Around) (h₀ : Heap) (L : Addr) (env : Env) (scope : Scope) (cs : List (Str × Addr)) (target elt : Expr) (ifs : List Expr) (F : Addr → Loc → Led → Prop) (it : Value) (m2 : Loc) (n2 : Led) : Prop
  | mk (N : Nat) (St : Nat → Led) (Ok : Heap → Led → Prop) (V : Nat → Value → Led → Prop) (own rest : Led) (J : Nat → List Value → Led → Prop) (W : Iters prog w A it target N St Ok V) (l : Less ((St 0 ++ own) ++ rest) n2)
      (jz : ∀ i ys r, J i ys r → ys.length ≤ 1000) (j0 : J 0 [] own) (jok : ∀ g, (∀ a c, Kn prog w h₀ rest a c → At prog w g a c) → ∀ i ys r, J i ys r → Ok g r)
      (turn : ∀ g L', (∀ a c, Kn prog w h₀ rest a c → At prog w g a c) → (Base prog w h₀ → Base prog w g) →
        ∀ acc i ys r m' v new, i < N → J i ys r → V i v new → Does prog w A g L' (assign target (compEnv env scope L' cs) v) m' ((acc, .list ys) :: (new ++ (St (i + 1) ++ r))) (Kts prog w A g L' (compEnv env scope L' cs) ifs elt (fun r' => (acc, .list ys) :: (St (i + 1) ++ r')) (J (i + 1)) ys))
      (fin : ∀ acc ys r, J N ys r → F acc m2 ((acc, .list ys) :: (r ++ rest))) : CompI prog w A h₀ L env scope cs target elt ifs F it m2 n2
inductive CI (acc : Addr) (N : Nat) (St : Nat → Led) (J : Nat → List Value → Led → Prop) (k : Nat) (m : Loc) (n : Led) : Prop
  | mk (i : Nat) (ys : List Value) (r : Led) (hk : k = N - i) (hi : i ≤ N) (hn : n = (acc, .list ys) :: (St i ++ r)) (j : J i ys r) : CI acc N St J k m n
theorem perm5 {k r : Led} {p : Addr × Cell} : Less (k ++ (p :: r)) (p :: (k ++ r)) := .of_perm List.perm_middle.symm
theorem perm7 {a k r : Led} {p : Addr × Cell} : Less (p :: (a ++ (k ++ r))) (a ++ (k ++ (p :: r))) := by
  refine .of_perm ?_
  rw [← List.append_assoc, ← List.append_assoc]
  exact List.perm_middle
theorem comp_loop {g : Heap} {L' acc : Addr} {elt target iter : Expr} {ifs : List Expr} {scope : Scope} {pos : Pos} {it : Value} {N : Nat} {St : Nat → Led} {Ok : Heap → Led → Prop} {V : Nat → Value → Led → Prop} {J : Nat → List Value → Led → Prop} {R : Result → Shared → Prop} {s₂ : Shared}
    (W : Iters prog w A it target N St Ok V) (jz : ∀ i ys r, J i ys r → ys.length ≤ 1000) (jok : ∀ i ys r, J i ys r → Ok g r)
    (turn : ∀ acc i ys r m' v new, i < N → J i ys r → V i v new → Does prog w A g L' (assign target env v) m' ((acc, .list ys) :: (new ++ (St (i + 1) ++ r))) (Kts prog w A g L' env ifs elt (fun r' => (acc, .list ys) :: (St (i + 1) ++ r')) (J (i + 1)) ys))
    (fin : ∀ sx m ys r, Holds prog w g L' m ((acc, .list ys) :: r) sx.heap → sx.gens = s₂.gens → sx.os = s₂.os → J N ys r → R (.ok .next) sx)
    {s : Shared} {k : Nat} (z : Post prog w g L' (CI acc N St J) s₂ k s) : codeAny (model prog w) A (.compLoop (.ListComp elt [⟨target, iter, ifs, 0⟩] scope pos) 0 it (.ref acc) env) R s := by
  refine codeAny_compLoopG (E := fun _ _ => True) (Post prog w g L' (CI acc N St J) s₂) (fun k s₅ z => ?_) k z
  obtain ⟨m', _, H5, hg5, ho5, i, ys, r, rfl, hi, rfl, j5⟩ := z
  have okr : Ok g ((acc, .list ys) :: r) := W.up _ _ _ (jok _ _ _ j5)
  by_cases hlt : i < N
  · refine wpAny_mono (W.item g L' i m' _ hlt okr s₅ _ (H5.less perm5)) (fun x s₆ z => ?_) fun _ _ e => e
    obtain ⟨m6, n6, H6, hg6, ho6, v, rfl, z⟩ := z
    refine wpAny_mono (z s₆ _ H6) (fun _ s₇ z => ?_) fun _ _ e => e
    refine wpAny_mono ((z.after (hg6.trans hg5) (ho6.trans ho5)).next fun _ _ ⟨new, e1, e2, hv⟩ => e1 ▸ e2 ▸ Does.less perm7 (turn acc i ys r m' v new hlt j5 hv)) (fun _ s₈ z => ?_) fun _ _ e => e
    refine wpAny_mono (z.next fun _ _ q => q.does) (fun ok s₉ z => ?_) fun _ _ e => e
    cases ok with
    | true =>
      rw [if_pos rfl]
      refine wpAny_mono (z.next fun _ _ q => q.1 rfl) (fun y s₁₀ z => ?_) fun _ _ e => e
      refine wpAny_mono (z.next (t := call (.builtin "list.append") [.ref acc, y]) (Q' := fun _ m n => CI acc N St J (N - (i + 1)) m n) fun _ _ ⟨r', l, j⟩ => Does.less l (l_append (Alt.head (q := St (i + 1) ++ r')) (by have := jz _ _ _ j5; lia) ⟨i + 1, _, r', rfl, hlt, rfl, j⟩)) (fun _ s₁₁ z => ?_) fun _ _ e => e
      exact ⟨N - (i + 1), by lia, z.to fun _ _ q => q⟩
    | false =>
      rw [if_neg (by decide)]
      exact ⟨N - (i + 1), by lia, z.toL fun _ _ q => let ⟨r', l, j⟩ := q.2 rfl; ⟨_, l, i + 1, ys, r', rfl, hlt, rfl, j⟩⟩
  · obtain rfl : i = N := Nat.le_antisymm hi (Nat.not_lt.mp hlt)
    refine wpAny_mono (W.done g L' m' _ okr s₅ _ (H5.less perm5)) (fun x s₆ z => ?_) fun _ _ e => e
    obtain ⟨m6, n6, H6, hg6, ho6, rfl, rfl, rfl⟩ := z
    exact fin _ _ _ _ H6 (hg6.trans hg5) (ho6.trans ho5) j5
/-- the end of a comprehension's block: its own names are gone, all else stands -/
structure Gone (prog : Program) (w : World) (h₀ : Heap) (L L' : Addr) (m : Loc) (n : Led) (h : Heap) : Prop where
  H : Holds prog w h₀ L m n h
  ns : ∃ m', h.Ns L' m'
  ne : L' ≠ L
  nm : L' ∉ n.map (·.1)
  n0 : ∀ b o, h₀.get? b = some o → b ≠ L'
theorem Gone.at {L' : Addr} {h h' : Heap} (G : Gone prog w h₀ L L' m n h) (hs : Heap.SameBut L' h h') : Holds prog w h₀ L m n h' := by
  obtain ⟨oL, es, ep, hLg, q⟩ := G.H.F.ns
  refine Holds.of ⟨⟨oL, es, ep, (hs.2 _ G.ne.symm).trans hLg, q⟩, fun b o e => (hs.2 _ (G.n0 b o e)).trans (G.H.F.keep b o e), G.H.F.above⟩ (fun p hp => ?_) G.H.D
  obtain ⟨o, h1, h2, h3⟩ := G.H.mem (a := p.1) (c := p.2) hp
  exact ⟨o, (hs.2 _ fun z => G.nm (z ▸ List.mem_map_of_mem hp)).trans h1, h2, h3⟩
theorem comp_core {elt target iter : Expr} {ifs : List Expr} {scope : Scope} {pos : Pos} {cs : List (Str × Addr)} {it : Value} {F : Addr → Loc → Led → Prop} {s s₂ : Shared} {RES : Env → Value → Result → Shared → Prop} {E : Value → Shared → Prop}
    (hkind : scope.kind = .function) (hnc : ∀ x ∈ scope.names, x.2 ≠ .cell)
    (z : Post prog w h₀ L (CompI prog w A h₀ L env scope cs target elt ifs F) s it s₂)
    (fin : ∀ acc L' m n (sx : Shared), Gone prog w h₀ L L' m n sx.heap → sx.gens = s.gens → sx.os = s.os → F acc m n → RES (compEnv env scope L' cs) (.ref acc) (.ok .next) sx) :
    wpAny (model prog w) A (newList []) (fun acc s₃ => wpAny (model prog w) A (newFunctionEnv scope env.globals cs [] env.qual none .none (some env)) (fun cenv s₄ =>
      codeAny (model prog w) A (.compStart (.ListComp elt [⟨target, iter, ifs, 0⟩] scope pos) 0 it acc { cenv with scope := ownScope env scope }) (RES { cenv with scope := ownScope env scope } acc) s₄) E s₃) E s₂ := by
  obtain ⟨m2, n2, H2, hg2, ho2, N, St, Ok, V, own, rest, J, W, l2, hJ, j0, jok, turn, done⟩ := z
  have H2 := H2.less l2
  refine wpAny_newObj_type ?_ (by show 0 ≤ sizeLine; exact Nat.zero_le _)
  have H3 := H2.push (c := .list []) { cls := .type "list", data := .seq #[] } ⟨0, rfl⟩
  generalize hacc : s₂.heap.objs.size = acc at H3 ⊢
  generalize hh3 : s₂.heap.push { cls := .type "list", data := .seq #[] } = h3 at H3 ⊢
  have H3' : Holds prog w h₀ L m2 (((acc, .list []) :: (St 0 ++ own)) ++ rest) h3 := H3
  obtain ⟨g, U⟩ := H3'.under
  refine wpAny_newFunctionEnv hnc (fun _ h => nomatch h) (fun h4 hns hsb => ?_) hkind
  have up : ∀ b o, h3.get? b = some o → h4.get? b = some o := fun b o e => (hsb.2 b (Nat.ne_of_lt (Heap.lt_size e))).trans (Heap.get?_push_of_some _ e)
  obtain ⟨r0, Rp, hr⟩ := U.owned
  have H4 : Holds prog w g h3.objs.size (fun _ => none) ((acc, .list []) :: (St 0 ++ own)) h4 :=
    ⟨⟨hns, fun b o e => up b o (U.of _ _ e), Nat.le_of_eq U.size⟩, ⟨r0, fun p hp => ⟨up _ _ (hr p hp).1, Nat.ne_of_lt (Heap.lt_size (hr p hp).1), (hr p hp).2⟩, Rp⟩, U.nodup⟩
  show codeAny _ _ (.compStart _ 0 it (.ref acc) (compEnv env scope h3.objs.size cs)) _ _
  have loop := fun {sx k} => comp_loop (iter := iter) (scope := scope) (pos := pos) (env := compEnv env scope h3.objs.size cs) (acc := acc) (s₂ := s₂) (R := RES (compEnv env scope h3.objs.size cs) (.ref acc)) W hJ (jok g fun a c k => U.kn a c k) (turn g h3.objs.size (fun a c k => U.kn a c k) U.base) (fun sx m ys r H6 hg ho j => by
    refine fin acc h3.objs.size m2 _ sx ⟨U.back _ _ _ _ H6, ⟨_, H6.F.ns⟩, Nat.ne_of_gt H3'.F.ns.lt, fun hm => ?_, fun b o e z => absurd (Heap.lt_size (H3'.F.keep _ _ e)) (by rw [z]; exact Nat.lt_irrefl _)⟩ (hg.trans hg2) (ho.trans ho2) (done acc ys r j)
    obtain ⟨p, hp, e⟩ := List.mem_map.mp hm
    rcases List.mem_append.mp hp with hp | hp
    · obtain ⟨o, _, _, h1, _⟩ := H6.mem (a := p.1) (c := p.2) hp
      exact h1 e
    · obtain ⟨o, h1, _⟩ := H3'.get (a := p.1) (c := p.2) (.inr (List.mem_append.mpr (.inr hp)))
      exact absurd (Heap.lt_size h1) (by rw [e]; exact Nat.lt_irrefl _)) (s := sx) (k := k)
  refine codeAny_compStart_list (loop (k := N) ⟨_, _, H4, rfl, rfl, 0, [], own, rfl, Nat.zero_le _, rfl, j0⟩) ?_
  refine wpAny_mono (W.self g h3.objs.size 0 (fun _ => none) ((acc, .list []) :: own) _ _ (H4.less perm5)) (fun it' s₅ z => ?_) fun _ _ e => e
  obtain ⟨m5, n5, H5, hg5, ho5, rfl, rfl, rfl⟩ := z
  exact loop (k := N) ⟨_, _, H5.less (.of_perm List.perm_middle), hg5, ho5, 0, [], own, rfl, Nat.zero_le _, rfl, j0⟩
abbrev Kci (prog : Program) (w : World) (A : Around) (h₀ : Heap) (L : Addr) (env : Env) (scope : Scope) (cs : List (Str × Addr)) (target elt : Expr) (ifs : List Expr) (F : Addr → Loc → Led → Prop) : Value → Loc → Led → Prop := fun x m n => Does prog w A h₀ L (pyIter x) m n (CompI prog w A h₀ L env scope cs target elt ifs F)
abbrev Fe (Q : Value → Loc → Led → Prop) : Addr → Loc → Led → Prop := fun a m n => Q (.ref a) m n
abbrev Fx (prog : Program) (w : World) (A : Around) (h₀ : Heap) (L : Addr) (env : Env) (y : Str) (rest : List Stmt) (Q : Flow → Loc → Led → Prop) : Addr → Loc → Led → Prop := fun a m n => Does prog w A h₀ L (execs rest env) (upd m y (.ref a)) n Q
theorem e_comp {elt target iter : Expr} {ifs : List Expr} {scope : Scope} {cpos pos : Pos} {cs : List (Str × Addr)} {Q : Value → Loc → Led → Prop}
    (hfree : closureFor scope env = pure cs)
    (h : Does prog w A h₀ L (eval iter env) m n (Kci prog w A h₀ L env scope cs target elt ifs (Fe Q)))
    (hkind : scope.kind = .function := by rfl) (hnc : ∀ x ∈ scope.names, x.2 ≠ .cell := by decide) (hnames : ∀ x ∈ scope.names, x.2 = .local → (ownScope env scope).names.lookup x.1 = some .local := by decide)
    (hs : ∀ x, foldedSetIterable iter env x = pure x := by intro _; rfl) :
    Does prog w A h₀ L (eval (.ListComp elt [⟨target, iter, ifs, 0⟩] scope pos) env) m n Q := by
  intro s E H
  rw [eval_ListComp]
  refine wpAny_compC (g := ⟨target, iter, ifs, 0⟩) (gs := []) rfl hs hfree hkind hnames (wpAny_mono (h s _ H) (fun x s₁ z => ?_) fun _ _ e => e)
  refine wpAny_mono (z.next fun _ _ q => q) (fun it s₂ z => ?_) fun _ _ e => e
  exact comp_core (RES := fun cenv acc r s' => ∃ m, s'.heap.Ns cenv.locals m ∧ ∀ h', Heap.SameBut cenv.locals s'.heap h' →
          match r with | .ok _ => Post prog w h₀ L Q s acc { s' with heap := h' } | .error x => wpAny (model prog w) A (passOn "comprehension.variables-let-go" x cenv) (Post prog w h₀ L Q s) E { s' with heap := h' }) hkind hnc z
    fun acc L' m n sx G hg ho q => let ⟨m6, hns⟩ := G.ns; ⟨m6, hns, fun h' hs' => ⟨m, n, G.at hs', hg, ho, q⟩⟩
theorem wpAny_compCU {u : Value → Sem Unit} {M : Model} {E : Value → Shared → Prop} {s : Shared} {e : Expr} {scope : Scope} {pos : Pos} {newAcc first : Sem Value} {g : Comprehension} {gs : List Comprehension} {cs : List (Str × Addr)} {Q : Value → Shared → Prop}
    (hcl : clausesOf e = g :: gs) (hs : ∀ x, foldedSetIterable g.iter env x = pure x)
    (hfree : closureFor scope env = pure cs) (hkind : scope.kind = .function) (hnames : ∀ x ∈ scope.names, x.2 = .local → (ownScope env scope).names.lookup x.1 = some .local)
    (h : wpAny M A first (fun x s₁ => wpAny M A (pyIter x) (fun it s₂ => wpAny M A newAcc (fun acc s₃ =>
      wpAny M A (newFunctionEnv scope env.globals cs [] env.qual none .none (some env)) (fun cenv s₄ =>
        codeAny M A (.compStart e 0 it acc { cenv with scope := ownScope env scope }) (fun r s' => match r with
          | .ok _ => wpAny M A (u acc) (fun _ s'' => ∃ m, s''.heap.Ns cenv.locals m ∧ ∀ h', Heap.SameBut cenv.locals s''.heap h' → Q .none { s'' with heap := h' }) E s'
          | .error x => ∃ m, s'.heap.Ns cenv.locals m ∧ ∀ h', Heap.SameBut cenv.locals s'.heap h' → wpAny M A (passOn "comprehension.variables-let-go" x { cenv with scope := ownScope env scope }) Q E { s' with heap := h' }) s₄) E s₃) E s₂) E s₁) E s) :
    wpAny M A (comprehension e scope env pos newAcc false first (some u)) Q E s := by
  unfold comprehension
  rw [hfree, hcl]
  refine wpAny_bind (wpAny_mono h (fun x s₁ h₁ => wpAny_bind (wpAny_standAt (wpAny_bind (wpAny_of_eq (hs x) (wpAny_bind (wpAny_holding (wpAny_mono h₁ (fun it s₂ h₂ =>
    wpAny_standIf (wpAny_bind (wpAny_mono h₂ (fun acc s₃ h₃ => wpAny_bind (wpAny_pure (wpAny_bind (wpAny_mono h₃ (fun cenv s₄ h₄ => ?_) fun _ _ h' => h')))) fun _ _ h' => h')))
      fun _ _ h' => h'))))))) fun _ _ h' => h')
  dsimp only
  have hv : ∀ x ∈ (scope.names.filter fun x => (x.2 == .local || x.2 == .cell) && x.1 != (".0" : Str)).reverse, x.2 = .local →
      Env.kindOf { cenv with scope := ownScope env scope } x.1 = some .local := fun x hx hl => hnames x (List.mem_filter.mp (List.mem_reverse.mp hx)).1 hl
  have hv' : ∀ x ∈ (scope.names.filter fun x => (x.2 == .local || x.2 == .cell) && x.1 != (".0" : Str)).reverse.drop 1 ++ (scope.names.filter fun x => (x.2 == .local || x.2 == .cell) && x.1 != (".0" : Str)).reverse.take 1,
      x.2 = .local → Env.kindOf { cenv with scope := ownScope env scope } x.1 = some .local := fun x hx hl => by
    rcases List.mem_append.mp hx with h1 | h1
    · exact hv x (List.mem_of_mem_drop h1) hl
    · exact hv x (List.mem_of_mem_take h1) hl
  refine wpAny_holding (wpAny_bind (wpAny_attempt (wpAny_holding (wpAny_run (codeAny_mono h₄ fun r s' hr => ?_)))))
  cases r with
  | ok f =>
    refine wpAny_bind (wpAny_rule (wpAny_bind (wpAny_holding (wpAny_mono hr (fun _ s'' hr' => ?_) fun _ _ h' => h'))))
    obtain ⟨m, hn, hr'⟩ := hr'
    exact wpAny_bind (wpAny_comp_letGo (cenv := { cenv with scope := ownScope env scope }) hkind _ s'' m hv' hn fun h' m' _ hs' => wpAny_pure (hr' h' hs'))
  | error x =>
    obtain ⟨m, hn, hr⟩ := hr
    exact wpAny_bind (wpAny_holding (wpAny_comp_letGo (cenv := { cenv with scope := ownScope env scope }) hkind _ s' m hv hn fun h' m' _ hs' => hr h' hs'))
theorem x_compU {elt target iter : Expr} {ifs : List Expr} {scope : Scope} {cpos pos spos py : Pos} {y : Str} {cs : List (Str × Addr)} {rest0 : List Stmt} {Q : Flow → Loc → Led → Prop}
    (hsw : swapsWith (.ListComp elt [⟨target, iter, ifs, 0⟩] scope pos) (some (.Name y py)) spos.line env = pure true) (hL : env.locals = L) (hky : env.scope.kind = .function) (hly : env.kindOf y = some .local)
    (hfree : closureFor scope env = pure cs)
    (h : Does prog w A h₀ L (eval iter env) m n (Kci prog w A h₀ L env scope cs target elt ifs (Fx prog w A h₀ L env y rest0 Q)))
    (hkind : scope.kind = .function := by rfl) (hnc : ∀ x ∈ scope.names, x.2 ≠ .cell := by decide) (hnames : ∀ x ∈ scope.names, x.2 = .local → (ownScope env scope).names.lookup x.1 = some .local := by decide)
    (hs : ∀ x, foldedSetIterable iter env x = pure x := by intro _; rfl) :
    Does prog w A h₀ L (execs (.Assign [.Name y py] (.ListComp elt [⟨target, iter, ifs, 0⟩] scope pos) spos :: rest0) env) m n Q := by
  subst hL
  refine x_cons fun s E H => ?_
  rw [exec_Assign_Name_used _ _ _ _ hsw]
  refine wpAny_bind (wpAny_standAt (wpAny_bind ?_))
  show wpAny _ A (do let _ ← comprehension (.ListComp elt [⟨target, iter, ifs, 0⟩] scope pos) scope env _ (newList []) false (eval iter env) (some (assign (.Name y py) env))) _ _ s
  refine wpAny_bind (wpAny_mono ?_ (fun _ s' hq => wpAny_pure (wpAny_pure hq)) fun _ _ e => e)
  refine wpAny_compCU (Q := fun _ s' => Post prog w h₀ env.locals (Then prog w A h₀ env.locals rest0 env Q) s .next s') (g := ⟨target, iter, ifs, 0⟩) (gs := []) rfl hs hfree hkind hnames (wpAny_mono (h s _ H) (fun x s₁ z => ?_) fun _ _ e => e)
  refine wpAny_mono (z.next fun _ _ q => q) (fun it s₂ z => ?_) fun _ _ e => e
  refine comp_core (RES := fun cenv acc r s' => match r with
          | .ok _ => wpAny (model prog w) A (assign (.Name y py) env acc) (fun _ s'' => ∃ m, s''.heap.Ns cenv.locals m ∧ ∀ h', Heap.SameBut cenv.locals s''.heap h' → Post prog w h₀ env.locals (Then prog w A h₀ env.locals rest0 env Q) s .next { s'' with heap := h' }) E s'
          | .error x => ∃ m, s'.heap.Ns cenv.locals m ∧ ∀ h', Heap.SameBut cenv.locals s'.heap h' → wpAny (model prog w) A (passOn "comprehension.variables-let-go" x cenv) (fun _ s' => Post prog w h₀ env.locals (Then prog w A h₀ env.locals rest0 env Q) s .next s') E { s' with heap := h' }) hkind hnc z
    fun acc L' m n sx G hg ho q => wpAny_assign_Name (wpAny_storeName_local hly G.H.F.ns (fun h₂ hn₂ hs₂ => ?_) (by rw [hky]; rfl))
  obtain ⟨m6, hns⟩ := G.ns
  have G₂ : Gone prog w h₀ env.locals L' (upd m y (.ref acc)) n h₂ := ⟨G.H.locals hn₂ hs₂, ⟨m6, hns.sameBut hs₂ G.ne⟩, G.ne, G.nm, G.n0⟩
  exact ⟨m6, hns.sameBut hs₂ G.ne, fun h' hs' => ⟨_, _, G₂.at hs', hg, ho, q⟩⟩
end

end
-- DH
section
open PySem PySem.W PySem.Calls PyProof.Rows PySem.Spec
set_option Elab.async false
set_option maxRecDepth 100000
set_option maxHeartbeats 400000
set_option linter.unusedVariables false
section
variable {prog : Program} {w : World} {A : Around} {h₀ : Heap} {L : Addr} {α : Type} {m m' : Loc} {n n' : Led} {env : Env}

theorem knA {a : Addr} {c : Cell} (h : At prog w h₀ a c) : Kn prog w h₀ n a c := Or.inl h
theorem knM {a : Addr} {c : Cell} (h : (a, c) ∈ n) : Kn prog w h₀ n a c := Or.inr h
/-- a method got, and what is done with it -/
def MG (prog : Program) (w : World) (A : Around) (h₀ : Heap) (L : Addr) (ov : Value) (x : Str) (pl : Sem Bool) (m : Loc) (n : Led) (K : Value → List Value → Loc → Led → Prop) : Prop := Does prog w A h₀ L (getMethod ov x pl) m n fun fx m' n' => K fx.1 fx.2 m' n'
abbrev Kmg (prog : Program) (w : World) (A : Around) (h₀ : Heap) (L : Addr) (env : Env) (pos : Pos) (args : List Expr) (Q : Value → Loc → Led → Prop) : Value → List Value → Loc → Led → Prop := fun f first m n => Does prog w A h₀ L (callWith pos f first (backTo pos (starEach args env)) []) m n Q
abbrev Kme (prog : Program) (w : World) (A : Around) (h₀ : Heap) (L : Addr) (env : Env) (x : Str) (pl : Sem Bool) (pos : Pos) (args : List Expr) (Q : Value → Loc → Led → Prop) : Value → Loc → Led → Prop := fun ov m n => MG prog w A h₀ L ov x pl m n (Kmg prog w A h₀ L env pos args Q)
theorem e_mth {o : Expr} {x : Str} {apos pos : Pos} {args : List Expr} {pl : Sem Bool} {Q : Value → Loc → Led → Prop}
    (h : Does prog w A h₀ L (eval o env) m n (Kme prog w A h₀ L env x pl pos args Q))
    (he : eval (.Call (.Attribute o x apos) args [] pos) env = (do
      let ov ← eval o env
      standAt apos.atName
      let (f, first) ← holding [ov] (getMethod ov x pl)
      callWith pos f first (backTo pos (starEach args env)) (backToKw pos (keywordEach [] env))) := by k_dflt (exact rfl)) : Does prog w A h₀ L (eval (.Call (.Attribute o x apos) args [] pos) env) m n Q := e_meth h he
theorem mi {a C d f : Addr} {l : List (Str × Value)} {x : Str} {pl : Sem Bool} {names : List Str} {Q : Value → List Value → Loc → Led → Prop} (B : Base prog w h₀) (k1 : Kn prog w h₀ n a (.inst C d)) (S : ClsOk (kf w.params) C names) (k2 : Kn prog w h₀ n d (.attrs l))
    (s2 : findIn (kf w.params) (.ref C) x = some (some (.ref f)) ∧ isFn (kf w.params) (.ref f) = true) (hl : l.lookup x = none) (q : Q (.ref f) [.ref a] m n) : MG prog w A h₀ L (.ref a) x pl m n Q := ma B k1 S k2 s2 hl q
theorem ml {a : Addr} {vs : List Value} {x : Str} {id : String} {pl : Sem Bool} {Q : Value → List Value → Loc → Led → Prop} (kn : Kn prog w h₀ n a (.list vs)) (slot : Slot "list" x id) (hty : typeOf (.builtin id) = pure (.type "method_descriptor")) (q : Q (.builtin id) [.ref a] m n) :
    MG prog w A h₀ L (.ref a) x pl m n Q := m_list kn slot hty q
theorem md {a : Addr} {kvs : List (Int × Value)} {x : Str} {id : String} {pl : Sem Bool} {Q : Value → List Value → Loc → Led → Prop} (kn : Kn prog w h₀ n a (.idict kvs)) (slot : Slot "dict" x id) (hty : typeOf (.builtin id) = pure (.type "method_descriptor")) (q : Q (.builtin id) [.ref a] m n) :
    MG prog w A h₀ L (.ref a) x pl m n Q := m_dict kn slot hty q
theorem cw_f {f : Value} {e : Expr} {rest : List Expr} {pos : Pos} {Q : Value → Loc → Led → Prop} (hk : Keeps' prog w h₀ f)
    (h : Does prog w A h₀ L (spliced (backTo pos (starEach (e :: rest) env))) m n (Kc0 prog w A h₀ L f Q))
    (he : starEach (e :: rest) env = (false, eval e env) :: starEach rest env := by k_dflt (exact rfl)) (hplain : (backTo pos (starEach rest env)).any (·.1) = false := by k_dflt (exact rfl)) :
    Does prog w A h₀ L (callWith pos f [] (backTo pos (starEach (e :: rest) env)) []) m n Q := c_with hk h he hplain
theorem cw_m {f a : Value} {e : Expr} {rest : List Expr} {pos : Pos} {Q : Value → Loc → Led → Prop} (hk : Keeps' prog w h₀ f)
    (h : Does prog w A h₀ L (spliced (backTo pos (starEach (e :: rest) env))) m n (Kc1 prog w A h₀ L f a Q))
    (he : starEach (e :: rest) env = (false, eval e env) :: starEach rest env := by k_dflt (exact rfl)) (hplain : (backTo pos (starEach rest env)).any (·.1) = false := by k_dflt (exact rfl)) :
    Does prog w A h₀ L (callWith pos f [a] (backTo pos (starEach (e :: rest) env)) []) m n Q := c_with hk h he hplain
theorem cw_0 {f : Value} {first : List Value} {pos : Pos} {Q : Value → Loc → Led → Prop} (hk : Keeps' prog w h₀ f)
    (h : Does prog w A h₀ L (call f first) m n Q) : Does prog w A h₀ L (callWith pos f first (backTo pos (starEach [] env)) []) m n Q := c_with0 hk (by rw [List.append_nil]; exact h)
def scopeKind (scope : Scope) (x : Str) : Option NameKind := scope.names.lookup x
theorem CellsAre.rep {cm : Str → Option Value} {cs : List (Str × Addr)} {cells : List (Addr × Obj)} (Y : CellsAre cm cs cells) : Rep prog w (cs.map fun x => (x.2, .var (cm x.1))) cells := by
  induction Y with
  | nil => exact .nil
  | cons h _ ih => exact .cons h ih
theorem code_fnC {k : Nat} {own rest : Led} {name qual : Str} {params : Arguments} {body : List Stmt} {scope : Scope} {dV kV doc pm cdv ct oc : Value} {an od : Option Addr} {osl : Array (Option Value)} {f : Addr} {args : List Value} {binds : List (Str × Value)} {Q : Value → Loc → Led → Prop}
    {cf : Nat → List (Str × Addr)} {vars st : Nat → Led} {m₀ : Loc}
    (B : Base prog w h₀) (R : Room A (k + 1)) (P : Pick own n rest)
    (ho : (kf w.params).lookup f = some ⟨oc, od, .func (fnOf name qual params body scope dV kV doc pm an cdv ct), osl⟩) (hcd : codeIn (kf w.params) cdv qual = true)
    (hbind : ∀ s : Shared, (kf w.params).In s.heap → BindsTo s (fnOf name qual params body scope dV kV doc pm an cdv ct) ⟨args, []⟩ binds)
    (hkind : (binds.all fun y => scope.names.lookup y.1 == some .local || scope.names.lookup y.1 == some .cell) = true) (hnd : ((cellsFrom 0 scope.names []).map (·.1)).Nodup)
    (hcf : ∀ k, cellsFrom k scope.names [] = cf k) (hv : ∀ k, ((cf k).map fun x => ((x.2, .var (bindC (scopeKind scope) binds (fun _ => none) x.1)) : Addr × Cell)) = vars k) (hm : bindL (scopeKind scope) binds (fun _ => none) = m₀) (hst : ∀ k, vars k ++ own = st k)
    (hco : scope.isCoroutine = false) (hgen : scope.isGenerator = false) (hk : scope.kind = .function)
    (h : ∀ g L' c0, Base prog w g → (∀ a c, Kn prog w h₀ rest a c → At prog w g a c) → Room (A.deeper (envX qual scope L' f cdv (cf c0))) k →
      Does prog w (A.deeper (envX qual scope L' f cdv (cf c0))) g L' (execs body (envX qual scope L' f cdv (cf c0))) m₀ (st c0) (Kfn m rest Q)) :
    Codes prog w A h₀ L (.ref f) args m n Q := by
  intro s E H
  have H := H.less P.less
  obtain ⟨g, U⟩ := H.under
  obtain rfl : (fun k => vars k ++ own) = st := funext hst
  have X : (kf w.params).In s.heap := B.X.keeps H.F.keep
  obtain ⟨p, loose, mg, mb, T⟩ := B.T
  refine codeAny_call_function R.lt (X _ _ ho) rfl hco hgen rfl (codeRec_of X hcd) (hbind s X _ _ _ _ ?_)
  refine wpAny_newFunctionEnv_cells hk (kindsX hkind _) fun env' he s' x => ?_
  subst he
  refine ⟨(T.nolimit.keeps H.F.keep).keeps x.toInCall.keep, codeAny_func ?_⟩
  obtain ⟨h₁, tk, rfl, _⟩ := x.done
  have hk₁ := x.toInCall.keep
  obtain ⟨cells, NC, Y⟩ := Cl.news (h₀ := s.heap) (Nat.le_refl _) fun n c hm => ⟨x.cell n c (lookup_of_mem_nodup (cellsFrom_names scope.names 0 (s.heap.objs.size + 1) [] [] rfl ▸ hnd) hm), x.above n c hm⟩
  obtain ⟨r, Rp, hr⟩ := U.owned
  have e1 : (envOfC qual scope s.heap.objs.size f cdv) = envX qual scope s.heap.objs.size f cdv (cf (s.heap.objs.size + 1)) := by rw [← hcf]; rfl
  have YR : Rep prog w (vars (s.heap.objs.size + 1)) cells := by
    rw [← hv, ← hcf]
    exact CellsAre.rep Y
  have ns := x.toInCall.ns
  have H₁ : Holds prog w g s.heap.objs.size m₀ (vars (s.heap.objs.size + 1) ++ own) h₁ := by
    refine ⟨⟨by rw [← hm]; exact ns, fun b o e => hk₁ b o (U.of _ _ e), Nat.le_of_eq U.size⟩, ⟨cells ++ r, fun p hp => ?_, YR.append Rp⟩, ?_⟩
    · rcases List.mem_append.mp hp with hp | hp
      · refine ⟨(NC p hp).1, (NC p hp).2.1, ?_⟩
        cases q : g.get? p.1 with
        | none => rfl
        | some o => have := U.of _ _ q; rw [(NC p hp).2.2] at this; cases this
      · exact ⟨hk₁ _ _ (hr p hp).1, Nat.ne_of_lt (Heap.lt_size (hr p hp).1), (hr p hp).2⟩
    · rw [List.map_append, List.nodup_append]
      refine ⟨?_, U.nodup, fun a ha b hb e => ?_⟩
      · have e2 : (vars (s.heap.objs.size + 1)).map (·.1) = (cf (s.heap.objs.size + 1)).map (·.2) := by rw [← hv]; simp
        have ap : (cellsFrom (s.heap.objs.size + 1) scope.names []).Pairwise fun x y => x.2 ≠ y.2 := x.apart
        rw [hcf] at ap
        rw [e2]
        exact List.pairwise_map.mpr ap
      · rw [YR.addrs] at ha
        rw [Rp.addrs] at hb
        obtain ⟨p1, h1, rfl⟩ := List.mem_map.mp ha
        obtain ⟨p2, h2, rfl⟩ := List.mem_map.mp hb
        have := (NC p1 h1).2.2
        rw [e, (hr p2 h2).1] at this
        cases this
  show wpAny (model prog w) (A.deeper (envOfC qual scope s.heap.objs.size f cdv)) (execs body (envOfC qual scope s.heap.objs.size f cdv)) _ _ _
  rw [e1]
  refine wpAny_mono (h g _ _ (U.base B) U.kn R.deeper { s with heap := h₁, toks := tk } _ H₁) (fun fl s' z => ?_) fun _ _ e => e
  obtain ⟨m', n', H', hg, hos, n'', l, q⟩ := z
  exact ⟨m, n'' ++ rest, U.back _ _ _ _ (H'.less l), hg, hos, q⟩
end

end
-- DI
section
open PySem PySem.W PySem.Calls PyProof.Rows PySem.Spec
set_option Elab.async false
set_option maxRecDepth 100000
set_option maxHeartbeats 400000
set_option linter.unusedVariables false
section
variable {prog : Program} {w : World} {A : Around} {h₀ : Heap} {L : Addr} {α : Type} {m m' : Loc} {n n' : Led} {env : Env}

-- iterators begun
theorem p_list {l : Addr} {vs : List Value} {Q : Value → Loc → Led → Prop} (kn : Kn prog w h₀ n l (.list vs)) (q : ∀ I, Q (.ref I) m ((I, lIter l 0) :: n)) : Does prog w A h₀ L (pyIter (.ref l)) m n Q := Does.of fun s E H R k =>
  wpAny_pyIter_list (isLst H kn) (k _ _ _ _ (H.push (c := lIter l 0) { cls := .type "list_iterator", data := .fields #[.ref l, .int 0 0] } ⟨rfl, rfl⟩) rfl rfl (q _))
theorem p_tup {l : Addr} {vs : List Value} {Q : Value → Loc → Led → Prop} (kn : Kn prog w h₀ n l (.tup vs)) (q : ∀ I, Q (.ref I) m ((I, tIter l 0) :: n)) : Does prog w A h₀ L (pyIter (.ref l)) m n Q := Does.of fun s E H R k => by
  obtain ⟨o, h1, j, rfl⟩ := H.get kn
  exact wpAny_pyIter_tuple ⟨_, h1, rfl, j, rfl⟩ (k _ _ _ _ (H.push (c := tIter l 0) { cls := .type "tuple_iterator", data := .fields #[.ref l, .int 0 0] } ⟨rfl, rfl⟩) rfl rfl (q _))
def rng (a b : Int) (t u v : Tok) : Cell := .obj { cls := .type "range", data := .fields #[.int a t, .int b u, .int 1 v] }
theorem f_range1 {b : Int} {u : Tok} {Q : Value → Loc → Led → Prop} (q : ∀ a t v, Q (.ref a) m ((a, rng 0 b t u v) :: n)) : Does prog w A h₀ L (call (.type "range") [.int b u]) m n Q := Does.of fun s E H R k =>
  call_range_1 (k _ _ _ _ (H.push (c := rng 0 b s.toks u (s.toks + 1)) { cls := .type "range", data := .fields #[.int 0 s.toks, .int b u, .int 1 (s.toks + 1)] } rfl) rfl rfl (q _ _ _))
theorem p_range {r : Addr} {a b : Int} {t u v : Tok} {N : Nat} {Q : Value → Loc → Led → Prop} (kn : Kn prog w h₀ n r (rng a b t u v)) (ha : -1000000 ≤ a ∧ a ≤ 1000000) (hb : -1000000 ≤ b ∧ b ≤ 1000000) (hN : b - a = N) (q : ∀ I, Q (.ref I) m ((I, rIter (a + ((0 : Nat) : Int)) ((N : Int) - ((0 : Nat) : Int))) :: n)) : Does prog w A h₀ L (pyIter (.ref r)) m n Q := Does.of fun s E H R k => by
  obtain ⟨o, h1, rfl⟩ := H.get kn
  refine wpAny_pyIter_range (a := a) (b := b) (c := 1) (t := t) (u := u) (v := v) h1 (small_one (by lia) (by lia) (by lia) (by lia)) ?_
  refine k _ _ _ _ (H.push (c := rIter (a + ((0 : Nat) : Int)) ((N : Int) - ((0 : Nat) : Int))) { cls := .type "range_iterator", data := .fields #[rawInt a, rawInt (Builtin.Range.rangeSize a b 1), rawInt 1] } ?_) rfl rfl (q _)
  show _ = _
  rw [rangeSize_one, show (if a < b then b - a else 0) = (N : Int) - ((0 : Nat) : Int) from by split <;> lia, show a + ((0 : Nat) : Int) = a from by lia]
theorem f_enum {l : Addr} {vs : List Value} {Q : Value → Loc → Led → Prop} (kn : Kn prog w h₀ n l (.list vs)) (q : ∀ e it, Q (.ref e) m ((e, eIter it ((0 : Nat) : Int)) :: (it, lIter l 0) :: n)) : Does prog w A h₀ L (call (.type "enumerate") [.ref l]) m n Q := Does.of fun s E H R k => by
  obtain ⟨o, h1, j, rfl⟩ := H.get kn
  refine call_enumerate_1 h1 fun h' he hi hz hk => ?_
  obtain ⟨oi, i1, i2, i3⟩ := hi
  have fresh : ∀ b, s.heap.objs.size ≤ b → b ≠ L ∧ h₀.get? b = none := fun b hb => by
    refine ⟨fun e => absurd H.F.ns.lt (by rw [← e]; exact Nat.not_lt.mpr hb), ?_⟩
    cases q : h₀.get? b with
    | none => rfl
    | some o => exact absurd (Heap.lt_size (H.F.keep _ _ q)) (Nat.not_lt.mpr hb)
  have H' : Holds prog w h₀ L m ((s.heap.objs.size + 1, eIter s.heap.objs.size ((0 : Nat) : Int)) :: (s.heap.objs.size, lIter l 0) :: n) h' := by
    have lt : ∀ p ∈ n, p.1 < s.heap.objs.size := fun p hp => by
      obtain ⟨o, h1, _⟩ := H.mem (a := p.1) (c := p.2) hp
      exact Heap.lt_size h1
    refine Holds.of (H.F.keeps hk) (fun p hp => ?_) ?_
    · rcases List.mem_cons.mp hp with rfl | hp
      · exact ⟨_, he, ⟨.none, rfl⟩, fresh _ (Nat.le_succ _)⟩
      rcases List.mem_cons.mp hp with rfl | hp
      · exact ⟨_, i1, ⟨i2, i3⟩, fresh _ (Nat.le_refl _)⟩
      obtain ⟨o, h1, h2, h3⟩ := H.mem (a := p.1) (c := p.2) hp
      exact ⟨o, hk _ _ h1, h2, h3⟩
    · simp only [List.map_cons, List.nodup_cons, List.mem_cons, not_or]
      refine ⟨⟨Nat.succ_ne_self _, fun z => ?_⟩, fun z => ?_, H.D⟩
      · obtain ⟨p, hp, z⟩ := List.mem_map.mp z
        exact absurd (lt p hp) (by rw [show p.1 = _ from z]; exact Nat.not_lt.mpr (Nat.le_succ _))
      · obtain ⟨p, hp, z⟩ := List.mem_map.mp z
        exact absurd (lt p hp) (by rw [show p.1 = _ from z]; exact Nat.lt_irrefl _)
  exact k _ _ _ _ H' rfl rfl (q _ _)
theorem p_enum {e it : Addr} {i : Int} {Q : Value → Loc → Led → Prop} (kn : Kn prog w h₀ n e (eIter it i)) (q : Q (.ref e) m n) : Does prog w A h₀ L (pyIter (.ref e)) m n Q := Does.of fun s E H R k => by
  obtain ⟨o, h1, old, rfl⟩ := H.get kn
  exact wpAny_pyIter_enum h1 (k _ _ _ _ H rfl rfl q)

-- dicts with int keys
theorem isDct {h₁ : Heap} (H : Holds prog w h₀ L m n h₁) {d : Addr} {kvs : List (Int × Value)} (k : Kn prog w h₀ n d (.idict kvs)) : (d == sysModules) = false ∧ h₁.DictOf (intKind prog w) d kvs := by
  obtain ⟨o, h1, h2, h3⟩ := H.get k
  exact ⟨h2, Heap.dictOf_iff.mpr ⟨o, h1, h3⟩⟩
theorem d_get {a : Addr} {kvs : List (Int × Value)} {i : Int} {t : Tok} {dflt : Value} {Q : Value → Loc → Led → Prop} (kn : Kn prog w h₀ n a (.idict kvs)) (q : Q ((valueAt kvs i).getD dflt) m n) : Does prog w A h₀ L (call (.builtin "dict.get") [.ref a, .int i t, dflt]) m n Q := Does.of fun s E H R k => by
  obtain ⟨hs, hd⟩ := isDct H kn
  exact call_meetsIn F.slot_dict_get hd.mapOf.typeIs F.entry_dict_get (F.args_dict_get_3 _ _ _) (meets_dict_get_default (intKind prog w) a (intKind_is prog w i t) hs dflt) ⟨_, hd.mapOf, k _ { s with toks := s.toks + 1 } _ _ H rfl rfl q⟩
theorem d_item {value slice : Expr} {a : Addr} {kvs : List (Int × Value)} {i : Int} {u : Tok} {v : Value} {Q : Value → Loc → Led → Prop} (kn : Kn prog w h₀ n a (.idict kvs)) (hv : valueAt kvs i = some v) (q : Q v m n)
    (hs : subscripted slice false (.ref a) (.int i u) = operate [.ref a, .int i u] (getItem (.ref a) (.int i u)) := by with_unfolding_all exact rfl) : Does prog w A h₀ L (subscriptTail value slice (.ref a) (.int i u)) m n Q := Does.of fun s E H R k => by
  obtain ⟨hs', hd⟩ := isDct H kn
  exact tail_any hd.mapOf.typeIs slot_dict_getitem.lookup (wpAny_getItem_of (intKind_is prog w i u) hd.mapOf hv (k _ { s with toks := s.toks + 1 } _ _ H rfl rfl q)) hs
theorem d_set {a : Addr} {kvs : List (Int × Value)} {i : Int} {u : Tok} {v : Value} {Q : Unit → Loc → Led → Prop} (U : Alt a (.idict kvs) (.idict (stored kvs i v)) n n') (hz : kvs.length ≤ 1000) (q : Q () m n') : Does prog w A h₀ L (setItem (.ref a) (.int i u) v) m n Q := Does.of fun s E H R k => by
  obtain ⟨hs, hd⟩ := isDct H (.inr U.mem)
  refine wpAny_setItem_pairs (intKind_is prog w i u) hd (fun h' hd' hs' => ?_) (by rw [sizeLine_eq]; lia)
  obtain ⟨o', e1, e2⟩ := Heap.dictOf_iff.mp hd'
  exact k _ { s with heap := h', toks := s.toks + 1 } _ _ (H.change U (fun b o e h => (hs'.2 b e).trans h) e1 ⟨hs, e2⟩) rfl rfl q
theorem x_sets {o i value : Expr} {tp pos : Pos} {rest : List Stmt} {Q : Flow → Loc → Led → Prop}
    (h : Does prog w A h₀ L (eval value env) m n (Kt1 prog w A h₀ L env o i rest Q))
    (hs : swapsWith value (some (.Subscript o i tp)) pos.line env = pure false := by k_dflt (exact rfl)) : Does prog w A h₀ L (execs (.Assign [.Subscript o i tp] value pos :: rest) env) m n Q := by
  refine x_cons ?_
  rw [exec_Assign_Subscript o i tp value pos hs]
  refine Does.bind (Does.at (Does.bind (h.mono fun v m1 n1 h1 => ?_)))
  rw [assign_Subscript]
  exact Does.bind (Does.bind (Does.holding (h1.mono fun ov m2 n2 h2 => Does.bind (Does.holding (h2.mono fun iv m3 n3 h3 => Does.bind (Does.at (Does.bind (Does.holding (h3.mono fun _ m4 n4 h4 => Does.release (Does.pure h4)))))))))) 
theorem notSys (B : Base prog w h₀) {h : Heap} (H : Holds prog w h₀ L m n h) : (h.objs.size == sysModules) = false := by
  have hf := (mt_xbegin w.params).2
  have : ∃ o, (kf w.params).lookup 93 = some o := by
    have hf : ((kf w.params).lookup 93).map (·.cls) = some (Value.type "function") := beq_iff_eq.mp hf
    cases e : (kf w.params).lookup 93 with
    | some o => exact ⟨o, rfl⟩
    | none => rw [e] at hf; cases hf
  obtain ⟨cd, e⟩ := this
  have h1 := Heap.lt_size (H.F.keep _ _ (B.X _ _ e))
  rw [beq_eq_false_iff_ne]
  intro z
  rw [z] at h1
  exact absurd h1 (by decide)
theorem e_dict0 {pos : Pos} {Q : Value → Loc → Led → Prop} (B : Base prog w h₀) (q : ∀ a, Q (.ref a) m ((a, .idict []) :: n)) : Does prog w A h₀ L (eval (.Dict [] [] pos) env) m n Q := Does.of fun s E H R k => by
  refine wpAny_Dict_empty (k _ _ _ _ (H.push (c := .idict []) { cls := .type "dict", data := .dict #[] } ⟨notSys B H, ?_⟩) rfl rfl (q _))
  obtain ⟨o, ho, hd⟩ := Heap.dictOf_iff.mp (Heap.DictOf.new (knd := intKind prog w) s.heap)
  rw [Heap.get?_push_size _ rfl] at ho
  exact (Option.some.inj ho) ▸ hd

-- data
def Rd (prog : Program) (w : World) (h₀ : Heap) (n : Led) (v : Value) (d : PyData) : Prop := ∀ L m h, Holds prog w h₀ L m n h → ∃ as, Reads h v d as
theorem rd_none : Rd prog w h₀ n .none .none := fun _ _ _ _ => ⟨_, .none⟩
theorem rd_int {i : Int} {t : Tok} : Rd prog w h₀ n (.int i t) (.int i) := fun _ _ _ _ => ⟨_, .int i t⟩
inductive RdAll (prog : Program) (w : World) (h₀ : Heap) (n : Led) : List Value → List PyData → Prop
  | nil : RdAll prog w h₀ n [] []
  | cons {v : Value} {vs : List Value} {d : PyData} {ds : List PyData} : Rd prog w h₀ n v d → RdAll prog w h₀ n vs ds → RdAll prog w h₀ n (v :: vs) (d :: ds)
theorem RdAll.at {vs : List Value} {ds : List PyData} (r : RdAll prog w h₀ n vs ds) {h : Heap} (H : Holds prog w h₀ L m n h) : ∃ as, ReadsAll h vs ds as := by
  induction r with
  | nil => exact ⟨_, .nil⟩
  | cons a _ ih =>
    obtain ⟨_, x⟩ := a _ _ _ H
    obtain ⟨_, y⟩ := ih
    exact ⟨_, .cons x y⟩
theorem rd_tup {a : Addr} {vs : List Value} {ds : List PyData} (kn : Kn prog w h₀ n a (.tup vs)) (r : RdAll prog w h₀ n vs ds) : Rd prog w h₀ n (.ref a) (.tuple ds) := fun _ _ _ H => by
  obtain ⟨_, x⟩ := r.at H
  obtain ⟨o, h1, j, rfl⟩ := H.get kn
  exact ⟨_, .tuple h1 rfl rfl x⟩
theorem rd_list {a : Addr} {vs : List Value} {ds : List PyData} (kn : Kn prog w h₀ n a (.list vs)) (r : RdAll prog w h₀ n vs ds) : Rd prog w h₀ n (.ref a) (.list ds) := fun _ _ _ H => by
  obtain ⟨_, x⟩ := r.at H
  obtain ⟨o, h1, j, rfl⟩ := H.get kn
  exact ⟨_, .list h1 rfl rfl x⟩
theorem rd_ints {vs : List Value} {ns : List Int} (hi : IntsAre vs ns) : RdAll prog w h₀ n vs (ns.map .int) := by
  induction hi with
  | nil => exact .nil
  | cons i t _ ih => exact .cons rd_int ih
theorem Rd.mono {h₁ : Heap} {n₁ : Led} {v : Value} {d : PyData} (r : Rd prog w h₀ n v d) (k : ∀ L m h, Holds prog w h₁ L m n₁ h → ∃ L m, Holds prog w h₀ L m n h) : Rd prog w h₁ n₁ v d := fun L m h H => by
  obtain ⟨L', m', H'⟩ := k L m h H
  exact r _ _ _ H'
theorem c_eqd {k : Nat} {a b : Value} {da db : PyData} {Q : Value → Loc → Led → Prop} (R : Room A k) (ra : Rd prog w h₀ n a da) (rb : Rd prog w h₀ n b db) (ha : SeqAt.shaped da = true) (hb : SeqAt.shaped db = true) (q : Q (.bool (PyData.eqv da db)) m n) : Does prog w A h₀ L (compareOp .Eq a b) m n Q := Does.of fun s E H _ j => by
  obtain ⟨_, xa⟩ := ra _ _ _ H
  obtain ⟨_, xb⟩ := rb _ _ _ H
  exact eq_dataH xa xb ha hb (by have := R.cl; lia) (j _ _ _ _ H rfl rfl q)
theorem c_ned {k : Nat} {a b : Value} {da db : PyData} {Q : Value → Loc → Led → Prop} (R : Room A k) (ra : Rd prog w h₀ n a da) (rb : Rd prog w h₀ n b db) (ha : SeqAt.shaped da = true) (hb : SeqAt.shaped db = true) (q : Q (.bool (!PyData.eqv da db)) m n) : Does prog w A h₀ L (compareOp .NotEq a b) m n Q := Does.of fun s E H _ j => by
  obtain ⟨_, xa⟩ := ra _ _ _ H
  obtain ⟨_, xb⟩ := rb _ _ _ H
  exact ne_dataH xa xb ha hb (by have := R.cl; lia) (j _ _ _ _ H rfl rfl q)
theorem c_eqlen {k : Nat} {a b : Addr} {xs ys : List Value} {Q : Value → Loc → Led → Prop} (R : Room A k) (ka : Kn prog w h₀ n a (.list xs)) (kb : Kn prog w h₀ n b (.list ys)) (hne : xs.length ≠ ys.length) (q : Q (.bool false) m n) : Does prog w A h₀ L (compareOp .Eq (.ref a) (.ref b)) m n Q := Does.of fun s E H _ j => by
  obtain ⟨o, h1, c1, rfl⟩ := H.get ka
  obtain ⟨o, h2, c2, rfl⟩ := H.get kb
  exact P.eq_list_lengths h1 h2 (by simp [hne]) R.cl0 (j _ _ _ _ H rfl rfl q)
-- lists
theorem l_ext {a b : Addr} {xs ys : List Value} {Q : Value → Loc → Led → Prop} (U : Alt a (.list xs) (.list (xs ++ ys)) n n') (kb : Kn prog w h₀ n b (.list ys)) (hz : xs.length + ys.length ≤ 1000) (q : Q .none m n') : Does prog w A h₀ L (call (.builtin "list.extend") [.ref a, .ref b]) m n Q := Does.of fun s E H R k => by
  obtain ⟨o, h1, c1, rfl⟩ := H.get (.inr U.mem)
  obtain ⟨o, h2, c2, rfl⟩ := H.get kb
  have hz1 : xs.toArray.size + ys.toArray.size ≤ 1000 := by simpa using hz
  refine call_meets PySem.F.slot_list_extend ⟨_, h1, rfl⟩ PySem.F.entry_list_extend (PySem.F.args_list_extend_2 _ _) (PySem.AutoSeq1.list_extend_list_list_0 a xs.toArray c1 b ys.toArray c2 ?_ (by rw [sizeLine_eq]; lia) (by rw [sizeLine_eq]; lia)) ⟨h1, h2, ?_⟩
  · unfold Builtin.List.listTooLong
    simp only [sizeLine_eq, Bool.and_eq_true, decide_eq_true_eq]
    lia
  · have sb := Heap.SameBut.update s.heap a (Obj.mapSeq fun x => x ++ ys.toArray)
    exact k _ { s with heap := s.heap.update a (Obj.mapSeq fun x => x ++ ys.toArray) } _ _ (H.change U (fun b o e h => (sb.2 b e).trans h) (Heap.get?_update_self _ h1 rfl) ⟨_, by simp [Obj.mapSeq, PySem.W.listOf]; rfl⟩) rfl rfl q
theorem l_pop0 {a : Addr} {v : Value} {vs : List Value} {t : Tok} {Q : Value → Loc → Led → Prop} (U : Alt a (.list (v :: vs)) (.list vs) n n') (hz : vs.length ≤ 1000) (q : Q v m n') : Does prog w A h₀ L (call (.builtin "list.pop") [.ref a, .int 0 t]) m n Q := Does.of fun s E H R k => by
  obtain ⟨pre, o, post, N, hc, a1, a2, fin⟩ := H.alt U
  obtain ⟨j, rfl⟩ := hc
  exact kl_popAt (p := []) (q := vs) (y := v) (k := 0) H.F N (by rfl) (by simp [seqIndex?]) (by simp; rfl) (updOf a1 a2) (by simp [sizeLine_eq]; lia) (fun h' F' N' => k _ { s with heap := h' } _ _ (fin _ _ _ F' N' ⟨_, rfl⟩) rfl rfl q)
theorem f_list {a : Addr} {vs : List Value} {Q : Value → Loc → Led → Prop} (kn : Kn prog w h₀ n a (.list vs)) (hz : vs.length ≤ 1000) (q : ∀ b, Q (.ref b) m ((b, .list vs) :: n)) : Does prog w A h₀ L (call (.type "list") [.ref a]) m n Q := Does.of fun s E H R k => by
  obtain ⟨o, h1, c1, rfl⟩ := H.get kn
  refine call_list_seq a (T := "list") (.inl rfl) h1 rfl rfl (fun h' c' hk hb => ?_) (by rw [List.size_toArray, sizeLine_eq]; lia)
  have H1 := H.push (c := .list vs) (listOf vs.toArray 0) ⟨0, rfl⟩
  refine k _ { s with heap := h' } _ _ (Holds.of (H.F.keeps hk) (fun p hp => ?_) H1.D) rfl rfl (q _)
  rcases List.mem_cons.mp hp with rfl | hp
  · obtain ⟨_, _, _, z⟩ := H1.mem (.head _)
    exact ⟨_, hb, ⟨c', rfl⟩, z⟩
  · obtain ⟨o, h1, h2, h3⟩ := H.mem (a := p.1) (c := p.2) hp
    exact ⟨o, hk _ _ h1, h2, h3⟩
theorem f_sum {a : Addr} {vs : List Value} {ns : List Int} {Q : Value → Loc → Led → Prop} (hh : A.handled = none) (kn : Kn prog w h₀ n a (.list vs)) (hi : IntsAre vs ns) (q : ∀ t, Q (.int ns.sum t) m n) : Does prog w A h₀ L (call (.builtin "sum") [.ref a]) m n Q := Does.of fun s E H R k => by
  obtain ⟨r, N, Rp⟩ := H.N
  refine LSm.sum_ints H.F N hh (isLst H kn) hi fun h' tk t' F' N' => k _ _ _ _ ⟨F', ⟨r, N', Rp⟩, H.D⟩ rfl rfl (q _)
end

end
-- DJ
section
open PySem PySem.W PySem.Calls PyProof.Rows PySem.Spec
set_option Elab.async false
set_option maxRecDepth 100000
set_option maxHeartbeats 400000
set_option linter.unusedVariables false
section
variable {prog : Program} {w : World} {A : Around} {h₀ : Heap} {L : Addr} {α : Type} {m m' : Loc} {n n' : Led} {env : Env}

theorem keysAre {prog : Program} {w : World} : ∀ {vs : List Value} {kvs : List (Int × Value)}, vs.length = kvs.length → (∀ (j : Nat) (v : Value), vs[j]? = some v → ∃ k x, kvs[j]? = some (k, x) ∧ (intKind prog w).is k v = true) → IntsAre vs (kvs.map (·.1))
  | [], [], _, _ => .nil
  | [], _ :: _, h, _ => by cases h
  | _ :: _, [], h, _ => by cases h
  | v :: vs, (k, x) :: kvs, hl, h => by
    obtain ⟨k', x', e, hk⟩ := h 0 v rfl
    simp only [List.getElem?_cons_zero, Option.some.injEq, Prod.mk.injEq] at e
    obtain ⟨rfl, rfl⟩ := e
    have := keysAre (vs := vs) (kvs := kvs) (by simpa using hl) fun j v hv => h (j + 1) v hv
    cases v <;> simp [intKind, Value.isInt] at hk
    subst hk
    exact .cons _ _ this
theorem f_sorted {a : Addr} {kvs : List (Int × Value)} {Q : Value → Loc → Led → Prop} (hh : A.handled = none) (kn : Kn prog w h₀ n a (.idict kvs)) (hz : kvs.length < 64)
    (q : ∀ D vs ns, IntsAre vs ns → ns.Perm (kvs.map (·.1)) → Q (.ref D) m ((D, .list vs) :: n)) : Does prog w A h₀ L (call (.builtin "sorted") [.ref a]) m n Q := Does.of fun s E H R k => by
  obtain ⟨hs, hd⟩ := isDct H kn
  obtain ⟨ep, hat⟩ := hd.dictAt
  obtain ⟨r, N, Rp⟩ := H.N
  refine kdu_sorted (kdl_dict (knd := intKind prog w) (kvs := kvs) (ep := ep) hs) hh H.F N hat (kdl_size (by lia)) fun D h' tk vs F' N' l1 hl hv => ?_
  have hi := keysAre hl hv
  have D' : (((D, Cell.list vs) :: n : Led).map (·.1)).Nodup := by
    rw [List.map_cons, List.nodup_cons]
    refine ⟨fun z => ?_, H.D⟩
    rw [Rp.addrs] at z
    obtain ⟨p, hp, z⟩ := List.mem_map.mp z
    exact absurd (l1 p hp) (by rw [show p.1 = _ from z]; exact Nat.lt_irrefl _)
  refine ksk_lsort (news' := fun o => (D, o) :: r) (its := vs.toArray) F' N' (fun o => .head fun p hp e => absurd (l1 p hp) (by rw [e]; exact Nat.lt_irrefl _)) rfl hi (by rw [List.length_map]; exact hz) fun vs' ns' c h'' F'' N'' i' e' p' o' b' => ?_
  exact k _ { s with heap := h'', toks := tk } _ _ ⟨F'', ⟨_, N'', .cons (c := .list vs') ⟨c, rfl⟩ Rp⟩, D'⟩ rfl rfl (q D vs' ns' i' p')
theorem rc_lt {E : Value → Shared → Prop} {s : Shared} {x y : Int} {t u : Tok} {Q : Value → Shared → Prop} (h : Q (.bool (decide (x < y))) s) : wpAny (model prog w) A (richCompare .Lt (.int x t) (.int y u)) Q E s := PySem.P.lt_int h
theorem lt_meets (a b : Addr) (x y x' y' : Int) (t u t' u' : Tok) (n n' : Nat) : Meets (Builtin.«tuple.__lt__» ⟨[.ref a, .ref b], []⟩) (fun A R s => s.heap.get? a = some { cls := .type "tuple", dict := none, data := .seq #[.int x t, .int y u] n, slots := #[] } ∧ s.heap.get? b = some { cls := .type "tuple", dict := none, data := .seq #[.int x' t', .int y' u'] n', slots := #[] } ∧
    A.units + 200 < cLine ∧ R (.ok (.ret (.bool (decide (x < x' ∨ x = x' ∧ y < y'))))) s) := .of_wp fun prog w A R s h => by
  obtain ⟨hp, g, d, tk, os⟩ := s; obtain ⟨hl, hb, hu, h⟩ := h
  have f2 := AutoSeq1.sub_tuple_tuple
  wp_walk using AutoSeq1.wpAny_loadPart' hl, AutoSeq1.wpAny_loadPart' hb, wpAny_eqBool_int
  by_cases hx : x = x'
  · subst hx
    have e1 : (!(x == x)) = false := by simp
    rw [if_neg (by rw [e1]; decide)]
    wp_walk using wpAny_eqBool_int
    by_cases hy : y = y'
    · subst hy
      have e2 : (!(y == y)) = false := by simp
      rw [if_neg (by rw [e2]; decide)]
      wp_walk
      have : decide (x < x ∨ x = x ∧ y < y) = false := by simp
      rw [this] at h
      exact ⟨_, rfl, h⟩
    · have e2 : (!(y == y')) = true := by simp [hy]
      rw [if_pos e2]
      wp_walk using rc_lt
      have : decide (x < x ∨ x = x ∧ y < y') = decide (y < y') := by simp
      rw [this] at h
      exact ⟨_, rfl, h⟩
  · have e1 : (!(x == x')) = true := by simp [hx]
    rw [if_pos e1]
    wp_walk using rc_lt
    have : decide (x < x' ∨ x = x' ∧ y < y') = decide (x < x') := by simp [hx]
    rw [this] at h
    exact ⟨_, rfl, h⟩
theorem c_ltt {a b : Addr} {x y x' y' : Int} {t u t' u' : Tok} {k : Nat} {Q : Value → Loc → Led → Prop} (R : Room A k) (ka : Kn prog w h₀ n a (.tup [.int x t, .int y u])) (kb : Kn prog w h₀ n b (.tup [.int x' t', .int y' u'])) (q : Q (.bool (decide (x < x' ∨ x = x' ∧ y < y'))) m n) :
    Does prog w A h₀ L (compareOp .Lt (.ref a) (.ref b)) m n Q := Does.of fun s E H _ j => by
  obtain ⟨o, h1, c1, rfl⟩ := H.get ka
  obtain ⟨o, h2, c2, rfl⟩ := H.get kb
  exact richCompare_meets_room (op := .Lt) ⟨_, h1, rfl⟩ ⟨_, h2, rfl⟩ F.slot_tuple_lt F.entry_tuple_lt (F.args_tuple_lt_2 _ _) (lt_meets a b x y x' y' t u t' u' c1 c2)
    ⟨h1, h2, R.cl, ⟨(fun x => nomatch x), j _ _ _ _ H rfl rfl q⟩⟩ R.cl0
-- slices
def slc (u v : Value) : Cell := .obj { cls := .type "slice", data := .fields #[u, v, .none] }
abbrev Kl2 (u : Value) (Q : Value → Loc → Led → Prop) : Value → Loc → Led → Prop := fun v m n => ∀ a, Q (.ref a) m ((a, slc u v) :: n)
abbrev Kl1 (prog : Program) (w : World) (A : Around) (h₀ : Heap) (L : Addr) (env : Env) (hi : Option Expr) (Q : Value → Loc → Led → Prop) : Value → Loc → Led → Prop := fun u m n => Does prog w A h₀ L (valueOrNone (evalOpt hi env)) m n (Kl2 u Q)
theorem e_slice {lo hi : Option Expr} {pos : Pos} {Q : Value → Loc → Led → Prop} (h : Does prog w A h₀ L (valueOrNone (evalOpt lo env)) m n (Kl1 prog w A h₀ L env hi Q)) :
    Does prog w A h₀ L (eval (.Slice lo hi none pos) env) m n Q := by
  rw [PySem.arm_eval_Slice]
  refine Does.bind (h.mono fun u m1 n1 h1 => Does.bind (Does.holding (h1.mono fun v m2 n2 h2 => Does.bind (Does.holding (Does.pure (a := Value.none) ?_)))))
  refine Does.of fun s E H R k => ?_
  exact wpAny_newObj_type (k _ _ _ _ (H.push (c := slc u v) { cls := .type "slice", data := .fields #[u, v, .none] } rfl) rfl rfl (h2 _))
theorem so_none {Q : Value → Loc → Led → Prop} (q : Q .none m n) : Does prog w A h₀ L (valueOrNone (evalOpt none env)) m n Q := Does.pure (a := Value.none) q
theorem so_some {e : Expr} {Q : Value → Loc → Led → Prop} (h : Does prog w A h₀ L (eval e env) m n Q) : Does prog w A h₀ L (valueOrNone (evalOpt (some e) env)) m n Q := h
theorem isSlc {h₁ : Heap} (H : Holds prog w h₀ L m n h₁) {a : Addr} {u v : Value} (k : Kn prog w h₀ n a (slc u v)) : h₁.IsSliceOf a u v .none := by
  obtain ⟨o, h1, rfl⟩ := H.get k
  exact ⟨_, h1, rfl, rfl⟩
theorem i_slice {value slice : Expr} {l a : Addr} {vs zs : List Value} {u v : Value} {lo hi : Option Int} {ops : List Value} {Q : Value → Loc → Led → Prop} (kn : Kn prog w h₀ n l (.list vs)) (ks : Kn prog w h₀ n a (slc u v)) (pl : IsPart u lo) (pu : IsPart v hi)
    (hz : (slicePick vs.toArray lo hi none) = zs.toArray) (hs' : vs.length ≤ 1000) (q : ∀ b, Q (.ref b) m ((b, .list zs) :: n))
    (hs : subscripted slice false (.ref l) (.ref a) = operate ops (getItem (.ref l) (.ref a)) := by with_unfolding_all exact rfl) (ht : ∀ r, letTemporaryGo value (.ref l) r = pure () := by intro _; with_unfolding_all rfl) : Does prog w A h₀ L (subscriptTail value slice (.ref l) (.ref a)) m n Q := Does.of fun s E H R k => by
  have hl := isLst H kn
  refine subscriptTail_ops hl.typeIs list_getitem_lookup (wpAny_getItem_list_slice hl (isSlc H ks) pl pu .none (by simp) ?_ (by rw [List.size_toArray, sizeLine_eq]; lia)) hs ht
  rw [hz]
  exact k _ _ _ _ (H.push (c := .list zs) { cls := .type "list", data := .seq zs.toArray } ⟨0, rfl⟩) rfl rfl (q _)
theorem adjust_to (a n : Nat) (ha : a ≤ n) : Builtin.Slice.sliceAdjust none (some (a : Int)) 1 (n : Int) = (0, (a : Int)) := by
  unfold Builtin.Slice.sliceAdjust
  have h1 : ¬ ((1 : Int) < 0) := by lia
  have h2 : ¬ ((a : Int) < 0) := by lia
  simp only [h1, h2, if_false]
  congr 1
  lia
theorem places_to (a : Nat) : Builtin.Slice.slicePlaces 0 (a : Int) 1 = a := by
  unfold Builtin.Slice.slicePlaces
  have h1 : (1 : Int) > 0 := by lia
  simp only [h1, if_true, Int.ediv_one]
  split <;> lia
theorem sliceApplied_to {E : Value → Shared → Prop} {s : Shared} {sl : Addr} {a n : Nat} {u : Tok} {Q : Int × Int × Nat → Shared → Prop} (hs : s.heap.IsSliceOf sl .none (.int a u) .none) (ha : a ≤ n) (h : Q (0, 1, a) s) :
    wpAny (model prog w) A (Builtin.Slice.sliceApplied (.ref sl) (pure (n : Int))) Q E s := by
  obtain ⟨os, hos, hcs, hds⟩ := id hs
  unfold Builtin.Slice.sliceApplied Builtin.Slice.sliceFields
  refine wpAny_bind (wpAny_bind (wpAny_field hos hds (x := .none) rfl (wpAny_bind (wpAny_field hos hds (x := .int a u) rfl (wpAny_bind (wpAny_field hos hds (x := .none) rfl (wpAny_pure ?_)))))))
  refine wpAny_bind (slicePart_none ?_)
  show wpAny _ _ (if ((1 : Int) == 0) = true then _ else _) _ _ s
  rw [if_neg (by decide)]
  refine wpAny_bind (slicePart_none (wpAny_bind (slicePart_int (wpAny_bind (wpAny_pure ?_)))))
  show wpAny _ _ (match Builtin.Slice.sliceAdjust none (some (a : Int)) 1 (n : Int) with | (lo, hi) => pure (lo, (1 : Int), Builtin.Slice.slicePlaces lo hi 1)) _ _ s
  rw [adjust_to a n ha]
  show wpAny _ _ (pure ((0 : Int), (1 : Int), Builtin.Slice.slicePlaces 0 (a : Int) 1)) _ _ s
  rw [places_to a]
  exact wpAny_pure h
theorem getItem_to {E : Value → Shared → Prop} {s : Shared} {t sl : Addr} {x y z v : Value} {u : Tok} {Q : Value → Shared → Prop} (ht : IsTup s.heap t #[x, y, z, v]) (hs : s.heap.IsSliceOf sl .none (.int 3 u) .none)
    (h : Q (.ref s.heap.objs.size) { s with heap := s.heap.push { cls := .type "tuple", data := .seq #[x, y, z] } }) : wpAny (model prog w) A (getItem (.ref t) (.ref sl)) Q E s := by
  have hdrop : sizeOk (.seq #[x, y, z]) := by
    show (3 : Nat) ≤ sizeLine
    rw [sizeLine_eq]; decide
  obtain ⟨os, hos, hcs, hds⟩ := id hs
  have hTs : s.TypeIs (.ref sl) "slice" := ⟨os, hos, hcs⟩
  unfold getItem
  try with_reducible refine wpAny_holding ?_
  first | refine wpAny_bind (wpAny_pure ?_) | skip
  refine wpAny_bind (wpAny_sequenceKey ht.typeIs (by decide) ?_)
  refine wpAny_bind (wpAny_callSpecial?_slot (name := Str.ofString "__getitem__") ht.typeIs F.slot_tuple_getitem
    (wpAny_call_entry F.slot_tuple_getitem ht.typeIs F.entry_tuple_getitem ?_ (F.args_tuple_getitem_2 _ _)))
  show wpAny _ _ (Builtin.Tuple.tupleItemsOf (.ref t) >>= _) _ _ s
  refine wpAny_bind (tupleItemsOf_ ht ?_)
  refine wpAny_bind (wpAny_typeOf hTs ?_)
  rw [if_pos (by decide)]
  refine wpAny_bind (sliceApplied_to (a := 3) (n := 4) hs (by decide) ?_)
  show wpAny _ _ (if ((0 : Int) == 0 && (1 : Int) == 1 && ((3 : Nat) == 4)) = true then _ else _) _ _ s
  rw [if_neg (by decide)]
  first
    | exact wpAny_bind (m := Builtin.Tuple.tupleExact _) (wpAny_newObj_type (wpAny_pure ⟨_, rfl, wpAny_pure h⟩) hdrop)
    | exact wpAny_bind (m := Builtin.Tuple.tupleExact _) (wpAny_newObj_type (wpAny_bind (wpAny_pure (wpAny_pure ⟨_, rfl, wpAny_pure h⟩))) hdrop)
    | exact wpAny_bind (wpAny_bind (m := Builtin.Tuple.tupleExact _) (wpAny_newObj_type (wpAny_pure (wpAny_pure ⟨_, rfl, wpAny_pure h⟩)) hdrop))
    | exact wpAny_bind (wpAny_bind (m := Builtin.Tuple.tupleExact _) (wpAny_newObj_type (wpAny_pure ⟨_, rfl, wpAny_pure h⟩) hdrop))
theorem i_tup3 {value slice : Expr} {t a : Addr} {x y z v : Value} {u : Tok} {ops : List Value} {Q : Value → Loc → Led → Prop} (kn : Kn prog w h₀ n t (.tup [x, y, z, v])) (ks : Kn prog w h₀ n a (slc .none (.int 3 u))) (q : ∀ b, Q (.ref b) m ((b, .tup [x, y, z]) :: n))
    (hs : subscripted slice false (.ref t) (.ref a) = operate ops (getItem (.ref t) (.ref a)) := by with_unfolding_all exact rfl) (ht : ∀ r, letTemporaryGo value (.ref t) r = pure () := by intro _; with_unfolding_all rfl) : Does prog w A h₀ L (subscriptTail value slice (.ref t) (.ref a)) m n Q := Does.of fun s E H R k => by
  have hl := isTup H kn
  exact subscriptTail_ops hl.typeIs F.slot_tuple_getitem.lookup (getItem_to hl (isSlc H ks) (k _ _ _ _ (H.push (c := .tup [x, y, z]) { cls := .type "tuple", data := .seq #[x, y, z] } ⟨0, rfl⟩) rfl rfl (q _))) hs ht
-- a method of a class, got from the class
theorem mc {C f : Addr} {mcv : Value} {x : Str} {pl : Sem Bool} {Q : Value → List Value → Loc → Led → Prop} (B : Base prog w h₀) (s1 : specialIn (kf w.params) (.ref C) "__getattribute__" = some (some (.builtin "type.__getattribute__")))
    (s2 : typeIn (kf w.params) (.ref C) = some mcv) (s3 : readsIn (kf w.params) C mcv = true) (s4 : findCls (kf w.params) (.ref C) mcv x = some (.val (.ref f))) (q : Q (.ref f) [] m n) : MG prog w A h₀ L (.ref C) x pl m n Q := Does.of fun s E H R k =>
  method_of_cls H.F B.X s1 (cls_val H.F B.X s2 s3 s4 rfl (k _ { s with toks := s.toks + 1 } _ _ H rfl rfl q))
theorem mc_View (P : Params) : specialIn (kf P) (.ref 138) "__getattribute__" = some (some (.builtin "type.__getattribute__")) ∧ typeIn (kf P) (.ref 138) = some (.type "type") ∧ readsIn (kf P) 138 (.type "type") = true ∧ findCls (kf P) (.ref 138) (.type "type") "__init__" = some (.val (.ref 86)) := ⟨by k_is, by k_is, by k_is, by k_is⟩
end

end
-- DK
section
open PySem PySem.W PySem.Calls PyProof.Rows PySem.Spec
set_option Elab.async false
set_option maxRecDepth 100000
set_option maxHeartbeats 400000
set_option linter.unusedVariables false
section
variable {prog : Program} {w : World} {A : Around} {h₀ : Heap} {L : Addr} {α : Type} {m m' : Loc} {n n' : Led} {env : Env}

theorem Take.append_left {p : Addr × Cell} {k n r : Led} (h : Take p n r) : Take p (k ++ n) (k ++ r) := by
  induction k with
  | nil => exact h
  | cons q k ih => exact .there ih
theorem less1 {p : Addr × Cell} {n r : Led} (t : Take p n r) : Less (p :: r) n := Pick.less (.cons t .nil)
theorem less2 {p q : Addr × Cell} {n r r' : Led} (t : Take p n r) (u : Take q r r') : Less (p :: q :: r') n := Pick.less (.cons t (.cons u .nil))
theorem less3 {p q s : Addr × Cell} {n r r' r'' : Led} (t : Take p n r) (u : Take q r r') (v : Take s r' r'') : Less (p :: q :: s :: r'') n := Pick.less (.cons t (.cons u (.cons v .nil)))
theorem knS {a : Addr} {c : Cell} {new : Led} (h : Kn prog w h₀ new a c) (k : ∀ x, x ∈ new → x ∈ n) : Kn prog w h₀ n a c := h.imp id (k _)
theorem x_exprA {e : Expr} {pos : Pos} {rest : List Stmt} {Q : Flow → Loc → Led → Prop} (h : Does prog w A h₀ L (eval e env) m n (Kr prog w A h₀ L env rest Q))
    (hi : interactive env = false := by k_dflt (exact rfl)) (hs : swapsWith e none pos.line env = pure false := by k_dflt (exact rfl)) : Does prog w A h₀ L (execs (.Expr e pos :: rest) env) m n Q :=
  x_cons fun s E H => wpAny_Expr_any (wpAny_mono (h s E H) (fun _ _ z => z.to fun _ _ q => q) fun _ _ e => e) hi hs
theorem as_name {x : Str} {p : Pos} {v : Value} {Q : Unit → Loc → Led → Prop} (q : Does prog w A h₀ L (storeName env x v) m n Q) : Does prog w A h₀ L (assign (.Name x p) env v) m n Q := by
  show Does prog w A h₀ L (do standAt p; bindName env x v) m n Q
  exact Does.bind (Does.at (bn q))
theorem as_tup {elts : List Expr} {k : Nat} {tp : Pos} {t : Addr} {vs : List Value} {Q : Unit → Loc → Led → Prop} (hh : A.handled = none) (kn : Kn prog w h₀ n t (.tup vs)) (hl : (assignEach elts env).length = vs.length)
    (q : Does prog w A h₀ L (assignInOrder ((assignEach elts env).map (·.2)) vs) m n Q) (hf : ((assignEach elts env).findIdx? (·.1)) = none := by k_dflt (exact rfl)) : Does prog w A h₀ L (assign (.Tuple elts k tp) env (.ref t)) m n Q := by
  show Does prog w A h₀ L (do standAt tp; unpack (.ref t) (assignEach elts env)) m n Q
  unfold unpack
  rw [hf]
  exact Does.bind (Does.at (Does.bind (Does.holding (unp hh kn hl q))))

inductive I_x_fl (prog : Program) (w : World) (A : Around) (h₀ : Heap) (L : Addr) (env : Env) (target : Expr) (body : List Stmt) (rest : List Stmt) (Q : Flow → Loc → Led → Prop) (x : Value) (m1 : Loc) (n1 : Led) : Prop
  | mk (l : Addr) (vs : List Value) : (x = .ref l) → (Kn prog w h₀ n1 l (.list vs)) → (J : Nat → Loc → Led → Prop) → (J 0 m1 n1) → (∀ i m r, J i m r → Kn prog w h₀ r l (.list vs)) → (∀ I i m r v, vs[i]? = some v → J i m r → Does prog w A h₀ L (assign target env v) m ((I, lIter l (i + 1)) :: r) (Kr prog w A h₀ L env body
        (TurnEnd prog w A h₀ L (Jp (fun r' => (I, lIter l (i + 1)) :: r') (J (i + 1))) rest env Q))) → (∀ m r, J vs.length m r → Does prog w A h₀ L (execs rest env) m r Q) → I_x_fl prog w A h₀ L env target body rest Q x m1 n1
theorem x_fl {target iter : Expr} {body rest : List Stmt} {pos : Pos} {Q : Flow → Loc → Led → Prop} (hh : A.handled = none)
    (h : Does prog w A h₀ L (eval iter env) m n (I_x_fl prog w A h₀ L env target body rest Q))
    (hs : ∀ x, foldedSetIterable iter env x = pure x := by intro _; rfl) (ht : ∀ I v, letOwnedTupleGo target (.ref I) v = pure () := by intro _ _; rfl) : Does prog w A h₀ L (execs (.For target iter body [] pos :: rest) env) m n Q := by
  refine x_for (h.mono fun x m1 n1 z => ?_) hs
  obtain ⟨l, vs, rfl, kn, J, j0, jk, turn, fin⟩ := z
  refine p_list kn fun I => ⟨vs.length, fun i => [(I, lIter l i)], fun h₀ r => Kn prog w h₀ r l (.list vs), fun i v new => vs[i]? = some v ∧ new = [], n1, J, it_list hh (ht I), Less.refl _, j0, jk, fun i m r v new hi j z => ?_, fin⟩
  obtain ⟨hv, rfl⟩ := z
  exact turn I i m r v hv j
inductive I_x_ft (prog : Program) (w : World) (A : Around) (h₀ : Heap) (L : Addr) (env : Env) (elts : List Expr) (kk : Nat) (tp : Pos) (body : List Stmt) (rest : List Stmt) (Q : Flow → Loc → Led → Prop) (x : Value) (m1 : Loc) (n1 : Led) : Prop
  | mk (l : Addr) (vs : List Value) : (x = .ref l) → (Kn prog w h₀ n1 l (.tup vs)) → (J : Nat → Loc → Led → Prop) → (J 0 m1 n1) → (∀ i m r, J i m r → Kn prog w h₀ r l (.tup vs)) → (∀ I i m r v, vs[i]? = some v → J i m r → Does prog w A h₀ L (assign (.Tuple elts kk tp) env v) m ((I, tIter l (i + 1)) :: r) (Kr prog w A h₀ L env body
        (TurnEnd prog w A h₀ L (Jp (fun r' => (I, tIter l (i + 1)) :: r') (J (i + 1))) rest env Q))) → (∀ m r, J vs.length m r → Does prog w A h₀ L (execs rest env) m r Q) → I_x_ft prog w A h₀ L env elts kk tp body rest Q x m1 n1
theorem x_ft {elts : List Expr} {kk : Nat} {tp : Pos} {iter : Expr} {body rest : List Stmt} {pos : Pos} {Q : Flow → Loc → Led → Prop} (hh : A.handled = none)
    (h : Does prog w A h₀ L (eval iter env) m n (I_x_ft prog w A h₀ L env elts kk tp body rest Q))
    (hs : ∀ x, foldedSetIterable iter env x = pure x := by intro _; rfl) : Does prog w A h₀ L (execs (.For (.Tuple elts kk tp) iter body [] pos :: rest) env) m n Q := by
  refine x_for (h.mono fun x m1 n1 z => ?_) hs
  obtain ⟨l, vs, rfl, kn, J, j0, jk, turn, fin⟩ := z
  refine p_tup kn fun I => ⟨vs.length, fun i => [(I, tIter l i)], fun h₀ r => Kn prog w h₀ r l (.tup vs), fun i v new => vs[i]? = some v ∧ new = [], n1, J, it_tup hh (fun i v r h₀ L m => go_tup i v r h₀ L m), Less.refl _, j0, jk, fun i m r v new hi j z => ?_, fin⟩
  obtain ⟨hv, rfl⟩ := z
  exact turn I i m r v hv j
inductive I_x_fe (prog : Program) (w : World) (A : Around) (h₀ : Heap) (L : Addr) (env : Env) (elts : List Expr) (kk : Nat) (tp : Pos) (body : List Stmt) (rest : List Stmt) (Q : Flow → Loc → Led → Prop) (x : Value) (m1 : Loc) (n1 : Led) : Prop
  | mk (l : Addr) (vs : List Value) (e : Addr) (it : Addr) (r0 : Led) : (x = .ref e) → (n1 = (e, eIter it ((0 : Nat) : Int)) :: (it, lIter l 0) :: r0) → (Kn prog w h₀ r0 l (.list vs)) → (J : Nat → Loc → Led → Prop) → (J 0 m1 r0) → (∀ i m r, J i m r → Kn prog w h₀ r l (.list vs)) → (∀ i m r v t tk, vs[i]? = some v → J i m r → Does prog w A h₀ L (assign (.Tuple elts kk tp) env (.ref t)) m ((t, .tup [.int i tk, v]) :: (e, eIter it ((i + 1 : Nat) : Int)) :: (it, lIter l (i + 1)) :: r) (Kr prog w A h₀ L env body
        (TurnEnd prog w A h₀ L (Jp (fun r' => (e, eIter it ((i + 1 : Nat) : Int)) :: (it, lIter l (i + 1)) :: r') (J (i + 1))) rest env Q))) → (∀ m r, J vs.length m r → Does prog w A h₀ L (execs rest env) m r Q) → I_x_fe prog w A h₀ L env elts kk tp body rest Q x m1 n1
/-- for over enumerate(list): iter is the call itself -/
theorem x_fe {elts : List Expr} {kk : Nat} {tp : Pos} {iter : Expr} {body rest : List Stmt} {pos : Pos} {Q : Flow → Loc → Led → Prop} (hh : A.handled = none)
    (h : Does prog w A h₀ L (eval iter env) m n (I_x_fe prog w A h₀ L env elts kk tp body rest Q))
    (hs : ∀ x, foldedSetIterable iter env x = pure x := by intro _; rfl) : Does prog w A h₀ L (execs (.For (.Tuple elts kk tp) iter body [] pos :: rest) env) m n Q := by
  refine x_for (h.mono fun x m1 n1 z => ?_) hs
  obtain ⟨l, vs, e, it, r0, rfl, rfl, kn, J, j0, jk, turn, fin⟩ := z
  refine p_enum (i := ((0 : Nat) : Int)) (it := it) (.inr (.head _)) ⟨vs.length, fun i => [(e, eIter it i), (it, lIter l i)], _, _, r0, J, it_enum (l := l) hh, Less.refl _, j0, jk, fun i m r v new hi j z => ?_, fin⟩
  obtain ⟨t, x, tk, hv, rfl, rfl⟩ := z
  exact turn i m r x t tk hv j
inductive I_x_fr (prog : Program) (w : World) (A : Around) (h₀ : Heap) (L : Addr) (env : Env) (target : Expr) (body : List Stmt) (rest : List Stmt) (Q : Flow → Loc → Led → Prop) (x : Value) (m1 : Loc) (n1 : Led) : Prop
  | mk (r : Addr) (N : Nat) (t : Tok) (u : Tok) (v : Tok) : (x = .ref r) → (N ≤ 1000) → (Kn prog w h₀ n1 r (rng 0 (N : Nat) t u v)) → (J : Nat → Loc → Led → Prop) → (J 0 m1 n1) → (∀ I i m r t, i < N → J i m r → Does prog w A h₀ L (assign target env (.int (0 + (i : Nat)) t)) m ((I, rIter (0 + ((i + 1 : Nat) : Int)) ((N : Int) - ((i + 1 : Nat) : Int))) :: r) (Kr prog w A h₀ L env body
        (TurnEnd prog w A h₀ L (Jp (fun r' => (I, rIter (0 + ((i + 1 : Nat) : Int)) ((N : Int) - ((i + 1 : Nat) : Int))) :: r') (J (i + 1))) rest env Q))) → (∀ m r, J N m r → Does prog w A h₀ L (execs rest env) m r Q) → I_x_fr prog w A h₀ L env target body rest Q x m1 n1
theorem x_fr {target iter : Expr} {body rest : List Stmt} {pos : Pos} {Q : Flow → Loc → Led → Prop} (hh : A.handled = none)
    (h : Does prog w A h₀ L (eval iter env) m n (I_x_fr prog w A h₀ L env target body rest Q))
    (hs : ∀ x, foldedSetIterable iter env x = pure x := by intro _; rfl) (ht : ∀ I v, letOwnedTupleGo target (.ref I) v = pure () := by intro _ _; rfl) : Does prog w A h₀ L (execs (.For target iter body [] pos :: rest) env) m n Q := by
  refine x_for (h.mono fun x m1 n1 z => ?_) hs
  obtain ⟨r, N, t, u, v, rfl, hN, kn, J, j0, turn, fin⟩ := z
  refine p_range kn (by lia) (by lia) (N := N) (by lia) fun I => ⟨N, fun i => [(I, rIter (0 + (i : Nat)) ((N : Int) - (i : Nat)))], fun _ _ => True, _, n1, J, it_range hh (ht I), Less.refl _, j0, (fun _ _ _ _ => trivial), fun i m r v new hi j z => ?_, fin⟩
  obtain ⟨⟨t, rfl⟩, rfl⟩ := z
  exact turn I i m r t hi j

-- comprehensions
def noCell (scope : Scope) : Bool := scope.names.all fun x => !(x.2 == .cell)
def locsOk (env : Env) (scope : Scope) : Bool := scope.names.all fun x => !(x.2 == .local) || ((ownScope env scope).names.lookup x.1 == some .local)
theorem noCell_spec {scope : Scope} (h : noCell scope = true) : ∀ x ∈ scope.names, x.2 ≠ .cell := fun x hx e => by
  have := List.all_eq_true.mp h x hx
  rw [e] at this
  exact absurd this (by decide)
theorem locsOk_spec {env : Env} {scope : Scope} (h : locsOk env scope = true) : ∀ x ∈ scope.names, x.2 = .local → (ownScope env scope).names.lookup x.1 = some .local := fun x hx e => by
  have := List.all_eq_true.mp h x hx
  rw [e] at this
  simpa using this
inductive I_cl (prog : Program) (w : World) (A : Around) (h₀ : Heap) (L : Addr) (env : Env) (elt : Expr) (target : Expr) (ifs : List Expr) (scope : Scope) (cs : List (Str × Addr)) (F : Addr → Loc → Led → Prop) (x : Value) (m1 : Loc) (n1 : Led) : Prop
  | mk (l : Addr) (vs : List Value) (hx : x = .ref l) (kn : Kn prog w h₀ n1 l (.list vs)) (J : Nat → List Value → Led → Prop) (jz : ∀ i ys r, J i ys r → ys.length ≤ 1000) (j0 : J 0 [] [])
      (turn : ∀ g L', (∀ a c, Kn prog w h₀ n1 a c → At prog w g a c) → (Base prog w h₀ → Base prog w g) → ∀ I acc i ys r m' v, vs[i]? = some v → J i ys r → Does prog w A g L' (assign target (compEnv env scope L' cs) v) m' ((acc, .list ys) :: (I, lIter l (i + 1)) :: r) (Kts prog w A g L' (compEnv env scope L' cs) ifs elt (fun r' => (acc, .list ys) :: (I, lIter l (i + 1)) :: r') (J (i + 1)) ys))
      (fin : ∀ acc ys r, J vs.length ys r → F acc m1 ((acc, .list ys) :: (r ++ n1))) : I_cl prog w A h₀ L env elt target ifs scope cs F x m1 n1
theorem I_cl.go {elt : Expr} {target : Expr} {ifs : List Expr} {scope : Scope} {cs : List (Str × Addr)} {F : Addr → Loc → Led → Prop} {x : Value} (hh : A.handled = none) (ht : ∀ I v, letOwnedTupleGo target (.ref I) v = pure ()) (z : I_cl prog w A h₀ L env elt target ifs scope cs F x m n) : Kci prog w A h₀ L env scope cs target elt ifs F x m n := by
  obtain ⟨l, vs, rfl, kn, J, jz, j0, turn, fin⟩ := z
  refine p_list kn fun I => ⟨vs.length, fun i => [(I, lIter l i)], fun h₀ r => Kn prog w h₀ r l (.list vs), fun i v new => vs[i]? = some v ∧ new = [], [], n, J, it_list hh (ht I), Less.refl _, jz, j0, fun g K i ys r j => knA (K _ _ kn), fun g L' K KB acc i ys r m' v new hi j z => ?_, fin⟩
  obtain ⟨hv, rfl⟩ := z
  exact turn g L' K KB I acc i ys r m' v hv j
theorem e_cl {elt : Expr} {target : Expr} {iter : Expr} {ifs : List Expr} {scope : Scope} {cpos pos : Pos} {cs : List (Str × Addr)} {Q : Value → Loc → Led → Prop} (hh : A.handled = none)
    (hfree : closureFor scope env = pure cs)
    (h : Does prog w A h₀ L (eval iter env) m n (I_cl prog w A h₀ L env elt target ifs scope cs (Fe Q)))
    (hkind : scope.kind = .function := by k_dflt (exact rfl)) (hnc : noCell scope = true := by k_dflt (exact rfl)) (hnames : locsOk env scope = true := by k_dflt (exact rfl))
    (hs : ∀ x, foldedSetIterable iter env x = pure x := by intro _; rfl) (ht : ∀ I v, letOwnedTupleGo target (.ref I) v = pure () := by intro _ _; rfl) :
    Does prog w A h₀ L (eval (.ListComp elt [⟨target, iter, ifs, 0⟩] scope pos) env) m n Q :=
  e_comp (cpos := cpos) hfree (h.mono fun x m1 n1 z => z.go hh ht) hkind (noCell_spec hnc) (locsOk_spec hnames) hs
theorem x_al {elt : Expr} {target : Expr} {iter : Expr} {ifs : List Expr} {scope : Scope} {cpos pos spos py : Pos} {y : Str} {cs : List (Str × Addr)} {rest0 : List Stmt} {Q : Flow → Loc → Led → Prop} (hh : A.handled = none)
    (hfree : closureFor scope env = pure cs)
    (h : Does prog w A h₀ L (eval iter env) m n (I_cl prog w A h₀ L env elt target ifs scope cs (Fx prog w A h₀ L env y rest0 Q)))
    (hsw : swapsWith (.ListComp elt [⟨target, iter, ifs, 0⟩] scope pos) (some (.Name y py)) spos.line env = pure true := by k_dflt (exact rfl)) (hL : env.locals = L := by k_dflt (exact rfl)) (hky : env.scope.kind = .function := by k_dflt (exact rfl)) (hly : env.kindOf y = some .local := by k_dflt (exact rfl))
    (hkind : scope.kind = .function := by k_dflt (exact rfl)) (hnc : noCell scope = true := by k_dflt (exact rfl)) (hnames : locsOk env scope = true := by k_dflt (exact rfl))
    (hs : ∀ x, foldedSetIterable iter env x = pure x := by intro _; rfl) (ht : ∀ I v, letOwnedTupleGo target (.ref I) v = pure () := by intro _ _; rfl) :
    Does prog w A h₀ L (execs (.Assign [.Name y py] (.ListComp elt [⟨target, iter, ifs, 0⟩] scope pos) spos :: rest0) env) m n Q :=
  x_compU (cpos := cpos) hsw hL hky hly hfree (h.mono fun x m1 n1 z => z.go hh ht) hkind (noCell_spec hnc) (locsOk_spec hnames) hs
inductive I_ct (prog : Program) (w : World) (A : Around) (h₀ : Heap) (L : Addr) (env : Env) (elt : Expr) (elts : List Expr) (kk : Nat) (tp : Pos) (ifs : List Expr) (scope : Scope) (cs : List (Str × Addr)) (F : Addr → Loc → Led → Prop) (x : Value) (m1 : Loc) (n1 : Led) : Prop
  | mk (l : Addr) (vs : List Value) (hx : x = .ref l) (kn : Kn prog w h₀ n1 l (.tup vs)) (J : Nat → List Value → Led → Prop) (jz : ∀ i ys r, J i ys r → ys.length ≤ 1000) (j0 : J 0 [] [])
      (turn : ∀ g L', (∀ a c, Kn prog w h₀ n1 a c → At prog w g a c) → (Base prog w h₀ → Base prog w g) → ∀ I acc i ys r m' v, vs[i]? = some v → J i ys r → Does prog w A g L' (assign (.Tuple elts kk tp) (compEnv env scope L' cs) v) m' ((acc, .list ys) :: (I, tIter l (i + 1)) :: r) (Kts prog w A g L' (compEnv env scope L' cs) ifs elt (fun r' => (acc, .list ys) :: (I, tIter l (i + 1)) :: r') (J (i + 1)) ys))
      (fin : ∀ acc ys r, J vs.length ys r → F acc m1 ((acc, .list ys) :: (r ++ n1))) : I_ct prog w A h₀ L env elt elts kk tp ifs scope cs F x m1 n1
theorem I_ct.go {elt : Expr} {elts : List Expr} {kk : Nat} {tp : Pos} {ifs : List Expr} {scope : Scope} {cs : List (Str × Addr)} {F : Addr → Loc → Led → Prop} {x : Value} (hh : A.handled = none) (z : I_ct prog w A h₀ L env elt elts kk tp ifs scope cs F x m n) : Kci prog w A h₀ L env scope cs (.Tuple elts kk tp) elt ifs F x m n := by
  obtain ⟨l, vs, rfl, kn, J, jz, j0, turn, fin⟩ := z
  refine p_tup kn fun I => ⟨vs.length, fun i => [(I, tIter l i)], fun h₀ r => Kn prog w h₀ r l (.tup vs), fun i v new => vs[i]? = some v ∧ new = [], [], n, J, it_tup hh (fun i v r h₀ L m => go_tup i v r h₀ L m), Less.refl _, jz, j0, fun g K i ys r j => knA (K _ _ kn), fun g L' K KB acc i ys r m' v new hi j z => ?_, fin⟩
  obtain ⟨hv, rfl⟩ := z
  exact turn g L' K KB I acc i ys r m' v hv j
theorem e_ct {elt : Expr} {elts : List Expr} {kk : Nat} {tp : Pos} {iter : Expr} {ifs : List Expr} {scope : Scope} {cpos pos : Pos} {cs : List (Str × Addr)} {Q : Value → Loc → Led → Prop} (hh : A.handled = none)
    (hfree : closureFor scope env = pure cs)
    (h : Does prog w A h₀ L (eval iter env) m n (I_ct prog w A h₀ L env elt elts kk tp ifs scope cs (Fe Q)))
    (hkind : scope.kind = .function := by k_dflt (exact rfl)) (hnc : noCell scope = true := by k_dflt (exact rfl)) (hnames : locsOk env scope = true := by k_dflt (exact rfl))
    (hs : ∀ x, foldedSetIterable iter env x = pure x := by intro _; rfl) :
    Does prog w A h₀ L (eval (.ListComp elt [⟨.Tuple elts kk tp, iter, ifs, 0⟩] scope pos) env) m n Q :=
  e_comp (cpos := cpos) hfree (h.mono fun x m1 n1 z => z.go hh) hkind (noCell_spec hnc) (locsOk_spec hnames) hs
inductive I_ce (prog : Program) (w : World) (A : Around) (h₀ : Heap) (L : Addr) (env : Env) (elt : Expr) (elts : List Expr) (kk : Nat) (tp : Pos) (ifs : List Expr) (scope : Scope) (cs : List (Str × Addr)) (F : Addr → Loc → Led → Prop) (x : Value) (m1 : Loc) (n1 : Led) : Prop
  | mk (l : Addr) (vs : List Value) (e : Addr) (it : Addr) (r0 : Led) (hx : x = .ref e) (hn : n1 = (e, eIter it ((0 : Nat) : Int)) :: (it, lIter l 0) :: r0) (kn : Kn prog w h₀ r0 l (.list vs)) (J : Nat → List Value → Led → Prop) (jz : ∀ i ys r, J i ys r → ys.length ≤ 1000) (j0 : J 0 [] [])
      (turn : ∀ g L', (∀ a c, Kn prog w h₀ r0 a c → At prog w g a c) → (Base prog w h₀ → Base prog w g) → ∀ acc i ys r m' v t tk, vs[i]? = some v → J i ys r → Does prog w A g L' (assign (.Tuple elts kk tp) (compEnv env scope L' cs) (.ref t)) m' ((acc, .list ys) :: (t, .tup [.int i tk, v]) :: (e, eIter it ((i + 1 : Nat) : Int)) :: (it, lIter l (i + 1)) :: r) (Kts prog w A g L' (compEnv env scope L' cs) ifs elt (fun r' => (acc, .list ys) :: (e, eIter it ((i + 1 : Nat) : Int)) :: (it, lIter l (i + 1)) :: r') (J (i + 1)) ys))
      (fin : ∀ acc ys r, J vs.length ys r → F acc m1 ((acc, .list ys) :: (r ++ r0))) : I_ce prog w A h₀ L env elt elts kk tp ifs scope cs F x m1 n1
theorem I_ce.go {elt : Expr} {elts : List Expr} {kk : Nat} {tp : Pos} {ifs : List Expr} {scope : Scope} {cs : List (Str × Addr)} {F : Addr → Loc → Led → Prop} {x : Value} (hh : A.handled = none) (z : I_ce prog w A h₀ L env elt elts kk tp ifs scope cs F x m n) : Kci prog w A h₀ L env scope cs (.Tuple elts kk tp) elt ifs F x m n := by
  obtain ⟨l, vs, e, it, r0, rfl, rfl, kn, J, jz, j0, turn, fin⟩ := z
  refine p_enum (i := ((0 : Nat) : Int)) (it := it) (.inr (.head _)) ⟨vs.length, fun i => [(e, eIter it i), (it, lIter l i)], _, _, [], r0, J, it_enum (l := l) hh, Less.refl _, jz, j0, fun g K i ys r j => knA (K _ _ kn), fun g L' K KB acc i ys r m' v new hi j z => ?_, fin⟩
  obtain ⟨t, x, tk, hv, rfl, rfl⟩ := z
  exact turn g L' K KB acc i ys r m' x t tk hv j
theorem e_ce {elt : Expr} {elts : List Expr} {kk : Nat} {tp : Pos} {iter : Expr} {ifs : List Expr} {scope : Scope} {cpos pos : Pos} {cs : List (Str × Addr)} {Q : Value → Loc → Led → Prop} (hh : A.handled = none)
    (hfree : closureFor scope env = pure cs)
    (h : Does prog w A h₀ L (eval iter env) m n (I_ce prog w A h₀ L env elt elts kk tp ifs scope cs (Fe Q)))
    (hkind : scope.kind = .function := by k_dflt (exact rfl)) (hnc : noCell scope = true := by k_dflt (exact rfl)) (hnames : locsOk env scope = true := by k_dflt (exact rfl))
    (hs : ∀ x, foldedSetIterable iter env x = pure x := by intro _; rfl) :
    Does prog w A h₀ L (eval (.ListComp elt [⟨.Tuple elts kk tp, iter, ifs, 0⟩] scope pos) env) m n Q :=
  e_comp (cpos := cpos) hfree (h.mono fun x m1 n1 z => z.go hh) hkind (noCell_spec hnc) (locsOk_spec hnames) hs
theorem x_ae {elt : Expr} {elts : List Expr} {kk : Nat} {tp : Pos} {iter : Expr} {ifs : List Expr} {scope : Scope} {cpos pos spos py : Pos} {y : Str} {cs : List (Str × Addr)} {rest0 : List Stmt} {Q : Flow → Loc → Led → Prop} (hh : A.handled = none)
    (hfree : closureFor scope env = pure cs)
    (h : Does prog w A h₀ L (eval iter env) m n (I_ce prog w A h₀ L env elt elts kk tp ifs scope cs (Fx prog w A h₀ L env y rest0 Q)))
    (hsw : swapsWith (.ListComp elt [⟨.Tuple elts kk tp, iter, ifs, 0⟩] scope pos) (some (.Name y py)) spos.line env = pure true := by k_dflt (exact rfl)) (hL : env.locals = L := by k_dflt (exact rfl)) (hky : env.scope.kind = .function := by k_dflt (exact rfl)) (hly : env.kindOf y = some .local := by k_dflt (exact rfl))
    (hkind : scope.kind = .function := by k_dflt (exact rfl)) (hnc : noCell scope = true := by k_dflt (exact rfl)) (hnames : locsOk env scope = true := by k_dflt (exact rfl))
    (hs : ∀ x, foldedSetIterable iter env x = pure x := by intro _; rfl) :
    Does prog w A h₀ L (execs (.Assign [.Name y py] (.ListComp elt [⟨.Tuple elts kk tp, iter, ifs, 0⟩] scope pos) spos :: rest0) env) m n Q :=
  x_compU (cpos := cpos) hsw hL hky hly hfree (h.mono fun x m1 n1 z => z.go hh) hkind (noCell_spec hnc) (locsOk_spec hnames) hs
inductive I_cr (prog : Program) (w : World) (A : Around) (h₀ : Heap) (L : Addr) (env : Env) (elt : Expr) (target : Expr) (ifs : List Expr) (scope : Scope) (cs : List (Str × Addr)) (F : Addr → Loc → Led → Prop) (x : Value) (m1 : Loc) (n1 : Led) : Prop
  | mk (r : Addr) (N : Nat) (t : Tok) (u : Tok) (v : Tok) (own : Led) (rest : Led) (hx : x = .ref r) (hN : N ≤ 1000) (kn : Kn prog w h₀ n1 r (rng 0 (N : Nat) t u v)) (hl : Less (own ++ rest) n1) (J : Nat → List Value → Led → Prop) (jz : ∀ i ys r, J i ys r → ys.length ≤ 1000) (j0 : J 0 [] own)
      (turn : ∀ g L', (∀ a c, Kn prog w h₀ rest a c → At prog w g a c) → (Base prog w h₀ → Base prog w g) → ∀ I acc i ys r m' t, i < N → J i ys r → Does prog w A g L' (assign target (compEnv env scope L' cs) (.int (0 + (i : Nat)) t)) m' ((acc, .list ys) :: (I, rIter (0 + ((i + 1 : Nat) : Int)) ((N : Int) - ((i + 1 : Nat) : Int))) :: r) (Kts prog w A g L' (compEnv env scope L' cs) ifs elt (fun r' => (acc, .list ys) :: (I, rIter (0 + ((i + 1 : Nat) : Int)) ((N : Int) - ((i + 1 : Nat) : Int))) :: r') (J (i + 1)) ys))
      (fin : ∀ acc ys r, J N ys r → F acc m1 ((acc, .list ys) :: (r ++ rest))) : I_cr prog w A h₀ L env elt target ifs scope cs F x m1 n1
theorem I_cr.go {elt : Expr} {target : Expr} {ifs : List Expr} {scope : Scope} {cs : List (Str × Addr)} {F : Addr → Loc → Led → Prop} {x : Value} (hh : A.handled = none) (ht : ∀ I v, letOwnedTupleGo target (.ref I) v = pure ()) (z : I_cr prog w A h₀ L env elt target ifs scope cs F x m n) : Kci prog w A h₀ L env scope cs target elt ifs F x m n := by
  obtain ⟨r, N, t, u, v, own, rest, rfl, hN, kn, hl, J, jz, j0, turn, fin⟩ := z
  refine p_range kn (by lia) (by lia) (N := N) (by lia) fun I => ⟨N, fun i => [(I, rIter (0 + (i : Nat)) ((N : Int) - (i : Nat)))], fun _ _ => True, _, own, rest, J, it_range hh (ht I), ?_, jz, j0, fun g K i ys r j => trivial, fun g L' K KB acc i ys r m' v new hi j z => ?_, fin⟩
  · obtain ⟨k, p, s⟩ := hl
    exact ⟨_ :: k, p.cons _, s.cons_cons _⟩
  · obtain ⟨⟨t, rfl⟩, rfl⟩ := z
    exact turn g L' K KB I acc i ys r m' t hi j
theorem e_cr {elt : Expr} {target : Expr} {iter : Expr} {ifs : List Expr} {scope : Scope} {cpos pos : Pos} {cs : List (Str × Addr)} {Q : Value → Loc → Led → Prop} (hh : A.handled = none)
    (hfree : closureFor scope env = pure cs)
    (h : Does prog w A h₀ L (eval iter env) m n (I_cr prog w A h₀ L env elt target ifs scope cs (Fe Q)))
    (hkind : scope.kind = .function := by k_dflt (exact rfl)) (hnc : noCell scope = true := by k_dflt (exact rfl)) (hnames : locsOk env scope = true := by k_dflt (exact rfl))
    (hs : ∀ x, foldedSetIterable iter env x = pure x := by intro _; rfl) (ht : ∀ I v, letOwnedTupleGo target (.ref I) v = pure () := by intro _ _; rfl) :
    Does prog w A h₀ L (eval (.ListComp elt [⟨target, iter, ifs, 0⟩] scope pos) env) m n Q :=
  e_comp (cpos := cpos) hfree (h.mono fun x m1 n1 z => z.go hh ht) hkind (noCell_spec hnc) (locsOk_spec hnames) hs
theorem x_ar {elt : Expr} {target : Expr} {iter : Expr} {ifs : List Expr} {scope : Scope} {cpos pos spos py : Pos} {y : Str} {cs : List (Str × Addr)} {rest0 : List Stmt} {Q : Flow → Loc → Led → Prop} (hh : A.handled = none)
    (hfree : closureFor scope env = pure cs)
    (h : Does prog w A h₀ L (eval iter env) m n (I_cr prog w A h₀ L env elt target ifs scope cs (Fx prog w A h₀ L env y rest0 Q)))
    (hsw : swapsWith (.ListComp elt [⟨target, iter, ifs, 0⟩] scope pos) (some (.Name y py)) spos.line env = pure true := by k_dflt (exact rfl)) (hL : env.locals = L := by k_dflt (exact rfl)) (hky : env.scope.kind = .function := by k_dflt (exact rfl)) (hly : env.kindOf y = some .local := by k_dflt (exact rfl))
    (hkind : scope.kind = .function := by k_dflt (exact rfl)) (hnc : noCell scope = true := by k_dflt (exact rfl)) (hnames : locsOk env scope = true := by k_dflt (exact rfl))
    (hs : ∀ x, foldedSetIterable iter env x = pure x := by intro _; rfl) (ht : ∀ I v, letOwnedTupleGo target (.ref I) v = pure () := by intro _ _; rfl) :
    Does prog w A h₀ L (execs (.Assign [.Name y py] (.ListComp elt [⟨target, iter, ifs, 0⟩] scope pos) spos :: rest0) env) m n Q :=
  x_compU (cpos := cpos) hsw hL hky hly hfree (h.mono fun x m1 n1 z => z.go hh ht) hkind (noCell_spec hnc) (locsOk_spec hnames) hs
-- heads of trees, in short
abbrev DV {Q : Value → Loc → Led → Prop} (e : Expr) : Prop := Does prog w A h₀ L (eval e env) m n Q
abbrev DX {Q : Flow → Loc → Led → Prop} (ss : List Stmt) : Prop := Does prog w A h₀ L (execs ss env) m n Q
abbrev DB {Q : Bool → Loc → Led → Prop} (e : Expr) (whole : Sem Value) : Prop := Does prog w A h₀ L (isTrue e env whole) m n Q
abbrev DF {Q : Value → Loc → Led → Prop} {args : List Value} (f : String) : Prop := Does prog w A h₀ L (call (.builtin f) args) m n Q
abbrev DG {Q : Value → Loc → Led → Prop} {v : Value} {x : Str} {ex : Bool} : Prop := Does prog w A h₀ L (getAttr v x ex) m n Q
abbrev DN {Q : Unit → Loc → Led → Prop} {v : Value} {x : Str} : Prop := Does prog w A h₀ L (storeName env x v) m n Q
abbrev DW0 {Q : Value → Loc → Led → Prop} {pos p : Pos} {f : Value} {l : List Value} : Prop := Does prog w A h₀ L (callWith pos f l (backTo p (starEach [] env)) []) m n Q
abbrev DW1 {Q : Value → Loc → Led → Prop} {pos p : Pos} {f : Value} {e : Expr} {es : List Expr} : Prop := Does prog w A h₀ L (callWith pos f [] (backTo p (starEach (e :: es) env)) []) m n Q
abbrev DW2 {Q : Value → Loc → Led → Prop} {pos p : Pos} {f a : Value} {e : Expr} {es : List Expr} : Prop := Does prog w A h₀ L (callWith pos f [a] (backTo p (starEach (e :: es) env)) []) m n Q
abbrev DS {Q : Unit → Loc → Led → Prop} {v u : Value} {x : Str} : Prop := Does prog w A h₀ L (setAttr v x u) m n Q
abbrev DI {Q : Value → Loc → Led → Prop} {a b : Expr} {v u : Value} : Prop := Does prog w A h₀ L (subscriptTail a b v u) m n Q
abbrev DT {Q : Unit → Loc → Led → Prop} {e : Expr} {v : Value} : Prop := Does prog w A h₀ L (assign e env v) m n Q
abbrev DM {ov : Value} {pl : Sem Bool} {K : Value → List Value → Loc → Led → Prop} (x : Str) : Prop := MG prog w A h₀ L ov x pl m n K
abbrev DA {Q : Unit → Loc → Led → Prop} {fs : List (Value → Sem Unit)} {vs : List Value} : Prop := Does prog w A h₀ L (assignInOrder fs vs) m n Q
abbrev DR {Q : Value → Loc → Led → Prop} {a : Addr} (f : String) : Prop := Does prog w A h₀ L (call (.builtin f) [.ref a]) m n Q
abbrev DC {Q : Value → Loc → Led → Prop} {args : List Value} (a : Addr) : Prop := Does prog w A h₀ L (call (.ref a) args) m n Q
theorem ml_append {a : Addr} {vs : List Value} {pl : Sem Bool} {Q : Value → List Value → Loc → Led → Prop} (kn : Kn prog w h₀ n a (.list vs)) (q : Q (.builtin "list.append") [.ref a] m n) : MG prog w A h₀ L (.ref a) (PySem.Str.ofString "append") pl m n Q := ml kn PySem.slot_list_append PySem.type_list_append q
theorem ml_extend {a : Addr} {vs : List Value} {pl : Sem Bool} {Q : Value → List Value → Loc → Led → Prop} (kn : Kn prog w h₀ n a (.list vs)) (q : Q (.builtin "list.extend") [.ref a] m n) : MG prog w A h₀ L (.ref a) (PySem.Str.ofString "extend") pl m n Q := ml kn PySem.F.slot_list_extend PySem.F.type_list_extend q
theorem md_get {a : Addr} {kvs : List (Int × Value)} {pl : Sem Bool} {Q : Value → List Value → Loc → Led → Prop} (kn : Kn prog w h₀ n a (.idict kvs)) (q : Q (.builtin "dict.get") [.ref a] m n) : MG prog w A h₀ L (.ref a) (PySem.Str.ofString "get") pl m n Q := md kn PySem.F.slot_dict_get PySem.F.type_dict_get q
end

end
-- DL
section

end
-- DM
section

end
-- DN
section
open PySem PySem.W PySem.Calls PyProof.Rows PySem.Spec
set_option Elab.async false
set_option maxRecDepth 100000
set_option maxHeartbeats 4000000
set_option linter.unusedVariables false
theorem pl_tuple (P : Params) : (kf P).lookup 484 = some { cls := Value.type "tuple", data := Data.seq #[Value.int 0 907, Value.int 0 908, Value.int 0 909, Value.int 0 910, Value.int 0 911, Value.int 0 912] } := by k_is
theorem gl_xDEFAULT (P : Params) : nsIn (kf P) mainGlobals "DEFAULT" = some (some (.str "default" 905)) := by k_is
section
variable {prog : Program} {w : World} {A : Around} {h₀ : Heap} {L : Addr} {α : Type} {m m' : Loc} {n n' : Led} {env : Env}
def ed : Obj := { cls := .type "dict", data := .dict #[] }
theorem ed_is {K : Type} [DecidableEq K] (knd : KeyKind prog w K) (h : Heap) {a : Addr} (e : h.get? a = some ed) : h.DictOf knd a [] := by
  obtain ⟨o, ho, hd⟩ := Heap.dictOf_iff.mp (Heap.DictOf.new (knd := knd) (default : Heap))
  rw [Heap.get?_push_size _ rfl] at ho
  cases ho
  exact Heap.dictOf_iff.mpr ⟨_, e, hd⟩
theorem ed_isH {K : Type} [DecidableEq K] (knd : HeapKind prog w K) (h : Heap) {a : Addr} (e : h.get? a = some ed) : h.DictOfH knd a [] := by
  obtain ⟨o, es, ep, ho, r1, r2, r3, r4, r5⟩ := Heap.DictOfH.new (knd := knd) (default : Heap)
  rw [Heap.get?_push_size _ rfl] at ho
  cases ho
  exact ⟨_, es, ep, e, r1, r2, r3, (fun x hx => nomatch hx), r5⟩
theorem Holds.drop1 {a : Addr} {c : Cell} {h h' : Heap} (H : Holds prog w h₀ L m ((a, c) :: n) h) (hs : Heap.SameBut a h h') : Holds prog w h₀ L m n h' := by
  obtain ⟨o, h1, h2, h3, h4⟩ := H.mem (a := a) (c := c) (.head _)
  obtain ⟨oL, es, ep, hLg, q⟩ := H.F.ns
  have D := H.D
  rw [List.map_cons, List.nodup_cons] at D
  refine Holds.of ⟨⟨oL, es, ep, (hs.2 _ h3.symm).trans hLg, q⟩, fun b o e => (hs.2 _ fun z => by rw [z, h4] at e; cases e).trans (H.F.keep b o e), H.F.above⟩ (fun p hp => ?_) D.2
  obtain ⟨o, g1, g2, g3⟩ := H.mem (a := p.1) (c := p.2) (.tail _ hp)
  exact ⟨o, (hs.2 _ fun z => D.1 (List.mem_map.mpr ⟨p, hp, z⟩)).trans g1, g2, g3⟩
theorem At_plain (B : Base prog w h₀) : At prog w h₀ 484 (.tup [Value.int 0 907, Value.int 0 908, Value.int 0 909, Value.int 0 910, Value.int 0 911, Value.int 0 912]) := ⟨_, B.X _ _ (pl_tuple _), 0, rfl⟩
theorem e_dict1 {k v : Expr} {pos : Pos} {Q : Value → Loc → Led → Prop} (hu : A.units < cLine)
    (h : ∀ a, Does prog w A h₀ L (eval k env) m ((a, .obj ed) :: n) fun kv m1 n1 => Does prog w A h₀ L (eval v env) m1 n1 fun vv m2 n2 => ∃ n3, Less ((a, .obj ed) :: n3) n2 ∧ ((∃ x t, kv = .str x t) ∨ ∃ ta vs ns, kv = .ref ta ∧ Kn prog w h₀ n2 ta (.tup vs) ∧ IntsAre vs ns) ∧ Q (.ref a) m2 n3) :
    Does prog w A h₀ L (eval (.Dict [some k] [v] pos) env) m n Q := Does.of fun s E H R kk => by
  refine wpAny_Dict_any (by rfl) rfl (List.cons_ne_nil _ _) (by show 1 ≤ 15; decide) ?_
  have H1 := H.push (c := .obj ed) ed rfl
  refine pairTrees_cons_walk (wpAny_mono (h s.heap.objs.size _ _ H1) (fun kv s1 z => ?_) fun _ _ e => e)
  obtain ⟨m1, n1, H1, hg1, ho1, z⟩ := z
  refine wpAny_mono (z s1 _ H1) (fun vv s2 z => ?_) fun _ _ e => e
  obtain ⟨m2, n2, H2, hg2, ho2, n3, hl, hk, q⟩ := z
  refine pairTrees_nil_walk ?_
  have H3 := H2.less hl
  obtain ⟨o, g1, g2, g3, g4⟩ := H3.mem (a := s.heap.objs.size) (c := .obj ed) (.head _)
  cases g2
  rcases hk with ⟨x, t, rfl⟩ | ⟨ta, vs, ns, rfl, kt, hi⟩
  · refine wpAny_storeAll (knd := PySem.strKind prog w) [(.str x t, vv)] [(x, vv)] [] _ _ ⟨by simp [PySem.strKind, Value.isStrOf], rfl, trivial⟩ (ed_is _ _ g1) (by show 0 + 1 ≤ sizeLine; rw [sizeLine_eq]; decide) fun h' _ hs => ?_
    exact kk _ _ _ _ (H3.drop1 hs) (hg2.trans hg1) (ho2.trans ho1) q
  · unfold storeAll
    rw [List.forIn_cons]
    obtain ⟨ot, k1, nn, rfl⟩ := H2.get kt
    have hit : ItemsAre (intKind prog w) ns vs := by
      clear kt k1
      induction hi with
      | nil => exact .nil
      | cons i t _ ih => exact .cons (by simp [intKind, Value.isInt]) ih
    refine wpAny_bind (wpAny_bind (wpAny_dictSet_heap (knd := tupleKind (intKind prog w)) hu (k := ns) ⟨_, _, _, k1, rfl, rfl, by simpa using hit⟩ (ed_isH _ _ g1) (fun h' _ hs => ?_) (Nat.zero_le _)))
    refine wpAny_pure ?_
    show wpAny _ _ (forIn [] _ _) _ _ _
    rw [List.forIn_nil]
    exact wpAny_pure (kk _ _ _ _ (H3.drop1 hs) (hg2.trans hg1) (ho2.trans ho1) q)
end

end
-- PA
section
set_option Elab.async false
/-- the text and the strings ahead of its places -/
structure VD where
  text : List Int
  ahd : Int → List Int
namespace VD
variable (D : VD)
def fin : Int := 1 + (D.text.length : Int)
def code (p : Int) : Int := if 1 ≤ p ∧ p < D.fin then D.text.getD (p - 1).toNat 0 else -1
def rowsAt (p : Int) : List (Int × Int) := (D.ahd p).map (fun c => (c, -1)) ++ (if p < D.fin then [(D.code p, p)] else [])
def off : Nat → Nat
  | 0 => 0
  | q + 1 => off q + (D.rowsAt ((q : Int) + 1)).length
def S : List (Int × Int) := (List.range (D.text.length + 1)).flatMap fun (q : Nat) => D.rowsAt ((q : Int) + 1)
def N : Nat := D.S.length
/-- a place and a number in it, told as an index of all signs -/
def Pos (i : Nat) (p k : Int) : Prop := ∃ q j : Nat, p = (q : Int) + 1 ∧ k = j ∧ q ≤ D.text.length ∧ j ≤ (D.rowsAt p).length ∧ i = D.off q + j
def Norm (p k : Int) : Prop := k < (D.rowsAt p).length ∨ p = D.fin
def Spot (i : Nat) (p k : Int) : Prop := D.Pos i p k ∧ D.Norm p k
end VD
variable {D : VD}
theorem off_len (n : Nat) : D.off n = ((List.range n).flatMap fun (q : Nat) => D.rowsAt ((q : Int) + 1)).length := by
  induction n with
  | zero => rfl
  | succ n ih => rw [List.range_succ, List.flatMap_append, List.length_append, ← ih]; simp [VD.off]
theorem N_eq : D.N = D.off (D.text.length + 1) := (off_len _).symm
theorem range_split {q n : Nat} (h : q < n) : List.range n = List.range q ++ q :: (List.range' (q + 1) (n - q - 1)) := by
  rw [List.range_eq_range', List.range_eq_range']
  have e : n = q + (1 + (n - q - 1)) := by lia
  conv => lhs; rw [e]
  rw [← List.range'_append_1, Nat.add_comm 1, List.range'_succ]
  simp
theorem S_get {i : Nat} {p k : Int} (h : D.Pos i p k) (hk : k < (D.rowsAt p).length) : D.S[i]? = (D.rowsAt p)[k.toNat]? := by
  obtain ⟨q, j, rfl, rfl, hq, hj, rfl⟩ := h
  have hj' : j < (D.rowsAt ((q : Int) + 1)).length := by lia
  unfold VD.S
  rw [range_split (show q < D.text.length + 1 by lia), List.flatMap_append, List.flatMap_cons, off_len]
  rw [List.getElem?_append_right (by lia), List.getElem?_append_left (by lia)]
  simp
theorem Pos.lt {i : Nat} {p k : Int} (h : D.Pos i p k) (hk : k < (D.rowsAt p).length) : i < D.N := by
  have := S_get h hk
  obtain ⟨q, j, rfl, rfl, hq, hj, e⟩ := h
  rw [List.getElem?_eq_getElem (l := D.rowsAt _) (by lia)] at this
  exact (List.getElem?_eq_some_iff.mp this).1
theorem Pos.last {i : Nat} {p k : Int} (h : D.Pos i p k) (hk : ¬ k < (D.rowsAt p).length) (hp : D.fin ≤ p) : i = D.N ∧ p = D.fin ∧ k = (D.ahd D.fin).length := by
  obtain ⟨q, j, rfl, rfl, hq, hj, rfl⟩ := h
  have e : q = D.text.length := by unfold VD.fin at hp; lia
  subst e
  have e2 : ((D.text.length : Int) + 1) = D.fin := by unfold VD.fin; lia
  refine ⟨?_, e2, ?_⟩
  · rw [N_eq, VD.off]; lia
  · have : (D.rowsAt D.fin).length = (D.ahd D.fin).length := by simp [VD.rowsAt]
    rw [e2] at hk hj
    lia
theorem Pos.after {i : Nat} {p k : Int} (h : D.Pos i p k) (hk : ¬ k < (D.rowsAt p).length) (hp : p < D.fin) : D.Pos i (p + 1) (k - (D.rowsAt p).length) := by
  obtain ⟨q, j, rfl, rfl, hq, hj, rfl⟩ := h
  refine ⟨q + 1, 0, by lia, by lia, by unfold VD.fin at hp; lia, Nat.zero_le _, ?_⟩
  rw [VD.off]; lia
theorem Pos.step {i : Nat} {p k : Int} (h : D.Pos i p k) (hk : k < (D.rowsAt p).length) : D.Pos (i + 1) p (k + 1) := by
  obtain ⟨q, j, rfl, rfl, hq, hj, rfl⟩ := h
  exact ⟨q, j + 1, rfl, rfl, hq, by lia, by lia⟩
theorem Pos.bounds {i : Nat} {p k : Int} (h : D.Pos i p k) : 1 ≤ p ∧ p ≤ D.fin ∧ 0 ≤ k ∧ k ≤ (D.rowsAt p).length := by
  obtain ⟨q, j, rfl, rfl, hq, hj, rfl⟩ := h
  unfold VD.fin; lia
theorem Spot.pos {i : Nat} {p k : Int} (h : D.Spot i p k) : D.Pos i p k := h.1
theorem rowsAt_len (p : Int) : (D.rowsAt p).length = (D.ahd p).length + (if p < D.fin then 1 else 0) := by
  unfold VD.rowsAt
  split <;> simp
theorem off_mono {a b : Nat} (h : a ≤ b) : D.off a ≤ D.off b := by
  induction h with
  | refl => exact Nat.le_refl _
  | step _ ih => rw [VD.off]; lia
theorem off_lt {a b : Nat} (h : a < b) (hb : b ≤ D.text.length) : D.off a < D.off b := by
  have h1 : D.off (a + 1) ≤ D.off b := off_mono h
  have h2 : D.off (a + 1) = D.off a + (D.rowsAt ((a : Int) + 1)).length := rfl
  have h3 := rowsAt_len (D := D) ((a : Int) + 1)
  rw [if_pos (by unfold VD.fin; lia)] at h3
  lia
theorem Spot.lt_iff {i i' : Nat} {p k p' k' : Int} (h : D.Spot i p k) (h' : D.Spot i' p' k') : (p < p' ∨ p = p' ∧ k < k') ↔ i < i' := by
  obtain ⟨⟨q, j, rfl, rfl, hq, hj, rfl⟩, n⟩ := h
  obtain ⟨⟨q', j', rfl, rfl, hq', hj', rfl⟩, n'⟩ := h'
  have nq : q < D.text.length → j < (D.rowsAt ((q : Int) + 1)).length := fun hl => by
    rcases n with n | n
    · lia
    · unfold VD.fin at n; lia
  have nq' : q' < D.text.length → j' < (D.rowsAt ((q' : Int) + 1)).length := fun hl => by
    rcases n' with n' | n'
    · lia
    · unfold VD.fin at n'; lia
  have e1 : D.off (q + 1) = D.off q + (D.rowsAt ((q : Int) + 1)).length := rfl
  have e2 : D.off (q' + 1) = D.off q' + (D.rowsAt ((q' : Int) + 1)).length := rfl
  rcases Nat.lt_trichotomy q q' with h | h | h
  · have := off_mono (D := D) (show q + 1 ≤ q' from h)
    have := nq (by lia)
    constructor <;> intro _ <;> lia
  · subst h
    constructor <;> intro _ <;> lia
  · have := off_mono (D := D) (show q' + 1 ≤ q from h)
    have := nq' (by lia)
    constructor <;> intro _ <;> lia
theorem Spot.inj {i : Nat} {p k p' k' : Int} (h : D.Spot i p k) (h' : D.Spot i p' k') : p = p' ∧ k = k' := by
  have a := (Spot.lt_iff h h')
  have b := (Spot.lt_iff h' h)
  have a' := mt a.mp (Nat.lt_irrefl i)
  have b' := mt b.mp (Nat.lt_irrefl i)
  lia
theorem br1 {b : Bool} {X Y : Prop} (h : b = true) (x : X) : (b = true → X) ∧ (b = false → Y) := ⟨fun _ => x, fun z => by rw [h] at z; cases z⟩
theorem br0 {b : Bool} {X Y : Prop} (h : b = false) (y : Y) : (b = true → X) ∧ (b = false → Y) := ⟨fun z => (by rw [h] at z; cases z), fun _ => y⟩
structure And3 (a b c : Prop) : Prop where mk :: (h1 : a) (h2 : b) (h3 : c)
structure And4 (a b c d : Prop) : Prop where mk :: (h1 : a) (h2 : b) (h3 : c) (h4 : d)
inductive Has {α : Type} (p q : α → Prop) : Prop
  | mk (x : α) (hp : p x) (hq : q x) : Has p q
inductive All2 {α β : Type} (P : α → β → Prop) : List α → List β → Prop
  | nil : All2 P [] []
  | cons {x : α} {v : β} {xs : List α} {vs : List β} : P x v → All2 P xs vs → All2 P (x :: xs) (v :: vs)
namespace All2
variable {α β : Type} {P P' : α → β → Prop} {xs ys : List α} {vs us : List β} {x : α} {v : β}
theorem length (h : All2 P xs vs) : vs.length = xs.length := by induction h with | nil => rfl | cons _ _ ih => simp [ih]
theorem append (h : All2 P xs vs) (h' : All2 P ys us) : All2 P (xs ++ ys) (vs ++ us) := by induction h with | nil => exact h' | cons a _ ih => exact .cons a ih
theorem one (h : P x v) : All2 P [x] [v] := .cons h .nil
theorem snoc (h : All2 P xs vs) (h' : P x v) : All2 P (xs ++ [x]) (vs ++ [v]) := h.append (one h')
theorem mono (k : ∀ x v, P x v → P' x v) (h : All2 P xs vs) : All2 P' xs vs := by induction h with | nil => exact .nil | cons a _ ih => exact .cons (k _ _ a) ih
theorem get (h : All2 P xs vs) {i : Nat} (e : xs[i]? = some x) : Has (fun v => vs[i]? = some v) (P x) := by
  induction h generalizing i with
  | nil => cases e
  | cons a _ ih => cases i with
    | zero => cases e; exact ⟨_, rfl, a⟩
    | succ i => exact ih e
theorem get' (h : All2 P xs vs) {i : Nat} (e : vs[i]? = some v) : Has (fun x => xs[i]? = some x) (fun x => P x v) := by
  induction h generalizing i with
  | nil => cases e
  | cons a _ ih => cases i with
    | zero => cases e; exact ⟨_, rfl, a⟩
    | succ i => exact ih e
theorem drop (h : All2 P xs vs) (k : Nat) : All2 P (xs.drop k) (vs.drop k) := by
  induction h generalizing k with
  | nil => simp; exact .nil
  | cons a h ih => cases k with
    | zero => exact .cons a h
    | succ k => exact ih k
theorem take (h : All2 P xs vs) (k : Nat) : All2 P (xs.take k) (vs.take k) := by
  induction h generalizing k with
  | nil => simp; exact .nil
  | cons a h ih => cases k with
    | zero => exact .nil
    | succ k => exact .cons a (ih k)
end All2
theorem take_snoc {α : Type} {xs : List α} {i : Nat} {x : α} (h : xs[i]? = some x) : xs.take (i + 1) = xs.take i ++ [x] := by
  obtain ⟨hi, e⟩ := List.getElem?_eq_some_iff.mp h
  rw [List.take_succ_eq_append_getElem hi, e]
namespace VD
variable (D : VD) (room : Nat)
def run (i : Nat) : Nat := (((D.S.drop i).take room).takeWhile fun s => s.1 != 10).length
def isNl (j : Nat) : Bool := match D.S[j]? with | some s => s.1 == 10 | none => false
def nxt (i : Nat) : Nat := if D.isNl (i + D.run room i) then i + D.run room i + 1 else i + D.run room i
def isEnd (i : Nat) : Bool := decide (D.N ≤ i + D.run room i)
def isBrk (i : Nat) : Bool := match D.S[i + D.run room i]? with | some s => s.1 == 10 && s.2 != -1 | none => false
def shown (i : Nat) : List Int := ((D.S.drop i).take (D.run room i)).map (·.2)
end VD
theorem takeWhile_len {α : Type} (p : α → Bool) : ∀ (l : List α) (g : Nat), (∀ j, j < g → ∃ x, l[j]? = some x ∧ p x = true) → (∀ x, l[g]? = some x → p x = false) → (l.takeWhile p).length = g
  | [], 0, _, _ => rfl
  | [], g + 1, h, _ => by obtain ⟨x, h, _⟩ := h 0 (Nat.succ_pos _); cases h
  | x :: l, 0, _, h => by rw [List.takeWhile_cons, h x rfl]; rfl
  | x :: l, g + 1, h, h' => by
    obtain ⟨y, e, hp⟩ := h 0 (Nat.succ_pos _)
    cases e
    rw [List.takeWhile_cons, hp, if_pos rfl, List.length_cons, takeWhile_len p l g (fun j hj => h (j + 1) (Nat.succ_lt_succ hj)) fun x hx => h' x hx]
theorem run_eq {room i g : Nat} (h : ∀ j, j < g → ∃ x, D.S[i + j]? = some x ∧ x.1 ≠ 10) (hg : g ≤ room) (h' : g = room ∨ ∀ x, D.S[i + g]? = some x → x.1 = 10) : D.run room i = g := by
  unfold VD.run
  refine takeWhile_len _ _ _ (fun j hj => ?_) fun x hx => ?_
  · obtain ⟨x, e, hn⟩ := h j hj
    exact ⟨x, by rw [List.getElem?_take_of_lt (by lia), List.getElem?_drop]; exact e, by simpa using hn⟩
  · rcases h' with rfl | h'
    · rw [List.getElem?_take_eq_none (Nat.le_refl _)] at hx; cases hx
    · by_cases hl : g < room
      · rw [List.getElem?_take_of_lt hl, List.getElem?_drop] at hx
        simp [h' x hx]
      · rw [List.getElem?_take_eq_none (by lia)] at hx; cases hx
theorem S_text {i : Nat} {x : Int × Int} (h : D.S[i]? = some x) (hx : x.2 ≠ -1) : x.1 = D.code x.2 := by
  have hm := List.mem_of_getElem? h
  unfold VD.S at hm
  obtain ⟨q, _, hm⟩ := List.mem_flatMap.mp hm
  unfold VD.rowsAt at hm
  rcases List.mem_append.mp hm with hm | hm
  · obtain ⟨c, _, rfl⟩ := List.mem_map.mp hm; exact absurd rfl hx
  · split at hm
    · rw [List.mem_singleton] at hm; rw [hm]
    · cases hm
theorem S_none {i : Nat} (h : D.N ≤ i) : D.S[i]? = none := List.getElem?_eq_none h
namespace VD
variable (D : VD) (room : Nat)
def rowsFrom : Nat → Nat → List Nat
  | 0, _ => []
  | h + 1, i => i :: (if D.isEnd room i then [] else rowsFrom h (D.nxt room i))
def lineFrom : Nat → Nat → List Nat
  | 0, _ => []
  | f + 1, i => i :: (if D.isBrk room i || D.isEnd room i then [] else lineFrom f (D.nxt room i))
end VD
theorem takeWhile_stop {α : Type} (p : α → Bool) : ∀ (l : List α), (l.takeWhile p).length < l.length → ∃ x, l[(l.takeWhile p).length]? = some x ∧ p x = false
  | [], h => absurd h (Nat.lt_irrefl _)
  | x :: l, h => by
    rw [List.takeWhile_cons] at h ⊢
    cases hp : p x with
    | false => rw [hp] at h; exact ⟨x, rfl, hp⟩
    | true =>
      rw [hp] at h
      simp only [if_true, List.length_cons] at h ⊢
      exact takeWhile_stop p l (Nat.lt_of_succ_lt_succ h)
theorem run_stop {room i : Nat} (h : i + D.run room i < D.N) (hn : D.isNl (i + D.run room i) = false) : D.run room i = room := by
  have hle : D.run room i ≤ ((D.S.drop i).take room).length := (List.takeWhile_sublist _).length_le
  have hl : ((D.S.drop i).take room).length = min room (D.N - i) := by rw [List.length_take, List.length_drop]; rfl
  by_cases hlt : D.run room i < ((D.S.drop i).take room).length
  · obtain ⟨x, e, hp⟩ := takeWhile_stop (fun s : Int × Int => s.1 != 10) ((D.S.drop i).take room) hlt
    have e' : D.S[i + D.run room i]? = some x := by
      rw [← List.getElem?_drop]
      rw [List.getElem?_take_of_lt (by show D.run room i < room; lia)] at e
      exact e
    unfold VD.isNl at hn
    rw [e'] at hn
    simp at hp hn
    exact absurd hp hn
  · lia
theorem nxt_gt {room i : Nat} (hr : 2 ≤ room) (h : D.isEnd room i = false) : i < D.nxt room i ∧ D.nxt room i ≤ D.N := by
  have h1 : i + D.run room i < D.N := by
    unfold VD.isEnd at h
    have := of_decide_eq_false h
    lia
  unfold VD.nxt
  split
  · lia
  · rename_i hn
    have := run_stop h1 (by simpa using hn)
    lia
namespace VD
variable (D : VD) (room : Nat)
/-- the begin of the line of a place, both told as place - 1 -/
def lb : Nat → Nat
  | 0 => 0
  | q + 1 => if D.code ((q : Int) + 1) = 10 then q + 1 else lb q
def seen (is : List Nat) (s : Nat) : Nat := min (is.findIdx fun i => decide (s < D.nxt room i)) (is.length - 1)
def colOf (i : Nat) (p : Int) : Nat := (D.shown room i).findIdx fun x => decide (p ≤ x)
def hasP (is : List Nat) (s : Nat) : Bool := match is.head?, is.getLast? with | some a, some b => !decide (s < a) && (decide (s < D.nxt room b) || D.isEnd room b) | _, _ => false
end VD
theorem findIdx_at {α : Type} (p : α → Bool) : ∀ (l : List α) (i : Nat) (x : α), l[i]? = some x → p x = true → (∀ (j : Nat) (y : α), j < i → l[j]? = some y → p y = false) → l.findIdx p = i
  | [], _, _, h, _, _ => by cases h
  | a :: l, 0, x, h, hp, _ => by cases h; rw [List.findIdx_cons, hp]; rfl
  | a :: l, i + 1, x, h, hp, hn => by
    have h0 := hn 0 a (Nat.succ_pos _) rfl
    rw [List.findIdx_cons, h0]
    have := findIdx_at p l i x h hp fun j y hj hy => hn (j + 1) y (Nat.succ_lt_succ hj) hy
    simp [this]
theorem findIdx_no {α : Type} (p : α → Bool) : ∀ (l : List α), (∀ (j : Nat) (y : α), l[j]? = some y → p y = false) → l.findIdx p = l.length
  | [], _ => rfl
  | a :: l, hn => by
    have h0 := hn 0 a rfl
    rw [List.findIdx_cons, h0]
    have := findIdx_no p l fun j y hy => hn (j + 1) y hy
    simp [this]

end
-- PB
section
set_option Elab.async false
namespace VD
variable (D : VD) (room : Nat)
/-- the place of a sign's index, less one -/
def plGo (i : Nat) : Nat → Nat
  | 0 => 0
  | q + 1 => if D.off (q + 1) ≤ i then q + 1 else plGo i q
def pl (i : Nat) : Nat := D.plGo i D.text.length
def chain (i : Nat) : List Nat := D.rowsFrom room (D.N + 1) i
def line (i : Nat) : List Nat := D.lineFrom room (D.N + 1) i
def due : List Nat := D.chain room 0
def TN (x : Nat) : Prop := ∃ s, D.S[x]? = some s ∧ s.1 = 10 ∧ s.2 ≠ -1
/-- the sign's index of a place's own spot -/
def own (q : Nat) : Nat := D.off q + (D.ahd ((q : Int) + 1)).length
/-- the line that begins behind place bq stands at row a0 -/
structure LS (bq a0 : Nat) : Prop where
  le : bq ≤ D.text.length
  lb : D.lb bq = bq
  dr : (D.due room).drop a0 = D.chain room (D.off bq)
end VD
variable {D : VD} {room : Nat}
theorem plGo_eq {i q : Nat} (h1 : D.off q ≤ i) : ∀ n, q ≤ n → (∀ q', q < q' → q' ≤ n → i < D.off q') → D.plGo i n = q
  | 0, hn, h2 => by rw [VD.plGo]; lia
  | n + 1, hn, h2 => by
    rw [VD.plGo]
    by_cases e : q = n + 1
    · rw [if_pos (by rw [← e]; exact h1), e]
    · rw [if_neg (by have := h2 (n + 1) (by lia) (Nat.le_refl _); lia)]
      exact plGo_eq h1 n (by lia) fun q' a b => h2 q' a (by lia)
theorem pl_eq {i q : Nat} (h1 : D.off q ≤ i) (hq : q ≤ D.text.length) (h2 : q < D.text.length → i < D.off (q + 1)) : D.pl i = q := by
  refine plGo_eq h1 _ hq fun q' a b => ?_
  have := h2 (by lia)
  have := off_mono (D := D) (show q + 1 ≤ q' from a)
  lia
theorem Spot.pl {i : Nat} {p k : Int} (h : D.Spot i p k) : p = (D.pl i : Int) + 1 ∧ k = i - D.off (D.pl i) := by
  obtain ⟨⟨q, j, rfl, rfl, hq, hj, rfl⟩, n⟩ := h
  have e : D.pl (D.off q + j) = q := by
    refine pl_eq (by lia) hq fun hl => ?_
    rw [VD.off]
    rcases n with n | n
    · lia
    · unfold VD.fin at n; lia
  rw [e]
  lia
theorem plGo_le {i : Nat} : ∀ n, D.plGo i n ≤ n
  | 0 => Nat.le_refl _
  | n + 1 => by
    rw [VD.plGo]
    split
    · exact Nat.le_refl _
    · exact Nat.le_succ_of_le (plGo_le n)
theorem pl_le {i : Nat} : D.pl i ≤ D.text.length := plGo_le _
theorem plGo_off {i : Nat} : ∀ n, D.off (D.plGo i n) ≤ i
  | 0 => Nat.zero_le _
  | n + 1 => by
    rw [VD.plGo]
    split
    · assumption
    · exact plGo_off n
theorem pl_off (i : Nat) : D.off (D.pl i) ≤ i := plGo_off _
theorem plGo_gt {i q : Nat} : ∀ n, D.plGo i n < q → q ≤ n → i < D.off q
  | 0, h, h' => by rw [VD.plGo] at h; lia
  | n + 1, h, h' => by
    rw [VD.plGo] at h
    split at h
    · lia
    · by_cases e : q = n + 1
      · rw [e]; lia
      · exact plGo_gt n h (by lia)
theorem pl_lt_iff {i q : Nat} (hq : q ≤ D.text.length) : D.pl i < q ↔ i < D.off q := by
  constructor
  · exact fun h => plGo_gt _ h hq
  · intro h
    have h1 := pl_off (D := D) i
    by_cases h2 : D.pl i < q
    · exact h2
    · have := off_mono (D := D) (show q ≤ D.pl i by lia)
      lia
theorem pl_at {q : Nat} (hq : q ≤ D.text.length) : D.pl (D.off q) = q := pl_eq (Nat.le_refl _) hq fun h => off_lt (Nat.lt_succ_self _) h
theorem pl_mono {i i' : Nat} (h : i ≤ i') : D.pl i ≤ D.pl i' := by
  by_cases h2 : D.pl i ≤ D.pl i'
  · exact h2
  · have := (pl_lt_iff (D := D) (i := i') (q := D.pl i) pl_le).mp (by lia)
    have := pl_off (D := D) i
    lia
theorem off_T : D.off (D.text.length + 1) = D.N := N_eq.symm
theorem off_len_le {q : Nat} (hq : q ≤ D.text.length) : D.off q ≤ D.N := by rw [N_eq]; exact off_mono (by lia)
theorem pl_spot {i : Nat} (hi : i ≤ D.N) : D.Spot i ((D.pl i : Int) + 1) (i - D.off (D.pl i)) := by
  have h1 := pl_off (D := D) i
  have h2 := pl_le (D := D) (i := i)
  have h3 : D.pl i < D.text.length → i < D.off (D.pl i + 1) := fun h => (pl_lt_iff (D := D) (by lia)).mp (Nat.lt_succ_self _)
  have h4 : D.off (D.pl i + 1) = D.off (D.pl i) + (D.rowsAt ((D.pl i : Int) + 1)).length := rfl
  have h5 := off_T (D := D)
  refine ⟨⟨D.pl i, i - D.off (D.pl i), rfl, by lia, h2, ?_, by lia⟩, ?_⟩
  · by_cases h : D.pl i < D.text.length
    · have := h3 h; lia
    · have e : D.pl i = D.text.length := by lia
      rw [e] at h4 h1 ⊢; lia
  · by_cases h : D.pl i < D.text.length
    · left; have := h3 h; lia
    · right; unfold VD.fin; lia
theorem own_spot {q : Nat} (hq : q ≤ D.text.length) : D.Spot (D.own q) ((q : Int) + 1) (D.ahd ((q : Int) + 1)).length := by
  have h := rowsAt_len (D := D) ((q : Int) + 1)
  refine ⟨⟨q, _, rfl, rfl, hq, by lia, rfl⟩, ?_⟩
  by_cases hl : q < D.text.length
  · left
    rw [if_pos (by unfold VD.fin; lia)] at h
    lia
  · right; unfold VD.fin; lia
theorem own_lt {q : Nat} (hq : q < D.text.length) : D.off (q + 1) = D.own q + 1 := by
  have h := rowsAt_len (D := D) ((q : Int) + 1)
  rw [if_pos (by unfold VD.fin; lia)] at h
  rw [VD.off, VD.own]; lia
theorem own_T : D.own D.text.length = D.N := by
  have h := rowsAt_len (D := D) ((D.text.length : Int) + 1)
  rw [if_neg (by unfold VD.fin; lia)] at h
  rw [N_eq, VD.off, VD.own]; lia
/-! signs -/
theorem off_inv {x : Nat} : ∀ n, x < D.off n → ∃ q j, q < n ∧ j < (D.rowsAt ((q : Int) + 1)).length ∧ x = D.off q + j
  | 0, h => absurd h (Nat.not_lt_zero _)
  | n + 1, h => by
    by_cases h' : x < D.off n
    · obtain ⟨q, j, a, b, c⟩ := off_inv n h'
      exact ⟨q, j, by lia, b, c⟩
    · rw [VD.off] at h
      exact ⟨n, x - D.off n, by lia, by lia, by lia⟩
theorem TN_place {x : Nat} (h : D.TN x) : ∃ q, q < D.text.length ∧ x + 1 = D.off (q + 1) ∧ D.code ((q : Int) + 1) = 10 := by
  obtain ⟨s, hs, h1, h2⟩ := h
  have hx : x < D.N := (List.getElem?_eq_some_iff.mp hs).1
  rw [N_eq] at hx
  obtain ⟨q, j, hq, hj, e⟩ := off_inv _ hx
  have g := S_get (D := D) (i := x) (p := (q : Int) + 1) (k := (j : Int)) ⟨q, j, rfl, rfl, by lia, by lia, e⟩ (by lia)
  rw [hs, Int.toNat_natCast] at g
  have hl := rowsAt_len (D := D) ((q : Int) + 1)
  unfold VD.rowsAt at g
  by_cases hja : j < (D.ahd ((q : Int) + 1)).length
  · rw [List.getElem?_append_left (by rw [List.length_map]; exact hja), List.getElem?_map, List.getElem?_eq_getElem hja] at g
    cases g; exact absurd rfl h2
  · by_cases hp : (q : Int) + 1 < D.fin
    · rw [if_pos hp] at hl
      have ej : j = (D.ahd ((q : Int) + 1)).length := by lia
      subst ej
      rw [if_pos hp, List.getElem?_append_right (by rw [List.length_map]; exact Nat.le_refl _), List.length_map, Nat.sub_self] at g
      cases g
      refine ⟨q, by unfold VD.fin at hp; lia, ?_, h1⟩
      rw [VD.off]; lia
    · rw [if_neg hp] at hl; lia
theorem place_TN {q : Nat} (hq : q < D.text.length) (hc : D.code ((q : Int) + 1) = 10) : D.TN (D.own q) := by
  have hl := rowsAt_len (D := D) ((q : Int) + 1)
  have hp : (q : Int) + 1 < D.fin := by unfold VD.fin; lia
  rw [if_pos hp] at hl
  have g := S_get (D := D) (own_spot (D := D) (Nat.le_of_lt hq)).1 (by lia)
  rw [Int.toNat_natCast] at g
  unfold VD.rowsAt at g
  rw [if_pos hp, List.getElem?_append_right (by rw [List.length_map]; exact Nat.le_refl _), List.length_map, Nat.sub_self] at g
  exact ⟨_, g, hc, by show (q : Int) + 1 ≠ -1; lia⟩
theorem lb_facts : ∀ q, D.lb q ≤ q ∧ D.lb (D.lb q) = D.lb q ∧ ∀ q', D.lb q ≤ q' → q' < q → D.code ((q' : Int) + 1) ≠ 10
  | 0 => ⟨Nat.le_refl _, rfl, fun q' _ h => absurd h (Nat.not_lt_zero _)⟩
  | q + 1 => by
    by_cases hc : D.code ((q : Int) + 1) = 10
    · have e : D.lb (q + 1) = q + 1 := by rw [VD.lb, if_pos hc]
      rw [e, e]
      exact ⟨Nat.le_refl _, rfl, fun q' a b => by lia⟩
    · have e : D.lb (q + 1) = D.lb q := by rw [VD.lb, if_neg hc]
      obtain ⟨h1, h2, h3⟩ := lb_facts q
      rw [e]
      refine ⟨by lia, h2, fun q' a b => ?_⟩
      by_cases e' : q' = q
      · rw [e']; exact hc
      · exact h3 q' a (by lia)
/-- the first newline of the text behind a line's begin -/
theorem TN_first {q x : Nat} (h : D.TN x) (hx : D.off (D.lb q) ≤ x) : ∃ q', q ≤ q' ∧ q' < D.text.length ∧ x + 1 = D.off (q' + 1) ∧ D.code ((q' : Int) + 1) = 10 := by
  obtain ⟨q', h1, h2, h3⟩ := TN_place h
  obtain ⟨l1, l2, l3⟩ := lb_facts (D := D) q
  refine ⟨q', ?_, h1, h2, h3⟩
  by_cases hq : q ≤ q'
  · exact hq
  · by_cases hb : D.lb q ≤ q'
    · exact absurd h3 (l3 q' hb (by lia))
    · have := off_mono (D := D) (show q' + 1 ≤ D.lb q by lia)
      lia
theorem run_in {i x : Nat} (h : x < D.run room i) : ∃ s, D.S[i + x]? = some s ∧ s.1 ≠ 10 := by
  unfold VD.run at h
  have hall := List.all_takeWhile (l := (D.S.drop i).take room) (p := fun s : Int × Int => s.1 != 10)
  have hp := List.takeWhile_prefix (l := (D.S.drop i).take room) (fun s : Int × Int => s.1 != 10)
  rw [List.all_eq_true] at hall
  have h1 := hall _ (List.getElem_mem h)
  have h2 := hp.getElem h
  rw [h2] at h1
  simp only [List.getElem_take, List.getElem_drop] at h1
  exact ⟨_, List.getElem?_eq_getElem _, by simpa using h1⟩
theorem run_noTN {i x : Nat} (h1 : i ≤ x) (h2 : x < i + D.run room i) : ¬ D.TN x := by
  obtain ⟨s, e, hs⟩ := run_in (D := D) (room := room) (i := i) (x := x - i) (by lia)
  rw [show i + (x - i) = x by lia] at e
  rintro ⟨s', e', h, _⟩
  rw [e] at e'; cases e'; exact hs h
theorem brk_TN {i : Nat} (h : D.isBrk room i = true) : D.TN (i + D.run room i) ∧ D.nxt room i = i + D.run room i + 1 := by
  unfold VD.isBrk at h
  unfold VD.nxt VD.isNl VD.TN
  revert h
  cases D.S[i + D.run room i]? with
  | none => intro h; cases h
  | some s =>
    intro h
    simp at h
    refine ⟨⟨s, rfl, h.1, h.2⟩, ?_⟩
    simp [h.1]
theorem nobrk {i : Nat} (h : D.isBrk room i = false) : ¬ D.TN (i + D.run room i) := by
  unfold VD.isBrk at h
  rintro ⟨s, e, h1, h2⟩
  rw [e] at h
  simp [h1, h2] at h
theorem nxt_le {i : Nat} : D.nxt room i ≤ i + D.run room i + 1 := by unfold VD.nxt; split <;> lia
/-! chains -/
theorem rows_fuel (hr : 2 ≤ room) : ∀ f i f', i ≤ D.N → D.N - i < f → D.N - i < f' → D.rowsFrom room f i = D.rowsFrom room f' i
  | 0, _, _, _, h, _ => absurd h (Nat.not_lt_zero _)
  | f + 1, i, 0, _, _, h => absurd h (Nat.not_lt_zero _)
  | f + 1, i, f' + 1, hi, h, h' => by
    rw [VD.rowsFrom, VD.rowsFrom]
    cases hE : D.isEnd room i with
    | true => rfl
    | false =>
      obtain ⟨a, b⟩ := nxt_gt hr hE
      simp only [Bool.false_eq_true, if_false]
      rw [rows_fuel hr f _ f' b (by lia) (by lia)]
theorem line_fuel (hr : 2 ≤ room) : ∀ f i f', i ≤ D.N → D.N - i < f → D.N - i < f' → D.lineFrom room f i = D.lineFrom room f' i
  | 0, _, _, _, h, _ => absurd h (Nat.not_lt_zero _)
  | f + 1, i, 0, _, _, h => absurd h (Nat.not_lt_zero _)
  | f + 1, i, f' + 1, hi, h, h' => by
    rw [VD.lineFrom, VD.lineFrom]
    cases hE : D.isBrk room i || D.isEnd room i with
    | true => rfl
    | false =>
      obtain ⟨a, b⟩ := nxt_gt hr (Bool.or_eq_false_iff.mp hE).2
      simp only [Bool.false_eq_true, if_false]
      rw [line_fuel hr f _ f' b (by lia) (by lia)]
theorem chain_eq (hr : 2 ≤ room) {i : Nat} (hi : i ≤ D.N) : D.chain room i = i :: (if D.isEnd room i then [] else D.chain room (D.nxt room i)) := by
  unfold VD.chain
  rw [VD.rowsFrom]
  cases hE : D.isEnd room i with
  | true => rfl
  | false =>
    obtain ⟨a, b⟩ := nxt_gt hr hE
    simp only [Bool.false_eq_true, if_false]
    rw [rows_fuel hr _ _ (D.N + 1) b (by lia) (by lia)]
theorem line_eq (hr : 2 ≤ room) {i : Nat} (hi : i ≤ D.N) : D.line room i = i :: (if D.isBrk room i || D.isEnd room i then [] else D.line room (D.nxt room i)) := by
  unfold VD.line
  rw [VD.lineFrom]
  cases hE : D.isBrk room i || D.isEnd room i with
  | true => rfl
  | false =>
    obtain ⟨a, b⟩ := nxt_gt hr (Bool.or_eq_false_iff.mp hE).2
    simp only [Bool.false_eq_true, if_false]
    rw [line_fuel hr _ _ (D.N + 1) b (by lia) (by lia)]
theorem line_facts (hr : 2 ≤ room) : ∀ f i, i ≤ D.N → D.N - i < f → ∃ l pre, D.line room i = pre ++ [l] ∧ i ≤ l ∧ l ≤ D.N ∧ (∀ x, i ≤ x → x < l + D.run room l → ¬ D.TN x) ∧ (D.isBrk room l = true ∨ D.isEnd room l = true) ∧ D.chain room i = pre ++ D.chain room l
  | 0, _, _, h => absurd h (Nat.not_lt_zero _)
  | f + 1, i, hi, h => by
    rw [line_eq hr hi]
    cases hE : D.isBrk room i || D.isEnd room i with
    | true => exact ⟨i, [], rfl, Nat.le_refl _, hi, fun x a b => run_noTN a b, by simpa using hE, rfl⟩
    | false =>
      obtain ⟨hB, hE'⟩ := Bool.or_eq_false_iff.mp hE
      obtain ⟨a, b⟩ := nxt_gt hr hE'
      obtain ⟨l, pre, e1, e2, e3, e4, e5, e6⟩ := line_facts hr f (D.nxt room i) b (by lia)
      refine ⟨l, i :: pre, ?_, by lia, e3, fun x h1 h2 => ?_, e5, ?_⟩
      · simp only [Bool.false_eq_true, if_false]; rw [e1]; rfl
      · by_cases hx : D.nxt room i ≤ x
        · exact e4 x hx h2
        · by_cases hx2 : x < i + D.run room i
          · exact run_noTN h1 hx2
          · have := nxt_le (D := D) (room := room) (i := i)
            rw [show x = i + D.run room i by lia]
            exact nobrk hB
      · rw [chain_eq hr hi, hE']; simp only [Bool.false_eq_true, if_false]; rw [e6]; rfl
theorem line_last (hr : 2 ≤ room) {i : Nat} (hi : i ≤ D.N) : ∃ l pre, D.line room i = pre ++ [l] ∧ i ≤ l ∧ l ≤ D.N ∧ (∀ x, i ≤ x → x < l + D.run room l → ¬ D.TN x) ∧ (D.isBrk room l = true ∨ D.isEnd room l = true) ∧ D.chain room i = pre ++ D.chain room l := line_facts hr _ i hi (Nat.lt_succ_self _)

end
-- PC
section
set_option Elab.async false
variable {D : VD} {room : Nat}
theorem chain_step (hr : 2 ≤ room) : ∀ j i x, i ≤ D.N → (D.chain room i)[j]? = some x → x ≤ D.N ∧ i ≤ x ∧ (D.chain room i).drop j = D.chain room x
  | 0, i, x, hi, h => by
    rw [chain_eq hr hi] at h
    cases h
    exact ⟨hi, Nat.le_refl _, rfl⟩
  | j + 1, i, x, hi, h => by
    rw [chain_eq hr hi] at h ⊢
    cases hE : D.isEnd room i with
    | true => rw [hE] at h; cases h
    | false =>
      rw [hE] at h
      obtain ⟨a, b⟩ := nxt_gt hr hE
      obtain ⟨c, d, e⟩ := chain_step hr j (D.nxt room i) x b h
      exact ⟨c, by lia, e⟩
theorem chain_ne (i : Nat) : D.chain room i ≠ [] := by unfold VD.chain; rw [VD.rowsFrom]; exact List.cons_ne_nil _ _
theorem chain_pos (i : Nat) : 0 < (D.chain room i).length := List.length_pos_iff.mpr (chain_ne i)
theorem due_drop (hr : 2 ≤ room) {a x : Nat} (h : (D.due room)[a]? = some x) : x ≤ D.N ∧ (D.due room).drop a = D.chain room x := by
  obtain ⟨a1, a2, a3⟩ := chain_step hr a 0 x (Nat.zero_le _) h
  exact ⟨a1, a3⟩
theorem due_next (hr : 2 ≤ room) {a x : Nat} (h : (D.due room)[a]? = some x) : (D.isEnd room x = true ∧ a + 1 = (D.due room).length) ∨ (D.isEnd room x = false ∧ x < D.nxt room x ∧ (D.due room)[a + 1]? = some (D.nxt room x)) := by
  obtain ⟨hx, hd⟩ := due_drop hr h
  rw [chain_eq hr hx] at hd
  have hl := congrArg List.length hd
  rw [List.length_drop] at hl
  cases hE : D.isEnd room x with
  | true =>
    rw [hE] at hl
    simp at hl
    exact Or.inl ⟨rfl, by lia⟩
  | false =>
    rw [hE] at hd
    have h2 : (D.due room)[a + 1]? = ((D.due room).drop a)[1]? := by rw [List.getElem?_drop]
    rw [hd] at h2
    refine Or.inr ⟨rfl, (nxt_gt hr hE).1, ?_⟩
    rw [h2]
    simp only [Bool.false_eq_true, if_false]
    rw [List.getElem?_cons_succ, chain_eq hr (nxt_gt hr hE).2]
    rfl
theorem due_mono (hr : 2 ≤ room) {a x y : Nat} : ∀ d, (D.due room)[a]? = some x → (D.due room)[a + d]? = some y → x ≤ y ∧ (d ≠ 0 → D.nxt room x ≤ y)
  | 0, h, h' => by
    rw [Nat.add_zero, h] at h'; cases h'
    exact ⟨Nat.le_refl _, fun h => absurd rfl h⟩
  | d + 1, h, h' => by
    rcases due_next hr h with ⟨hE, e⟩ | ⟨hE, hl, e⟩
    · have := (List.getElem?_eq_some_iff.mp h').1; lia
    · have := (due_mono hr (a := a + 1) d e (by rw [← h']; congr 1; lia)).1
      exact ⟨by lia, fun _ => this⟩
namespace VD.LS
variable {b a : Nat}
theorem lt (L : VD.LS D room b a) : a < (D.due room).length := by
  have h := congrArg List.length L.dr
  have := chain_pos (D := D) (room := room) (D.off b)
  rw [List.length_drop] at h; lia
theorem at' (L : VD.LS D room b a) (hr : 2 ≤ room) : (D.due room)[a]? = some (D.off b) := by
  have h : (D.due room)[a]? = ((D.due room).drop a)[0]? := by rw [List.getElem?_drop]; rfl
  rw [h, L.dr, chain_eq hr (off_len_le L.le)]
  rfl
theorem uniq {a' : Nat} (L : VD.LS D room b a) (L' : VD.LS D room b a') : a = a' := by
  have h := congrArg List.length L.dr
  have h' := congrArg List.length L'.dr
  have := chain_pos (D := D) (room := room) (D.off b)
  rw [List.length_drop] at h h'; lia
theorem zero : VD.LS D room 0 0 := ⟨Nat.zero_le _, rfl, rfl⟩
/-- the rows of the line within all rows -/
theorem split (L : VD.LS D room b a) (hr : 2 ≤ room) : ∃ l pre, D.line room (D.off b) = pre ++ [l] ∧ D.off b ≤ l ∧ l ≤ D.N ∧ (∀ x, D.off b ≤ x → x < l + D.run room l → ¬ D.TN x) ∧ (D.isBrk room l = true ∨ D.isEnd room l = true) ∧
    D.due room = (D.due room).take a ++ (D.line room (D.off b) ++ (if D.isEnd room l then [] else D.chain room (D.nxt room l))) := by
  obtain ⟨l, pre, e1, e2, e3, e4, e5, e6⟩ := line_last (D := D) hr (off_len_le L.le)
  refine ⟨l, pre, e1, e2, e3, e4, e5, ?_⟩
  have h := List.take_append_drop a (D.due room)
  rw [L.dr, e6, chain_eq hr e3] at h
  rw [e1, List.append_assoc]
  exact h.symm
theorem dropped (L : VD.LS D room b a) (hr : 2 ≤ room) {l : Nat} (hl : (D.line room (D.off b)).getLast? = some l) (hE : D.isEnd room l = false) : (D.due room).drop (a + (D.line room (D.off b)).length) = D.chain room (D.nxt room l) := by
  obtain ⟨l', pre, e1, e2, e3, e4, e5, e6⟩ := L.split hr
  have e : l' = l := by rw [e1, List.getLast?_concat] at hl; exact Option.some.inj hl
  subst e
  rw [hE] at e6
  have ha := L.lt
  have h1 : ((D.due room).take a).length = a := by rw [List.length_take]; lia
  conv => lhs; rw [e6]
  rw [List.drop_append, h1]
  have z : List.drop (a + (D.line room (D.off b)).length) ((D.due room).take a) = [] := List.drop_eq_nil_of_le (by lia)
  rw [z, List.nil_append, Nat.add_sub_cancel_left, List.drop_left]
  rfl
theorem ended (L : VD.LS D room b a) (hr : 2 ≤ room) {l : Nat} (hl : (D.line room (D.off b)).getLast? = some l) (hE : D.isEnd room l = true) : a + (D.line room (D.off b)).length = (D.due room).length := by
  obtain ⟨l', pre, e1, e2, e3, e4, e5, e6⟩ := L.split hr
  have e : l' = l := by rw [e1, List.getLast?_concat] at hl; exact Option.some.inj hl
  subst e
  rw [hE] at e6
  have ha := L.lt
  have h1 : ((D.due room).take a).length = a := by rw [List.length_take]; lia
  conv => rhs; rw [e6]
  simp [h1]
theorem get (L : VD.LS D room b a) (hr : 2 ≤ room) {k : Nat} (hk : k < (D.line room (D.off b)).length) : (D.line room (D.off b))[k]? = (D.due room)[a + k]? := by
  obtain ⟨l', pre, e1, e2, e3, e4, e5, e6⟩ := L.split hr
  have ha := L.lt
  have h1 : ((D.due room).take a).length = a := by rw [List.length_take]; lia
  conv => rhs; rw [e6]
  rw [List.getElem?_append_right (by lia), h1, Nat.add_sub_cancel_left, List.getElem?_append_left hk]
theorem len (L : VD.LS D room b a) (hr : 2 ≤ room) : 0 < (D.line room (D.off b)).length ∧ a + (D.line room (D.off b)).length ≤ (D.due room).length := by
  obtain ⟨l', pre, e1, e2, e3, e4, e5, e6⟩ := L.split hr
  have ha := L.lt
  have h1 : ((D.due room).take a).length = a := by rw [List.length_take]; lia
  have h2 := congrArg List.length e6
  rw [List.length_append, List.length_append, h1] at h2
  refine ⟨by rw [e1]; simp, by lia⟩
/-- the line behind -/
theorem next (L : VD.LS D room b a) (hr : 2 ≤ room) {l : Nat} (hl : (D.line room (D.off b)).getLast? = some l) (hE : D.isEnd room l = false) :
    ∃ b', D.nxt room l = D.off b' ∧ VD.LS D room b' (a + (D.line room (D.off b)).length) := by
  obtain ⟨l', pre, e1, e2, e3, e4, e5, e6⟩ := L.split hr
  have e : l' = l := by rw [e1, List.getLast?_concat] at hl; exact Option.some.inj hl
  subst e
  rw [hE] at e5
  obtain ⟨t1, t2⟩ := brk_TN (e5.resolve_right Bool.noConfusion)
  obtain ⟨q', a1, a2, a3, a4⟩ := TN_first (q := b) t1 (by rw [L.lb]; lia)
  refine ⟨q' + 1, by lia, by lia, by rw [VD.lb, if_pos a4], ?_⟩
  rw [L.dropped hr hl hE, t2, a3]
/-- the line that begins behind a newline -/
theorem step {q : Nat} (L : VD.LS D room (D.lb q) a) (hr : 2 ≤ room) (hq : q < D.text.length) (hc : D.code ((q : Int) + 1) = 10) : VD.LS D room (q + 1) (a + (D.line room (D.off (D.lb q))).length) := by
  obtain ⟨l, pre, e1, e2, e3, e4, e5, e6⟩ := L.split hr
  have hl : (D.line room (D.off (D.lb q))).getLast? = some l := by rw [e1, List.getLast?_concat]
  have tn := place_TN hq hc
  have tN : D.own q < D.N := by obtain ⟨s, hs, _⟩ := tn; exact (List.getElem?_eq_some_iff.mp hs).1
  have o1 := own_lt hq
  obtain ⟨l1, l2, l3⟩ := lb_facts (D := D) q
  have o2 := off_mono (D := D) l1
  have o3 : D.off q ≤ D.own q := Nat.le_add_right _ _
  have n1 : ¬ D.own q < l + D.run room l := fun h => e4 _ (by lia) h tn
  have hB : D.isBrk room l = true := e5.resolve_right fun h => by
    unfold VD.isEnd at h
    have := of_decide_eq_true h
    lia
  obtain ⟨t1, t2⟩ := brk_TN hB
  have hE : D.isEnd room l = false := by
    obtain ⟨s, hs, _⟩ := t1
    unfold VD.isEnd
    have := (List.getElem?_eq_some_iff.mp hs).1
    exact decide_eq_false (by have : l + D.run room l < D.N := this; lia)
  obtain ⟨q', a1, a2, a3, a4⟩ := TN_first (q := q) t1 (by lia)
  have := off_mono (D := D) (show q + 1 ≤ q' + 1 by lia)
  refine ⟨by lia, by rw [VD.lb, if_pos hc], ?_⟩
  rw [L.dropped hr hl hE, show D.nxt room l = D.off (q + 1) by lia]
end VD.LS
theorem LS_all (hr : 2 ≤ room) : ∀ n q, q < n → q ≤ D.text.length → D.lb q = q → ∃ a, VD.LS D room q a
  | 0, _, h, _, _ => absurd h (Nat.not_lt_zero _)
  | n + 1, 0, _, _, _ => ⟨0, .zero⟩
  | n + 1, q + 1, h, hq, hb => by
    obtain ⟨l1, l2, l3⟩ := lb_facts (D := D) q
    obtain ⟨a, L⟩ := LS_all hr n (D.lb q) (by lia) (by lia) l2
    have hc : D.code ((q : Int) + 1) = 10 := by
      by_cases hc : D.code ((q : Int) + 1) = 10
      · exact hc
      · rw [VD.lb, if_neg hc] at hb; lia
    exact ⟨_, L.step hr (by lia) hc⟩
theorem LS_of (hr : 2 ≤ room) {q : Nat} (hq : q ≤ D.text.length) : ∃ a, VD.LS D room (D.lb q) a := by
  obtain ⟨l1, l2, l3⟩ := lb_facts (D := D) q
  exact LS_all hr _ _ (Nat.lt_succ_self _) (by lia) l2
theorem VD.LS.before {q a : Nat} (L : VD.LS D room (q + 1) a) (hr : 2 ≤ room) : ∃ a', VD.LS D room (D.lb q) a' ∧ a = a' + (D.line room (D.off (D.lb q))).length := by
  have hq := L.le
  obtain ⟨a', L'⟩ := LS_of (D := D) (room := room) hr (q := q) (by lia)
  have hb := L.lb
  have l1 := (lb_facts (D := D) q).1
  have hc : D.code ((q : Int) + 1) = 10 := by
    by_cases hc : D.code ((q : Int) + 1) = 10
    · exact hc
    · rw [VD.lb, if_neg hc] at hb; lia
  exact ⟨a', L', L.uniq (L'.step hr (by lia) hc)⟩
/-! seen -/
theorem seen_at {is : List Nat} {s n x : Nat} (h : is[n]? = some x) (h1 : s < D.nxt room x ∨ n + 1 = is.length) (h2 : ∀ j y, j < n → is[j]? = some y → D.nxt room y ≤ s) : D.seen room is s = n := by
  unfold VD.seen
  have hn := (List.getElem?_eq_some_iff.mp h).1
  by_cases hx : s < D.nxt room x
  · rw [findIdx_at _ is n x h (by simpa using hx) fun j y a b => by simpa using h2 j y a b]
    lia
  · have hn' : n + 1 = is.length := h1.resolve_left hx
    rw [findIdx_no _ is fun j y b => ?_]
    · lia
    · have hj := (List.getElem?_eq_some_iff.mp b).1
      by_cases e : j = n
      · subst e; rw [h] at b; cases b; simpa using hx
      · simpa using h2 j y (by lia) b
theorem findIdx_before {α : Type} (p : α → Bool) : ∀ (l : List α) (j : Nat) (y : α), j < l.findIdx p → l[j]? = some y → p y = false
  | [], _, _, _, h => by cases h
  | a :: l, j, y, hj, h => by
    rw [List.findIdx_cons] at hj
    cases hp : p a with
    | true => rw [hp] at hj; exact absurd hj (Nat.not_lt_zero _)
    | false =>
      rw [hp] at hj
      cases j with
      | zero => cases h; exact hp
      | succ j => exact findIdx_before p l j y (Nat.lt_of_succ_lt_succ hj) h
theorem findIdx_here {α : Type} (p : α → Bool) : ∀ (l : List α) (y : α), l[l.findIdx p]? = some y → p y = true
  | [], _, h => by cases h
  | a :: l, y, h => by
    rw [List.findIdx_cons] at h
    cases hp : p a with
    | true => rw [hp] at h; cases h; exact hp
    | false => rw [hp] at h; exact findIdx_here p l y h
theorem seen_spec {is : List Nat} (s : Nat) (h : 0 < is.length) : ∃ x, is[D.seen room is s]? = some x ∧ (s < D.nxt room x ∨ D.seen room is s + 1 = is.length) ∧ ∀ j y, j < D.seen room is s → is[j]? = some y → D.nxt room y ≤ s := by
  have hlt : D.seen room is s < is.length := by unfold VD.seen; lia
  refine ⟨_, List.getElem?_eq_getElem hlt, ?_, fun j y a b => ?_⟩
  · by_cases e : D.seen room is s + 1 = is.length
    · exact Or.inr e
    · left
      have e2 : D.seen room is s = is.findIdx fun i => decide (s < D.nxt room i) := by unfold VD.seen at e ⊢; lia
      have := findIdx_here (fun i => decide (s < D.nxt room i)) is is[D.seen room is s] (by rw [← e2]; exact List.getElem?_eq_getElem hlt)
      simpa using this
  · have := findIdx_before (fun i => decide (s < D.nxt room i)) is j y (by unfold VD.seen at a; lia) b
    simpa using this
theorem seen_lt {is : List Nat} {s : Nat} (h : 0 < is.length) : D.seen room is s < is.length := by unfold VD.seen; lia
theorem own_ge {q : Nat} : D.off (D.lb q) ≤ D.own q := by
  have := off_mono (D := D) (lb_facts (D := D) q).1
  unfold VD.own; lia
theorem last_own (hr : 2 ≤ room) {q a l : Nat} (L : VD.LS D room (D.lb q) a) (hq : q ≤ D.text.length) (hl : (D.line room (D.off (D.lb q))).getLast? = some l) (hE : D.isEnd room l = false) : ∃ q', q ≤ q' ∧ q' < D.text.length ∧ D.nxt room l = D.off (q' + 1) ∧ D.own q < D.nxt room l := by
  obtain ⟨l', pre, e1, e2, e3, e4, e5, e6⟩ := L.split hr
  have e : l' = l := by rw [e1, List.getLast?_concat] at hl; exact Option.some.inj hl
  subst e
  rw [hE] at e5
  obtain ⟨t1, t2⟩ := brk_TN (e5.resolve_right Bool.noConfusion)
  obtain ⟨q', a1, a2, a3, a4⟩ := TN_first (q := q) t1 (by lia)
  have o := own_lt (D := D) (q := q) (by lia)
  have := off_mono (D := D) (show q + 1 ≤ q' + 1 by lia)
  exact ⟨q', a1, a2, by lia, by lia⟩
theorem getLast_at {α : Type} {l : List α} {n : Nat} {x : α} (h : l[n]? = some x) (e : n + 1 = l.length) : l.getLast? = some x := by
  rw [List.getLast?_eq_getElem?, ← h]
  congr 1; lia
theorem seen_due (hr : 2 ≤ room) {q a : Nat} (L : VD.LS D room (D.lb q) a) (hq : q ≤ D.text.length) : D.seen room (D.due room) (D.own q) = a + D.seen room (D.line room (D.off (D.lb q))) (D.own q) := by
  obtain ⟨hp, hz⟩ := L.len hr
  obtain ⟨x, h1, h2, h3⟩ := seen_spec (D := D) (room := room) (D.own q) hp
  have hlt := seen_lt (D := D) (room := room) (s := D.own q) hp
  refine seen_at (x := x) (by rw [← L.get hr hlt]; exact h1) ?_ fun j y hj hy => ?_
  · rcases h2 with h2 | h2
    · exact Or.inl h2
    · have hl := getLast_at h1 h2
      cases hE : D.isEnd room x with
      | true => right; have := L.ended hr hl hE; lia
      | false => left; obtain ⟨_, _, _, _, h⟩ := last_own hr L hq hl hE; exact h
  · by_cases hja : j < a
    · have h5 := (due_mono hr (a - j) hy (by rw [show j + (a - j) = a by lia]; exact L.at' hr)).2 (by lia)
      have := own_ge (D := D) (q := q)
      lia
    · refine h3 (j - a) y (by lia) ?_
      rw [L.get hr (by lia), ← hy]; congr 1; lia

end
-- PD
section
set_option Elab.async false
namespace VD
variable (D : VD) (room : Nat)
def firstAt (is : List Nat) (q s : Nat) : Nat := if (is.findIdx fun i => D.pl i == q) < is.length then is.findIdx fun i => D.pl i == q else D.seen room is s
def fur (is : List Nat) (q : Nat) : Nat := match is.find? fun i => D.pl i != q with | some x => D.pl x | none => q
def clamp (K : Nat) (c : Int) : Nat := (min (max 0 c) ((K : Int) - 1)).toNat
/-- vertical_motion's row -/
def goal (q : Nat) (count : Int) : Nat := clamp (D.due room).length ((D.seen room (D.due room) (D.own q) : Int) + count)
def goal2 (q : Nat) (count : Int) : Nat := clamp (D.due room).length ((D.firstAt room (D.due room) q (D.own q) : Int) + count)
def moved (q : Nat) (count : Int) : Nat := if 0 < count then D.fur ((D.due room).drop (D.goal2 room q count)) q else D.pl ((D.due room).getD (D.goal2 room q count) 0)
end VD
variable {D : VD} {room : Nat}
theorem firstAt_due (hr : 2 ≤ room) {q a : Nat} (L : VD.LS D room (D.lb q) a) (hq : q ≤ D.text.length) : D.firstAt room (D.due room) q (D.own q) = a + D.firstAt room (D.line room (D.off (D.lb q))) q (D.own q) := by
  obtain ⟨hp, hz⟩ := L.len hr
  have l1 := (lb_facts (D := D) q).1
  have f1 : ∀ (j y : Nat), j < a → (D.due room)[j]? = some y → (D.pl y == q) = false := fun j y hj hy => by
    have h5 := (due_mono hr (a - j) hy (by rw [show j + (a - j) = a by lia]; exact L.at' hr)).2 (by lia)
    have h6 : y < D.nxt room y := by
      rcases due_next hr hy with ⟨_, e⟩ | ⟨_, e, _⟩
      · lia
      · exact e
    have h7 := (pl_lt_iff (D := D) (i := y) L.le).mpr (by lia)
    simp; lia
  unfold VD.firstAt
  by_cases h : ((D.line room (D.off (D.lb q))).findIdx fun i => D.pl i == q) < (D.line room (D.off (D.lb q))).length
  · have e : ((D.due room).findIdx fun i => D.pl i == q) = a + (D.line room (D.off (D.lb q))).findIdx fun i => D.pl i == q := by
      refine findIdx_at _ _ _ _ (by rw [← L.get hr h]; exact List.getElem?_eq_getElem h) (findIdx_here (fun i => D.pl i == q) _ _ (List.getElem?_eq_getElem h)) fun j y hj hy => ?_
      by_cases hja : j < a
      · exact f1 j y hja hy
      · refine findIdx_before (fun i => D.pl i == q) (D.line room (D.off (D.lb q))) (j - a) y (by lia) ?_
        rw [L.get hr (by lia), ← hy]; congr 1; lia
    rw [e, if_pos (by lia), if_pos h]
  · have e : ((D.due room).findIdx fun i => D.pl i == q) = (D.due room).length := by
      refine findIdx_no _ _ fun j y hy => ?_
      have hj := (List.getElem?_eq_some_iff.mp hy).1
      by_cases hja : j < a
      · exact f1 j y hja hy
      · by_cases hjb : j - a < (D.line room (D.off (D.lb q))).length
        · refine findIdx_before (fun i => D.pl i == q) (D.line room (D.off (D.lb q))) (j - a) y (Nat.lt_of_lt_of_le hjb (Nat.le_of_not_lt h)) ?_
          rw [L.get hr (by lia), ← hy]; congr 1; lia
        · have hg : (D.line room (D.off (D.lb q)))[(D.line room (D.off (D.lb q))).length - 1]? = some _ := List.getElem?_eq_getElem (by lia)
          have hl := getLast_at hg (by lia)
          cases hE : D.isEnd room ((D.line room (D.off (D.lb q)))[(D.line room (D.off (D.lb q))).length - 1]'(by lia)) with
          | true => have := L.ended hr hl hE; lia
          | false =>
            obtain ⟨q', a1, a2, a3, a4⟩ := last_own hr L hq hl hE
            obtain ⟨b', b1, b2⟩ := L.next hr hl hE
            have h8 := (due_mono hr (j - (a + (D.line room (D.off (D.lb q))).length)) (b2.at' hr) (by rw [← hy]; congr 1; lia)).1
            have h9 := (pl_lt_iff (D := D) (i := y) (q := q' + 1) (by lia))
            have h10 : ¬ D.pl y < q' + 1 := fun h => by have := h9.mp h; lia
            simp; lia
    rw [e, if_neg (Nat.lt_irrefl _), if_neg h]
    exact seen_due hr L hq
theorem rows_take (hr : 2 ≤ room) : ∀ h i, i ≤ D.N → D.rowsFrom room h i = (D.chain room i).take h
  | 0, i, hi => by rw [VD.rowsFrom, List.take_zero]
  | h + 1, i, hi => by
    rw [chain_eq hr hi, VD.rowsFrom, List.take_succ_cons]
    cases hE : D.isEnd room i with
    | true => simp
    | false =>
      simp only [Bool.false_eq_true, if_false]
      rw [rows_take hr h _ (nxt_gt hr hE).2]
theorem cur_due (hr : 2 ≤ room) {first h s : Nat} (hf : first < (D.due room).length) (hh : 0 < h) :
    D.hasP room (((D.due room).drop first).take h) s = (decide (first ≤ D.seen room (D.due room) s) && decide (D.seen room (D.due room) s < first + h)) ∧
    (first ≤ D.seen room (D.due room) s → D.seen room (D.due room) s < first + h → D.seen room (((D.due room).drop first).take h) s = D.seen room (D.due room) s - first) := by
  have hp : 0 < (D.due room).length := by lia
  obtain ⟨x, h1, h2, h3⟩ := seen_spec (D := D) (room := room) s hp
  have hlt := seen_lt (D := D) (room := room) (s := s) hp
  generalize D.seen room (D.due room) s = n at h1 h2 h3 hlt
  have hlen : (((D.due room).drop first).take h).length = min h ((D.due room).length - first) := by rw [List.length_take, List.length_drop]
  have hget : ∀ j, j < h → (((D.due room).drop first).take h)[j]? = (D.due room)[first + j]? := fun j hj => by rw [List.getElem?_take_of_lt hj, List.getElem?_drop]
  have hhead : (((D.due room).drop first).take h).head? = (D.due room)[first]? := by rw [List.head?_eq_getElem?, hget 0 hh]; rfl
  obtain ⟨m, hm⟩ : ∃ m, m = first + (((D.due room).drop first).take h).length - 1 := ⟨_, rfl⟩
  have hlast : (((D.due room).drop first).take h).getLast? = (D.due room)[m]? := by
    rw [List.getLast?_eq_getElem?, hget _ (by lia)]; congr 1; lia
  constructor
  · unfold VD.hasP
    rw [hhead, hlast, List.getElem?_eq_getElem hf, List.getElem?_eq_getElem (show m < _ by lia)]
    have gf := List.getElem?_eq_getElem hf
    have gm := List.getElem?_eq_getElem (show m < (D.due room).length by lia)
    generalize (D.due room)[first] = f at gf
    generalize (D.due room)[m]'(by lia) = z at gm
    have c1 : s < f ↔ ¬ first ≤ n := by
      constructor
      · intro hs hn
        by_cases h0 : first = 0
        · subst h0
          have : (D.due room)[0]? = some 0 := by unfold VD.due; rw [chain_eq hr (Nat.zero_le _)]; rfl
          rw [this] at gf; cases gf; lia
        · have gp := List.getElem?_eq_getElem (show first - 1 < (D.due room).length by lia)
          rcases due_next hr gp with ⟨_, e⟩ | ⟨_, _, e⟩
          · lia
          · rw [show first - 1 + 1 = first by lia, gf] at e
            have := h3 _ _ (by lia) gp
            have := Option.some.inj e; lia
      · intro hn
        have := (due_mono hr (first - n) h1 (by rw [show n + (first - n) = first by lia]; exact gf)).2 (by lia)
        rcases h2 with h2 | h2 <;> lia
    have c2 : (s < D.nxt room z ∨ D.isEnd room z = true) ↔ n < first + h := by
      constructor
      · rintro (hs | hE)
        · by_cases hn : n < first + h
          · exact hn
          · have := h3 m z (by lia) gm; lia
        · rcases due_next hr gm with ⟨_, e⟩ | ⟨e, _⟩
          · lia
          · rw [hE] at e; cases e
      · intro hn
        have hnm : n ≤ m := by lia
        rcases due_next hr gm with ⟨e, e2⟩ | ⟨e, e1, e2⟩
        · exact Or.inr e
        · left
          have := (List.getElem?_eq_some_iff.mp e2).1
          have hs : s < D.nxt room x := h2.resolve_right (by lia)
          have := (due_mono hr (m - n) h1 (by rw [show n + (m - n) = m by lia]; exact gm)).2
          by_cases e : n = m
          · subst e; rw [gm] at h1; cases h1; exact hs
          · have := this (by lia); lia
    rw [Bool.eq_iff_iff]
    simp only [Bool.and_eq_true, Bool.or_eq_true, Bool.not_eq_true', decide_eq_true_eq, decide_eq_false_iff_not]
    rw [c1, c2]
    simp
  · intro ha hb
    refine seen_at (x := x) (by rw [hget _ (by lia), ← h1]; congr 1; lia) ?_ fun j y hj hy => ?_
    · rcases h2 with h2 | h2
      · exact Or.inl h2
      · right; lia
    · rw [hget _ (by lia)] at hy
      exact h3 _ _ (by lia) hy
theorem fur_hit {l : List Nat} {a x q : Nat} (h : l[a]? = some x) (hx : D.pl x ≠ q) : D.fur (l.drop a) q = D.pl x := by
  obtain ⟨hl, rfl⟩ := List.getElem?_eq_some_iff.mp h
  rw [List.drop_eq_getElem_cons hl]
  unfold VD.fur
  rw [List.find?_cons_of_pos (by simpa using hx)]
theorem fur_miss {l : List Nat} {a x q : Nat} (h : l[a]? = some x) (hx : D.pl x = q) : D.fur (l.drop (a + 1)) q = D.fur (l.drop a) q := by
  obtain ⟨hl, rfl⟩ := List.getElem?_eq_some_iff.mp h
  rw [List.drop_eq_getElem_cons hl]
  unfold VD.fur
  rw [List.find?_cons_of_neg (by simpa using hx)]
theorem fur_end {l : List Nat} {a q : Nat} (h : l.length ≤ a) : D.fur (l.drop a) q = q := by
  rw [List.drop_eq_nil_of_le h]; rfl

end
-- PE
section
set_option Elab.async false
variable {D : VD} {room : Nat}
theorem S_ahd {q j : Nat} (hq : q ≤ D.text.length) {c : Int} (hj : (D.ahd ((q : Int) + 1))[j]? = some c) : D.S[D.off q + j]? = some (c, -1) ∧ D.pl (D.off q + j) = q := by
  have hl := (List.getElem?_eq_some_iff.mp hj).1
  have hlen := rowsAt_len (D := D) ((q : Int) + 1)
  have hlt : j < (D.rowsAt ((q : Int) + 1)).length := by lia
  have g := S_get (D := D) (i := D.off q + j) (p := (q : Int) + 1) (k := (j : Int)) ⟨q, j, rfl, rfl, hq, by lia, rfl⟩ (by lia)
  constructor
  · rw [g, Int.toNat_natCast]
    unfold VD.rowsAt
    rw [List.getElem?_append_left (by rw [List.length_map]; exact hl), List.getElem?_map, hj]; rfl
  · exact pl_eq (by lia) hq fun _ => by rw [VD.off]; lia
theorem S_own {q : Nat} (hq : q < D.text.length) : D.S[D.own q]? = some (D.code ((q : Int) + 1), (q : Int) + 1) ∧ D.pl (D.own q) = q := by
  have hl := rowsAt_len (D := D) ((q : Int) + 1)
  have hp : (q : Int) + 1 < D.fin := by unfold VD.fin; lia
  rw [if_pos hp] at hl
  have g := S_get (D := D) (own_spot (D := D) (Nat.le_of_lt hq)).1 (by lia)
  rw [Int.toNat_natCast] at g
  unfold VD.rowsAt at g
  rw [if_pos hp, List.getElem?_append_right (by rw [List.length_map]; exact Nat.le_refl _), List.length_map, Nat.sub_self] at g
  exact ⟨g, pl_eq (Nat.le_add_right _ _) (Nat.le_of_lt hq) fun _ => by rw [own_lt hq]; lia⟩
theorem S_pl {x : Nat} {s : Int × Int} (h : D.S[x]? = some s) (hs : s.2 ≠ -1) : s.2 = (D.pl x : Int) + 1 := by
  have hx : x < D.N := (List.getElem?_eq_some_iff.mp h).1
  rw [N_eq] at hx
  obtain ⟨q, j, hq, hj, rfl⟩ := off_inv _ hx
  have hl := rowsAt_len (D := D) ((q : Int) + 1)
  by_cases hja : j < (D.ahd ((q : Int) + 1)).length
  · have := (S_ahd (D := D) (q := q) (j := j) (by lia) (List.getElem?_eq_getElem hja)).1
    rw [h] at this; cases this; exact absurd rfl hs
  · by_cases hp : (q : Int) + 1 < D.fin
    · rw [if_pos hp] at hl
      have e : D.off q + j = D.own q := by unfold VD.own; lia
      obtain ⟨a, b⟩ := S_own (D := D) (q := q) (by unfold VD.fin at hp; lia)
      rw [e] at h ⊢
      rw [h] at a; cases a
      rw [b]
    · rw [if_neg hp] at hl; lia
theorem code_text {i : Nat} (h : i < D.text.length) : D.code ((i : Int) + 1) = D.text[i] := by
  unfold VD.code
  rw [if_pos ⟨by lia, by unfold VD.fin; lia⟩]
  rw [show ((i : Int) + 1 - 1).toNat = i by lia, List.getD_eq_getElem?_getD, List.getElem?_eq_getElem h]; rfl

end
section
set_option hygiene false
set_option compiler.extract_closed false
local macro_rules | `(tactic| walk_at "as") => `(tactic| with_reducible assumption)
local macro_rules | `(tactic| walk_at "mem") => `(tactic| with_reducible first
  | exact List.mem_cons_self
  | assumption
  | (refine List.mem_cons_of_mem _ ?_; walk_at "mem")
  | (refine List.mem_append_left _ ?_; walk_at "mem")
  | (refine List.mem_append_right _ ?_; walk_at "mem"))
local macro_rules | `(tactic| walk_at "kn") => `(tactic| with_reducible first
  | assumption
  | (refine knA ?_; assumption)
  | (refine knM ?_; walk_at "mem")
  | (refine knS (by assumption) ?_; intro _ _; walk_at "mem"))
local macro_rules | `(tactic| walk_at "alt") => `(tactic| with_reducible first
  | exact Alt.head
  | (apply Alt.tail; walk_at "alt")
  | (apply Alt.append_left; walk_at "alt"))
local macro_rules | `(tactic| walk_at "take") => `(tactic| with_reducible first
  | exact Take.here
  | (apply Take.there; walk_at "take")
  | (apply Take.append_left; walk_at "take"))
local macro_rules | `(tactic| walk_at "pick") => `(tactic| with_reducible first
  | assumption
  | exact Pick.nil
  | (apply Pick.cons; (focus walk_at "take"); walk_at "pick"))
local macro_rules | `(tactic| walk_at "r") => `(tactic| k_dflt (exact rfl))
local macro_rules | `(tactic| walk_at "locs") => `(tactic| rfl)
local macro_rules | `(tactic| walk_at "sts") => `(tactic| repeat walk_at "st")
local macro_rules | `(tactic| walk_at "lk") => `(tactic| with_reducible first
  | exact upd_hit _ _ _
  | assumption
  | (apply upd_miss2; (focus walk_at "lk"); kernel_rfl)
  | walk_at "r")
local macro_rules | `(tactic| walk_at "seta") => `(tactic| with_reducible first
  | exact SetA.hit
  | exact SetA.nil
  | (apply SetA.miss; (focus k_dflt decide); walk_at "seta"))
local macro_rules | `(tactic| walk_at "cls") => `(tactic| with_reducible first | exact ck_Options _ | exact ck_ToldView _ | exact ck_Signs _ | exact ck_Walk _ | exact ck_Row _ | exact ck_Face _ | exact ck_FaceTable _)
local macro_rules | `(tactic| walk_at "glob") => `(tactic| with_reducible first | exact gl_xNOWHERE _ | exact gl_xNEWLINE _ | exact gl_xTAB _ | exact gl_xBLANK _ | exact gl_xDELETE _ | exact gl_xBACKSLASH _ | exact gl_xSHOWN _ | exact gl_xOptions _ | exact gl_xis_control _ | exact gl_xis_raw _ | exact gl_xshown_codes _ | exact gl_xView _ | exact gl_xToldView _ | exact gl_xSigns _ | exact gl_xis_break _ | exact gl_xshown_place _ | exact gl_xstring_signs _ | exact gl_xstring_count _ | exact gl_xshown_count _ | exact gl_xsigns_at _ | exact gl_xWalk _ | exact gl_xRow _ | exact gl_xput_sign _ | exact gl_xend_of_line _ | exact gl_xoverflow _ | exact gl_xfolded_row _ | exact gl_xlaid_row _ | exact gl_xlaid_rows _ | exact gl_xline_begin _ | exact gl_xrows_of_line _ | exact gl_xown_spot _ | exact gl_xindex_of _ | exact gl_xhas_place _ | exact gl_xcolumn_in _ | exact gl_xcursor_in _ | exact gl_xrow_ahead _ | exact gl_xrow_behind _ | exact gl_xgone_from _ | exact gl_xvertical_motion _ | exact gl_xbegin_moved _ | exact gl_xPLAIN _ | exact gl_xFace _ | exact gl_xFaceTable _ | exact gl_x_law_draw _ | exact gl_x_law_signs _ | exact gl_x_law_rows _ | exact gl_x_law_seen _ | exact gl_x_law_moved _ | exact gl_x_law_cursor _)
local macro_rules | `(tactic| walk_at "nglob") => `(tactic| with_reducible first | exact gn_xlen _ | exact gn_xenumerate _ | exact gn_xmax _ | exact gn_xmin _ | exact gn_xrange _ | exact gn_xabs _ | exact gn_xlist _ | exact gn_xsorted _ | exact gn_xsum _)
local macro_rules | `(tactic| walk_at "meth") => `(tactic| with_reducible first | exact mt_xbegin _ | exact mt_xend _ | exact mt_xcode_at _ | exact mt_xhidden_at _ | exact mt_xfaces_at _ | exact mt_xshown_at _ | exact mt_xstrings_at _ | exact mt_xsettle _ | exact mt_xsign _ | exact mt_xstep _ | exact mt_xspot _ | exact mt_xstop _ | exact mt_xnumber_of _)
local macro_rules | `(tactic| walk_at "room") => `(tactic| first | assumption | exact Room.less (by assumption))
local macro_rules | `(tactic| walk_at "binds") => `(tactic| first | exact BindsTo.of_eq rfl | exact binds_K (by assumption) rfl (by k_is) rfl rfl rfl)
local macro_rules | `(tactic| walk_at "name") => `(tactic| first
  | refine e_local (by walk_at "r") (by walk_at "lk") ?_
  | refine e_cell (by walk_at "r") (by walk_at "r") (by walk_at "kn") ?_
  | refine e_glob (by assumption) (by walk_at "glob") ?_
  | refine e_boot (by assumption) (by walk_at "nglob") (by k_dflt boot_by_name) ?_)
local macro_rules | `(tactic| walk_at "ev") => `(tactic| first
  | (refine (?_ : DV (.Name _ _)); walk_at "name")
  | refine e_attr ?_
  | (refine e_int ?_; intro _)
  | refine e_call ?_
  | refine e_mth ?_
  | refine e_bin ?_
  | refine e_sub ?_
  | refine e_tup ?_
  | refine e_list ?_
  | refine e_none ?_
  | refine e_bool ?_
  | refine e_cmp ?_
  | refine e_chain ?_
  | refine e_bool1 ?_
  | refine e_and ?_
  | refine e_or ?_
  | refine e_ifexp ?_
  | refine e_slice ?_
  | refine e_not ?_
  | (refine e_dict0 (by assumption) ?_; intro _)
  | (refine e_neg ?_; intro _))
local macro_rules | `(tactic| walk_at "is") => `(tactic| first
  | refine b_cmp ?_
  | refine b_chain ?_
  | refine b_not ?_
  | refine b_and0 ?_
  | refine b_or0 ?_
  | refine b_and ?_
  | refine b_or ?_
  | k_dflt refine b_plain ?_)
local macro_rules | `(tactic| walk_at "ex") => `(tactic| first
  | refine x_nil ?_
  | refine x_assign ?_
  | refine x_if ?_
  | refine x_ret ?_
  | refine x_set ?_
  | refine x_exprA ?_
  | refine x_sets ?_
  | (refine (?_ : DX (.Assign [.Tuple _ _ _] _ _ :: _)); first | refine x_swap (Room.handled (by assumption)) (by walk_at "r") (by walk_at "r") ?_ | refine x_tup (Room.handled (by assumption)) ?_))
local macro_rules | `(tactic| walk_at "dec") => `(tactic| first
  | assumption
  | walk_at "r"
  | k_dflt (simp only [decide_eq_true_eq, decide_eq_false_iff_not, Decidable.not_not, Bool.not_eq_true', Bool.not_eq_false', Bool.not_true, Bool.not_false, Bool.false_eq_true, Bool.true_eq_false, List.length_cons, List.length_nil] <;> lia)
  | k_dflt (simp only [PyData.eqv, PyData.eqvAll]; done))
local macro_rules | `(tactic| walk_at "small") => `(tactic| first
  | k_dflt lia
  | k_dflt (simp only [List.length_append, List.length_cons, List.length_nil, List.length_map]; lia))
local macro_rules | `(tactic| walk_at "keeps") => `(tactic| k_dflt (first | exact keeps_b | exact keeps_t | exact keeps_r (by assumption) (by k_is)))
local macro_rules | `(tactic| walk_at "con") => `(tactic| k_dflt (first
  | (with_reducible refine (?_ : DC 93); refine begin_ok (by assumption) (by walk_at "room") (by walk_at "view") ?_; intro _)
  | (with_reducible refine (?_ : DC 100); refine end_ok (by assumption) (by walk_at "room") (by walk_at "view") ?_; intro _)
  | (with_reducible refine (?_ : DC 107); refine code_at_ok (by assumption) (by walk_at "room") (by walk_at "view") ?_; intro _)
  | (with_reducible refine (?_ : DC 171); refine hidden_at_ok (by assumption) (by walk_at "room") (by walk_at "view") ?_; intro _)
  | (with_reducible refine (?_ : DC 178); refine shown_at_ok (by assumption) (by walk_at "room") (by walk_at "view") ?_)
  | (with_reducible refine (?_ : DC 164); refine faces_at_ok (by assumption) (by walk_at "room") (by walk_at "view") ?_; intro _)
  | (with_reducible refine (?_ : DC 541); refine number_of_ok (by assumption) (by walk_at "room") (by walk_at "tab") (by walk_at "kn") ?_; intro _)
  | (with_reducible refine (?_ : DC 57); refine is_raw_ok (by assumption) (by walk_at "room") (by assumption) ?_)
  | (with_reducible refine (?_ : DC 50); refine is_control_ok (by assumption) (by walk_at "room") (by assumption) ?_)
  | (with_reducible refine (?_ : DC 218); refine is_break_ok (by assumption) (by walk_at "room") (by walk_at "view") ?_)
  | (with_reducible refine (?_ : DC 239); refine shown_place_ok (by assumption) (by walk_at "room") (by walk_at "view") ?_)
  | (with_reducible refine (?_ : DC 249); refine string_count_ok (by assumption) (by walk_at "room") (by walk_at "view") ?_; intro _)
  | (with_reducible refine (?_ : DC 256); refine shown_count_ok (by assumption) (by walk_at "room") (by walk_at "view") ?_; intro _ _ _)
  | (with_reducible refine (?_ : DC 408); refine line_begin_ok (by assumption) (by walk_at "room") (by walk_at "view") ?_; intro _)
  | (with_reducible refine (?_ : DC 422); refine own_spot_ok (by assumption) (by walk_at "room") (by walk_at "view") ?_; intro _ _ _)
  | (with_reducible refine (?_ : DC 429); refine index_of_ok (by assumption) (by walk_at "room") (by assumption) (by walk_at "kn") (by assumption) (by assumption) ?_; intro _)))
local macro_rules | `(tactic| walk_at "st") => `(tactic| with_reducible first
  | (refine (?_ : DV _); walk_at "ev")
  | (refine (?_ : DX _); walk_at "ex")
  | (refine (?_ : DB _ _); walk_at "is")
  | (refine (?_ : DG); refine Mine.ga (by assumption) (by walk_at "kn") (by walk_at "cls") (by walk_at "kn") (by walk_at "r") (by walk_at "mem") (by walk_at "r") ?_)
  | (refine (?_ : DC _); walk_at "con")
  | (refine (?_ : DW0); refine cw_0 (by walk_at "keeps") ?_)
  | (refine (?_ : DW1); refine cw_f (by walk_at "keeps") ?_)
  | (refine (?_ : DW2); refine cw_m (by walk_at "keeps") ?_)
  | refine a_cons ?_
  | refine a_nil ?_
  | (refine (?_ : DN); first | refine st_local ?_ | refine st_cell (by walk_at "r") (by walk_at "alt") ?_)
  | refine tr_bool ?_
  | refine br1 (by walk_at "dec") ?_
  | refine br0 (by walk_at "dec") ?_
  | refine c_lt ?_
  | refine c_le ?_
  | refine c_gt ?_
  | refine c_ge ?_
  | refine c_eq ?_
  | refine c_ne ?_
  | refine c_is ?_
  | refine c_isnot ?_
  | (refine o_add ?_; intro _)
  | (refine o_sub ?_; intro _)
  | refine t_next ?_
  | refine t_ret ?_
  | (refine ⟨Nat.le_of_ble_eq_true rfl, ?_⟩; intro _)
  | (refine ⟨rfl, ?_⟩; refine (?_ : Does _ _ _ _ _ _ _ _ _))
  | (refine (?_ : DM "append"); refine ml_append (by walk_at "kn") ?_)
  | (refine (?_ : DM "extend"); refine ml_extend (by walk_at "kn") ?_)
  | (refine (?_ : DM "get"); refine md_get (by walk_at "kn") ?_)
  | (refine (?_ : DM _); refine Mine.mi (by assumption) (by walk_at "kn") (by walk_at "cls") (by walk_at "kn") (by walk_at "meth") (by walk_at "r") ?_)
  | (refine (?_ : DR "len"); refine l_len (by walk_at "kn") (by walk_at "small") ?_; intro _)
  | (refine (?_ : DF "list.append"); refine l_append (by walk_at "alt") (by walk_at "small") ?_)
  | (refine (?_ : DF "dict.get"); refine d_get (by walk_at "kn") ?_)
  | (refine (?_ : DF "max"); refine f_max (Room.handled (by assumption)) ?_; intro _)
  | (refine (?_ : DF "min"); refine f_min (Room.handled (by assumption)) ?_; intro _)
  | refine as_name ?_
  | (refine (?_ : DT); refine as_tup (Room.handled (by assumption)) (by walk_at "kn") (by walk_at "r") ?_)
  | (refine (?_ : DA); first | refine asg_nil ?_ | k_dflt (first | refine asg_name ?_ | refine asg_attr ?_ | refine sw_nil ?_ | refine sw_cons ?_))
  | (refine ⟨_, _, rfl, (by walk_at "kn"), (by walk_at "r"), ?_⟩; refine (?_ : Does _ _ _ _ _ _ _ _ _))
  | (refine ⟨_, _, _, rfl, (by walk_at "kn"), (by walk_at "r"), (by walk_at "r"), ?_⟩; refine (?_ : Does _ _ _ _ _ _ _ _ _))
  | (refine (?_ : DS); refine Mine.sa (by assumption) (by walk_at "kn") (by walk_at "cls") (by walk_at "alt") (by walk_at "seta") (by walk_at "mem") (by k_dflt exact Nat.le_of_ble_eq_true rfl) ?_)
  | (refine (?_ : DI); k_dflt refine i_tup (by walk_at "kn") (by decide) (by decide) (by exact rfl) ?_)
  | refine so_none ?_
  | refine so_some ?_)
local macro_rules | `(tactic| walk_at "view") => `(tactic| first | assumption | exact IsView.mono (fun _ _ => knA) (by assumption))
local macro_rules | `(tactic| walk_at "tab") => `(tactic| first | assumption | exact IsTable.mono (fun _ _ => knA) (by assumption))
local macro_rules | `(tactic| walk_at "opts") => `(tactic| first | assumption | exact IsOpts.mono (fun _ _ => knA) (by assumption))
set_option hygiene true
variable {prog : Program} {w : World} {A : Around} {h₀ : Heap} {L : Addr} {α : Type} {m m' : Loc} {n n' : Led} {env : Env}
-- W1
abbrev Known := Addr → Cell → Prop
abbrev InL (new : Led) : Known := fun a c => (a, c) ∈ new
inductive Strs (Φ : Known) (cs : List Int) : Option Value → Prop
  | none : cs = [] → Strs Φ cs none
  | some {t u l e : Addr} {vs : List Value} : Φ t (.tup [.ref u]) → Φ u (.tup [.ref l, .ref e]) → Φ l (.list vs) → IntsAre vs cs → Φ e (.tup []) → Strs Φ cs (some (.ref t))
theorem Strs.mono {Φ Ψ : Known} {cs : List Int} {v : Option Value} (k : ∀ a c, Φ a c → Ψ a c) (h : Strs Φ cs v) : Strs Ψ cs v := by
  cases h with
  | none h => exact .none h
  | some a b c d e => exact .some (k _ _ a) (k _ _ b) (k _ _ c) d (k _ _ e)
abbrev ViewA (lc f1 f2 f3 sd : Addr) (t : Tok) : List (Str × Value) := [("codes", .ref lc), ("first", .int 1 t), ("faces", .ref f1), ("hidden", .ref f2), ("shown", .ref f3), ("strings", .ref sd)]
structure ViewOk (D : VD) : Prop where
  text : D.text.length ≤ 100
  ahd : ∀ p, (D.ahd p).length ≤ 100
inductive IsView (Φ : Known) (D : VD) : Addr → Prop
  | mk {v d lc f1 f2 f3 sd : Addr} {t : Tok} {vs : List Value} {kvs : List (Int × Value)} : Φ v (.inst 188 d) → Φ d (.attrs (ViewA lc f1 f2 f3 sd t)) →
     Φ lc (.list vs) → IntsAre vs D.text → Φ f1 (.idict []) → Φ f2 (.idict []) → Φ f3 (.idict []) → Φ sd (.idict kvs) → (∀ p, Strs Φ (D.ahd p) (valueAt kvs p)) → ViewOk D → IsView Φ D v
theorem IsView.mono {Φ Ψ : Known} {D : VD} {v : Addr} (k : ∀ a c, Φ a c → Ψ a c) (V : IsView Φ D v) : IsView Ψ D v := by
  obtain ⟨a, b, c, d, e, f, g, h, i, j⟩ := V
  exact ⟨k _ _ a, k _ _ b, k _ _ c, d, k _ _ e, k _ _ f, k _ _ g, k _ _ h, fun p => (i p).mono k, j⟩
theorem IsView.ok {Φ : Known} {D : VD} {v : Addr} (V : IsView Φ D v) : ViewOk D := by
  obtain ⟨a, b, c, d, e, f, g, h, i, j⟩ := V; exact j
inductive IsTable (Φ : Known) : Addr → Prop
  | mk {t d : Addr} {a b c : Value} : Φ t (.inst 551 d) → Φ d (.attrs [("by_name", a), ("looks", b), ("numbers", c)]) → IsTable Φ t
theorem IsTable.mono {Φ Ψ : Known} {v : Addr} (k : ∀ a c, Φ a c → Ψ a c) (V : IsTable Φ v) : IsTable Ψ v := by
  obtain ⟨a, b⟩ := V; exact ⟨k _ _ a, k _ _ b⟩
theorem fin0 {m : Loc} {n' rest : Led} {v : Value} {Q : Value → Loc → Led → Prop} (q : Q v m rest) : ∃ n'', Less n'' n' ∧ Q v m (n'' ++ rest) := ⟨[], Less.of_sub (List.nil_sublist _), q⟩
theorem decv {b c : Bool} {m : Loc} {Q : Value → Loc → Led → Prop} (q : Q (.bool b) m n) (e : c = b) : Q (.bool c) m n := e ▸ q

theorem begin_ok {v : Addr} {D : VD} {Q : Value → Loc → Led → Prop} (B : Base prog w h₀) (R : Room A 2) (V : IsView (Kn prog w h₀ n) D v) (q : ∀ t, Q (.int 1 t) m n) : Does prog w A h₀ L (call (.ref 93) [.ref v]) m n Q := by
  refine Codes.call ?_
  refine code_fn (binds := [("self", .ref v)]) (by assumption) (by walk_at "room") (by walk_at "pick") (by k_is) (by k_is) (fun s X => by walk_at "binds") (by exact locs rfl) (by decide +kernel) (by rfl) (by rfl) (by rfl) ?_
  intro g L' B' K R'
  show Does _ _ _ _ _ (execs (_ :: _) (envX _ ⟨_, _, _, _, _⟩ _ _ _ _)) _ _ _
  obtain ⟨v1, v2, v3, v4, v5, v6, v7, v8, v9, v10⟩ := V.mono K
  repeat walk_at "st"
  exact fin0 (q _)
theorem end_ok {v : Addr} {D : VD} {Q : Value → Loc → Led → Prop} (B : Base prog w h₀) (R : Room A 2) (V : IsView (Kn prog w h₀ n) D v) (q : ∀ t, Q (.int D.fin t) m n) : Does prog w A h₀ L (call (.ref 100) [.ref v]) m n Q := by
  refine Codes.call ?_
  refine code_fn (binds := [("self", .ref v)]) (by assumption) (by walk_at "room") (by walk_at "pick") (by k_is) (by k_is) (fun s X => by walk_at "binds") (by exact locs rfl) (by decide +kernel) (by rfl) (by rfl) (by rfl) ?_
  intro g L' B' K R'
  show Does _ _ _ _ _ (execs (_ :: _) (envX _ ⟨_, _, _, _, _⟩ _ _ _ _)) _ _ _
  obtain ⟨v1, v2, v3, v4, v5, v6, v7, v8, v9, v10⟩ := V.mono K
  have hz := v4.length
  have ht := v10.text
  repeat walk_at "st"
  rw [v4.length]
  exact fin0 (q _)
theorem code_at_ok {v : Addr} {D : VD} {p : Int} {t : Tok} {Q : Value → Loc → Led → Prop} (B : Base prog w h₀) (R : Room A 4) (V : IsView (Kn prog w h₀ n) D v) (q : ∀ t, Q (.int (D.code p) t) m n) : Does prog w A h₀ L (call (.ref 107) [.ref v, .int p t]) m n Q := by
  refine Codes.call ?_
  refine code_fn (binds := [("self", .ref v), ("place", .int p t)]) (by assumption) (by walk_at "room") (by walk_at "pick") (by k_is) (by k_is) (fun s X => by walk_at "binds") (by exact locs rfl) (by decide +kernel) (by rfl) (by rfl) (by rfl) ?_
  intro g L' B' K R'
  show Does _ _ _ _ _ (execs (_ :: _) (envX _ ⟨_, _, _, _, _⟩ _ _ _ _)) _ _ _
  have V' := V.mono K
  obtain ⟨v1, v2, v3, v4, v5, v6, v7, v8, v9, v10⟩ := V'
  have V' := V.mono K
  have q' := q
  unfold VD.code at q'
  walk_at "sts"
  refine ⟨fun h1 => ?_, fun h1 => ?_⟩ <;> simp only [decide_eq_true_eq, decide_eq_false_iff_not] at h1
  · walk_at "sts"
    refine ⟨fun h2 => ?_, fun h2 => ?_⟩ <;> simp only [decide_eq_true_eq, decide_eq_false_iff_not] at h2
    · walk_at "sts"
      have hlt : (p - 1).toNat < D.text.length := by unfold VD.fin at h2; lia
      obtain ⟨t', hx⟩ := v4.get (p - 1).toNat (D.text[(p - 1).toNat]) (List.getElem?_eq_getElem hlt)
      refine i_lst (by walk_at "kn") (by lia) (by have := v10.text; unfold VD.fin at h2; lia) hx ?_
      rw [if_pos ⟨h1, h2⟩, List.getD_eq_getElem?_getD, List.getElem?_eq_getElem hlt] at q'
      exact fin0 (q' _)
    · walk_at "sts"
      rw [if_neg (fun z => h2 z.2)] at q'
      exact fin0 (q' _)
  · walk_at "sts"
    rw [if_neg (fun z => h1 z.1)] at q'
    exact fin0 (q' _)
theorem hidden_at_ok {v : Addr} {D : VD} {p : Int} {t : Tok} {Q : Value → Loc → Led → Prop} (B : Base prog w h₀) (R : Room A 2) (V : IsView (Kn prog w h₀ n) D v) (q : ∀ t, Q (.int 0 t) m n) : Does prog w A h₀ L (call (.ref 171) [.ref v, .int p t]) m n Q := by
  refine Codes.call ?_
  refine code_fn (binds := [("self", .ref v), ("place", .int p t)]) (by assumption) (by walk_at "room") (by walk_at "pick") (by k_is) (by k_is) (fun s X => by walk_at "binds") (by exact locs rfl) (by decide +kernel) (by rfl) (by rfl) (by rfl) ?_
  intro g L' B' K R'
  show Does _ _ _ _ _ (execs (_ :: _) (envX _ ⟨_, _, _, _, _⟩ _ _ _ _)) _ _ _
  obtain ⟨v1, v2, v3, v4, v5, v6, v7, v8, v9, v10⟩ := V.mono K
  walk_at "sts"
  exact fin0 (q _)
theorem shown_at_ok {v : Addr} {D : VD} {p : Int} {t : Tok} {Q : Value → Loc → Led → Prop} (B : Base prog w h₀) (R : Room A 2) (V : IsView (Kn prog w h₀ n) D v) (q : Q .none m n) : Does prog w A h₀ L (call (.ref 178) [.ref v, .int p t]) m n Q := by
  refine Codes.call ?_
  refine code_fn (binds := [("self", .ref v), ("place", .int p t)]) (by assumption) (by walk_at "room") (by walk_at "pick") (by k_is) (by k_is) (fun s X => by walk_at "binds") (by exact locs rfl) (by decide +kernel) (by rfl) (by rfl) (by rfl) ?_
  intro g L' B' K R'
  show Does _ _ _ _ _ (execs (_ :: _) (envX _ ⟨_, _, _, _, _⟩ _ _ _ _)) _ _ _
  obtain ⟨v1, v2, v3, v4, v5, v6, v7, v8, v9, v10⟩ := V.mono K
  walk_at "sts"
  exact fin0 q
theorem faces_at_ok {v : Addr} {D : VD} {p : Int} {t : Tok} {Q : Value → Loc → Led → Prop} (B : Base prog w h₀) (R : Room A 2) (V : IsView (Kn prog w h₀ n) D v) (q : ∀ a, Q (.ref a) m ((a, .tup []) :: n)) : Does prog w A h₀ L (call (.ref 164) [.ref v, .int p t]) m n Q := by
  refine Codes.call ?_
  refine code_fn (binds := [("self", .ref v), ("place", .int p t)]) (by assumption) (by walk_at "room") (by walk_at "pick") (by k_is) (by k_is) (fun s X => by walk_at "binds") (by exact locs rfl) (by decide +kernel) (by rfl) (by rfl) (by rfl) ?_
  intro g L' B' K R'
  show Does _ _ _ _ _ (execs (_ :: _) (envX _ ⟨_, _, _, _, _⟩ _ _ _ _)) _ _ _
  obtain ⟨v1, v2, v3, v4, v5, v6, v7, v8, v9, v10⟩ := V.mono K
  walk_at "sts"
  exact ⟨_, Less.refl _, q _⟩
theorem strings_at_ok {v d lc f1 f2 f3 sd : Addr} {kvs : List (Int × Value)} {p : Int} {t t' : Tok} {Q : Value → Loc → Led → Prop} (B : Base prog w h₀) (R : Room A 2) (v1 : Kn prog w h₀ n v (.inst 188 d)) (v2 : Kn prog w h₀ n d (.attrs (ViewA lc f1 f2 f3 sd t'))) (v3 : Kn prog w h₀ n sd (.idict kvs))
    (q : ∀ a, Q ((valueAt kvs p).getD (.ref a)) m ((a, .tup []) :: n)) : Does prog w A h₀ L (call (.ref 185) [.ref v, .int p t]) m n Q := by
  refine Codes.call ?_
  refine code_fn (binds := [("self", .ref v), ("place", .int p t)]) (by assumption) (by walk_at "room") (by walk_at "pick") (by k_is) (by k_is) (fun s X => by walk_at "binds") (by exact locs rfl) (by decide +kernel) (by rfl) (by rfl) (by rfl) ?_
  intro g L' B' K R'
  show Does _ _ _ _ _ (execs (_ :: _) (envX _ ⟨_, _, _, _, _⟩ _ _ _ _)) _ _ _
  have v1 := K _ _ v1
  have v2 := K _ _ v2
  have v3 := K _ _ v3
  walk_at "sts"
  exact ⟨_, Less.refl _, q _⟩
theorem number_of_ok {v a : Addr} {Q : Value → Loc → Led → Prop} (B : Base prog w h₀) (R : Room A 2) (V : IsTable (Kn prog w h₀ n) v) (k : Kn prog w h₀ n a (.tup [])) (q : ∀ t, Q (.int 0 t) m n) : Does prog w A h₀ L (call (.ref 541) [.ref v, .ref a]) m n Q := by
  refine Codes.call ?_
  refine code_fn (binds := [("self", .ref v), ("names", .ref a)]) (by assumption) (by walk_at "room") (by walk_at "pick") (by k_is) (by k_is) (fun s X => by walk_at "binds") (by exact locs rfl) (by decide +kernel) (by rfl) (by rfl) (by rfl) ?_
  intro g L' B' K R'
  show Does _ _ _ _ _ (execs (_ :: _) (envX _ ⟨_, _, _, _, _⟩ _ _ _ _)) _ _ _
  have k := K _ _ k
  walk_at "sts"
  refine c_eqd R' (rd_tup (knA k) .nil) (rd_tup (by walk_at "kn") .nil) (by decide) (by decide) ?_
  walk_at "sts"
  exact fin0 (q _)
def Cd (c : Int) : Prop := c = 97 ∨ c = 98 ∨ c = 120 ∨ c = 121 ∨ c = 10
theorem is_raw_ok {c : Int} {t : Tok} {Q : Value → Loc → Led → Prop} (B : Base prog w h₀) (R : Room A 2) (h : Cd c) (q : Q (.bool false) m n) : Does prog w A h₀ L (call (.ref 57) [.int c t]) m n Q := by
  refine Codes.call ?_
  refine code_fn (binds := [("code", .int c t)]) (by assumption) (by walk_at "room") (by walk_at "pick") (by k_is) (by k_is) (fun s X => by walk_at "binds") (by exact locs rfl) (by decide +kernel) (by rfl) (by rfl) (by rfl) ?_
  intro g L' B' K R'
  show Does _ _ _ _ _ (execs (_ :: _) (envX _ ⟨_, _, _, _, _⟩ _ _ _ _)) _ _ _
  unfold Cd at h
  walk_at "sts"
  exact fin0 (decv q (by first | rfl | (simp <;> lia)))
theorem is_control_ok {c : Int} {t : Tok} {Q : Value → Loc → Led → Prop} (B : Base prog w h₀) (R : Room A 2) (h : Cd c) (q : Q (.bool false) m n) : Does prog w A h₀ L (call (.ref 50) [.int c t]) m n Q := by
  refine Codes.call ?_
  refine code_fn (binds := [("code", .int c t)]) (by assumption) (by walk_at "room") (by walk_at "pick") (by k_is) (by k_is) (fun s X => by walk_at "binds") (by exact locs rfl) (by decide +kernel) (by rfl) (by rfl) (by rfl) ?_
  intro g L' B' K R'
  show Does _ _ _ _ _ (execs (_ :: _) (envX _ ⟨_, _, _, _, _⟩ _ _ _ _)) _ _ _
  unfold Cd at h
  by_cases h10 : c = 10
  · subst h10
    walk_at "sts"
    exact fin0 (decv q (by first | rfl | (simp <;> lia)))
  · walk_at "sts"
    exact fin0 (decv q (by first | rfl | (simp <;> lia)))
theorem shown_codes_ok {c x : Int} {t u : Tok} {o : Value} {Q : Value → Loc → Led → Prop} (B : Base prog w h₀) (R : Room A 4) (h : Cd c) (h10 : c ≠ 10) (q : ∀ a, Q (.ref a) m ((a, .list [.int c t]) :: n)) : Does prog w A h₀ L (call (.ref 71) [.int c t, .int x u, o]) m n Q := by
  refine Codes.call ?_
  refine code_fn (binds := [("code", .int c t), ("column", .int x u), ("options", o)]) (by assumption) (by walk_at "room") (by walk_at "pick") (by k_is) (by k_is) (fun s X => by walk_at "binds") (by exact locs rfl) (by decide +kernel) (by rfl) (by rfl) (by rfl) ?_
  intro g L' B' K R'
  show Does _ _ _ _ _ (execs (_ :: _) (envX _ ⟨_, _, _, _, _⟩ _ _ _ _)) _ _ _
  have h' := h
  unfold Cd at h'
  walk_at "sts"
  exact ⟨_, Less.refl _, q _⟩
theorem is_break_ok {v : Addr} {D : VD} {p : Int} {t : Tok} {Q : Value → Loc → Led → Prop} (B : Base prog w h₀) (R : Room A 6) (V : IsView (Kn prog w h₀ n) D v) (q : Q (.bool (decide (D.code p = 10))) m n) : Does prog w A h₀ L (call (.ref 218) [.ref v, .int p t]) m n Q := by
  refine Codes.call ?_
  refine code_fn (binds := [("view", .ref v), ("place", .int p t)]) (by assumption) (by walk_at "room") (by walk_at "pick") (by k_is) (by k_is) (fun s X => by walk_at "binds") (by exact locs rfl) (by decide +kernel) (by rfl) (by rfl) (by rfl) ?_
  intro g L' B' K R'
  show Does _ _ _ _ _ (execs (_ :: _) (envX _ ⟨_, _, _, _, _⟩ _ _ _ _)) _ _ _
  obtain ⟨v1, v2, v3, v4, v5, v6, v7, v8, v9, v10⟩ := V.mono K
  have V' := V.mono K
  by_cases hc : D.code p = 10
  · walk_at "sts"
    exact fin0 (decv q (by simp only [hc]; rfl))
  · walk_at "sts"
    exact fin0 (decv q (by simp [hc]))
theorem shown_place_ok {v : Addr} {D : VD} {p : Int} {t : Tok} {Q : Value → Loc → Led → Prop} (B : Base prog w h₀) (R : Room A 6) (V : IsView (Kn prog w h₀ n) D v) (q : Q (.int p t) m n) : Does prog w A h₀ L (call (.ref 239) [.ref v, .int p t]) m n Q := by
  refine Codes.call ?_
  refine code_fn (binds := [("view", .ref v), ("place", .int p t)]) (by assumption) (by walk_at "room") (by walk_at "pick") (by k_is) (by k_is) (fun s X => by walk_at "binds") (by exact locs rfl) (by decide +kernel) (by rfl) (by rfl) (by rfl) ?_
  intro g L' B' K R'
  show Does _ _ _ _ _ (execs (_ :: _) (envX _ ⟨_, _, _, _, _⟩ _ _ _ _)) _ _ _
  obtain ⟨v1, v2, v3, v4, v5, v6, v7, v8, v9, v10⟩ := V.mono K
  have V' := V.mono K
  by_cases hc : D.fin ≤ p
  · walk_at "sts"
    exact fin0 q
  · walk_at "sts"
    exact fin0 q

-- W2
def UsOk (Φ : Known) (cs : List Int) (us : List Value) : Prop := (us = [] ∧ cs = []) ∨ ∃ u l e vs, us = [.ref u] ∧ Φ u (.tup [.ref l, .ref e]) ∧ Φ l (.list vs) ∧ IntsAre vs cs ∧ Φ e (.tup [])
theorem strings_at_V {Φ : Known} (kΦ : ∀ a c, Φ a c → Kn prog w h₀ n a c) {v : Addr} {D : VD} {p : Int} {t : Tok} {Q : Value → Loc → Led → Prop} (B : Base prog w h₀) (R : Room A 2) (V : IsView Φ D v)
    (q : ∀ t us a, (Φ t (.tup us) ∨ t = a ∧ us = []) → UsOk Φ (D.ahd p) us → Q (.ref t) m ((a, .tup []) :: n)) : Does prog w A h₀ L (call (.ref 185) [.ref v, .int p t]) m n Q := by
  obtain ⟨v1, v2, v3, v4, v5, v6, v7, v8, v9, v10⟩ := V
  refine strings_at_ok B R (kΦ _ _ v1) (kΦ _ _ v2) (kΦ _ _ v8) fun a => ?_
  have h := v9 p
  revert h
  cases valueAt _ p with
  | none => intro h; cases h with
    | none h => exact q a [] a (.inr ⟨rfl, rfl⟩) (.inl ⟨rfl, h⟩)
  | some x => intro h; cases h with
    | some k1 k2 k3 k4 k5 => exact q _ _ a (.inl k1) (.inr ⟨_, _, _, _, rfl, k2, k3, k4, k5⟩)
theorem string_count_ok {v : Addr} {D : VD} {p : Int} {t : Tok} {Q : Value → Loc → Led → Prop} (B : Base prog w h₀) (R : Room A 4) (V : IsView (Kn prog w h₀ n) D v) (q : ∀ t, Q (.int (D.ahd p).length t) m n) : Does prog w A h₀ L (call (.ref 249) [.ref v, .int p t]) m n Q := by
  refine Codes.call ?_
  refine code_fn (binds := [("view", .ref v), ("place", .int p t)]) (by assumption) (by walk_at "room") (by walk_at "pick") (by k_is) (by k_is) (fun s X => by walk_at "binds") (by exact locs rfl) (by decide +kernel) (by rfl) (by rfl) (by rfl) ?_
  intro g L' B' K R'
  show Does _ _ _ _ _ (execs (_ :: _) (envX _ ⟨_, _, _, _, _⟩ _ _ _ _)) _ _ _
  have V' := V.mono K
  obtain ⟨v1, v2, v3, v4, v5, v6, v7, v8, v9, v10⟩ := V.mono K
  have ha := v10.ahd p
  walk_at "sts"
  refine e_ct (cpos := default) (cs := []) (Room.handled R') (by rfl) ?_
  walk_at "sts"
  refine strings_at_V (fun _ _ => knA) B' (by walk_at "room") V' fun t us a kt hus => ?_
  have kt : Kn prog w g [(a, .tup [])] t (.tup us) := kt.elim knA fun h => by rw [h.1, h.2]; exact .inr (.head _)
  refine ⟨t, us, rfl, kt, fun i ys r => (i = 0 → ys = [] ∧ us.length ≤ 1) ∧ (1 ≤ i → ∃ t, ys = [.int (D.ahd p).length t]), fun i ys r j => ?_, ⟨fun _ => ⟨rfl, ?_⟩, fun h => (by lia)⟩, fun g2 L2 K2 KB I acc i ys r m' x hx j => ?_, fun acc ys r j => ?_⟩
  · rcases Nat.eq_zero_or_pos i with h | h
    · rw [(j.1 h).1]; exact Nat.zero_le _
    · obtain ⟨t, e⟩ := j.2 h
      rw [e]; exact Nat.le_of_ble_eq_true rfl
  · rcases hus with ⟨rfl, _⟩ | ⟨u, l, e, vs, rfl, _⟩ <;> exact Nat.le_of_ble_eq_true rfl
  · rcases hus with ⟨rfl, _⟩ | ⟨u, l, e, vs, rfl, h1, h2, h3, h4⟩
    · cases hx
    · cases i with
      | succ i => cases hx
      | zero =>
        obtain ⟨rfl, _⟩ := j.1 rfl
        cases hx
        have h1 := K2 _ _ (knA h1)
        have h2 := K2 _ _ (knA h2)
        have hz := h3.length
        have B2 := KB B'
        walk_at "sts"
        refine ⟨fun _ => ?_, fun h => (by cases h)⟩
        walk_at "sts"
        rw [h3.length]
        exact ⟨r, Less.refl _, fun h => (by cases h), fun _ => ⟨_, rfl⟩⟩
  · have hs : ∃ ns, IntsAre ys ns ∧ ns.sum = (D.ahd p).length := by
      rcases hus with ⟨rfl, e⟩ | ⟨u, l, e, vs, rfl, _⟩
      · obtain ⟨rfl, _⟩ := j.1 rfl
        exact ⟨[], .nil, by rw [e]; rfl⟩
      · obtain ⟨t, rfl⟩ := j.2 (Nat.le_refl _)
        exact ⟨[_], .cons _ _ .nil, by simp⟩
    obtain ⟨ns, hn, hsum⟩ := hs
    walk_at "sts"
    refine f_sum (Room.handled R') (by walk_at "kn") hn fun t => ?_
    rw [hsum]
    exact fin0 (q _)
inductive IsSign (Φ : Known) (s : Int × Int) (v : Value) : Prop
  | mk : ∀ t a b c, (v = .ref t) → (Φ t (.tup [.int s.1 a, .int 0 b, .int s.2 c])) → IsSign Φ s v
inductive IsSigns (Φ : Known) (xs : List (Int × Int)) (l : Addr) : Prop
  | mk : ∀ vs, (Φ l (.list vs)) → (All2 (IsSign Φ) xs vs) → IsSigns Φ xs l
theorem IsSign.mono {Φ Ψ : Known} (k : ∀ a c, Φ a c → Ψ a c) (s : Int × Int) (v : Value) (h : IsSign Φ s v) : IsSign Ψ s v := by
  obtain ⟨t, a, b, c, e, h⟩ := h; exact ⟨t, a, b, c, e, k _ _ h⟩
theorem IsSigns.mono {Φ Ψ : Known} {xs : List (Int × Int)} {l : Addr} (k : ∀ a c, Φ a c → Ψ a c) (h : IsSigns Φ xs l) : IsSigns Ψ xs l := by
  obtain ⟨vs, a, b⟩ := h; exact ⟨vs, k _ _ a, b.mono (IsSign.mono k)⟩
theorem string_signs_ok {v tb : Addr} {D : VD} {p : Int} {t : Tok} {Q : Value → Loc → Led → Prop} (B : Base prog w h₀) (R : Room A 4) (V : IsView (Kn prog w h₀ n) D v) (T : IsTable (Kn prog w h₀ n) tb)
    (q : ∀ a new, IsSigns (InL new) ((D.ahd p).map fun c => (c, -1)) a → Q (.ref a) m (new ++ n)) : Does prog w A h₀ L (call (.ref 244) [.ref v, .ref tb, .int p t]) m n Q := by
  refine Codes.call ?_
  refine code_fnC (binds := [("view", .ref v), ("table", .ref tb), ("place", .int p t)]) (own := []) (cf := (fun k => [("face", k)])) (vars := (fun k => [(k, .var none)])) (m₀ := (upd (upd (upd (fun _ => none) "view" (.ref v)) "table" (.ref tb)) "place" (.int p t))) (by assumption) (by walk_at "room") (by walk_at "pick") (by k_is) (by k_is) (fun s X => by walk_at "binds") (by rfl) (by decide +kernel) (fun _ => by rfl) (fun _ => by rfl) (by walk_at "locs") (st := (fun k => [(k, .var none)])) (fun _ => rfl) (by rfl) (by rfl) (by rfl) ?_
  intro g L' c0 B' K R'
  show Does _ _ _ _ _ (execs (_ :: _) (envX _ ⟨_, _, _, _, _⟩ _ _ _ _)) _ _ _
  have V' := V.mono K
  have T' := T.mono K
  obtain ⟨t1, t2⟩ := T.mono K
  obtain ⟨v1, v2, v3, v4, v5, v6, v7, v8, v9, v10⟩ := V.mono K
  have ha := v10.ahd p
  walk_at "sts"
  rename_i fl
  refine x_ft (Room.handled R') ?_
  walk_at "sts"
  refine strings_at_V (fun _ _ => knA) B' (by walk_at "room") V' fun t us a kt hus => ?_
  have hl1 : us.length ≤ 1 := by rcases hus with ⟨rfl, _⟩ | ⟨u, l, e, vs, rfl, _⟩ <;> exact Nat.le_of_ble_eq_true rfl
  refine ⟨t, us, rfl, kt.elim knA (fun h => by rw [h.1, h.2]; exact .inr (.head _)), fun i m r => m "found" = some (.ref fl) ∧ (i = 0 → r = (a, .tup []) :: (fl, .list []) :: [(c0, .var none)] ∧ m "table" = some (.ref tb)) ∧ (1 ≤ i → ∃ vs, (fl, .list vs) ∈ r ∧ All2 (IsSign (InL r)) ((D.ahd p).map fun c => (c, -1)) vs) ∧ (a, .tup []) ∈ r,
    ⟨by walk_at "lk", fun _ => ⟨rfl, by walk_at "lk"⟩, fun h => (by lia), .head _⟩, fun i m r j => kt.elim knA (fun h => by rw [h.1, h.2]; exact .inr j.2.2.2), fun I i m r x hx j => ?_, fun m r j => ?_⟩
  · rcases hus with ⟨rfl, _⟩ | ⟨u, l, e, vs, rfl, h1, h2, h3, h4⟩
    · cases hx
    · cases i with
      | succ i => cases hx
      | zero =>
        cases hx
        obtain ⟨m1, j1, _, j3⟩ := j
        obtain ⟨rfl, m2⟩ := j1 rfl
        have hz := h3.length
        walk_at "sts"
        refine e_cl (cpos := default) (cs := [("face", c0)]) (Room.handled R') (by rfl) ?_
        walk_at "sts"
        refine ⟨l, vs, rfl, knA h2, fun i ys r => i ≤ vs.length ∧ All2 (IsSign (InL r)) (((D.ahd p).map fun c => (c, -1)).take i) ys, fun i ys r j => ?_, ⟨Nat.zero_le _, .nil⟩, fun g2 L2 K2 KB I2 acc i ys r m' y hy j => ?_, fun acc ys r j => ?_⟩
        · rw [j.2.length, List.length_take, List.length_map]; lia
        · obtain ⟨jl, ja⟩ := j
          have hi : i < vs.length := (List.getElem?_eq_some_iff.mp hy).1
          obtain ⟨t', hc⟩ := h3.get i ((D.ahd p)[i]'(by lia)) (List.getElem?_eq_getElem (by lia))
          have ey : y = .int ((D.ahd p)[i]'(by lia)) t' := Option.some.inj (hy.symm.trans hc)
          subst ey
          have kf := K2 c0 (.var (some (.int 0 _))) (by walk_at "kn")
          have B2 := KB B'
          walk_at "sts"
          refine ⟨fun _ => ?_, fun h => (by cases h)⟩
          walk_at "sts"
          refine ⟨_, less2 (p := (acc, _)) (q := (I2, _)) (by walk_at "take") (by walk_at "take"), by lia, ?_⟩
          rw [take_snoc (x := ((D.ahd p)[i]'(by lia), -1)) (by simp)]
          refine (ja.mono (IsSign.mono fun _ _ h => .tail _ h)).snoc ⟨_, _, _, _, rfl, .head _⟩
        · obtain ⟨jl, ja⟩ := j
          walk_at "sts"
          refine l_ext (ys := ys) (by walk_at "alt") (by walk_at "kn") (by rw [ja.length, List.length_take, List.length_map]; show 0 + _ ≤ _; lia) ?_
          walk_at "sts"
          refine te_next _ (less1 (p := (I, _)) (by walk_at "take")) ?_
          refine ⟨_, rfl, by walk_at "lk", fun h => (by lia), fun _ => ⟨[] ++ ys, ?_, ?_⟩, ?_⟩
          · walk_at "mem"
          rotate_left
          · walk_at "mem"
          rw [List.take_of_length_le (by rw [List.length_map]; lia)] at ja
          rw [List.nil_append]
          refine ja.mono (IsSign.mono fun _ _ h => ?_)
          exact List.mem_cons_of_mem _ (List.mem_append.mpr (.inl h))
  · obtain ⟨m1, j1, j2, j3⟩ := j
    walk_at "sts"
    rcases hus with ⟨rfl, e⟩ | ⟨u, l, e, vs, rfl, h1, h2, h3, h4⟩
    · obtain ⟨rfl, m2⟩ := j1 rfl
      exact ⟨_, Less.refl _, q _ _ ⟨[], by walk_at "mem", by rw [e]; exact .nil⟩⟩
    · obtain ⟨vs, k1, k2⟩ := j2 (Nat.le_refl _)
      exact ⟨_, Less.refl _, q _ _ ⟨vs, k1, k2⟩⟩
theorem shown_count_ok {v : Addr} {D : VD} {p : Int} {t : Tok} {Q : Value → Loc → Led → Prop} (B : Base prog w h₀) (R : Room A 4) (V : IsView (Kn prog w h₀ n) D v) (q : ∀ a t u, Q (.ref a) m ((a, .tup [.int 1 t, .int (p + 1) u]) :: n)) : Does prog w A h₀ L (call (.ref 256) [.ref v, .int p t]) m n Q := by
  refine Codes.call ?_
  refine code_fn (binds := [("view", .ref v), ("place", .int p t)]) (by assumption) (by walk_at "room") (by walk_at "pick") (by k_is) (by k_is) (fun s X => by walk_at "binds") (by exact locs rfl) (by decide +kernel) (by rfl) (by rfl) (by rfl) ?_
  intro g L' B' K R'
  show Does _ _ _ _ _ (execs (_ :: _) (envX _ ⟨_, _, _, _, _⟩ _ _ _ _)) _ _ _
  have V' := V.mono K
  obtain ⟨v1, v2, v3, v4, v5, v6, v7, v8, v9, v10⟩ := V.mono K
  walk_at "sts"
  exact ⟨_, Less.refl _, q _ _ _⟩
theorem new_Signs {a b c : Value} {Q : Value → Loc → Led → Prop} (B : Base prog w h₀) (R : Room A 3) (q : ∀ x dx, Q (.ref x) m ((dx, .attrs [("rows", a), ("after", b), ("reach", c)]) :: (x, .inst 207 dx) :: n)) : Does prog w A h₀ L (call (.ref 207) [a, b, c]) m n Q := by
  refine mk B R (mk_Signs _) (in_Signs _) (if_Signs _) fun x dx A' RA => ?_
  refine code_fn (binds := [("self", .ref x), ("rows", a), ("after", b), ("reach", c)]) (own := [(dx, .attrs [])]) (by assumption) (by walk_at "room") (by walk_at "pick") (by k_is) (by k_is) (fun s X => by walk_at "binds") (by exact locs rfl) (by decide +kernel) (by rfl) (by rfl) (by rfl) ?_
  intro g L' B' K R'
  show Does _ _ _ _ _ (execs (_ :: _) (envX _ ⟨_, _, _, _, _⟩ _ _ _ _)) _ _ _
  have kx := K x (.inst 207 dx) (by walk_at "kn")
  walk_at "sts"
  exact ⟨_, Less.refl _, rfl, q _ _⟩
def rch (p : Int) : Int := p + 1
def aft (D : VD) (p : Int) : Int := if p < D.fin then p + 1 else p
inductive IsHere (Φ : Known) (D : VD) (p : Int) (h : Addr) : Prop
  | mk : ∀ d l t u, (Φ h (.inst 207 d)) → (Φ d (.attrs [("rows", .ref l), ("after", .int (aft D p) t), ("reach", .int (p + 1) u)])) → (IsSigns Φ (D.rowsAt p) l) → IsHere Φ D p h
theorem IsHere.mono {Φ Ψ : Known} {D : VD} {p : Int} {l : Addr} (k : ∀ a c, Φ a c → Ψ a c) (h : IsHere Φ D p l) : IsHere Ψ D p l := by
  obtain ⟨a, b, c, d, e, f, g⟩ := h; exact ⟨a, b, c, d, k _ _ e, k _ _ f, g.mono k⟩
theorem IsSigns.snoc {Φ : Known} {xs : List (Int × Int)} {vs : List Value} {x : Int × Int} {v : Value} (h : All2 (IsSign Φ) xs vs) (h' : IsSign Φ x v) : All2 (IsSign Φ) (xs ++ [x]) (vs ++ [v]) := h.snoc h'
theorem signs_at_ok {v tb : Addr} {D : VD} {p : Int} {t : Tok} {Q : Value → Loc → Led → Prop} (B : Base prog w h₀) (R : Room A 6) (V : IsView (Kn prog w h₀ n) D v) (T : IsTable (Kn prog w h₀ n) tb)
    (q : ∀ h new, IsHere (InL new) D p h → Q (.ref h) m (new ++ n)) : Does prog w A h₀ L (call (.ref 268) [.ref v, .ref tb, .int p t]) m n Q := by
  refine Codes.call ?_
  refine code_fnC (binds := [("view", .ref v), ("table", .ref tb), ("place", .int p t)]) (own := []) (cf := (fun k => [("face", k + 1), ("place", k)])) (vars := (fun k => [(k + 1, .var none), (k, .var (some (.int p t)))])) (m₀ := (upd (upd (fun _ => none) "view" (.ref v)) "table" (.ref tb))) (by assumption) (by walk_at "room") (by walk_at "pick") (by k_is) (by k_is) (fun s X => by walk_at "binds") (by rfl) (by decide +kernel) (fun _ => by rfl) (fun _ => by rfl) (by walk_at "locs") (st := (fun k => [(k + 1, .var none), (k, .var (some (.int p t)))])) (fun _ => rfl) (by rfl) (by rfl) (by rfl) ?_
  intro g L' c0 B' K R'
  show Does _ _ _ _ _ (execs (_ :: _) (envX _ ⟨_, _, _, _, _⟩ _ _ _ _)) _ _ _
  have V' := V.mono K
  have T' := T.mono K
  obtain ⟨t1, t2⟩ := T.mono K
  obtain ⟨v1, v2, v3, v4, v5, v6, v7, v8, v9, v10⟩ := V.mono K
  have ha := v10.ahd p
  walk_at "sts"
  refine string_signs_ok B' (by walk_at "room") (by walk_at "view") (by walk_at "tab") fun sg nw hs => ?_
  by_cases hp : D.fin ≤ p
  · walk_at "sts"
    refine new_Signs B' (by walk_at "room") fun x dx => ?_
    walk_at "sts"
    refine ⟨_, Less.refl _, q _ _ ?_⟩
    have e1 : aft D p = p := if_neg (by lia)
    have e2 : D.rowsAt p = (D.ahd p).map fun c => (c, -1) := by unfold VD.rowsAt; rw [if_neg (by lia), List.append_nil]
    refine ⟨dx, sg, _, _, by walk_at "mem", by rw [e1]; walk_at "mem", ?_⟩
    rw [e2]
    exact hs.mono fun a c h => by simp only [InL] at h ⊢; walk_at "mem"
  · obtain ⟨vs, hl, ha2⟩ := hs
    walk_at "sts"
    refine o_cat (xs := vs) (by walk_at "kn") (by walk_at "kn") (by rw [ha2.length, List.length_map]; show _ + 1 ≤ _; lia) fun l => ?_
    walk_at "sts"
    refine new_Signs B' (by walk_at "room") fun x dx => ?_
    walk_at "sts"
    refine ⟨_, Less.refl _, q _ _ ?_⟩
    have e1 : aft D p = p + 1 := if_pos (by lia)
    have e2 : D.rowsAt p = ((D.ahd p).map fun c => (c, -1)) ++ [(D.code p, p)] := by unfold VD.rowsAt; rw [if_pos (by lia)]
    refine ⟨dx, l, _, _, by walk_at "mem", by rw [e1]; walk_at "mem", ?_⟩
    · rw [e2]
      refine ⟨_, by walk_at "mem", IsSigns.snoc (ha2.mono (IsSign.mono fun a c h => by simp only [InL] at h ⊢; walk_at "mem")) ⟨_, _, _, _, rfl, by walk_at "mem"⟩⟩

-- W3
abbrev WA (v tb : Addr) (p k : Int) (h : Addr) (r : Int) (t1 t2 t3 : Tok) : List (Str × Value) := [("view", .ref v), ("table", .ref tb), ("place", .int p t1), ("number", .int k t2), ("here", .ref h), ("reach", .int r t3)]
inductive WalkAt (Φ : Known) (D : VD) (v tb : Addr) (i : Nat) (l : List (Str × Value)) : Prop
  | mk : ∀ p k h r t1 t2 t3, (l = WA v tb p k h r t1 t2 t3) → (D.Pos i p k) → (IsHere Φ D p h) → WalkAt Φ D v tb i l
inductive WalkS (Φ : Known) (D : VD) (v tb : Addr) (i : Nat) (l : List (Str × Value)) : Prop
  | mk : ∀ p k h r t1 t2 t3, (l = WA v tb p k h r t1 t2 t3) → (D.Spot i p k) → (IsHere Φ D p h) → WalkS Φ D v tb i l
theorem WalkS.at {Φ : Known} {D : VD} {v tb : Addr} {i : Nat} {l : List (Str × Value)} (h : WalkS Φ D v tb i l) : WalkAt Φ D v tb i l := by
  obtain ⟨p, k, h, r, t1, t2, t3, e, s, f⟩ := h; exact ⟨p, k, h, r, t1, t2, t3, e, s.1, f⟩
theorem WalkAt.mono {Φ Ψ : Known} {D : VD} {v tb : Addr} {i : Nat} {l : List (Str × Value)} (k : ∀ a c, Φ a c → Ψ a c) (h : WalkAt Φ D v tb i l) : WalkAt Ψ D v tb i l := by
  obtain ⟨p, k, h, r, t1, t2, t3, e, s, f⟩ := h; exact ⟨p, k, h, r, t1, t2, t3, e, s, f.mono (by assumption)⟩
theorem WalkS.mono {Φ Ψ : Known} {D : VD} {v tb : Addr} {i : Nat} {l : List (Str × Value)} (k : ∀ a c, Φ a c → Ψ a c) (h : WalkS Φ D v tb i l) : WalkS Ψ D v tb i l := by
  obtain ⟨p, k, h, r, t1, t2, t3, e, s, f⟩ := h; exact ⟨p, k, h, r, t1, t2, t3, e, s, f.mono (by assumption)⟩
theorem lessR {p : Addr × Cell} {new : Led} : Less (p :: new) (new ++ [p]) := .of_perm (List.perm_append_singleton _ _)
theorem new_Walk {v tb s : Addr} {D : VD} {i : Nat} {p k : Int} {t u : Tok} {Q : Value → Loc → Led → Prop} (B : Base prog w h₀) (R : Room A 8) (V : IsView (Kn prog w h₀ n) D v) (T : IsTable (Kn prog w h₀ n) tb) (S : Kn prog w h₀ n s (.tup [.int p t, .int k u])) (P : D.Pos i p k)
    (q : ∀ x dx l new, WalkAt (InL new) D v tb i l → Q (.ref x) m ((dx, .attrs l) :: (new ++ (x, .inst 313 dx) :: n))) : Does prog w A h₀ L (call (.ref 313) [.ref v, .ref tb, .ref s]) m n Q := by
  refine mk B R (mk_Walk _) (in_Walk _) (if_Walk _) fun x dx A' RA => ?_
  have VV : IsView (Kn prog w h₀ ((x, .inst 313 dx) :: n)) D v := V.mono fun _ _ h => h.imp id (.tail _)
  have TT : IsTable (Kn prog w h₀ ((x, .inst 313 dx) :: n)) tb := T.mono fun _ _ h => h.imp id (.tail _)
  refine code_fn (binds := [("self", .ref x), ("view", .ref v), ("table", .ref tb), ("spot", .ref s)]) (own := [(dx, .attrs [])]) (by assumption) (by walk_at "room") (by walk_at "pick") (by k_is) (by k_is) (fun s X => by walk_at "binds") (by exact locs rfl) (by decide +kernel) (by rfl) (by rfl) (by rfl) ?_
  intro g L' B' K R'
  show Does _ _ _ _ _ (execs (_ :: _) (envX _ ⟨_, _, _, _, _⟩ _ _ _ _)) _ _ _
  have kx := K x (.inst 313 dx) (by walk_at "kn")
  have ks := K s _ (S.imp id (.tail _))
  have V' := VV.mono K
  have T' := TT.mono K
  walk_at "sts"
  refine signs_at_ok B' (by walk_at "room") (by walk_at "view") (by walk_at "tab") fun h new hs => ?_
  obtain ⟨d, l, t1, t2, h1, h2, h3⟩ := id hs
  simp only [InL] at h1 h2
  walk_at "sts"
  exact ⟨_, lessR, rfl, q _ _ _ new ⟨p, k, h, _, _, _, _, rfl, P, hs⟩⟩
inductive I_settle (i : Nat) (wa wd : Addr) (v tb : Addr) (D : VD) (p0 : Int) (h0 : Addr) (κ : Nat) (m : Loc) (n : Led) : Prop
  | mk : ∀ p k h r t1 t2 t3 new, (m = (fun y => List.lookup y [((("self" : Str)), Value.ref wa)].reverse)) → (n = (wd, .attrs (WA v tb p k h r t1 t2 t3)) :: new) → (κ = (D.fin - p).toNat) → (D.Pos i p k) → (((p = p0 ∧ h = h0) ∨ IsHere (InL new) D p h)) → I_settle i wa wd v tb D p0 h0 κ m n
theorem settle_ok {wa wd v tb : Addr} {D : VD} {i : Nat} {l : List (Str × Value)} {rest : Led} {Q : Value → Loc → Led → Prop} (B : Base prog w h₀) (R : Room A 8) (P : Pick [(wd, .attrs l)] n rest) (ka : Kn prog w h₀ rest wa (.inst 313 wd)) (V : IsView (Kn prog w h₀ rest) D v) (T : IsTable (Kn prog w h₀ rest) tb) (W : WalkAt (Kn prog w h₀ rest) D v tb i l)
    (q : ∀ l' new b, (∀ Ψ : Known, (∀ a c, InL new a c → Ψ a c) → WalkAt Ψ D v tb i l → WalkS Ψ D v tb i l') → (b = true ↔ i < D.N) → Q (.bool b) m ((wd, .attrs l') :: (new ++ rest))) : Does prog w A h₀ L (call (.ref 289) [.ref wa]) m n Q := by
  refine Codes.call ?_
  refine code_fn (binds := [("self", .ref wa)]) (own := [(wd, .attrs l)]) (by assumption) (by walk_at "room") (by walk_at "pick") (by k_is) (by k_is) (fun s X => by walk_at "binds") (by exact locs rfl) (by decide +kernel) (by rfl) (by rfl) (by rfl) ?_
  intro g L' B' K R'
  show Does _ _ _ _ _ (execs (_ :: _) (envX _ ⟨_, _, _, _, _⟩ _ _ _ _)) _ _ _
  have ka := K _ _ ka
  have V' := V.mono K
  have T' := T.mono K
  obtain ⟨v1, v2, v3, v4, v5, v6, v7, v8, v9, v10⟩ := V.mono K
  obtain ⟨p0, k0, h0, r0, t1, t2, t3, rfl, P0, H0⟩ := W
  have H0' := H0.mono K
  have fin : ∀ l' new b, (∃ p k h r t1 t2 t3, l' = WA v tb p k h r t1 t2 t3 ∧ D.Spot i p k ∧ ((p = p0 ∧ h = h0) ∨ IsHere (InL new) D p h)) → (b = true ↔ i < D.N) → Q (.bool b) m ((wd, .attrs l') :: (new ++ rest)) := by
    intro l' new b ⟨p, k, h, r, t1, t2, t3, e, s, f⟩ hb
    refine q l' new b (fun Ψ kΨ W' => ⟨p, k, h, r, t1, t2, t3, e, s, ?_⟩) hb
    obtain ⟨p0', k0', h0', r0', t1', t2', t3', e', P0', H0'⟩ := W'
    simp only [WA, List.cons.injEq, Prod.mk.injEq, Value.ref.injEq, Value.int.injEq, true_and, and_true] at e'
    rcases f with ⟨rfl, rfl⟩ | f
    · obtain ⟨⟨rfl, _⟩, _, rfl, _⟩ := e'
      exact H0'
    · exact f.mono kΨ
  clear q
  refine x_while (I_settle i wa wd v tb D p0 h0) _ ⟨p0, k0, h0, r0, t1, t2, t3, [], rfl, rfl, rfl, P0, .inl ⟨rfl, rfl⟩⟩ ?_
  rintro κ m n ⟨p, k, h, r, t1, t2, t3, new, rfl, rfl, rfl, P, HO⟩
  have HK : IsHere (Kn prog w g new) D p h := by
    rcases HO with ⟨rfl, rfl⟩ | f
    · exact H0'.mono fun _ _ => knA
    · exact f.mono fun _ _ h => .inr h
  obtain ⟨d, rl, u1, u2, h1, h2, vs, h3, h4⟩ := HK
  have hz := h4.length
  have hb := Pos.bounds P
  have ha := V'.ok.ahd p
  have hrl := rowsAt_len (D := D) p
  have hv : vs.length ≤ 1000 := by rw [hz, hrl]; split <;> lia
  clear hrl
  by_cases hk : k < (D.rowsAt p).length
  · walk_at "sts"
    exact ⟨_, Less.refl _, fin _ _ _ ⟨p, k, h, r, t1, t2, t3, rfl, ⟨P, .inl hk⟩, HO⟩ (by simp [Pos.lt P hk])⟩
  · by_cases hp : D.fin ≤ p
    · obtain ⟨e1, e2, e3⟩ := Pos.last P hk hp
      walk_at "sts"
      exact ⟨_, Less.refl _, fin _ _ _ ⟨p, k, h, r, t1, t2, t3, rfl, ⟨P, .inr e2⟩, HO⟩ (by rw [e1]; simp)⟩
    · have P' := Pos.after P hk (by lia)
      have ea : aft D p = p + 1 := if_pos (by lia)
      rw [ea] at h2
      walk_at "sts"
      refine signs_at_ok B' (by walk_at "room") (by walk_at "view") (by walk_at "tab") fun h' new' hs' => ?_
      obtain ⟨d', l', w1, w2, g1, g2, g3⟩ := id hs'
      simp only [InL] at g1 g2
      walk_at "sts"
      refine te_next _ (less1 (p := (wd, _)) (by walk_at "take")) ?_
      rw [← hz] at P'
      exact ⟨_, by lia, p + 1, k - vs.length, h', _, _, _, _, new' ++ new, rfl, rfl, rfl, P', .inr (hs'.mono fun _ _ h => List.mem_append.mpr (.inl h))⟩
theorem step_ok {wa wd v tb : Addr} {D : VD} {i : Nat} {l : List (Str × Value)} {rest : Led} {Φ : Known} {Q : Value → Loc → Led → Prop} (B : Base prog w h₀) (R : Room A 2) (P : Pick [(wd, .attrs l)] n rest) (ka : Kn prog w h₀ rest wa (.inst 313 wd)) (W : WalkS Φ D v tb i l) (hi : i < D.N)
    (q : ∀ l', (∀ Ψ : Known, WalkS Ψ D v tb i l → WalkAt Ψ D v tb (i + 1) l') → Q .none m ((wd, .attrs l') :: rest)) : Does prog w A h₀ L (call (.ref 303) [.ref wa]) m n Q := by
  obtain ⟨p0, k0, h0, r0, t1, t2, t3, rfl, P0, H0⟩ := W
  refine Codes.call ?_
  refine code_fn (binds := [("self", .ref wa)]) (own := [(wd, .attrs (WA v tb p0 k0 h0 r0 t1 t2 t3))]) (by assumption) (by walk_at "room") (by walk_at "pick") (by k_is) (by k_is) (fun s X => by walk_at "binds") (by exact locs rfl) (by decide +kernel) (by rfl) (by rfl) (by rfl) ?_
  intro g L' B' K R'
  show Does _ _ _ _ _ (execs (_ :: _) (envX _ ⟨_, _, _, _, _⟩ _ _ _ _)) _ _ _
  have ka := K _ _ ka
  walk_at "sts"
  refine ⟨_, Less.refl _, q _ fun Ψ W' => ?_⟩
  obtain ⟨p0', k0', h0', r0', t1', t2', t3', e', P0', H0'⟩ := W'
  simp only [WA, List.cons.injEq, Prod.mk.injEq, Value.ref.injEq, Value.int.injEq, true_and, and_true] at e'
  obtain ⟨⟨rfl, _⟩, ⟨rfl, _⟩, rfl, _⟩ := e'
  have hk : k0 < (D.rowsAt p0).length := by
    rcases P0'.2 with h | h
    · exact h
    · by_cases hk : k0 < (D.rowsAt p0).length
      · exact hk
      · have := (Pos.last P0'.1 hk (by lia)).1; lia
  exact ⟨_, _, _, _, _, _, _, rfl, Pos.step P0'.1 hk, H0'⟩
theorem sign_ok {wa wd v tb : Addr} {D : VD} {i : Nat} {l : List (Str × Value)} {rest : Led} {Q : Value → Loc → Led → Prop} (B : Base prog w h₀) (R : Room A 10) (P : Pick [(wd, .attrs l)] n rest) (ka : Kn prog w h₀ rest wa (.inst 313 wd)) (V : IsView (Kn prog w h₀ rest) D v) (T : IsTable (Kn prog w h₀ rest) tb) (W : WalkAt (Kn prog w h₀ rest) D v tb i l)
    (q : ∀ l' new sv, (∀ Ψ : Known, (∀ a c, InL new a c → Ψ a c) → WalkAt Ψ D v tb i l → WalkS Ψ D v tb i l') → ((D.N ≤ i ∧ sv = .none) ∨ ∃ x, D.S[i]? = some x ∧ IsSign (Kn prog w h₀ (new ++ rest)) x sv) → Q sv m ((wd, .attrs l') :: (new ++ rest))) : Does prog w A h₀ L (call (.ref 296) [.ref wa]) m n Q := by
  refine Codes.call ?_
  refine code_fn (binds := [("self", .ref wa)]) (own := [(wd, .attrs l)]) (by assumption) (by walk_at "room") (by walk_at "pick") (by k_is) (by k_is) (fun s X => by walk_at "binds") (by exact locs rfl) (by decide +kernel) (by rfl) (by rfl) (by rfl) ?_
  intro g L' B' K R'
  show Does _ _ _ _ _ (execs (_ :: _) (envX _ ⟨_, _, _, _, _⟩ _ _ _ _)) _ _ _
  have ka' := K _ _ ka
  have V' := V.mono K
  have T' := T.mono K
  have W' := W.mono K
  have m1 : ∃ l0, l = l0 ∧ ∃ p k h r t1 t2 t3, l0 = WA v tb p k h r t1 t2 t3 := by obtain ⟨p, k, h, r, t1, t2, t3, e, _⟩ := W; exact ⟨_, rfl, p, k, h, r, t1, t2, t3, e⟩
  obtain ⟨_, rfl, p0, k0, h0, r0, t1, t2, t3, rfl⟩ := m1
  walk_at "sts"
  refine settle_ok B' (by walk_at "room") (.cons .here .nil) (knA ka') (V'.mono fun _ _ => knA) (T'.mono fun _ _ => knA) (W'.mono fun _ _ => knA) fun l' new b ht hb => ?_
  have hW := ht (fun a c => Kn prog w h₀ rest a c ∨ InL new a c) (fun _ _ => .inr) (W.mono fun _ _ => .inl)
  have kΨ : ∀ a c, (Kn prog w h₀ rest a c ∨ InL new a c) → Kn prog w h₀ (new ++ rest) a c := fun a c h => h.elim (fun h => h.imp id fun h => List.mem_append.mpr (.inr h)) fun h => .inr (List.mem_append.mpr (.inl h))
  obtain ⟨p, k, h, r, u1, u2, u3, rfl, S, d, rl, x1, x2, h1, h2, vs, h3, h4⟩ := hW
  have kg : ∀ {l0 : List (Str × Value)} {a c}, (Kn prog w h₀ rest a c ∨ InL new a c) → Kn prog w g ((wd, .attrs l0) :: (new ++ [])) a c := fun h => h.elim (fun h => knA (K _ _ h)) fun h => .inr (.tail _ (List.mem_append.mpr (.inl h)))
  have h1 := kg (l0 := WA v tb p k h r u1 u2 u3) h1
  have h2 := kg (l0 := WA v tb p k h r u1 u2 u3) h2
  have h3 := kg (l0 := WA v tb p k h r u1 u2 u3) h3
  have hbd := Pos.bounds S.1
  cases b with
  | true =>
    have hi := hb.mp rfl
    have hk : k < (D.rowsAt p).length := by
      rcases S.2 with h | h
      · exact h
      · by_cases hk : k < (D.rowsAt p).length
        · exact hk
        · have := (Pos.last S.1 hk (by lia)).1; lia
    have hx : (D.rowsAt p)[k.toNat]? = some ((D.rowsAt p)[k.toNat]'(by lia)) := List.getElem?_eq_getElem (by lia)
    obtain ⟨sv, e1, e2⟩ := h4.get hx
    have hS := (S_get S.1 hk).trans hx
    have hsz : (D.rowsAt p).length < 1000 := by
      have hrl := rowsAt_len (D := D) p
      have ha := V'.ok.ahd p
      rw [hrl]; split <;> lia
    walk_at "sts"
    refine i_lst (by walk_at "kn") (by lia) (by lia) e1 ?_
    refine ⟨(wd, _) :: new, by rw [List.append_nil]; exact Less.refl _, q _ new _ ht (.inr ⟨_, hS, IsSign.mono kΨ _ _ e2⟩)⟩
  | false =>
    have hi : ¬ i < D.N := fun z => absurd (hb.mpr z) (by decide)
    walk_at "sts"
    refine ⟨(wd, _) :: new, by rw [List.append_nil]; exact Less.refl _, q _ new _ ht (.inl ⟨by lia, rfl⟩)⟩
theorem spot_ok {wa wd v tb : Addr} {D : VD} {i : Nat} {l : List (Str × Value)} {rest : Led} {Q : Value → Loc → Led → Prop} (B : Base prog w h₀) (R : Room A 10) (P : Pick [(wd, .attrs l)] n rest) (ka : Kn prog w h₀ rest wa (.inst 313 wd)) (V : IsView (Kn prog w h₀ rest) D v) (T : IsTable (Kn prog w h₀ rest) tb) (W : WalkAt (Kn prog w h₀ rest) D v tb i l)
    (q : ∀ l' new s p k t u, (∀ Ψ : Known, (∀ a c, InL new a c → Ψ a c) → WalkAt Ψ D v tb i l → WalkS Ψ D v tb i l') → D.Spot i p k → Q (.ref s) m ((s, .tup [.int p t, .int k u]) :: (wd, .attrs l') :: (new ++ rest))) : Does prog w A h₀ L (call (.ref 310) [.ref wa]) m n Q := by
  refine Codes.call ?_
  refine code_fn (binds := [("self", .ref wa)]) (own := [(wd, .attrs l)]) (by assumption) (by walk_at "room") (by walk_at "pick") (by k_is) (by k_is) (fun s X => by walk_at "binds") (by exact locs rfl) (by decide +kernel) (by rfl) (by rfl) (by rfl) ?_
  intro g L' B' K R'
  show Does _ _ _ _ _ (execs (_ :: _) (envX _ ⟨_, _, _, _, _⟩ _ _ _ _)) _ _ _
  have ka' := K _ _ ka
  have V' := V.mono K
  have T' := T.mono K
  have W' := W.mono K
  have m1 : ∃ l0, l = l0 ∧ ∃ p k h r t1 t2 t3, l0 = WA v tb p k h r t1 t2 t3 := by obtain ⟨p, k, h, r, t1, t2, t3, e, _⟩ := W; exact ⟨_, rfl, p, k, h, r, t1, t2, t3, e⟩
  obtain ⟨_, rfl, p0, k0, h0, r0, t1, t2, t3, rfl⟩ := m1
  walk_at "sts"
  refine settle_ok B' (by walk_at "room") (.cons .here .nil) (knA ka') (V'.mono fun _ _ => knA) (T'.mono fun _ _ => knA) (W'.mono fun _ _ => knA) fun l' new b ht hb => ?_
  have hW := ht (fun a c => Kn prog w h₀ rest a c ∨ InL new a c) (fun _ _ => .inr) (W.mono fun _ _ => .inl)
  obtain ⟨p, k, h, r, u1, u2, u3, rfl, S, hh⟩ := hW
  walk_at "sts"
  refine ⟨(_, _) :: (wd, _) :: new, by rw [List.append_nil]; exact Less.refl _, q _ new _ _ _ _ _ ht S⟩

-- W4
abbrev RA (s e gl : Addr) (c0 nc : Value) (b1 b2 b3 : Bool) (mk rc : Value) : List (Str × Value) := [("start", .ref s), ("column", c0), ("end", .ref e), ("next_column", nc), ("glyphs", .ref gl), ("is_line_end", .bool b1), ("is_break", .bool b2), ("is_end", .bool b3), ("mark", mk), ("reach", rc)]
inductive SpotT (Φ : Known) (D : VD) (i : Nat) (s : Addr) : Prop
  | mk : ∀ p k t u, (Φ s (.tup [.int p t, .int k u])) → (D.Spot i p k) → SpotT Φ D i s
theorem SpotT.mono {Φ Ψ : Known} {D : VD} {i : Nat} {s : Addr} (k : ∀ a c, Φ a c → Ψ a c) (h : SpotT Φ D i s) : SpotT Ψ D i s := by
  obtain ⟨p, j, t, u, e, f⟩ := h; exact ⟨p, j, t, u, k _ _ e, f⟩
inductive Glyph (Φ : Known) (pl : Int) (v : Value) : Prop
  | mk : ∀ t a b c, (v = .ref t) → (Φ t (.tup [a, b, .int pl c])) → Glyph Φ pl v
theorem Glyph.mono {Φ Ψ : Known} (k : ∀ a c, Φ a c → Ψ a c) (pl : Int) (v : Value) (h : Glyph Φ pl v) : Glyph Ψ pl v := by
  obtain ⟨t, a, b, c, e, h⟩ := h; exact ⟨t, a, b, c, e, k _ _ h⟩
inductive IsRow (Φ : Known) (D : VD) (room : Nat) (i : Nat) (ra : Addr) : Prop
  | mk : ∀ rd s e gl c0 nc t b1 mk rc gs, (Φ ra (.inst 348 rd)) → (Φ rd (.attrs (RA s e gl c0 (.int nc t) b1 (D.isBrk room i) (D.isEnd room i) mk rc))) → (SpotT Φ D i s) → (SpotT Φ D (D.nxt room i) e) → (Φ gl (.list gs)) → (All2 (Glyph Φ) (D.shown room i) gs) → IsRow Φ D room i ra
theorem IsRow.mono {Φ Ψ : Known} {D : VD} {room i : Nat} {ra : Addr} (k : ∀ a c, Φ a c → Ψ a c) (h : IsRow Φ D room i ra) : IsRow Ψ D room i ra := by
  obtain ⟨rd, s, e, gl, c0, nc, t, b1, mk, rc, gs, h1, h2, h3, h4, h5, h6⟩ := h
  exact ⟨rd, s, e, gl, c0, nc, t, b1, mk, rc, gs, k _ _ h1, k _ _ h2, h3.mono k, h4.mono k, k _ _ h5, h6.mono (Glyph.mono k)⟩
theorem new_Row {s : Addr} {p k : Int} {t u : Tok} {col : Value} {Q : Value → Loc → Led → Prop} (B : Base prog w h₀) (R : Room A 3) (S : Kn prog w h₀ n s (.tup [.int p t, .int k u])) (hp : handedIn col = true)
    (q : ∀ x dx gl, Q (.ref x) m ((gl, .list []) :: (dx, .attrs (RA s s gl col col false false false (.int 32 203) (.int p t))) :: (x, .inst 348 dx) :: n)) : Does prog w A h₀ L (call (.ref 348) [.ref s, col]) m n Q := by
  refine mk B R (mk_Row _) (in_Row _) (if_Row _) fun x dx A' RA => ?_
  refine code_fn (binds := [("self", .ref x), ("start", .ref s), ("column", col)]) (own := [(dx, .attrs [])]) (by assumption) (by walk_at "room") (by walk_at "pick") (by k_is) (by k_is) (fun s X => by walk_at "binds") (by exact locs rfl) (by decide +kernel) (by rfl) (by rfl) (by rfl) ?_
  intro g L' B' K R'
  show Does _ _ _ _ _ (execs (_ :: _) (envX _ ⟨_, _, _, _, _⟩ _ _ _ _)) _ _ _
  have kx := K x (.inst 348 dx) (by walk_at "kn")
  have ks := K s _ (S.imp id (.tail _))
  walk_at "sts"
  exact ⟨_, Less.refl _, rfl, q _ _ _⟩
theorem put_sign_ok {ra rd s e gl st cl : Addr} {c0 nc mk rc : Value} {b1 b2 b3 : Bool} {gs : List Value} {c pl : Int} {t a b d : Tok} {rest : Led} {Q : Value → Loc → Led → Prop} (B : Base prog w h₀) (R : Room A 3) (P : Pick [(gl, .list gs)] n rest) (k1 : Kn prog w h₀ rest ra (.inst 348 rd)) (k2 : Kn prog w h₀ rest rd (.attrs (RA s e gl c0 nc b1 b2 b3 mk rc)))
    (k3 : Kn prog w h₀ rest st (.tup [.int c a, .int 0 b, .int pl d])) (k4 : Kn prog w h₀ rest cl (.list [.int c t])) (hz : gs.length ≤ 1000)
    (q : ∀ tt, Q .none m ((tt, .tup [.int c t, .int 0 b, .int pl d]) :: (gl, .list (gs ++ [.ref tt])) :: rest)) : Does prog w A h₀ L (call (.ref 359) [.ref ra, .ref st, .ref cl]) m n Q := by
  refine Codes.call ?_
  refine code_fn (binds := [("row", .ref ra), ("sign", .ref st), ("codes", .ref cl)]) (own := [(gl, .list gs)]) (by assumption) (by walk_at "room") (by walk_at "pick") (by k_is) (by k_is) (fun s X => by walk_at "binds") (by exact locs rfl) (by decide +kernel) (by rfl) (by rfl) (by rfl) ?_
  intro g L' B' K R'
  show Does _ _ _ _ _ (execs (_ :: _) (envX _ ⟨_, _, _, _, _⟩ _ _ _ _)) _ _ _
  have k1 := K _ _ k1
  have k2 := K _ _ k2
  have k3 := K _ _ k3
  have k4 := K _ _ k4
  refine x_fl (Room.handled R') ?_
  walk_at "sts"
  refine ⟨cl, _, rfl, knA k4, fun i m r => (i = 0 → m = (fun y => List.lookup y [(("row" : Str), Value.ref ra), ("sign", .ref st), ("codes", .ref cl)].reverse) ∧ r = [(gl, .list gs)]) ∧ (1 ≤ i → ∃ tt, r = [(tt, .tup [.int c t, .int 0 b, .int pl d]), (gl, .list (gs ++ [.ref tt]))]), ⟨fun _ => ⟨rfl, rfl⟩, fun h => (by lia)⟩, fun i m r j => knA k4, fun I i m r x hx j => ?_, fun m r j => ?_⟩
  · cases i with
    | succ i => cases hx
    | zero =>
      cases hx
      obtain ⟨rfl, rfl⟩ := j.1 rfl
      walk_at "sts"
      exact te_next _ (less1 (p := (I, _)) (by walk_at "take")) ⟨_, rfl, fun h => (by lia), fun _ => ⟨_, rfl⟩⟩
  · obtain ⟨tt, rfl⟩ := j.2 (Nat.le_refl _)
    walk_at "sts"
    exact ⟨_, Less.refl _, q _⟩
theorem stop_ok {ra rd s e gl wa wd v tb : Addr} {c0 nc mk : Value} {r0 nx : Int} {rt nt : Tok} {b1 b2 b3 : Bool} {D : VD} {i : Nat} {l : List (Str × Value)} {rest : Led} {Q : Value → Loc → Led → Prop} (B : Base prog w h₀) (R : Room A 12)
    (P : Pick [(rd, .attrs (RA s e gl c0 nc b1 b2 b3 mk (.int r0 rt))), (wd, .attrs l)] n rest) (k1 : Kn prog w h₀ rest ra (.inst 348 rd)) (ka : Kn prog w h₀ rest wa (.inst 313 wd)) (V : IsView (Kn prog w h₀ rest) D v) (T : IsTable (Kn prog w h₀ rest) tb) (W : WalkAt (Kn prog w h₀ rest) D v tb i l)
    (q : ∀ l' new e' p k t u r t', D.Spot i p k → Q .none m ((e', .tup [.int p t, .int k u]) :: (rd, .attrs (RA s e' gl c0 (.int nx nt) b1 b2 b3 mk (.int r t'))) :: (wd, .attrs l') :: (new ++ rest))) : Does prog w A h₀ L (call (.ref 338) [.ref ra, .ref wa, .int nx nt]) m n Q := by
  refine Codes.call ?_
  refine code_fn (binds := [("self", .ref ra), ("walk", .ref wa), ("column", .int nx nt)]) (own := [(rd, .attrs (RA s e gl c0 nc b1 b2 b3 mk (.int r0 rt))), (wd, .attrs l)]) (by assumption) (by walk_at "room") (by walk_at "pick") (by k_is) (by k_is) (fun s X => by walk_at "binds") (by exact locs rfl) (by decide +kernel) (by rfl) (by rfl) (by rfl) ?_
  intro g L' B' K R'
  show Does _ _ _ _ _ (execs (_ :: _) (envX _ ⟨_, _, _, _, _⟩ _ _ _ _)) _ _ _
  have k1 := K _ _ k1
  have ka := K _ _ ka
  have V' := V.mono K
  have T' := T.mono K
  have W' := W.mono K
  have m1 : ∃ l0, l = l0 ∧ ∃ p k h r t1 t2 t3, l0 = WA v tb p k h r t1 t2 t3 := by obtain ⟨p, k, h, r, t1, t2, t3, e, _⟩ := W; exact ⟨_, rfl, p, k, h, r, t1, t2, t3, e⟩
  obtain ⟨_, rfl, p0, k0, h0, r1, t1, t2, t3, rfl⟩ := m1
  walk_at "sts"
  refine spot_ok B' (by walk_at "room") (.cons (.there .here) .nil) (knA ka) (V'.mono fun _ _ => knA) (T'.mono fun _ _ => knA) (W'.mono fun _ _ => knA) fun l' new e' p k t u ht S => ?_
  have hW := ht (fun a c => At prog w g a c ∨ InL new a c) (fun _ _ => .inr) (W'.mono fun _ _ => .inl)
  obtain ⟨p', k', h', r', u1, u2, u3, rfl, _⟩ := hW
  walk_at "sts"
  exact ⟨_, less3 (p := (e', _)) (q := (rd, _)) (s := (wd, _)) (by walk_at "take") (by walk_at "take") (by walk_at "take"), q _ (new ++ []) _ _ _ _ _ _ _ S⟩
theorem eol_end {ra rd s e gl wa wd v tb : Addr} {c0 nc mk : Value} {r0 nx : Int} {rt nt : Tok} {b1 b2 b3 : Bool} {D : VD} {i : Nat} {l : List (Str × Value)} {rest : Led} {Q : Value → Loc → Led → Prop} (B : Base prog w h₀) (R : Room A 14)
    (P : Pick [(rd, .attrs (RA s e gl c0 nc b1 b2 b3 mk (.int r0 rt))), (wd, .attrs l)] n rest) (k1 : Kn prog w h₀ rest ra (.inst 348 rd)) (ka : Kn prog w h₀ rest wa (.inst 313 wd)) (V : IsView (Kn prog w h₀ rest) D v) (T : IsTable (Kn prog w h₀ rest) tb) (W : WalkS (Kn prog w h₀ rest) D v tb i l)
    (q : ∀ l' new e' p k t u r t', D.Spot i p k → Q .none m ((e', .tup [.int p t, .int k u]) :: (rd, .attrs (RA s e' gl c0 (.int nx nt) b1 b2 true mk (.int r t'))) :: (wd, .attrs l') :: (new ++ rest))) : Does prog w A h₀ L (call (.ref 366) [.ref ra, .ref wa, .none, .int nx nt]) m n Q := by
  refine Codes.call ?_
  refine code_fn (binds := [("row", .ref ra), ("walk", .ref wa), ("sign", .none), ("column", .int nx nt)]) (own := [(rd, .attrs (RA s e gl c0 nc b1 b2 b3 mk (.int r0 rt))), (wd, .attrs l)]) (by assumption) (by walk_at "room") (by walk_at "pick") (by k_is) (by k_is) (fun s X => by walk_at "binds") (by exact locs rfl) (by decide +kernel) (by rfl) (by rfl) (by rfl) ?_
  intro g L' B' K R'
  show Does _ _ _ _ _ (execs (_ :: _) (envX _ ⟨_, _, _, _, _⟩ _ _ _ _)) _ _ _
  have k1 := K _ _ k1
  have ka := K _ _ ka
  have V' := V.mono K
  have T' := T.mono K
  have W' := W.mono K
  walk_at "sts"
  refine stop_ok (i := i) (D := D) (tb := tb) (v := v) B' (by walk_at "room") (.cons .here (.cons .here .nil)) (knA k1) (knA ka) (V'.mono fun _ _ => knA) (T'.mono fun _ _ => knA) (W'.at.mono fun _ _ => knA) fun l' new e' p k t u r t' S => ?_
  walk_at "sts"
  exact ⟨_, Less.refl _, by rw [List.append_nil]; exact q _ new _ _ _ _ _ _ _ S⟩
theorem eol_nl {ra rd s e gl wa wd v tb st : Addr} {c0 nc mk : Value} {r0 nx pl : Int} {rt nt a b d : Tok} {b1 b2 b3 : Bool} {D : VD} {i : Nat} {l : List (Str × Value)} {rest : Led} {Q : Value → Loc → Led → Prop} (B : Base prog w h₀) (R : Room A 14)
    (P : Pick [(rd, .attrs (RA s e gl c0 nc b1 b2 b3 mk (.int r0 rt))), (wd, .attrs l)] n rest) (k1 : Kn prog w h₀ rest ra (.inst 348 rd)) (ka : Kn prog w h₀ rest wa (.inst 313 wd)) (V : IsView (Kn prog w h₀ rest) D v) (T : IsTable (Kn prog w h₀ rest) tb) (W : WalkS (Kn prog w h₀ rest) D v tb i l)
    (hS : D.S[i]? = some (10, pl)) (ks : Kn prog w h₀ rest st (.tup [.int 10 a, .int 0 b, .int pl d]))
    (q : ∀ l' new e' p k t u r t' nx nt, D.Spot (i + 1) p k → Q .none m ((e', .tup [.int p t, .int k u]) :: (rd, .attrs (RA s e' gl c0 (.int nx nt) true (decide (pl ≠ -1)) b3 mk (.int r t'))) :: (wd, .attrs l') :: (new ++ rest))) : Does prog w A h₀ L (call (.ref 366) [.ref ra, .ref wa, .ref st, .int nx nt]) m n Q := by
  refine Codes.call ?_
  refine code_fn (binds := [("row", .ref ra), ("walk", .ref wa), ("sign", .ref st), ("column", .int nx nt)]) (own := [(rd, .attrs (RA s e gl c0 nc b1 b2 b3 mk (.int r0 rt))), (wd, .attrs l)]) (by assumption) (by walk_at "room") (by walk_at "pick") (by k_is) (by k_is) (fun s X => by walk_at "binds") (by exact locs rfl) (by decide +kernel) (by rfl) (by rfl) (by rfl) ?_
  intro g L' B' K R'
  show Does _ _ _ _ _ (execs (_ :: _) (envX _ ⟨_, _, _, _, _⟩ _ _ _ _)) _ _ _
  have k1 := K _ _ k1
  have ka := K _ _ ka
  have ks := K _ _ ks
  have V' := V.mono K
  have T' := T.mono K
  have W' := W.mono K
  have hi : i < D.N := (List.getElem?_eq_some_iff.mp hS).1
  have m1 : ∃ l0, l = l0 ∧ ∃ p k h r t1 t2 t3, l0 = WA v tb p k h r t1 t2 t3 := by obtain ⟨p, k, h, r, t1, t2, t3, e, _⟩ := W; exact ⟨_, rfl, p, k, h, r, t1, t2, t3, e⟩
  obtain ⟨_, rfl, p0, k0, h0, r1, t1, t2, t3, rfl⟩ := m1
  walk_at "sts"
  refine step_ok B' (by walk_at "room") (.cons (.there .here) .nil) (knA ka) W' hi fun l' ht => ?_
  have W'' := ht _ W'
  obtain ⟨p', k', h', r', u1, u2, u3, rfl, _⟩ := id W''
  by_cases hp : pl = -1
  · subst hp
    walk_at "sts"
    refine stop_ok (i := i + 1) (D := D) (tb := tb) (v := v) B' (by walk_at "room") (.cons (.there .here) (.cons .here .nil)) (knA k1) (knA ka) (V'.mono fun _ _ => knA) (T'.mono fun _ _ => knA) (W''.mono fun _ _ => knA) fun l' new e' p k t u r t' S => ?_
    walk_at "sts"
    exact ⟨_, Less.refl _, by rw [List.append_nil]; exact q _ new _ _ _ _ _ _ _ _ _ S⟩
  · have hc : D.code pl = 10 := (S_text hS hp).symm
    walk_at "sts"
    refine stop_ok (i := i + 1) (D := D) (tb := tb) (v := v) B' (by walk_at "room") (.cons (.there .here) (.cons .here .nil)) (knA k1) (knA ka) (V'.mono fun _ _ => knA) (T'.mono fun _ _ => knA) (W''.mono fun _ _ => knA) fun l' new e' p k t u r t' S => ?_
    walk_at "sts"
    exact ⟨_, Less.refl _, by rw [List.append_nil]; simpa [hp, hc] using q _ new _ _ _ _ _ _ _ _ _ S⟩
theorem overflow_ok {ra rd s e gl wa wd v tb st cl : Addr} {c0 nc mk cs : Value} {gs : List Value} {r0 nx c pl room : Int} {rt nt a b d rmt : Tok} {b1 b2 b3 : Bool} {D : VD} {i : Nat} {l : List (Str × Value)} {rest : Led} {Q : Value → Loc → Led → Prop} (B : Base prog w h₀) (R : Room A 14)
    (P : Pick [(rd, .attrs (RA s e gl c0 nc b1 b2 b3 mk (.int r0 rt))), (wd, .attrs l)] n rest) (k1 : Kn prog w h₀ rest ra (.inst 348 rd)) (ka : Kn prog w h₀ rest wa (.inst 313 wd)) (V : IsView (Kn prog w h₀ rest) D v) (T : IsTable (Kn prog w h₀ rest) tb) (W : WalkS (Kn prog w h₀ rest) D v tb i l)
    (ks : Kn prog w h₀ rest st (.tup [.int c a, .int 0 b, .int pl d])) (kg : Kn prog w h₀ rest gl (.list gs)) (hc : c ≠ 9) (h0 : gs.length ≠ 0) (hz : gs.length ≤ 1000)
    (q : ∀ l' new e' p k t u r t', D.Spot i p k → Q .none m ((e', .tup [.int p t, .int k u]) :: (rd, .attrs (RA s e' gl c0 (.int nx nt) b1 b2 b3 mk (.int r t'))) :: (wd, .attrs l') :: (new ++ rest))) : Does prog w A h₀ L (call (.ref 373) [.ref ra, .ref wa, .ref st, cs, .int nx nt, .int room rmt, .none]) m n Q := by
  refine Codes.call ?_
  refine code_fn (binds := [("row", .ref ra), ("walk", .ref wa), ("sign", .ref st), ("codes", cs), ("column", .int nx nt), ("room", .int room rmt), ("last_break", .none)]) (own := [(rd, .attrs (RA s e gl c0 nc b1 b2 b3 mk (.int r0 rt))), (wd, .attrs l)]) (by assumption) (by walk_at "room") (by walk_at "pick") (by k_is) (by k_is) (fun s X => by walk_at "binds") (by exact locs rfl) (by decide +kernel) (by rfl) (by rfl) (by rfl) ?_
  intro g L' B' K R'
  show Does _ _ _ _ _ (execs (_ :: _) (envX _ ⟨_, _, _, _, _⟩ _ _ _ _)) _ _ _
  have k1 := K _ _ k1
  have ka := K _ _ ka
  have ks := K _ _ ks
  have kg := K _ _ kg
  have V' := V.mono K
  have T' := T.mono K
  have W' := W.mono K
  walk_at "sts"
  refine stop_ok (i := i) (D := D) (tb := tb) (v := v) B' (by walk_at "room") (.cons .here (.cons .here .nil)) (knA k1) (knA ka) (V'.mono fun _ _ => knA) (T'.mono fun _ _ => knA) (W'.at.mono fun _ _ => knA) fun l' new e' p k t u r t' S => ?_
  walk_at "sts"
  exact ⟨_, Less.refl _, by rw [List.append_nil]; exact q _ new _ _ _ _ _ _ _ S⟩

-- W5
inductive IsOpts (Φ : Known) : Addr → Prop
  | mk {o d : Addr} {a b c : Value} : Φ o (.inst 39 d) → Φ d (.attrs [("tab_width", a), ("has_carets", b), ("truncates", .bool false), ("wraps_words", .bool false), ("hscroll", c)]) → IsOpts Φ o
theorem IsOpts.mono {Φ Ψ : Known} {v : Addr} (k : ∀ a c, Φ a c → Ψ a c) (V : IsOpts Φ v) : IsOpts Ψ v := by
  obtain ⟨a, b⟩ := V; exact ⟨k _ _ a, k _ _ b⟩
inductive I_folded (D : VD) (i room : Nat) (wd gl rd s ra wa op v tb : Addr) (ps ks : Int) (u1 u2 : Tok) (κ : Nat) (m : Loc) (n : Led) : Prop
  | mk : ∀ (c : Nat) gs l cx ct mk rc rct new rmt, (n = (wd, .attrs l) :: (gl, .list gs) :: (rd, .attrs (RA s s gl (.int cx ct) (.int cx ct) false false false mk (.int rc rct))) :: new) → (κ = room + 1 - c) → (c ≤ room) → (m "walk" = some (.ref wa)) → (m "row" = some (.ref ra)) → (m "room" = some (.int ((room : Nat) + 1 - 1) rmt)) → (∃ cy cyt, m "column" = some (.int cy cyt)) → (m "options" = some (.ref op)) → (m "last_break" = some .none) → ((ra, .inst 348 rd) ∈ new) → ((wa, .inst 313 wd) ∈ new) → ((s, .tup [.int ps u1, .int ks u2]) ∈ new) → (WalkAt (InL new) D v tb (i + c) l) → (∀ j, j < c → ∃ x, D.S[i + j]? = some x ∧ x.1 ≠ 10) → (All2 (Glyph (InL new)) (((D.S.drop i).take c).map (·.2)) gs) → I_folded D i room wd gl rd s ra wa op v tb ps ks u1 u2 κ m n
theorem folded_row_ok {v tb sp op : Addr} {D : VD} {i room : Nat} {p k cx : Int} {t u ct wt : Tok} {Q : Value → Loc → Led → Prop} (B : Base prog w h₀) (R : Room A 18) (V : IsView (Kn prog w h₀ n) D v) (T : IsTable (Kn prog w h₀ n) tb) (O : IsOpts (Kn prog w h₀ n) op) (S : Kn prog w h₀ n sp (.tup [.int p t, .int k u])) (P : D.Pos i p k) (hr : 2 ≤ room ∧ room ≤ 100) (hC : ∀ x ∈ D.S, Cd x.1)
    (q : ∀ ra new, IsRow (InL new) D room i ra → Q (.ref ra) m (new ++ n)) : Does prog w A h₀ L (call (.ref 380) [.ref v, .ref tb, .ref sp, .int cx ct, .int ((room : Nat) + 1) wt, .ref op]) m n Q := by
  refine Codes.call ?_
  refine code_fn (binds := [("view", .ref v), ("table", .ref tb), ("spot", .ref sp), ("column", .int cx ct), ("width", .int ((room : Nat) + 1) wt), ("options", .ref op)]) (by assumption) (by walk_at "room") (by walk_at "pick") (by k_is) (by k_is) (fun s X => by walk_at "binds") (by exact locs rfl) (by decide +kernel) (by rfl) (by rfl) (by rfl) ?_
  intro g L' B' K R'
  show Does _ _ _ _ _ (execs (_ :: _) (envX _ ⟨_, _, _, _, _⟩ _ _ _ _)) _ _ _
  have V' := V.mono K
  have T' := T.mono K
  obtain ⟨o1, o2⟩ := O.mono K
  have S' := K _ _ S
  walk_at "sts"
  refine new_Walk B' (by walk_at "room") (by walk_at "view") (by walk_at "tab") (by walk_at "kn") P fun wa wd l new W0 => ?_
  obtain ⟨p0, k0, h0, r0, t1, t2, t3, rfl, P0, H0⟩ := id W0
  walk_at "sts"
  have W1 := W0.mono (Ψ := Kn prog w g ([(wa, .inst 313 wd)] ++ new)) fun _ _ h => .inr (List.mem_append.mpr (.inr h))
  refine spot_ok (i := i) (D := D) (v := v) (tb := tb) B' (by walk_at "room") (by walk_at "pick") (by walk_at "kn") (by walk_at "view") (by walk_at "tab") (W0.mono fun _ _ h => knM (by simp only [InL] at h; walk_at "mem")) fun l' new1 s ps ks u1 u2 ht hs => ?_
  walk_at "sts"
  refine new_Row B' (by walk_at "room") (by walk_at "kn") rfl fun ra rd gl => ?_
  walk_at "sts"
  have W2 := ht (InL (new1 ++ new)) (fun _ _ h => List.mem_append.mpr (.inl h)) (W0.mono fun _ _ h => List.mem_append.mpr (.inr h))
  refine Does.less (less3 (p := (wd, _)) (q := (gl, _)) (s := (rd, _)) (by walk_at "take") (by walk_at "take") (by walk_at "take")) ?_
  refine x_while (I_folded D i room wd gl rd s ra wa op v tb ps ks u1 u2) _
    ⟨0, [], _, _, _, _, _, _, _, _, rfl, rfl, Nat.zero_le _, by walk_at "lk", by walk_at "lk", by walk_at "lk", ⟨_, _, by walk_at "lk"⟩, by walk_at "lk", by walk_at "lk", by walk_at "mem", by walk_at "mem", by walk_at "mem", ?_, fun j h => absurd h (Nat.not_lt_zero _), by simp; exact .nil⟩ ?_
  · exact W2.at.mono fun a c h => by
      simp only [InL] at h ⊢
      rcases List.mem_append.mp h with h | h <;> walk_at "mem"
  rintro κ m n ⟨c, gs, l, cx, ct, mk, rc, rct, new, rmt, rfl, rfl, hc, m1, m2, m3, ⟨cy, cyt, m4⟩, m5, m6, kra, kwa, ks', W, hcs, hgs⟩
  obtain ⟨p0, k0, h0, r0, t1, t2, t3, rfl, P0, H0⟩ := id W
  walk_at "sts"
  refine sign_ok (i := i + c) (D := D) (v := v) (tb := tb) B' (by walk_at "room") (by walk_at "pick") (by walk_at "kn") (by walk_at "view") (by walk_at "tab") (W.mono fun _ _ h => knM (by simp only [InL] at h; walk_at "mem")) fun l' new' sv ht hsv => ?_
  have W' := ht (InL (new' ++ new)) (fun _ _ h => List.mem_append.mpr (.inl h)) (W.mono fun _ _ h => List.mem_append.mpr (.inr h))
  have hgl := hgs.length
  have hgz : gs.length = c := by
    rw [hgl, List.length_map, List.length_take, List.length_drop]
    rcases Nat.eq_zero_or_pos c with h | h
    · lia
    · obtain ⟨x, hx, _⟩ := hcs (c - 1) (by lia)
      have := (List.getElem?_eq_some_iff.mp hx).1
      lia
  rcases hsv with ⟨hN, rfl⟩ | ⟨⟨cc, pl⟩, hx, st, y1, y2, y3, rfl, hst⟩
  · have hrun : D.run room i = c := run_eq hcs hc (.inr fun x hx => by rw [S_none hN] at hx; cases hx)
    have e1 : D.isEnd room i = true := by unfold VD.isEnd; rw [hrun]; exact decide_eq_true hN
    have e2 : D.isBrk room i = false := by unfold VD.isBrk; rw [hrun, S_none hN]
    have e3 : D.nxt room i = i + c := by unfold VD.nxt VD.isNl; rw [hrun, S_none hN]; rfl
    walk_at "sts"
    refine eol_end (i := i + c) (D := D) (v := v) (tb := tb) B' (by walk_at "room") (by walk_at "pick") (by walk_at "kn") (by walk_at "kn") (by walk_at "view") (by walk_at "tab") (W'.mono fun _ _ h => knM (by simp only [InL] at h; rcases List.mem_append.mp h with h | h <;> walk_at "mem")) fun l2 new2 e p2 k2 t2 u2 r2 t2' S2 => ?_
    walk_at "sts"
    refine ⟨_, Less.refl _, q _ _ ?_⟩
    refine ⟨rd, s, e, gl, _, _, _, _, _, _, gs, by walk_at "mem", by rw [e1, e2]; walk_at "mem", ⟨_, _, _, _, by walk_at "mem", hs⟩, ⟨_, _, _, _, by walk_at "mem", by rw [e3]; exact S2⟩, by walk_at "mem", ?_⟩
    unfold VD.shown
    rw [hrun]
    exact hgs.mono (Glyph.mono fun a c h => by simp only [InL] at h ⊢; walk_at "mem")
  · have hcd : Cd cc := hC _ (List.mem_of_getElem? hx)
    by_cases h10 : cc = 10
    · subst h10
      have hrun : D.run room i = c := run_eq hcs hc (.inr fun x hx' => by rw [hx] at hx'; cases hx'; rfl)
      have hlt : i + c < D.N := (List.getElem?_eq_some_iff.mp hx).1
      have e1 : D.isEnd room i = false := by unfold VD.isEnd; rw [hrun]; exact decide_eq_false (by lia)
      have e2 : D.isBrk room i = decide (pl ≠ -1) := by unfold VD.isBrk; rw [hrun, hx]; by_cases h : pl = -1 <;> simp [h]
      have e3 : D.nxt room i = i + c + 1 := by unfold VD.nxt VD.isNl; rw [hrun, hx]; rfl
      walk_at "sts"
      refine eol_nl (i := i + c) (D := D) (v := v) (tb := tb) B' (by walk_at "room") (by walk_at "pick") (by walk_at "kn") (by walk_at "kn") (by walk_at "view") (by walk_at "tab") (W'.mono fun _ _ h => knM (by simp only [InL] at h; rcases List.mem_append.mp h with h | h <;> walk_at "mem")) hx (hst.imp id fun h => by simp only [List.mem_append, List.mem_cons, Prod.mk.injEq, reduceCtorEq, and_false, false_or] at h ⊢; exact h) fun l2 new2 e p2 k2 t2 u2 r2 t2' nx2 nt2 S2 => ?_
      walk_at "sts"
      refine ⟨_, Less.refl _, q _ _ ?_⟩
      refine ⟨rd, s, e, gl, _, _, _, _, _, _, gs, by walk_at "mem", by rw [e1, e2]; walk_at "mem", ⟨_, _, _, _, by walk_at "mem", hs⟩, ⟨_, _, _, _, by walk_at "mem", by rw [e3]; exact S2⟩, by walk_at "mem", ?_⟩
      unfold VD.shown
      rw [hrun]
      exact hgs.mono (Glyph.mono fun a c h => by simp only [InL] at h ⊢; walk_at "mem")
    · have hst' : Kn prog w g ((wd, .attrs l') :: (new' ++ (gl, .list gs) :: (rd, .attrs (RA s s gl (.int cx ct) (.int cx ct) false false false mk (.int rc rct))) :: new)) st (.tup [.int cc y1, .int 0 y2, .int pl y3]) := hst.imp id fun h => by walk_at "mem"
      walk_at "sts"
      refine shown_codes_ok B' (by walk_at "room") hcd h10 fun cl => ?_
      obtain ⟨p3, k3, h3, r3, x1, x2, x3, rfl, P3, H3⟩ := id W'
      by_cases hov : room < c + 1
      · have hcr : c = room := by lia
        have hrun : D.run room i = c := run_eq hcs hc (.inl hcr)
        have hlt : i + c < D.N := (List.getElem?_eq_some_iff.mp hx).1
        have e1 : D.isEnd room i = false := by unfold VD.isEnd; rw [hrun]; exact decide_eq_false (by lia)
        have e2 : D.isBrk room i = false := by unfold VD.isBrk; rw [hrun, hx]; simp [h10]
        have e3 : D.nxt room i = i + c := by unfold VD.nxt VD.isNl; rw [hrun, hx]; simp [h10]
        walk_at "sts"
        refine overflow_ok (cl := 0) (i := i + c) (D := D) (v := v) (tb := tb) B' (by walk_at "room") (by walk_at "pick") (by walk_at "kn") (by walk_at "kn") (by walk_at "view") (by walk_at "tab") (W'.mono fun _ _ h => knM (by simp only [InL] at h; rcases List.mem_append.mp h with h | h <;> walk_at "mem")) (hst.imp id fun h => by simp only [List.mem_append, List.mem_cons, Prod.mk.injEq, reduceCtorEq, and_false, false_or] at h ⊢; exact h) (by walk_at "kn") (by unfold Cd at hcd; lia) (by lia) (by lia) fun l2 new2 e p2 k2 t2 u2 r2 t2' S2 => ?_
        walk_at "sts"
        refine ⟨_, Less.refl _, q _ _ ?_⟩
        refine ⟨rd, s, e, gl, _, _, _, _, _, _, gs, by walk_at "mem", by rw [e1, e2]; walk_at "mem", ⟨_, _, _, _, by walk_at "mem", hs⟩, ⟨_, _, _, _, by walk_at "mem", by rw [e3]; exact S2⟩, by walk_at "mem", ?_⟩
        unfold VD.shown
        rw [hrun]
        exact hgs.mono (Glyph.mono fun a c h => by simp only [InL] at h ⊢; walk_at "mem")
      · walk_at "sts"
        refine put_sign_ok (gl := gl) (gs := gs) (rd := rd) B' (by walk_at "room") (by walk_at "pick") (by walk_at "kn") (by walk_at "kn") (hst.imp id fun h => by simp only [List.mem_append, List.mem_cons, Prod.mk.injEq, reduceCtorEq, and_false, false_or] at h ⊢; exact h) (by walk_at "kn") (by lia) fun tt => ?_
        walk_at "sts"
        refine step_ok (Φ := InL (new' ++ new)) (i := i + c) (D := D) (v := v) (tb := tb) B' (by walk_at "room") (by walk_at "pick") (by walk_at "kn") W' (List.getElem?_eq_some_iff.mp hx).1 fun l4 ht4 => ?_
        walk_at "sts"
        refine te_next _ (less3 (p := (wd, _)) (q := (gl, _)) (s := (rd, _)) (by walk_at "take") (by walk_at "take") (by walk_at "take")) ?_
        refine ⟨room + 1 - (c + 1), by lia, c + 1, gs ++ [.ref tt], l4, _, _, _, _, _, _, _, rfl, rfl, by lia, by walk_at "lk", by walk_at "lk", by walk_at "lk", ⟨_, _, by walk_at "lk"⟩, by walk_at "lk", by walk_at "lk", by walk_at "mem", by walk_at "mem", by walk_at "mem", ?_, fun j hj => ?_, ?_⟩
        · rw [← Nat.add_assoc]
          exact ht4 _ (W'.mono fun a c h => by simp only [InL] at h ⊢; rcases List.mem_append.mp h with h | h <;> walk_at "mem")
        · rcases Nat.lt_or_ge j c with h | h
          · exact hcs j h
          · have : j = c := by lia
            subst this
            exact ⟨_, hx, h10⟩
        · rw [take_snoc (x := (cc, pl)) (by rw [List.getElem?_drop]; exact hx), List.map_append]
          exact (hgs.mono (Glyph.mono fun a c h => by simp only [InL] at h ⊢; walk_at "mem")).snoc ⟨_, _, _, _, rfl, by walk_at "mem"⟩

-- W6
theorem laid_row_ok {v tb sp op : Addr} {D : VD} {i room : Nat} {p k cx : Int} {t u ct wt : Tok} {Q : Value → Loc → Led → Prop} (B : Base prog w h₀) (R : Room A 19) (V : IsView (Kn prog w h₀ n) D v) (T : IsTable (Kn prog w h₀ n) tb) (O : IsOpts (Kn prog w h₀ n) op) (S : Kn prog w h₀ n sp (.tup [.int p t, .int k u])) (P : D.Pos i p k) (hr : 2 ≤ room ∧ room ≤ 100) (hC : ∀ x ∈ D.S, Cd x.1)
    (q : ∀ ra new, IsRow (InL new) D room i ra → Q (.ref ra) m (new ++ n)) : Does prog w A h₀ L (call (.ref 394) [.ref v, .ref tb, .ref sp, .int cx ct, .int ((room : Nat) + 1) wt, .ref op]) m n Q := by
  refine Codes.call ?_
  refine code_fn (binds := [("view", .ref v), ("table", .ref tb), ("spot", .ref sp), ("column", .int cx ct), ("width", .int ((room : Nat) + 1) wt), ("options", .ref op)]) (by assumption) (by walk_at "room") (by walk_at "pick") (by k_is) (by k_is) (fun s X => by walk_at "binds") (by exact locs rfl) (by decide +kernel) (by rfl) (by rfl) (by rfl) ?_
  intro g L' B' K R'
  show Does _ _ _ _ _ (execs (_ :: _) (envX _ ⟨_, _, _, _, _⟩ _ _ _ _)) _ _ _
  have V' := V.mono K
  have T' := T.mono K
  have O' := O.mono K
  obtain ⟨o1, o2⟩ := O.mono K
  have S' := K _ _ S
  walk_at "sts"
  refine folded_row_ok B' (by walk_at "room") (V'.mono fun _ _ => knA) (T'.mono fun _ _ => knA) (O'.mono fun _ _ => knA) (knA S') P hr hC fun ra new h => ?_
  walk_at "sts"
  exact ⟨new, by rw [List.append_nil]; exact Less.refl _, q _ _ h⟩
inductive RowV (Φ : Known) (D : VD) (room : Nat) (i : Nat) (v : Value) : Prop
  | mk : ∀ ra, (v = .ref ra) → (IsRow Φ D room i ra) → RowV Φ D room i v
theorem RowV.mono {Φ Ψ : Known} {D : VD} {room : Nat} (k : ∀ a c, Φ a c → Ψ a c) (i : Nat) (v : Value) (h : RowV Φ D room i v) : RowV Ψ D room i v := by
  obtain ⟨ra, e, h⟩ := h; exact ⟨ra, e, h.mono k⟩
inductive IsRows (Φ : Known) (D : VD) (room : Nat) (is : List Nat) (l : Addr) : Prop
  | mk : ∀ vs, (Φ l (.list vs)) → (All2 (RowV Φ D room) is vs) → IsRows Φ D room is l
theorem IsRows.mono {Φ Ψ : Known} {D : VD} {room : Nat} {is : List Nat} {l : Addr} (k : ∀ a c, Φ a c → Ψ a c) (h : IsRows Φ D room is l) : IsRows Ψ D room is l := by
  obtain ⟨vs, a, b⟩ := h; exact ⟨vs, k _ _ a, b.mono (RowV.mono k)⟩
inductive I_laid (prog : Program) (w : World) (g : Heap) (D : VD) (i room hh : Nat) (fl v tb op : Addr) (wt ht : Tok) (κ : Nat) (m : Loc) (n : Led) : Prop
  | mk : ∀ is j vs new sp p k t u cx ct, (n = (fl, .list vs) :: new) → (κ = hh - is.length) → (D.rowsFrom room hh i = is ++ D.rowsFrom room (hh - is.length) j) → (is.length ≤ hh) → (All2 (RowV (InL new) D room) is vs) → (Kn prog w g new sp (.tup [.int p t, .int k u])) → (D.Pos j p k) → (m "view" = some (.ref v)) → (m "table" = some (.ref tb)) → (m "spot" = some (.ref sp)) → (m "column" = some (.int cx ct)) → (m "height" = some (.int (hh : Nat) ht)) → (m "width" = some (.int ((room : Nat) + 1) wt)) → (m "options" = some (.ref op)) → (m "found" = some (.ref fl)) → I_laid prog w g D i room hh fl v tb op wt ht κ m n
theorem laid_rows_ok {v tb sp op : Addr} {D : VD} {i room hh : Nat} {p k cx : Int} {t u ct wt ht : Tok} {Q : Value → Loc → Led → Prop} (B : Base prog w h₀) (R : Room A 20) (V : IsView (Kn prog w h₀ n) D v) (T : IsTable (Kn prog w h₀ n) tb) (O : IsOpts (Kn prog w h₀ n) op) (S : Kn prog w h₀ n sp (.tup [.int p t, .int k u])) (P : D.Pos i p k) (hr : 2 ≤ room ∧ room ≤ 100) (hC : ∀ x ∈ D.S, Cd x.1) (hz : hh ≤ 100)
    (q : ∀ l new, IsRows (InL new) D room (D.rowsFrom room hh i) l → Q (.ref l) m (new ++ n)) : Does prog w A h₀ L (call (.ref 401) [.ref v, .ref tb, .ref sp, .int cx ct, .int (hh : Nat) ht, .int ((room : Nat) + 1) wt, .ref op]) m n Q := by
  refine Codes.call ?_
  refine code_fn (binds := [("view", .ref v), ("table", .ref tb), ("spot", .ref sp), ("column", .int cx ct), ("height", .int (hh : Nat) ht), ("width", .int ((room : Nat) + 1) wt), ("options", .ref op)]) (by assumption) (by walk_at "room") (by walk_at "pick") (by k_is) (by k_is) (fun s X => by walk_at "binds") (by exact locs rfl) (by decide +kernel) (by rfl) (by rfl) (by rfl) ?_
  intro g L' B' K R'
  show Does _ _ _ _ _ (execs (_ :: _) (envX _ ⟨_, _, _, _, _⟩ _ _ _ _)) _ _ _
  have V' := V.mono K
  have T' := T.mono K
  have O' := O.mono K
  have S' := K _ _ S
  walk_at "sts"
  rename_i fl
  refine x_while (I_laid prog w g D i room hh fl v tb op wt ht) _
    ⟨[], i, [], [], sp, p, k, t, u, cx, ct, rfl, rfl, rfl, Nat.zero_le _, .nil, knA S', P, by walk_at "lk", by walk_at "lk", by walk_at "lk", by walk_at "lk", by walk_at "lk", by walk_at "lk", by walk_at "lk", by walk_at "lk"⟩ ?_
  rintro κ m n ⟨is, j, vs, new, sp, p, k, t, u, cx, ct, rfl, rfl, he, hlz, ha, ks, P, m1, m2, m3, m4, m5, m6, m7, m8⟩
  have hvz := ha.length
  by_cases hl : is.length < hh
  · have eq1 : hh - is.length = (hh - is.length - 1) + 1 := by lia
    rw [eq1, VD.rowsFrom] at he
    walk_at "sts"
    refine laid_row_ok B' (by walk_at "room") (V'.mono fun _ _ => knA) (T'.mono fun _ _ => knA) (O'.mono fun _ _ => knA) (by walk_at "kn") P hr hC fun ra new1 h => ?_
    obtain ⟨rd, s, e, gl, c0, nc, nt, b1, mk, rc, gs, h1, h2, h3, h4, h5, h6⟩ := id h
    simp only [InL] at h1 h2
    obtain ⟨ep, ek, et, eu, e1, e2⟩ := h4
    simp only [InL] at e1
    cases hE : D.isEnd room j with
    | true =>
      rw [hE] at h2 he
      walk_at "sts"
      refine ⟨_, Less.refl _, q _ _ ⟨_, by walk_at "mem", ?_⟩⟩
      rw [he]
      exact All2.snoc (ha.mono (RowV.mono fun a c h => by simp only [InL] at h ⊢; walk_at "mem")) (RowV.mono (fun a c h => by simp only [InL] at h ⊢; walk_at "mem") j (.ref ra) ⟨ra, rfl, h⟩)
    | false =>
      rw [hE] at h2 he
      walk_at "sts"
      refine te_next _ (less1 (p := (fl, _)) (by walk_at "take")) ?_
      refine ⟨hh - (is ++ [j]).length, by rw [List.length_append]; show hh - (_ + 1) < _; lia, is ++ [j], D.nxt room j, vs ++ [.ref ra], _, e, ep, ek, et, eu, nc, nt, rfl, rfl, ?_, by rw [List.length_append]; show _ + 1 ≤ _; lia, ?_, by walk_at "kn", e2.1, by walk_at "lk", by walk_at "lk", by walk_at "lk", by walk_at "lk", by walk_at "lk", by walk_at "lk", by walk_at "lk", by walk_at "lk"⟩
      · rw [he, List.append_assoc, List.length_append]
        rfl
      · exact All2.snoc (ha.mono (RowV.mono fun a c h => by simp only [InL] at h ⊢; walk_at "mem")) (RowV.mono (fun a c h => by simp only [InL] at h ⊢; walk_at "mem") j (.ref ra) ⟨ra, rfl, h⟩)
  · walk_at "sts"
    refine ⟨_, Less.refl _, q _ _ ⟨vs, by walk_at "mem", ?_⟩⟩
    rw [he, show hh - is.length = 0 from by lia, VD.rowsFrom, List.append_nil]
    exact ha.mono (RowV.mono fun a c h => by simp only [InL] at h ⊢; walk_at "mem")

-- W7
inductive I_line (D : VD) (i room : Nat) (fl v tb op : Addr) (wt : Tok) (κ : Nat) (m : Loc) (n : Led) : Prop
  | mk : ∀ is j vs ra new, (n = (fl, .list (vs ++ [.ref ra])) :: new) → (κ = D.N + 1 - is.length) → (D.lineFrom room (D.N + 1) i = is ++ D.lineFrom room (D.N + 1 - is.length) j) → (is.length + (D.N - j) ≤ D.N) → (All2 (RowV (InL new) D room) is vs) → (IsRow (InL new) D room j ra) → (m "view" = some (.ref v)) → (m "table" = some (.ref tb)) → (m "width" = some (.int ((room : Nat) + 1) wt)) → (m "options" = some (.ref op)) → (m "found" = some (.ref fl)) → I_line D i room fl v tb op wt κ m n
theorem rows_of_line_ok {v tb sp op : Addr} {D : VD} {i room : Nat} {p k : Int} {t u wt : Tok} {Q : Value → Loc → Led → Prop} (B : Base prog w h₀) (R : Room A 20) (V : IsView (Kn prog w h₀ n) D v) (T : IsTable (Kn prog w h₀ n) tb) (O : IsOpts (Kn prog w h₀ n) op) (S : Kn prog w h₀ n sp (.tup [.int p t, .int k u])) (P : D.Pos i p k) (hr : 2 ≤ room ∧ room ≤ 100) (hC : ∀ x ∈ D.S, Cd x.1) (hN : D.N ≤ 900)
    (q : ∀ l new, IsRows (InL new) D room (D.lineFrom room (D.N + 1) i) l → Q (.ref l) m (new ++ n)) : Does prog w A h₀ L (call (.ref 415) [.ref v, .ref tb, .ref sp, .int ((room : Nat) + 1) wt, .ref op]) m n Q := by
  refine Codes.call ?_
  refine code_fn (binds := [("view", .ref v), ("table", .ref tb), ("spot", .ref sp), ("width", .int ((room : Nat) + 1) wt), ("options", .ref op)]) (by assumption) (by walk_at "room") (by walk_at "pick") (by k_is) (by k_is) (fun s X => by walk_at "binds") (by exact locs rfl) (by decide +kernel) (by rfl) (by rfl) (by rfl) ?_
  intro g L' B' K R'
  show Does _ _ _ _ _ (execs (_ :: _) (envX _ ⟨_, _, _, _, _⟩ _ _ _ _)) _ _ _
  have V' := V.mono K
  have T' := T.mono K
  have O' := O.mono K
  have S' := K _ _ S
  walk_at "sts"
  refine laid_row_ok B' (by walk_at "room") (V'.mono fun _ _ => knA) (T'.mono fun _ _ => knA) (O'.mono fun _ _ => knA) (by walk_at "kn") P hr hC fun ra new h => ?_
  walk_at "sts"
  rename_i fl
  refine x_while (I_line D i room fl v tb op wt) _
    ⟨[], i, [], ra, new, by rw [List.append_nil]; rfl, rfl, rfl, by show 0 + _ ≤ _; lia, .nil, h, by walk_at "lk", by walk_at "lk", by walk_at "lk", by walk_at "lk", by walk_at "lk"⟩ ?_
  clear h ra new
  rintro κ m n ⟨is, j, vs, ra, new, rfl, rfl, he, hlz, ha, h, m1, m2, m3, m4, m5⟩
  have hvz := ha.length
  obtain ⟨rd, s, e, gl, c0, nc, nt, b1, mk, rc, gs, h1, h2, h3, h4, h5, h6⟩ := id h
  obtain ⟨ep, ek, et, eu, e1, e2⟩ := h4
  simp only [InL] at h1 h2 e1
  have eq1 : D.N + 1 - is.length = (D.N - is.length) + 1 := by lia
  have e0 : D.lineFrom room (D.N - is.length + 1) j = j :: (if D.isBrk room j || D.isEnd room j then [] else D.lineFrom room (D.N - is.length) (D.nxt room j)) := rfl
  rw [eq1, e0] at he
  clear e0
  walk_at "sts"
  refine i_last (by walk_at "kn") (List.getLast?_concat) ?_
  cases hB : D.isBrk room j with
  | true =>
    rw [hB] at h2 he
    walk_at "sts"
    refine ⟨_, Less.refl _, q _ _ ⟨_, by walk_at "mem", ?_⟩⟩
    rw [he]
    exact All2.snoc (ha.mono (RowV.mono fun a c h => by simp only [InL] at h ⊢; walk_at "mem")) (RowV.mono (fun a c h => by simp only [InL] at h ⊢; walk_at "mem") j (.ref ra) ⟨ra, rfl, h⟩)
  | false =>
    rw [hB] at h2 he
    walk_at "sts"
    refine i_last (by walk_at "kn") (List.getLast?_concat) ?_
    cases hE : D.isEnd room j with
    | true =>
      rw [hE] at h2 he
      walk_at "sts"
      refine ⟨_, Less.refl _, q _ _ ⟨_, by walk_at "mem", ?_⟩⟩
      rw [he]
      exact All2.snoc (ha.mono (RowV.mono fun a c h => by simp only [InL] at h ⊢; walk_at "mem")) (RowV.mono (fun a c h => by simp only [InL] at h ⊢; walk_at "mem") j (.ref ra) ⟨ra, rfl, h⟩)
    | false =>
      rw [hE] at h2 he
      have hg := nxt_gt hr.1 hE
      walk_at "sts"
      refine i_last (by walk_at "kn") (List.getLast?_concat) ?_
      walk_at "sts"
      refine laid_row_ok (sp := e) (p := ep) (k := ek) (t := et) (u := eu) B' (by walk_at "room") (V'.mono fun _ _ => knA) (T'.mono fun _ _ => knA) (O'.mono fun _ _ => knA) (by walk_at "kn") e2.1 hr hC fun ra2 new2 h' => ?_
      walk_at "sts"
      refine te_next _ (less1 (p := (fl, _)) (by walk_at "take")) ?_
      refine ⟨D.N + 1 - (is ++ [j]).length, by rw [List.length_append]; show D.N + 1 - (_ + 1) < _; lia, is ++ [j], D.nxt room j, vs ++ [.ref ra], ra2, _, rfl, rfl, ?_, by rw [List.length_append]; show _ + 1 + _ ≤ _; lia, ?_, h'.mono fun a c h => by simp only [InL] at h ⊢; walk_at "mem", by walk_at "lk", by walk_at "lk", by walk_at "lk", by walk_at "lk", by walk_at "lk"⟩
      · rw [he, List.append_assoc, List.length_append]
        have e5 : D.N + 1 - (is.length + [j].length) = D.N - is.length := by show D.N + 1 - (_ + 1) = _; lia
        rw [e5]
        rfl
      · exact All2.snoc (ha.mono (RowV.mono fun a c h => by simp only [InL] at h ⊢; walk_at "mem")) (RowV.mono (fun a c h => by simp only [InL] at h ⊢; walk_at "mem") j (.ref ra) ⟨ra, rfl, h⟩)

-- W8
theorem keep1 {p : Addr × Cell} {n r : Led} (t : Take p n r) : Less [p] n := (Less.of_sub (List.Sublist.cons_cons _ (List.nil_sublist _))).trans (less1 t)
theorem keep2 {p q : Addr × Cell} {n r r' : Led} (t : Take p n r) (u : Take q r r') : Less [p, q] n := (Less.of_sub ((List.nil_sublist _).cons_cons _ |>.cons_cons _)).trans (less2 t u)
inductive I_lb (D : VD) (j : Nat) (v : Addr) (κ : Nat) (m : Loc) (n : Led) : Prop
  | mk : ∀ i t, (κ = i) → (D.lb i = D.lb j) → (m "view" = some (.ref v)) → ∀ x, (x = ((i : Nat) : Int) + 1) → (m "place" = some (.int x t)) → I_lb D j v κ m n
theorem line_begin_ok {v : Addr} {D : VD} {j : Nat} {t : Tok} {Q : Value → Loc → Led → Prop} (B : Base prog w h₀) (R : Room A 8) (V : IsView (Kn prog w h₀ n) D v) (q : ∀ t, Q (.int ((D.lb j : Nat) + 1) t) m n) : Does prog w A h₀ L (call (.ref 408) [.ref v, .int ((j : Nat) + 1) t]) m n Q := by
  refine Codes.call ?_
  refine code_fn (binds := [("view", .ref v), ("place", .int ((j : Nat) + 1) t)]) (by assumption) (by walk_at "room") (by walk_at "pick") (by k_is) (by k_is) (fun s X => by walk_at "binds") (by exact locs rfl) (by decide +kernel) (by rfl) (by rfl) (by rfl) ?_
  intro g L' B' K R'
  show Does _ _ _ _ _ (execs (_ :: _) (envX _ ⟨_, _, _, _, _⟩ _ _ _ _)) _ _ _
  have V' := V.mono K
  obtain ⟨v1, v2, v3, v4, v5, v6, v7, v8, v9, v10⟩ := V.mono K
  refine x_while (I_lb D j v) j ⟨j, t, rfl, rfl, by walk_at "lk", _, rfl, by walk_at "lk"⟩ ?_
  rintro i m n ⟨_, t, rfl, e, m1, _, rfl, m2⟩
  cases i with
  | zero =>
    walk_at "sts"
    rw [VD.lb] at e
    rw [← e] at q
    exact fin0 (q _)
  | succ i =>
    rw [VD.lb] at e
    by_cases hc : D.code ((i : Int) + 1) = 10
    · rw [if_pos hc] at e
      have hc' : D.code (((i + 1 : Nat) : Int) + 1 - 1) = 10 := by rw [show ((i + 1 : Nat) : Int) + 1 - 1 = (i : Int) + 1 by lia]; exact hc
      walk_at "sts"
      rw [← e] at q
      exact fin0 (q _)
    · rw [if_neg hc] at e
      have hc' : ¬ D.code (((i + 1 : Nat) : Int) + 1 - 1) = 10 := by rw [show ((i + 1 : Nat) : Int) + 1 - 1 = (i : Int) + 1 by lia]; exact hc
      walk_at "sts"
      refine te_next _ (Less.refl _) ⟨i, Nat.lt_succ_self _, i, _, rfl, e, by walk_at "lk", ((i + 1 : Nat) : Int) + 1 - 1, by lia, by walk_at "lk"⟩
inductive I_os (D : VD) (p : Int) (v : Addr) (κ : Nat) (m : Loc) (n : Led) : Prop
  | mk : ∀ t u, (n = []) → (m "view" = some (.ref v)) → (m "own" = some (.int p t)) → (m "number" = some (.int (D.ahd p).length u)) → I_os D p v κ m n
theorem own_spot_ok {v : Addr} {D : VD} {p : Int} {t : Tok} {Q : Value → Loc → Led → Prop} (B : Base prog w h₀) (R : Room A 8) (V : IsView (Kn prog w h₀ n) D v) (q : ∀ s t u, Q (.ref s) m ((s, .tup [.int p t, .int (D.ahd p).length u]) :: n)) : Does prog w A h₀ L (call (.ref 422) [.ref v, .int p t]) m n Q := by
  refine Codes.call ?_
  refine code_fn (binds := [("view", .ref v), ("place", .int p t)]) (by assumption) (by walk_at "room") (by walk_at "pick") (by k_is) (by k_is) (fun s X => by walk_at "binds") (by exact locs rfl) (by decide +kernel) (by rfl) (by rfl) (by rfl) ?_
  intro g L' B' K R'
  show Does _ _ _ _ _ (execs (_ :: _) (envX _ ⟨_, _, _, _, _⟩ _ _ _ _)) _ _ _
  have V' := V.mono K
  obtain ⟨v1, v2, v3, v4, v5, v6, v7, v8, v9, v10⟩ := V.mono K
  walk_at "sts"
  refine x_while (I_os D p v) 0 ⟨_, _, rfl, by walk_at "lk", by walk_at "lk", by walk_at "lk"⟩ ?_
  rintro κ m n ⟨t, u, rfl, m1, m2, m3⟩
  by_cases hp : p < D.fin
  · walk_at "sts"
    exact ⟨_, keep1 (p := (_, _)) .here, q _ _ _⟩
  · walk_at "sts"
    exact ⟨_, Less.refl _, q _ _ _⟩
theorem column_in_ok {ra : Addr} {D : VD} {room i : Nat} {p : Int} {t : Tok} {Q : Value → Loc → Led → Prop} (B : Base prog w h₀) (R : Room A 3) (W : IsRow (Kn prog w h₀ n) D room i ra) (hz : (D.shown room i).length ≤ 1000) (q : ∀ t, Q (.int (D.colOf room i p) t) m n) : Does prog w A h₀ L (call (.ref 443) [.ref ra, .int p t]) m n Q := by
  refine Codes.call ?_
  refine code_fn (binds := [("row", .ref ra), ("place", .int p t)]) (by assumption) (by walk_at "room") (by walk_at "pick") (by k_is) (by k_is) (fun s X => by walk_at "binds") (by exact locs rfl) (by decide +kernel) (by rfl) (by rfl) (by rfl) ?_
  intro g L' B' K R'
  show Does _ _ _ _ _ (execs (_ :: _) (envX _ ⟨_, _, _, _, _⟩ _ _ _ _)) _ _ _
  obtain ⟨rd, s, e, gl, c0, nc, nt, b1, mk, rc, gs, h1, h2, h3, h4, h5, h6⟩ := W.mono K
  have hgz := h6.length
  refine x_fe (Room.handled R') ?_
  walk_at "sts"
  refine f_enum (by walk_at "kn") fun en it => ?_
  walk_at "sts"
  refine ⟨gl, gs, en, it, _, rfl, rfl, by walk_at "kn", fun i' m r => And4 (r = []) (m "row" = some (.ref ra)) (m "place" = some (.int p t)) (∀ (j : Nat) y, j < i' → (D.shown room i)[j]? = some y → decide (p ≤ y) = false), ⟨rfl, by walk_at "lk", by walk_at "lk", fun j y h => absurd h (Nat.not_lt_zero _)⟩, fun i m r j => by walk_at "kn", fun i' m r v t tk hv j => ?_, fun m r j => ?_⟩
  · obtain ⟨rfl, m1, m2, hj⟩ := j
    obtain ⟨x, hx, t', ga, gb, gc, rfl, hg⟩ := h6.get' hv
    by_cases hp : p ≤ x
    · walk_at "sts"
      rw [show D.colOf room i p = i' from findIdx_at _ _ _ _ hx (decide_eq_true hp) hj] at q
      exact fin0 (q _)
    · walk_at "sts"
      refine te_next _ (keep2 (p := (en, _)) (q := (it, _)) (by walk_at "take") (by walk_at "take")) ⟨_, rfl, rfl, by walk_at "lk", by walk_at "lk", fun j y h hy => ?_⟩
      rcases Nat.lt_or_ge j i' with h' | h'
      · exact hj j y h' hy
      · have : j = i' := by lia
        subst this
        rw [hx] at hy; cases hy; exact decide_eq_false hp
  · obtain ⟨rfl, m1, m2, hj⟩ := j
    walk_at "sts"
    rw [show D.colOf room i p = (D.shown room i).length from findIdx_no _ _ fun j y hy => hj j y (by have := (List.getElem?_eq_some_iff.mp hy).1; lia) hy, ← hgz] at q
    exact fin0 (q _)
theorem index_of_ok {l sp : Addr} {D : VD} {room s : Nat} {is : List Nat} {p k : Int} {t u : Tok} {Q : Value → Loc → Led → Prop} (B : Base prog w h₀) (R : Room A 3) (W : IsRows (Kn prog w h₀ n) D room is l) (S : Kn prog w h₀ n sp (.tup [.int p t, .int k u])) (P : D.Spot s p k) (hl : 0 < is.length ∧ is.length ≤ 1000) (q : ∀ t, Q (.int (D.seen room is s : Nat) t) m n) : Does prog w A h₀ L (call (.ref 429) [.ref l, .ref sp]) m n Q := by
  refine Codes.call ?_
  refine code_fn (binds := [("rows", .ref l), ("spot", .ref sp)]) (by assumption) (by walk_at "room") (by walk_at "pick") (by k_is) (by k_is) (fun s X => by walk_at "binds") (by exact locs rfl) (by decide +kernel) (by rfl) (by rfl) (by rfl) ?_
  intro g L' B' K R'
  show Does _ _ _ _ _ (execs (_ :: _) (envX _ ⟨_, _, _, _, _⟩ _ _ _ _)) _ _ _
  obtain ⟨vs, w1, w2⟩ := W.mono K
  have S' := K _ _ S
  have hvz := w2.length
  refine x_fe (Room.handled R') ?_
  walk_at "sts"
  refine f_enum (by walk_at "kn") fun en it => ?_
  walk_at "sts"
  refine ⟨l, vs, en, it, _, rfl, rfl, by walk_at "kn", fun i m r => And4 (r = []) (m "rows" = some (.ref l)) (m "spot" = some (.ref sp)) (∀ (j : Nat) y, j < i → is[j]? = some y → decide (s < D.nxt room y) = false), ⟨rfl, by walk_at "lk", by walk_at "lk", fun j y h => absurd h (Nat.not_lt_zero _)⟩, fun i m r j => by walk_at "kn", fun i m r v t tk hv j => ?_, fun m r j => ?_⟩
  · obtain ⟨rfl, m1, m2, hj⟩ := j
    obtain ⟨x, hx, ra, rfl, rd, s', e', gl, c0, nc, nt, b1, mk, rc, gs, h1, h2, h3, h4, h5, h6⟩ := w2.get' hv
    obtain ⟨ep, ek, et, eu, e1, e2⟩ := h4
    have hiff := Spot.lt_iff P e2
    walk_at "sts"
    refine c_ltt R' (by walk_at "kn") (by walk_at "kn") ?_
    by_cases hlt : s < D.nxt room x
    · have hd := decide_eq_true (hiff.mpr hlt)
      walk_at "sts"
      have hi : i < is.length := (List.getElem?_eq_some_iff.mp hx).1
      rw [show D.seen room is s = i by unfold VD.seen; rw [findIdx_at _ _ _ _ hx (decide_eq_true hlt) hj]; lia] at q
      exact fin0 (q _)
    · have hd := decide_eq_false (mt hiff.mp hlt)
      walk_at "sts"
      refine te_next _ (keep2 (p := (en, _)) (q := (it, _)) (by walk_at "take") (by walk_at "take")) ⟨_, rfl, rfl, by walk_at "lk", by walk_at "lk", fun j y h hy => ?_⟩
      rcases Nat.lt_or_ge j i with h' | h'
      · exact hj j y h' hy
      · have : j = i := by lia
        subst this
        rw [hx] at hy; cases hy; exact decide_eq_false hlt
  · obtain ⟨rfl, m1, m2, hj⟩ := j
    walk_at "sts"
    have e := findIdx_no _ is fun j y hy => hj j y (by have := (List.getElem?_eq_some_iff.mp hy).1; lia) hy
    rw [show ((D.seen room is s : Nat) : Int) = (vs.length : Int) - 1 by unfold VD.seen; rw [e]; lia] at q
    exact fin0 (q _)
theorem All2.last {α β : Type} {P : α → β → Prop} {xs : List α} {vs : List β} {x : α} (h : All2 P xs vs) (e : xs.getLast? = some x) : Has (fun v => vs.getLast? = some v) (P x) := by
  rw [List.getLast?_eq_getElem?] at e
  obtain ⟨v, a, b⟩ := h.get e
  exact ⟨v, by rw [List.getLast?_eq_getElem?, h.length]; exact a, b⟩
theorem has_place_ok {v l : Addr} {D : VD} {room q : Nat} {is : List Nat} {t : Tok} {Q : Value → Loc → Led → Prop} (B : Base prog w h₀) (R : Room A 9) (V : IsView (Kn prog w h₀ n) D v) (W : IsRows (Kn prog w h₀ n) D room is l) (hl : 0 < is.length ∧ is.length ≤ 1000) (hq : q ≤ D.text.length) (qq : Q (.bool (D.hasP room is (D.own q))) m n) : Does prog w A h₀ L (call (.ref 436) [.ref v, .ref l, .int ((q : Nat) + 1) t]) m n Q := by
  refine Codes.call ?_
  refine code_fn (binds := [("view", .ref v), ("rows", .ref l), ("place", .int ((q : Nat) + 1) t)]) (by assumption) (by walk_at "room") (by walk_at "pick") (by k_is) (by k_is) (fun s X => by walk_at "binds") (by exact locs rfl) (by decide +kernel) (by rfl) (by rfl) (by rfl) ?_
  intro g L' B' K R'
  show Does _ _ _ _ _ (execs (_ :: _) (envX _ ⟨_, _, _, _, _⟩ _ _ _ _)) _ _ _
  have V' := V.mono K
  have S := own_spot (D := D) hq
  obtain ⟨vs, w1, w2⟩ := W.mono K
  have hvz := w2.length
  cases w2 with
  | nil => exact absurd hl.1 (Nat.lt_irrefl _)
  | @cons i0 v0 is' vs' h0 hrest =>
  obtain ⟨z, hz⟩ : ∃ z, (i0 :: is').getLast? = some z := ⟨_, List.getLast?_eq_getLast (List.cons_ne_nil _ _)⟩
  have hP : D.hasP room (i0 :: is') (D.own q) = (!decide (D.own q < i0) && (decide (D.own q < D.nxt room z) || D.isEnd room z)) := by unfold VD.hasP; rw [hz]; rfl
  rw [hP] at qq
  obtain ⟨lv, hlv, ra', rfl, rd', s', e', gl', c0', nc', nt', b1', mk', rc', gs', g1, g2, g3, g4, g5, g6⟩ := All2.last (All2.cons h0 hrest) hz
  obtain ⟨ra, rfl, rd, s, e, gl, c0, nc, nt, b1, mk, rc, gs, h1, h2, h3, h4, h5, h6⟩ := h0
  obtain ⟨sp, sk, st, su, s1, s2⟩ := h3
  obtain ⟨ep, ek, et, eu, e1, e2⟩ := g4
  have i1 := Spot.lt_iff S s2
  have i2 := Spot.lt_iff S e2
  walk_at "sts"
  refine c_eqlen R' (by walk_at "kn") (by walk_at "kn") (by simp) ?_
  walk_at "sts"
  refine i_lst (by walk_at "kn") (by decide) (by decide) rfl ?_
  walk_at "sts"
  refine c_ltt R' (by walk_at "kn") (by walk_at "kn") ?_
  by_cases ha : D.own q < i0
  · have hd := decide_eq_true (i1.mpr ha)
    walk_at "sts"
    exact fin0 (decv qq (by rw [decide_eq_true ha]; rfl))
  · have hd := decide_eq_false (mt i1.mp ha)
    walk_at "sts"
    refine i_last (by walk_at "kn") hlv ?_
    walk_at "sts"
    refine c_ltt R' (by walk_at "kn") (by walk_at "kn") ?_
    by_cases hb : D.own q < D.nxt room z
    · have hd := decide_eq_true (i2.mpr hb)
      walk_at "sts"
      exact fin0 (decv qq (by rw [decide_eq_false ha, decide_eq_true hb]; simp only [hd]; rfl))
    · have hd := decide_eq_false (mt i2.mp hb)
      walk_at "sts"
      refine i_last (by walk_at "kn") hlv ?_
      walk_at "sts"
      exact fin0 (decv qq (by rw [decide_eq_false ha, decide_eq_false hb]; simp))
inductive NthRow (Φ : Known) (D : VD) (room : Nat) (is : List Nat) (vs : List Value) (k : Nat) : Prop
  | mk : ∀ x ra, is[k]? = some x → vs[k]? = some (.ref ra) → IsRow Φ D room x ra → NthRow Φ D room is vs k
theorem nth_row {Φ : Known} {D : VD} {room : Nat} {is : List Nat} {vs : List Value} (h : All2 (RowV Φ D room) is vs) {k : Nat} (hk : k < is.length) : NthRow Φ D room is vs k := by
  obtain ⟨v, e, ra, rfl, h'⟩ := h.get (List.getElem?_eq_getElem hk)
  exact ⟨_, ra, List.getElem?_eq_getElem hk, e, h'⟩
theorem cursor_in_ok {v l : Addr} {D : VD} {room q : Nat} {is : List Nat} {t : Tok} {Q : Value → Loc → Led → Prop} (B : Base prog w h₀) (R : Room A 11) (V : IsView (Kn prog w h₀ n) D v) (W : IsRows (Kn prog w h₀ n) D room is l) (hl : 0 < is.length ∧ is.length ≤ 1000) (hq : q ≤ D.text.length) (hg : ∀ x ∈ is, (D.shown room x).length ≤ 1000)
    (q1 : D.hasP room is (D.own q) = false → Q .none m n) (q2 : D.hasP room is (D.own q) = true → ∀ x a t u, is[D.seen room is (D.own q)]? = some x → Q (.ref a) m ((a, .tup [.int (D.seen room is (D.own q) : Nat) t, .int (D.colOf room x ((q : Nat) + 1) : Nat) u]) :: n)) : Does prog w A h₀ L (call (.ref 450) [.ref v, .ref l, .int ((q : Nat) + 1) t]) m n Q := by
  refine Codes.call ?_
  refine code_fn (binds := [("view", .ref v), ("rows", .ref l), ("place", .int ((q : Nat) + 1) t)]) (by assumption) (by walk_at "room") (by walk_at "pick") (by k_is) (by k_is) (fun s X => by walk_at "binds") (by exact locs rfl) (by decide +kernel) (by rfl) (by rfl) (by rfl) ?_
  intro g L' B' K R'
  show Does _ _ _ _ _ (execs (_ :: _) (envX _ ⟨_, _, _, _, _⟩ _ _ _ _)) _ _ _
  have V' := V.mono K
  have W' := W.mono K
  obtain ⟨vs, w1, w2⟩ := W.mono K
  have S := own_spot (D := D) hq
  walk_at "sts"
  refine has_place_ok B' (by walk_at "room") (V'.mono fun _ _ => knA) (W'.mono fun _ _ => knA) hl hq ?_
  cases hP : D.hasP room is (D.own q) with
  | false =>
    walk_at "sts"
    exact fin0 (q1 hP)
  | true =>
    walk_at "sts"
    refine index_of_ok B' (by walk_at "room") (W'.mono fun _ _ => knA) (by walk_at "kn") S hl fun tk => ?_
    have hlt := seen_lt (D := D) (room := room) (s := D.own q) hl.1
    obtain ⟨x, ra, hx, hv, hR⟩ := nth_row w2 hlt
    walk_at "sts"
    refine i_lst (by walk_at "kn") (by lia) (by lia) (by rw [Int.toNat_natCast]; exact hv) ?_
    walk_at "sts"
    refine column_in_ok B' (by walk_at "room") (hR.mono fun _ _ => knA) (hg x (List.mem_of_getElem? hx)) fun tk => ?_
    walk_at "sts"
    exact ⟨_, keep1 (p := (_, .tup [.int (D.seen room is (D.own q) : Nat) _, .int (D.colOf room x ((q : Nat) + 1) : Nat) _])) (by walk_at "take"), q2 hP x _ _ _ hx⟩

-- W9
theorem row_behind_ok {v tb op l : Addr} {D : VD} {room k x : Nat} {is : List Nat} {kt wt : Tok} {Q : Value → Loc → Led → Prop} (B : Base prog w h₀) (R : Room A 22) (V : IsView (Kn prog w h₀ n) D v) (T : IsTable (Kn prog w h₀ n) tb) (O : IsOpts (Kn prog w h₀ n) op) (W : IsRows (Kn prog w h₀ n) D room is l) (hr : 2 ≤ room ∧ room ≤ 100) (hC : ∀ x ∈ D.S, Cd x.1) (hN : D.N ≤ 900) (hl : is.length ≤ 1000) (hk : k < is.length) (hx : is.getLast? = some x)
    (q1 : k + 1 < is.length → ∀ a t, Q (.ref a) m ((a, .tup [.ref l, .int ((k : Nat) + 1) t]) :: n))
    (q2 : k + 1 = is.length → D.isEnd room x = true → Q .none m n)
    (q3 : k + 1 = is.length → D.isEnd room x = false → ∀ a t l' new, IsRows (InL new) D room (D.line room (D.nxt room x)) l' → Q (.ref a) m ((a, .tup [.ref l', .int 0 t]) :: (new ++ n))) :
    Does prog w A h₀ L (call (.ref 464) [.ref v, .ref tb, .ref l, .int (k : Nat) kt, .int ((room : Nat) + 1) wt, .ref op]) m n Q := by
  refine Codes.call ?_
  refine code_fn (binds := [("view", .ref v), ("table", .ref tb), ("rows", .ref l), ("number", .int (k : Nat) kt), ("width", .int ((room : Nat) + 1) wt), ("options", .ref op)]) (by assumption) (by walk_at "room") (by walk_at "pick") (by k_is) (by k_is) (fun s X => by walk_at "binds") (by exact locs rfl) (by decide +kernel) (by rfl) (by rfl) (by rfl) ?_
  intro g L' B' K R'
  show Does _ _ _ _ _ (execs (_ :: _) (envX _ ⟨_, _, _, _, _⟩ _ _ _ _)) _ _ _
  have V' := V.mono K
  have T' := T.mono K
  have O' := O.mono K
  obtain ⟨vs, w1, w2⟩ := W.mono K
  have hvz := w2.length
  obtain ⟨lv, hlv, ra, rfl, rd, s, e, gl, c0, nc, nt, b1, mk, rc, gs, g1, g2, g3, g4, g5, g6⟩ := All2.last w2 hx
  obtain ⟨ep, ek, et, eu, e1, e2⟩ := g4
  walk_at "sts"
  by_cases hlt : k + 1 < is.length
  · walk_at "sts"
    exact ⟨_, keep1 (p := (_, _)) .here, q1 hlt _ _⟩
  · have he : k + 1 = is.length := by lia
    walk_at "sts"
    refine i_last (by walk_at "kn") hlv ?_
    walk_at "sts"
    cases hE : D.isEnd room x with
    | true =>
      rw [hE] at g2
      walk_at "sts"
      exact fin0 (q2 he hE)
    | false =>
      rw [hE] at g2
      walk_at "sts"
      refine i_last (by walk_at "kn") hlv ?_
      walk_at "sts"
      refine rows_of_line_ok B' (by walk_at "room") (V'.mono fun _ _ => knA) (T'.mono fun _ _ => knA) (O'.mono fun _ _ => knA) (by walk_at "kn") e2.1 hr hC hN fun l' new h => ?_
      walk_at "sts"
      rw [List.append_nil]
      exact ⟨_, Less.refl _, q3 he hE _ _ _ _ h⟩
theorem lineFrom_len {D : VD} {room : Nat} : ∀ f i, (D.lineFrom room f i).length ≤ f
  | 0, i => Nat.le_refl _
  | f + 1, i => by
    rw [VD.lineFrom]
    split
    · exact Nat.succ_le_succ (Nat.zero_le _)
    · exact Nat.succ_le_succ (lineFrom_len f _)
theorem row_ahead_ok {v tb op l : Addr} {D : VD} {room k b : Nat} {is : List Nat} {kt wt : Tok} {Q : Value → Loc → Led → Prop} (B : Base prog w h₀) (R : Room A 22) (V : IsView (Kn prog w h₀ n) D v) (T : IsTable (Kn prog w h₀ n) tb) (O : IsOpts (Kn prog w h₀ n) op) (W : IsRows (Kn prog w h₀ n) D room is l) (hr : 2 ≤ room ∧ room ≤ 100) (hC : ∀ x ∈ D.S, Cd x.1) (hN : D.N ≤ 900) (hb : b ≤ D.text.length) (hlb : D.lb b = b) (h0 : is[0]? = some (D.off b))
    (q1 : 0 < k → ∀ a t, Q (.ref a) m ((a, .tup [.ref l, .int ((k : Nat) - 1) t]) :: n))
    (q2 : k = 0 → b = 0 → Q .none m n)
    (q3 : ∀ c, k = 0 → b = c + 1 → ∀ a t l' new, IsRows (InL new) D room (D.line room (D.off (D.lb c))) l' → Q (.ref a) m ((a, .tup [.ref l', .int (((D.line room (D.off (D.lb c))).length : Nat) - 1) t]) :: (new ++ n))) :
    Does prog w A h₀ L (call (.ref 457) [.ref v, .ref tb, .ref l, .int (k : Nat) kt, .int ((room : Nat) + 1) wt, .ref op]) m n Q := by
  refine Codes.call ?_
  refine code_fn (binds := [("view", .ref v), ("table", .ref tb), ("rows", .ref l), ("number", .int (k : Nat) kt), ("width", .int ((room : Nat) + 1) wt), ("options", .ref op)]) (by assumption) (by walk_at "room") (by walk_at "pick") (by k_is) (by k_is) (fun s X => by walk_at "binds") (by exact locs rfl) (by decide +kernel) (by rfl) (by rfl) (by rfl) ?_
  intro g L' B' K R'
  show Does _ _ _ _ _ (execs (_ :: _) (envX _ ⟨_, _, _, _, _⟩ _ _ _ _)) _ _ _
  have V' := V.mono K
  have T' := T.mono K
  have O' := O.mono K
  obtain ⟨v1, v2, v3, v4, v5, v6, v7, v8, v9, v10⟩ := V.mono K
  obtain ⟨vs, w1, w2⟩ := W.mono K
  have hvz := w2.length
  obtain ⟨fv, hfv, ra, rfl, rd, s, e, gl, c0, nc, nt, b1, mk, rc, gs, g1, g2, g3, g4, g5, g6⟩ := w2.get h0
  obtain ⟨sp, sk, st, su, s1, s2⟩ := g3
  have hsp : sp = (b : Int) + 1 := by rw [(Spot.pl s2).1, pl_at hb]
  subst hsp
  walk_at "sts"
  by_cases hk : 0 < k
  · walk_at "sts"
    exact ⟨_, keep1 (p := (_, _)) .here, q1 hk _ _⟩
  · have hk0 : k = 0 := by lia
    walk_at "sts"
    refine i_lst (by walk_at "kn") (by decide) (by decide) hfv ?_
    walk_at "sts"
    by_cases hb0 : b = 0
    · walk_at "sts"
      exact fin0 (q2 hk0 hb0)
    · obtain ⟨c, rfl⟩ : ∃ c, b = c + 1 := ⟨b - 1, by lia⟩
      walk_at "sts"
      rw [show ((D.lb (c + 1) : Nat) : Int) + 1 - 1 = (c : Int) + 1 by lia]
      refine line_begin_ok B' (by walk_at "room") (V'.mono fun _ _ => knA) fun tk => ?_
      walk_at "sts"
      have hlc := (lb_facts (D := D) c).1
      refine rows_of_line_ok (i := D.off (D.lb c)) (p := (D.lb c : Int) + 1) (k := 0) B' (by walk_at "room") (V'.mono fun _ _ => knA) (T'.mono fun _ _ => knA) (O'.mono fun _ _ => knA) (by walk_at "kn") ⟨D.lb c, 0, rfl, rfl, by lia, Nat.zero_le _, rfl⟩ hr hC hN fun l' new h => ?_
      obtain ⟨vs', w1', w2'⟩ := id h
      have hz' := w2'.length
      have hl' := lineFrom_len (D := D) (room := room) (D.N + 1) (D.off (D.lb c))
      simp only [InL] at w1'
      walk_at "sts"
      rw [hz']
      exact ⟨_, Less.of_sub ((List.sublist_append_left _ _).cons_cons _), q3 c hk0 rfl _ _ _ _ h⟩
theorem line_head {D : VD} {room b : Nat} (hr : 2 ≤ room) (hb : b ≤ D.text.length) : (D.line room (D.off b))[0]? = some (D.off b) := by
  rw [line_eq hr (off_len_le hb)]; rfl
inductive I_gone (D : VD) (room b a0 k : Nat) (l v tb op : Addr) (count : Int) (ct wt : Tok) (κ : Nat) (m : Loc) (n : Led) : Prop
  | mk : ∀ b' a0' k' l' gone x t1 t2, (VD.LS D room b' a0') → (k' < (D.line room (D.off b')).length) → (l' = l ∧ b' = b ∨ IsRows (InL n) D room (D.line room (D.off b')) l') → (gone = ((a0' + k' : Nat) : Int) - ((a0 + k : Nat) : Int)) → (κ = (count - gone).natAbs) → (0 ≤ gone ∧ gone ≤ count ∨ count ≤ gone ∧ gone ≤ 0) → (x = ((k' : Nat) : Int)) → (m "view" = some (.ref v)) → (m "table" = some (.ref tb)) → (m "rows" = some (.ref l')) → (m "number" = some (.int x t1)) → (m "count" = some (.int count ct)) → (m "width" = some (.int ((room : Nat) + 1) wt)) → (m "options" = some (.ref op)) → (m "gone" = some (.int gone t2)) → I_gone D room b a0 k l v tb op count ct wt κ m n
theorem gone_from_ok {v tb op l : Addr} {D : VD} {room k b a0 : Nat} {count : Int} {kt wt ct : Tok} {Q : Value → Loc → Led → Prop} (B : Base prog w h₀) (R : Room A 23) (V : IsView (Kn prog w h₀ n) D v) (T : IsTable (Kn prog w h₀ n) tb) (O : IsOpts (Kn prog w h₀ n) op) (hr : 2 ≤ room ∧ room ≤ 100) (hC : ∀ x ∈ D.S, Cd x.1) (hN : D.N ≤ 900)
    (LS : VD.LS D room b a0) (W : IsRows (Kn prog w h₀ n) D room (D.line room (D.off b)) l) (hk : k < (D.line room (D.off b)).length)
    (q : ∀ a l' b' a0' k' t u new, VD.LS D room b' a0' → k' < (D.line room (D.off b')).length → a0' + k' = VD.clamp (D.due room).length (((a0 + k : Nat) : Int) + count) → (l' = l ∧ b' = b ∨ IsRows (InL new) D room (D.line room (D.off b')) l') →
      Q (.ref a) m ((a, .tup [.ref l', .int (k' : Nat) t, .int (((a0' + k' : Nat) : Int) - ((a0 + k : Nat) : Int)) u]) :: (new ++ n))) :
    Does prog w A h₀ L (call (.ref 471) [.ref v, .ref tb, .ref l, .int (k : Nat) kt, .int count ct, .int ((room : Nat) + 1) wt, .ref op]) m n Q := by
  refine Codes.call ?_
  refine code_fn (binds := [("view", .ref v), ("table", .ref tb), ("rows", .ref l), ("number", .int (k : Nat) kt), ("count", .int count ct), ("width", .int ((room : Nat) + 1) wt), ("options", .ref op)]) (by assumption) (by walk_at "room") (by walk_at "pick") (by k_is) (by k_is) (fun s X => by walk_at "binds") (by exact locs rfl) (by decide +kernel) (by rfl) (by rfl) (by rfl) ?_
  intro g L' B' K R'
  show Does _ _ _ _ _ (execs (_ :: _) (envX _ ⟨_, _, _, _, _⟩ _ _ _ _)) _ _ _
  have V' := V.mono K
  have T' := T.mono K
  have O' := O.mono K
  have W' := W.mono K
  walk_at "sts"
  refine x_while (I_gone D room b a0 k l v tb op count ct wt) _
    ⟨b, a0, k, l, _, _, _, _, LS, hk, .inl ⟨rfl, rfl⟩, (by lia : (0 : Int) = _), rfl, by lia, rfl, by walk_at "lk", by walk_at "lk", by walk_at "lk", by walk_at "lk", by walk_at "lk", by walk_at "lk", by walk_at "lk", by walk_at "lk"⟩ ?_
  rintro κ m n ⟨b', a0', k', l', gone, _, t1, t2, LS', hk', hl', hgone, rfl, hdir, rfl, m1, m2, m3, m4, m5, m6, m7, m8⟩
  have hlen := LS'.len hr.1
  have W2 : IsRows (Kn prog w g n) D room (D.line room (D.off b')) l' := by
    rcases hl' with ⟨rfl, rfl⟩ | h
    · exact W'.mono fun _ _ => knA
    · exact h.mono fun _ _ h => .inr h
  by_cases hc : gone = count
  · walk_at "sts"
    rw [hgone]
    exact ⟨_, Less.refl _, q _ _ _ _ _ _ _ _ LS' hk' (by unfold VD.clamp; lia) hl'⟩
  · have hlz := lineFrom_len (D := D) (room := room) (D.N + 1) (D.off b')
    obtain ⟨x, hx⟩ : ∃ x, (D.line room (D.off b')).getLast? = some x := ⟨_, List.getLast?_eq_some_getLast (List.length_pos_iff.mp hlen.1)⟩
    by_cases hpos : 0 < count
    · walk_at "sts"
      refine row_behind_ok B' (by walk_at "room") (V'.mono fun _ _ => knA) (T'.mono fun _ _ => knA) (O'.mono fun _ _ => knA) W2 hr hC hN (Nat.le_trans hlz (by lia)) hk' hx (fun hlt a t => ?_) (fun he hE => ?_) fun he hE a t l'' new h => ?_
      · walk_at "sts"
        refine te_next _ (Less.refl _) ⟨(count - (gone + 1)).natAbs, by lia, b', a0', k' + 1, l', gone + 1, (k' : Int) + 1, _, _, LS', hlt, hl'.imp id fun h => h.mono fun _ _ h => .tail _ h, by lia, rfl, by lia, by lia, by walk_at "lk", by walk_at "lk", by walk_at "lk", by walk_at "lk", by walk_at "lk", by walk_at "lk", by walk_at "lk", by walk_at "lk"⟩
      · have hend := LS'.ended hr.1 hx hE
        walk_at "sts"
        rw [hgone]
        exact ⟨_, Less.refl _, q _ _ _ _ _ _ _ _ LS' hk' (by unfold VD.clamp; lia) hl'⟩
      · obtain ⟨b'', e, LS''⟩ := LS'.next hr.1 hx hE
        rw [e] at h
        have hlen2 := LS''.len hr.1
        walk_at "sts"
        refine te_next _ (Less.refl _) ⟨(count - (gone + 1)).natAbs, by lia, b'', _, 0, l'', gone + 1, 0, _, _, LS'', hlen2.1, .inr (h.mono fun _ _ h => .tail _ (List.mem_append.mpr (.inl h))), by lia, rfl, by lia, rfl, by walk_at "lk", by walk_at "lk", by walk_at "lk", by walk_at "lk", by walk_at "lk", by walk_at "lk", by walk_at "lk", by walk_at "lk"⟩
    · walk_at "sts"
      refine row_ahead_ok B' (by walk_at "room") (V'.mono fun _ _ => knA) (T'.mono fun _ _ => knA) (O'.mono fun _ _ => knA) W2 hr hC hN LS'.le LS'.lb (line_head hr.1 LS'.le) (fun hlt a t => ?_) (fun he hb0 => ?_) fun c he hb0 a t l'' new h => ?_
      · walk_at "sts"
        refine te_next _ (Less.refl _) ⟨(count - (gone + -1)).natAbs, by lia, b', a0', k' - 1, l', gone + -1, (k' : Int) - 1, _, _, LS', by lia, hl'.imp id fun h => h.mono fun _ _ h => .tail _ h, by lia, rfl, by lia, by lia, by walk_at "lk", by walk_at "lk", by walk_at "lk", by walk_at "lk", by walk_at "lk", by walk_at "lk", by walk_at "lk", by walk_at "lk"⟩
      · subst hb0
        have hz := LS'.uniq VD.LS.zero
        walk_at "sts"
        rw [hgone]
        exact ⟨_, Less.refl _, q _ _ _ _ _ _ _ _ LS' hk' (by unfold VD.clamp; lia) hl'⟩
      · subst hb0
        obtain ⟨a1, LS'', e⟩ := LS'.before hr.1
        have hlen2 := LS''.len hr.1
        walk_at "sts"
        refine te_next _ (Less.refl _) ⟨(count - (gone + -1)).natAbs, by lia, _, a1, (D.line room (D.off (D.lb c))).length - 1, l'', gone + -1, ((D.line room (D.off (D.lb c))).length : Int) - 1, _, _, LS'', by lia, .inr (h.mono fun _ _ h => .tail _ (List.mem_append.mpr (.inl h))), by lia, rfl, by lia, by lia, by walk_at "lk", by walk_at "lk", by walk_at "lk", by walk_at "lk", by walk_at "lk", by walk_at "lk", by walk_at "lk", by walk_at "lk"⟩

-- WA
inductive FJ (Z fi : Nat) (H : List Int → Prop) (i : Nat) (ys : List Value) (r : Led) : Prop
  | mk : (r = []) → (ys.length ≤ i) → (i ≤ Z) → ∀ ns, IntsAre ys ns → (fi < i → H ns) → (i ≤ fi → ns = []) → FJ Z fi H i ys r
theorem FJ.le {Z fi : Nat} {H : List Int → Prop} {i : Nat} {ys : List Value} {r : Led} (j : FJ Z fi H i ys r) : ys.length ≤ i ∧ i ≤ Z := by
  obtain ⟨_, a, b, _⟩ := j; exact ⟨a, b⟩
theorem keep3 {p q s : Addr × Cell} {n r r' r'' : Led} (t : Take p n r) (u : Take q r r') (v : Take s r' r'') : Less [p, q, s] n := (Less.of_sub (((List.nil_sublist _).cons_cons _ |>.cons_cons _).cons_cons _)).trans (less3 t u v)
inductive StartI (Φ : Known) (D : VD) (x : Nat) (s : Addr) : Prop
  | mk : ∀ k t u, Φ s (.tup [.int ((D.pl x : Nat) + 1) t, .int k u]) → StartI Φ D x s
theorem start_of {Φ : Known} {D : VD} {x : Nat} {s : Addr} (h : SpotT Φ D x s) : StartI Φ D x s := by
  obtain ⟨p, k, t, u, e, h⟩ := h
  rw [(Spot.pl h).1] at e
  exact ⟨k, t, u, e⟩
theorem vertical_motion_ok {v tb op : Addr} {D : VD} {room qp : Nat} {count : Int} {pt wt ct : Tok} {Q : Value → Loc → Led → Prop} (B : Base prog w h₀) (R : Room A 24) (V : IsView (Kn prog w h₀ n) D v) (T : IsTable (Kn prog w h₀ n) tb) (O : IsOpts (Kn prog w h₀ n) op) (hr : 2 ≤ room ∧ room ≤ 100) (hC : ∀ x ∈ D.S, Cd x.1) (hN : D.N ≤ 900) (hq : qp ≤ D.text.length)
    (q : ∀ a t u, Q (.ref a) m ((a, .tup [.int ((D.pl ((D.due room).getD (D.goal room qp count) 0) : Nat) + 1) t, .int ((D.goal room qp count : Nat) - (D.seen room (D.due room) (D.own qp) : Nat)) u]) :: n)) :
    Does prog w A h₀ L (call (.ref 478) [.ref v, .ref tb, .int ((qp : Nat) + 1) pt, .int count ct, .int ((room : Nat) + 1) wt, .ref op]) m n Q := by
  refine Codes.call ?_
  refine code_fn (binds := [("view", .ref v), ("table", .ref tb), ("place", .int ((qp : Nat) + 1) pt), ("count", .int count ct), ("width", .int ((room : Nat) + 1) wt), ("options", .ref op)]) (by assumption) (by walk_at "room") (by walk_at "pick") (by k_is) (by k_is) (fun s X => by walk_at "binds") (by exact locs rfl) (by decide +kernel) (by rfl) (by rfl) (by rfl) ?_
  intro g L' B' K R'
  show Does _ _ _ _ _ (execs (_ :: _) (envX _ ⟨_, _, _, _, _⟩ _ _ _ _)) _ _ _
  have V' := V.mono K
  have T' := T.mono K
  have O' := O.mono K
  have hlc := (lb_facts (D := D) qp).1
  walk_at "sts"
  refine rows_of_line_ok (i := D.off (D.lb qp)) (p := (D.lb qp : Int) + 1) (k := 0) B' (by walk_at "room") (V'.mono fun _ _ => knA) (T'.mono fun _ _ => knA) (O'.mono fun _ _ => knA) (by walk_at "kn") ⟨D.lb qp, 0, rfl, rfl, by lia, Nat.zero_le _, rfl⟩ hr hC hN fun l new h => ?_
  obtain ⟨a0, LS⟩ := LS_of (D := D) (room := room) hr.1 hq
  have hlen := LS.len hr.1
  have hlz := lineFrom_len (D := D) (room := room) (D.N + 1) (D.off (D.lb qp))
  have hsn := seen_due hr.1 LS hq
  have hslt := seen_lt (D := D) (room := room) (s := D.own qp) hlen.1
  walk_at "sts"
  refine index_of_ok B' (by walk_at "room") (h.mono fun a c h => by simp only [InL] at h; exact .inr (by walk_at "mem")) (by walk_at "kn") (own_spot hq) ⟨hlen.1, Nat.le_trans hlz (by lia)⟩ fun tk => ?_
  walk_at "sts"
  refine gone_from_ok B' (by walk_at "room") (V'.mono fun _ _ => knA) (T'.mono fun _ _ => knA) (O'.mono fun _ _ => knA) hr hC hN LS (h.mono fun a c h => by simp only [InL] at h; exact .inr (by walk_at "mem")) hslt fun ga l' b' a0' k' t u new' LS' hk' hcl hl' => ?_
  have hh : IsRows (InL (new' ++ new)) D room (D.line room (D.off b')) l' := by
    rcases hl' with ⟨rfl, rfl⟩ | h'
    · exact h.mono fun a c h => List.mem_append.mpr (.inr h)
    · exact h'.mono fun a c h => List.mem_append.mpr (.inl h)
  obtain ⟨vs, w1, w2⟩ := hh
  obtain ⟨x, ra, hx, hv, rd, s, e, gl, c0, nc, nt, b1, mk, rc, gs, g1, g2, g3, g4, g5, g6⟩ := nth_row w2 hk'
  obtain ⟨sk, st, su, s1⟩ := start_of g3
  simp only [InL] at w1 g1 g2 s1
  have hcl' : a0' + k' = D.goal room qp count := by rw [VD.goal, hsn]; exact hcl
  have hlast : (D.due room).getD (D.goal room qp count) 0 = x := by
    rw [LS'.get hr.1 hk', hcl'] at hx
    rw [List.getD_eq_getElem?_getD, hx]; rfl
  walk_at "sts"
  refine Does.less (n' := new' ++ new) (Less.of_sub (List.Sublist.cons _ ((List.Sublist.refl _).append (List.Sublist.cons _ (List.sublist_append_left _ _))))) ?_
  refine i_lst (vs := vs) (i := k') (by walk_at "kn") (by lia) (by have := LS'.len hr.1; have := lineFrom_len (D := D) (room := room) (D.N + 1) (D.off b'); simp only [VD.line] at hk'; lia) (by rw [Int.toNat_natCast]; exact hv) ?_
  walk_at "sts"
  have e1 : a0 + D.seen room (D.lineFrom room (D.N + 1) (D.off (D.lb qp))) (D.own qp) = D.seen room (D.due room) (D.own qp) := hsn.symm
  rw [hcl', e1, ← hlast]
  exact ⟨_, keep1 (p := (_, _)) .here, q _ _ _⟩
theorem tests1 {c : Expr} {Q : Bool → Loc → Led → Prop} (h : Does prog w A h₀ L (isTrue c env (eval c env)) m n Q) : Tests prog w A h₀ L [c] env m n Q := h
theorem ints_snoc {vs : List Value} {ns : List Int} (h : IntsAre vs ns) (i : Int) (t : Tok) : IntsAre (vs ++ [.int i t]) (ns ++ [i]) := by
  induction h with
  | nil => exact .cons _ _ .nil
  | cons a b _ ih => exact .cons a b ih
theorem e_join {t : Sem Value} {Q : Value → Loc → Led → Prop} (P : Value → Prop) (x : Does prog w A h₀ L t m n fun v m' n' => P v ∧ m' = m ∧ ∃ ext, n' = ext ++ n) (k : ∀ v ext, P v → Q v m (ext ++ n)) : Does prog w A h₀ L t m n Q := x.mono fun v m' n' z => by
  obtain ⟨h, rfl, ext, rfl⟩ := z
  exact k v ext h
inductive I_moved (D : VD) (room qp : Nat) (c0 v tb op : Addr) (count : Int) (ct wt pt : Tok) (κ : Nat) (m : Loc) (n : Led) : Prop
  | mk : ∀ b1 a1 k1 l1 x t1, (VD.LS D room b1 a1) → (k1 < (D.line room (D.off b1)).length) → (IsRows (InL n) D room (D.line room (D.off b1)) l1) → (κ = (D.due room).length - (a1 + k1)) → (x = ((k1 : Nat) : Int)) → ((c0, .var (some (.int ((qp : Nat) + 1) pt))) ∈ n) → ((if 0 < count then D.fur ((D.due room).drop (a1 + k1)) qp else D.pl ((D.due room).getD (a1 + k1) 0)) = D.moved room qp count) → (m "view" = some (.ref v)) → (m "table" = some (.ref tb)) → (m "rows" = some (.ref l1)) → (m "number" = some (.int x t1)) → (m "count" = some (.int count ct)) → (m "width" = some (.int ((room : Nat) + 1) wt)) → (m "options" = some (.ref op)) → I_moved D room qp c0 v tb op count ct wt pt κ m n
theorem begin_moved_ok {v tb op : Addr} {D : VD} {room qp : Nat} {count : Int} {pt wt ct : Tok} {Q : Value → Loc → Led → Prop} (B : Base prog w h₀) (R : Room A 24) (V : IsView (Kn prog w h₀ n) D v) (T : IsTable (Kn prog w h₀ n) tb) (O : IsOpts (Kn prog w h₀ n) op) (hr : 2 ≤ room ∧ room ≤ 100) (hC : ∀ x ∈ D.S, Cd x.1) (hN : D.N ≤ 900) (hq : qp ≤ D.text.length)
    (q : ∀ t, Q (.int ((D.moved room qp count : Nat) + 1) t) m n) :
    Does prog w A h₀ L (call (.ref 483) [.ref v, .ref tb, .int ((qp : Nat) + 1) pt, .int count ct, .int ((room : Nat) + 1) wt, .ref op]) m n Q := by
  refine Codes.call ?_
  refine code_fnC (binds := [("view", .ref v), ("table", .ref tb), ("start", .int ((qp : Nat) + 1) pt), ("count", .int count ct), ("width", .int ((room : Nat) + 1) wt), ("options", .ref op)]) (own := []) (cf := (fun k => [("start", k)])) (vars := (fun k => [(k, .var (some (.int ((qp : Nat) + 1) pt)))])) (m₀ := (upd (upd (upd (upd (upd (fun _ => none) "view" (.ref v)) "table" (.ref tb)) "count" (.int count ct)) "width" (.int ((room : Nat) + 1) wt)) "options" (.ref op))) (by assumption) (by walk_at "room") (by walk_at "pick") (by k_is) (by k_is) (fun s X => by walk_at "binds") (by rfl) (by decide +kernel) (fun _ => by rfl) (fun _ => by rfl) (by walk_at "locs") (st := (fun k => [(k, .var (some (.int ((qp : Nat) + 1) pt)))])) (fun _ => rfl) (by rfl) (by rfl) (by rfl) ?_
  intro g L' c0 B' K R'
  show Does _ _ _ _ _ (execs (_ :: _) (envX _ ⟨_, _, _, _, _⟩ _ _ _ _)) _ _ _
  have V' := V.mono K
  have T' := T.mono K
  have O' := O.mono K
  have hlc := (lb_facts (D := D) qp).1
  walk_at "sts"
  refine rows_of_line_ok (i := D.off (D.lb qp)) (p := (D.lb qp : Int) + 1) (k := 0) B' (by walk_at "room") (V'.mono fun _ _ => knA) (T'.mono fun _ _ => knA) (O'.mono fun _ _ => knA) (by walk_at "kn") ⟨D.lb qp, 0, rfl, rfl, by lia, Nat.zero_le _, rfl⟩ hr hC hN fun l new h => ?_
  obtain ⟨a0, LS⟩ := LS_of (D := D) (room := room) hr.1 hq
  have hlen := LS.len hr.1
  have hlz := lineFrom_len (D := D) (room := room) (D.N + 1) (D.off (D.lb qp))
  have hsn := seen_due hr.1 LS hq
  have hslt := seen_lt (D := D) (room := room) (s := D.own qp) hlen.1
  obtain ⟨vs, w1, w2⟩ := id h
  simp only [InL] at w1
  have hvz := w2.length
  walk_at "sts"
  refine x_ae (cpos := default) (cs := [("start", c0)]) (Room.handled R') (by rfl) ?_
  walk_at "sts"
  refine f_enum (by walk_at "kn") fun en it => ?_
  walk_at "sts"
  obtain ⟨fi, hfi⟩ : ∃ fi, fi = (D.line room (D.off (D.lb qp))).findIdx fun i => D.pl i == qp := ⟨_, rfl⟩
  refine ⟨l, vs, en, it, _, rfl, rfl, by walk_at "kn", FJ vs.length fi (fun ns => ∃ r, ns = (fi : Int) :: r), fun i ys r j => ?_, ⟨rfl, Nat.le_refl _, Nat.zero_le _, [], .nil, fun h => absurd h (Nat.not_lt_zero _), fun _ => rfl⟩, fun g2 L2 K2 KB acc i ys r m' x t tk hx j => ?_, fun acc ys r j => ?_⟩
  · have := j.le.1; have := j.le.2; lia
  · obtain ⟨rfl, jl, ji, ns, jn, j1, j2⟩ := j
    have hi := (List.getElem?_eq_some_iff.mp hx).1
    obtain ⟨ix, hix, ra, rfl, hR⟩ := w2.get' hx
    have hR := hR.mono (Ψ := At prog w g2) fun a c h => K2 a c (by simp only [InL] at h; exact .inr (by walk_at "mem"))
    have kc := K2 c0 (.var (some (.int ((qp : Nat) + 1) pt))) (by walk_at "kn")
    obtain ⟨rd, s, e, gl, cc, nc, nt, b1, mk, rc, gs, g1, g2', g3, g4, g5, g6⟩ := hR
    obtain ⟨sk, st, su, s1⟩ := start_of g3
    have B2 := KB B'
    walk_at "sts"
    refine tests1 ?_
    walk_at "sts"
    by_cases hp : D.pl ix = qp
    · walk_at "sts"
      refine ⟨[], keep3 (p := (acc, _)) (q := (en, _)) (s := (it, _)) (by walk_at "take") (by walk_at "take") (by walk_at "take"), rfl, by rw [List.length_append]; show _ + 1 ≤ _; lia, hi, _, (ints_snoc jn _ _), fun h => ?_, fun h => ?_⟩
      · rcases Nat.lt_or_ge fi i with h' | h'
        · obtain ⟨r, rfl⟩ := j1 h'
          exact ⟨_, rfl⟩
        · have e : i = fi := by lia
          rw [j2 h', e]; exact ⟨_, rfl⟩
      · have := findIdx_before (fun i => D.pl i == qp) (D.line room (D.off (D.lb qp))) i ix (by lia) hix
        simp [hp] at this
    · walk_at "sts"
      refine ⟨[], keep3 (p := (acc, _)) (q := (en, _)) (s := (it, _)) (by walk_at "take") (by walk_at "take") (by walk_at "take"), rfl, by lia, hi, ns, jn, fun h => ?_, fun h => j2 (by lia)⟩
      rcases Nat.lt_or_ge fi i with h' | h'
      · exact j1 h'
      · have e : i = fi := by lia
        have := findIdx_here (fun i => D.pl i == qp) (D.line room (D.off (D.lb qp))) ix (by rw [← hfi, ← e]; exact hix)
        simp [hp] at this
  · obtain ⟨rfl, jl, ji, ns, jn, j1, j2⟩ := j
    have hvz' : vs.length = (D.line room (D.off (D.lb qp))).length := hvz
    have hW : IsRows (Kn prog w g new) D room (D.line room (D.off (D.lb qp))) l := h.mono fun a c h => .inr h
    walk_at "st"
    refine e_join (fun v => ∃ t, v = .int (D.firstAt room (D.line room (D.off (D.lb qp))) qp (D.own qp) : Nat) t) ?_ fun v ext hv => ?_
    · walk_at "sts"
      refine c_ned R' (rd_list (by walk_at "kn") (rd_ints jn)) (rd_list (by walk_at "kn") .nil) (ke_shaped_ints ns) (by decide) ?_
      by_cases hf : fi < vs.length
      · obtain ⟨r, rfl⟩ := j1 hf
        have hd : (!PyData.eqv (.list (((fi : Int) :: r).map .int)) (.list [])) = true := by simp [PyData.eqv, PyData.eqvAll]
        obtain ⟨t, ht⟩ := jn.get 0 _ rfl
        walk_at "sts"
        refine i_lst (by walk_at "kn") (by decide) (by decide) ht ?_
        exact ⟨⟨_, by unfold VD.firstAt; rw [← hfi, if_pos (by lia)]⟩, rfl, [_], rfl⟩
      · have e := j2 (by lia)
        subst e
        have hd : (!PyData.eqv (.list (([] : List Int).map .int)) (.list [])) = false := by simp [PyData.eqv, PyData.eqvAll]
        walk_at "sts"
        refine index_of_ok B' (by walk_at "room") (hW.mono fun a c h => by rcases h with h | h; exact .inl h; exact .inr (by walk_at "mem")) (by walk_at "kn") (own_spot hq) ⟨hlen.1, Nat.le_trans hlz (by lia)⟩ fun tk => ?_
        exact ⟨⟨_, by unfold VD.firstAt; rw [← hfi, if_neg (by lia)]⟩, rfl, [_, _], rfl⟩
    · obtain ⟨t, rfl⟩ := hv
      walk_at "sts"
      have hfl : D.firstAt room (D.line room (D.off (D.lb qp))) qp (D.own qp) < (D.line room (D.off (D.lb qp))).length := by
        unfold VD.firstAt
        split
        · assumption
        · exact hslt
      refine gone_from_ok B' (by walk_at "room") (V'.mono fun _ _ => knA) (T'.mono fun _ _ => knA) (O'.mono fun _ _ => knA) hr hC hN LS (hW.mono fun a c h => by rcases h with h | h; exact .inl h; exact .inr (by walk_at "mem")) hfl fun ga l' b' a0' k' t u new' LS' hk' hcl hl' => ?_
      rw [← firstAt_due hr.1 LS hq] at hcl
      have hcl' : a0' + k' = D.goal2 room qp count := hcl
      have hh : IsRows (InL (new' ++ new)) D room (D.line room (D.off b')) l' := by
        rcases hl' with ⟨rfl, rfl⟩ | h'
        · exact h.mono fun a c h => List.mem_append.mpr (.inr h)
        · exact h'.mono fun a c h => List.mem_append.mpr (.inl h)
      walk_at "sts"
      refine x_while (I_moved D room qp c0 v tb op count ct wt pt) _
        ⟨b', a0', k', l', _, _, LS', hk', hh.mono fun a c h => ?_, rfl, rfl, by walk_at "mem", by rw [hcl']; rfl, by walk_at "lk", by walk_at "lk", by walk_at "lk", by walk_at "lk", by walk_at "lk", by walk_at "lk", by walk_at "lk"⟩ ?_
      · simp only [InL] at h ⊢
        rcases List.mem_append.mp h with h | h <;> walk_at "mem"
      clear hh hl' hcl hcl' hk' LS' h hW w1 w2 hvz hvz' jl ji jn j1 j2
      clear l' b' a0' k' t u new' ga
      rintro κ m n ⟨b1, a1, k1, l1, _, t1, LS1, hk1, hW, rfl, rfl, hc0, hmv, m1, m2, m3, m4, m5, m6, m7⟩
      have hlen1 := LS1.len hr.1
      have hlz1 := lineFrom_len (D := D) (room := room) (D.N + 1) (D.off b1)
      have hlz1' : (D.line room (D.off b1)).length ≤ D.N + 1 := hlz1
      obtain ⟨vs, w1, w2⟩ := id hW
      simp only [InL] at w1
      have hvz := w2.length
      obtain ⟨x, ra, hx, hv, rd, s, e, gl, cc, nc, nt, bb, mk, rc, gs, g1, g2, g3, g4, g5, g6⟩ := nth_row w2 hk1
      obtain ⟨sk, st, su, s1⟩ := start_of g3
      simp only [InL] at g1 g2 s1
      have hd : (D.due room)[a1 + k1]? = some x := by rw [← LS1.get hr.1 hk1]; exact hx
      obtain ⟨y, hy⟩ : ∃ y, (D.line room (D.off b1)).getLast? = some y := ⟨_, List.getLast?_eq_some_getLast (List.length_pos_iff.mp hlen1.1)⟩
      by_cases hc : 0 < count
      · rw [if_pos hc] at hmv
        walk_at "sts"
        refine i_lst (vs := vs) (i := k1) (by walk_at "kn") (by lia) (by lia) (by rw [Int.toNat_natCast]; exact hv) ?_
        walk_at "sts"
        by_cases hp : D.pl x = qp
        · walk_at "sts"
          refine row_behind_ok B' (by walk_at "room") (V'.mono fun _ _ => knA) (T'.mono fun _ _ => knA) (O'.mono fun _ _ => knA) (hW.mono fun _ _ h => .inr h) hr hC hN (by lia) hk1 hy (fun hlt a t => ?_) (fun he hE => ?_) fun he hE a t l'' new h => ?_
          · walk_at "sts"
            refine te_next _ (Less.refl _) ⟨(D.due room).length - (a1 + (k1 + 1)), by lia, b1, a1, k1 + 1, l1, (k1 : Int) + 1, _, LS1, hlt, hW.mono fun _ _ h => .tail _ h, rfl, by lia, by walk_at "mem", ?_, by walk_at "lk", by walk_at "lk", by walk_at "lk", by walk_at "lk", by walk_at "lk", by walk_at "lk", by walk_at "lk"⟩
            rw [if_pos hc, ← Nat.add_assoc, fur_miss hd hp]; exact hmv
          · have hend := LS1.ended hr.1 hy hE
            walk_at "sts"
            rw [← fur_miss hd hp, fur_end (by lia)] at hmv
            rw [← hmv] at q
            exact fin0 (q _)
          · obtain ⟨b'', e, LS''⟩ := LS1.next hr.1 hy hE
            rw [e] at h
            have hlen2 := LS''.len hr.1
            walk_at "sts"
            refine te_next _ (Less.refl _) ⟨(D.due room).length - (a1 + (D.line room (D.off b1)).length + 0), by lia, b'', _, 0, l'', 0, _, LS'', hlen2.1, h.mono fun _ _ h => .tail _ (List.mem_append.mpr (.inl h)), rfl, rfl, by walk_at "mem", ?_, by walk_at "lk", by walk_at "lk", by walk_at "lk", by walk_at "lk", by walk_at "lk", by walk_at "lk", by walk_at "lk"⟩
            rw [if_pos hc, show a1 + (D.line room (D.off b1)).length + 0 = a1 + k1 + 1 by lia, fur_miss hd hp]; exact hmv
        · walk_at "sts"
          refine i_lst (vs := vs) (i := k1) (by walk_at "kn") (by lia) (by lia) (by rw [Int.toNat_natCast]; exact hv) ?_
          walk_at "sts"
          rw [fur_hit hd hp] at hmv
          rw [hmv]
          exact fin0 (q _)
      · rw [if_neg hc, List.getD_eq_getElem?_getD, hd] at hmv
        have hmv : D.pl x = D.moved room qp count := hmv
        walk_at "sts"
        refine i_lst (vs := vs) (i := k1) (by walk_at "kn") (by lia) (by lia) (by rw [Int.toNat_natCast]; exact hv) ?_
        walk_at "sts"
        rw [hmv]
        exact fin0 (q _)

-- WB
def DeckOk (ds : List Value) : Prop := ∃ ns, IntsAre ds ns ∧ ns.length ≤ 63
theorem law_draw_ok {rest : Led} {dk : Addr} {ds : List Value} {many : Int} {mt : Tok} {Q : Value → Loc → Led → Prop} (B : Base prog w h₀) (R : Room A 3) (P : Pick [(dk, .list ds)] n rest) (D : DeckOk ds) (hm : 0 < many) (q : ∀ r t ds', DeckOk ds' → 0 ≤ r → r < many → Q (.int r t) m ((dk, .list ds') :: rest)) : Does prog w A h₀ L (call (.ref 562) [.ref dk, .int many mt]) m n Q := by
  refine Codes.call ?_
  refine code_fn (binds := [("deck", .ref dk), ("many", .int many mt)]) (own := [(dk, .list ds)]) (by assumption) (by walk_at "room") (by walk_at "pick") (by k_is) (by k_is) (fun s X => by walk_at "binds") (by exact locs rfl) (by decide +kernel) (by rfl) (by rfl) (by rfl) ?_
  intro g L' B' K R'
  show Does _ _ _ _ _ (execs (_ :: _) (envX _ ⟨_, _, _, _, _⟩ _ _ _ _)) _ _ _
  obtain ⟨ns, hi, hz⟩ := D
  walk_at "sts"
  refine c_ned R' (rd_list (by walk_at "kn") (rd_ints hi)) (rd_list (by walk_at "kn") .nil) (ke_shaped_ints ns) (by decide) ?_
  cases hi with
  | nil =>
    have hd : (!PyData.eqv (.list (([] : List Int).map .int)) (.list [])) = false := by simp [PyData.eqv, PyData.eqvAll]
    walk_at "sts"
    exact ⟨_, keep1 (p := (dk, _)) (by walk_at "take"), q _ _ _ ⟨[], .nil, by decide⟩ (by lia) hm⟩
  | @cons x t vs ns hi =>
    have hd : (!PyData.eqv (.list ((x :: ns).map .int)) (.list [])) = true := by simp [PyData.eqv, PyData.eqvAll]
    walk_at "sts"
    refine ml (by walk_at "kn") PySem.F.slot_list_pop PySem.F.type_list_pop ?_
    walk_at "sts"
    refine l_pop0 (by walk_at "alt") (by have := hi.length; simp only [List.length_cons] at hz; lia) ?_
    walk_at "sts"
    refine o_mod (by lia) fun tk => ?_
    exact ⟨_, keep1 (p := (dk, _)) (by walk_at "take"), q _ _ _ ⟨ns, hi, by simp only [List.length_cons] at hz; lia⟩ (Int.fmod_nonneg_of_pos _ hm) (Int.fmod_lt_of_pos _ hm)⟩
inductive IsDue (Φ : Known) (D : VD) (room : Nat) (i : Nat) (v : Value) : Prop
  | mk : ∀ a s e sh gs c t, (v = .ref a) → (Φ a (.tup [.ref s, .ref e, .ref sh, .int c t])) → (SpotT Φ D i s) → (SpotT Φ D (D.nxt room i) e) → (Φ sh (.list gs)) → (IntsAre gs (D.shown room i)) → IsDue Φ D room i v
theorem IsDue.mono {Φ Ψ : Known} {D : VD} {room : Nat} (k : ∀ a c, Φ a c → Ψ a c) (i : Nat) (v : Value) (h : IsDue Φ D room i v) : IsDue Ψ D room i v := by
  obtain ⟨a, s, e, sh, gs, c, t, rfl, h1, h2, h3, h4, h5⟩ := h
  exact ⟨a, s, e, sh, gs, c, t, rfl, k _ _ h1, h2.mono k, h3.mono k, k _ _ h4, h5⟩
inductive IsDues (Φ : Known) (D : VD) (room : Nat) (l : Addr) : Prop
  | mk : ∀ vs, (Φ l (.list vs)) → (All2 (IsDue Φ D room) (D.due room) vs) → IsDues Φ D room l
theorem IsDues.mono {Φ Ψ : Known} {D : VD} {room : Nat} {l : Addr} (k : ∀ a c, Φ a c → Ψ a c) (h : IsDues Φ D room l) : IsDues Ψ D room l := by
  obtain ⟨vs, h1, h2⟩ := h
  exact ⟨vs, k _ _ h1, h2.mono (IsDue.mono k)⟩
theorem law_seen_ok {l sp : Addr} {D : VD} {room s : Nat} {p k : Int} {t u : Tok} {Q : Value → Loc → Led → Prop} (B : Base prog w h₀) (R : Room A 3) (W : IsDues (Kn prog w h₀ n) D room l) (S : Kn prog w h₀ n sp (.tup [.int p t, .int k u])) (P : D.Spot s p k) (hl : (D.due room).length ≤ 1000) (q : ∀ t, Q (.int (D.seen room (D.due room) s : Nat) t) m n) : Does prog w A h₀ L (call (.ref 579) [.ref l, .ref sp]) m n Q := by
  refine Codes.call ?_
  refine code_fn (binds := [("lines_here", .ref l), ("spot", .ref sp)]) (by assumption) (by walk_at "room") (by walk_at "pick") (by k_is) (by k_is) (fun s X => by walk_at "binds") (by exact locs rfl) (by decide +kernel) (by rfl) (by rfl) (by rfl) ?_
  intro g L' B' K R'
  show Does _ _ _ _ _ (execs (_ :: _) (envX _ ⟨_, _, _, _, _⟩ _ _ _ _)) _ _ _
  obtain ⟨vs, w1, w2⟩ := W.mono K
  have S' := K _ _ S
  have hvz := w2.length
  have hpos := chain_pos (D := D) (room := room) 0
  have hpos : 0 < (D.due room).length := hpos
  refine x_fe (Room.handled R') ?_
  walk_at "sts"
  refine f_enum (by walk_at "kn") fun en it => ?_
  walk_at "sts"
  refine ⟨l, vs, en, it, _, rfl, rfl, by walk_at "kn", fun i m r => And4 (r = []) (m "lines_here" = some (.ref l)) (m "spot" = some (.ref sp)) (∀ (j : Nat) y, j < i → (D.due room)[j]? = some y → decide (s < D.nxt room y) = false), ⟨rfl, by walk_at "lk", by walk_at "lk", fun j y h => absurd h (Nat.not_lt_zero _)⟩, fun i m r j => by walk_at "kn", fun i m r v t tk hv j => ?_, fun m r j => ?_⟩
  · obtain ⟨rfl, m1, m2, hj⟩ := j
    obtain ⟨x, hx, a, s', e', sh, gs, c, ct, rfl, h1, h2, h3, h4, h5⟩ := w2.get' hv
    obtain ⟨ep, ek, et, eu, e1, e2⟩ := h3
    have hiff := Spot.lt_iff P e2
    walk_at "sts"
    refine c_ltt R' (by walk_at "kn") (by walk_at "kn") ?_
    by_cases hlt : s < D.nxt room x
    · have hd := decide_eq_true (hiff.mpr hlt)
      walk_at "sts"
      have hi : i < (D.due room).length := (List.getElem?_eq_some_iff.mp hx).1
      rw [show D.seen room (D.due room) s = i by unfold VD.seen; rw [findIdx_at _ _ _ _ hx (decide_eq_true hlt) hj]; lia] at q
      exact fin0 (q _)
    · have hd := decide_eq_false (mt hiff.mp hlt)
      walk_at "sts"
      refine te_next _ (keep2 (p := (en, _)) (q := (it, _)) (by walk_at "take") (by walk_at "take")) ⟨_, rfl, rfl, by walk_at "lk", by walk_at "lk", fun j y h hy => ?_⟩
      rcases Nat.lt_or_ge j i with h' | h'
      · exact hj j y h' hy
      · have : j = i := by lia
        subst this
        rw [hx] at hy; cases hy; exact decide_eq_false hlt
  · obtain ⟨rfl, m1, m2, hj⟩ := j
    walk_at "sts"
    have e := findIdx_no _ (D.due room) fun j y hy => hj j y (by have := (List.getElem?_eq_some_iff.mp hy).1; lia) hy
    rw [show ((D.seen room (D.due room) s : Nat) : Int) = (vs.length : Int) - 1 by unfold VD.seen; rw [e]; lia] at q
    exact fin0 (q _)
theorem law_cursor_ok {l sp : Addr} {D : VD} {room s hh fs : Nat} {p k : Int} {t u ft ht pt : Tok} {Q : Value → Loc → Led → Prop} (B : Base prog w h₀) (R : Room A 5) (W : IsDues (Kn prog w h₀ n) D room l) (S : Kn prog w h₀ n sp (.tup [.int p t, .int k u])) (P : D.Spot s p k) (hl : (D.due room).length ≤ 1000) (hg : ∀ x, (D.shown room x).length ≤ 1000)
    (q1 : ¬ (fs ≤ D.seen room (D.due room) s ∧ D.seen room (D.due room) s < fs + hh) → Q .none m n)
    (q2 : fs ≤ D.seen room (D.due room) s → D.seen room (D.due room) s < fs + hh → ∀ x a t u, (D.due room)[D.seen room (D.due room) s]? = some x → Q (.ref a) m ((a, .tup [.int ((D.seen room (D.due room) s : Nat) - (fs : Nat)) t, .int (D.colOf room x p : Nat) u]) :: n)) : Does prog w A h₀ L (call (.ref 589) [.ref l, .int (fs : Nat) ft, .int (hh : Nat) ht, .int p pt, .ref sp]) m n Q := by
  refine Codes.call ?_
  refine code_fnC (binds := [("lines_here", .ref l), ("first", .int (fs : Nat) ft), ("height", .int (hh : Nat) ht), ("place", .int p pt), ("spot", .ref sp)]) (own := []) (cf := (fun k => [("place", k)])) (vars := (fun k => [(k, .var (some (.int p pt)))])) (m₀ := (upd (upd (upd (upd (fun _ => none) "lines_here" (.ref l)) "first" (.int (fs : Nat) ft)) "height" (.int (hh : Nat) ht)) "spot" (.ref sp))) (by assumption) (by walk_at "room") (by walk_at "pick") (by k_is) (by k_is) (fun s X => by walk_at "binds") (by rfl) (by decide +kernel) (fun _ => by rfl) (fun _ => by rfl) (by walk_at "locs") (st := (fun k => [(k, .var (some (.int p pt)))])) (fun _ => rfl) (by rfl) (by rfl) (by rfl) ?_
  intro g L' c0 B' K R'
  show Does _ _ _ _ _ (execs (_ :: _) (envX _ ⟨_, _, _, _, _⟩ _ _ _ _)) _ _ _
  have W' := W.mono K
  obtain ⟨vs, w1, w2⟩ := W.mono K
  have S' := K _ _ S
  have hvz := w2.length
  have hpos := chain_pos (D := D) (room := room) 0
  have hpos : 0 < (D.due room).length := hpos
  walk_at "sts"
  refine law_seen_ok B' (by walk_at "room") (W'.mono fun _ _ => knA) (by walk_at "kn") P hl fun tk => ?_
  have hlt := seen_lt (D := D) (room := room) (s := s) hpos
  walk_at "sts"
  by_cases hs : fs ≤ D.seen room (D.due room) s ∧ D.seen room (D.due room) s < fs + hh
  · obtain ⟨ha, hb⟩ := id hs
    obtain ⟨v, hv, a, ss, e, sh, gs, c, ct, rfl, g1, g2, g3, g4, g5⟩ := w2.get (List.getElem?_eq_getElem hlt)
    have hx := List.getElem?_eq_getElem hlt
    generalize (D.due room)[D.seen room (D.due room) s] = x at hx hv g2 g3 g5
    have hgz := g5.length
    have hgx := hg x
    walk_at "sts"
    refine i_lst (vs := vs) (i := (D.seen room (D.due room) s : Nat)) (by walk_at "kn") (by lia) (by lia) (by rw [Int.toNat_natCast]; exact hv) ?_
    walk_at "sts"
    refine x_ae (cpos := default) (cs := [("place", c0)]) (Room.handled R') (by rfl) ?_
    walk_at "sts"
    refine f_enum (by walk_at "kn") fun en it => ?_
    walk_at "sts"
    obtain ⟨fi, hfi⟩ : ∃ fi, fi = (D.shown room x).findIdx fun y => decide (p ≤ y) := ⟨_, rfl⟩
    refine ⟨sh, gs, en, it, _, rfl, rfl, by walk_at "kn", FJ gs.length fi (fun ns => ∃ r, ns = (fi : Int) :: r), fun i ys r j => ?_, ⟨rfl, Nat.le_refl _, Nat.zero_le _, [], .nil, fun h => absurd h (Nat.not_lt_zero _), fun _ => rfl⟩, fun g2 L2 K2 KB acc i ys r m' x2 t tk hx2 j => ?_, fun acc ys r j => ?_⟩
    · have := j.le.1; have := j.le.2; lia
    · obtain ⟨rfl, jl, ji, ns, jn, j1, j2⟩ := j
      have hi := (List.getElem?_eq_some_iff.mp hx2).1
      obtain ⟨t2, ht2⟩ := g5.get i ((D.shown room x)[i]'(by lia)) (List.getElem?_eq_getElem (by lia))
      have ex := List.getElem?_eq_getElem (show i < (D.shown room x).length by lia)
      generalize (D.shown room x)[i]'(by lia) = y at ht2 ex
      have e2 : x2 = .int y t2 := Option.some.inj (hx2.symm.trans ht2)
      subst e2
      have kc := K2 c0 (.var (some (.int p pt))) (by walk_at "kn")
      have B2 := KB B'
      walk_at "sts"
      refine tests1 ?_
      walk_at "sts"
      by_cases hp : p ≤ y
      · walk_at "sts"
        refine ⟨[], keep3 (p := (acc, _)) (q := (en, _)) (s := (it, _)) (by walk_at "take") (by walk_at "take") (by walk_at "take"), rfl, by rw [List.length_append]; show _ + 1 ≤ _; lia, hi, _, (ints_snoc jn _ _), fun h => ?_, fun h => ?_⟩
        · rcases Nat.lt_or_ge fi i with h' | h'
          · obtain ⟨r, rfl⟩ := j1 h'
            exact ⟨_, rfl⟩
          · have e : i = fi := by lia
            rw [j2 h', e]; exact ⟨_, rfl⟩
        · have := findIdx_before (fun y => decide (p ≤ y)) (D.shown room x) i y (by lia) ex
          simp [hp] at this
      · walk_at "sts"
        refine ⟨[], keep3 (p := (acc, _)) (q := (en, _)) (s := (it, _)) (by walk_at "take") (by walk_at "take") (by walk_at "take"), rfl, by lia, hi, ns, jn, fun h => ?_, fun h => j2 (by lia)⟩
        rcases Nat.lt_or_ge fi i with h' | h'
        · exact j1 h'
        · have e : i = fi := by lia
          have := findIdx_here (fun y => decide (p ≤ y)) (D.shown room x) y (by rw [← hfi, ← e]; exact ex)
          simp [hp] at this
    · obtain ⟨rfl, jl, ji, ns, jn, j1, j2⟩ := j
      walk_at "sts"
      refine c_ned R' (rd_list (by walk_at "kn") (rd_ints jn)) (rd_list (by walk_at "kn") .nil) (ke_shaped_ints ns) (by decide) ?_
      have hcol : D.colOf room x p = fi := hfi.symm
      by_cases hf : fi < gs.length
      · obtain ⟨r, rfl⟩ := j1 hf
        have hd : (!PyData.eqv (.list (((fi : Int) :: r).map .int)) (.list [])) = true := by simp [PyData.eqv, PyData.eqvAll]
        obtain ⟨t, ht⟩ := jn.get 0 _ rfl
        walk_at "sts"
        refine i_lst (by walk_at "kn") (by decide) (by decide) ht ?_
        walk_at "sts"
        rw [← hcol]
        exact ⟨_, keep1 (p := (_, _)) .here, q2 ha hb _ _ _ _ hx⟩
      · have e := j2 (by lia)
        subst e
        have hd : (!PyData.eqv (.list (([] : List Int).map .int)) (.list [])) = false := by simp [PyData.eqv, PyData.eqvAll]
        have hle : fi ≤ (D.shown room x).length := by rw [hfi]; exact List.findIdx_le_length
        walk_at "sts"
        rw [show gs.length = D.colOf room x p by lia]
        exact ⟨_, keep1 (p := (_, _)) .here, q2 ha hb _ _ _ _ hx⟩
  · by_cases ha : fs ≤ D.seen room (D.due room) s
    · have hb : ¬ D.seen room (D.due room) s < fs + hh := fun h => hs ⟨ha, h⟩
      walk_at "sts"
      exact fin0 (q1 hs)
    · walk_at "sts"
      exact fin0 (q1 hs)

-- WC
theorem find_findIdx {α : Type} (p : α → Bool) : ∀ l : List α, l.find? p = l[l.findIdx p]?
  | [] => rfl
  | a :: l => by
    rw [List.findIdx_cons]
    cases h : p a with
    | true => rw [List.find?_cons_of_pos h]; rfl
    | false => rw [List.find?_cons_of_neg (by simp [h]), find_findIdx p l]; rfl
theorem law_moved_ok {l sp : Addr} {D : VD} {room qp : Nat} {count : Int} {t u pt ct : Tok} {Q : Value → Loc → Led → Prop} (B : Base prog w h₀) (R : Room A 5) (W : IsDues (Kn prog w h₀ n) D room l) (S : Kn prog w h₀ n sp (.tup [.int ((qp : Nat) + 1) t, .int (D.ahd ((qp : Nat) + 1)).length u])) (hq : qp ≤ D.text.length) (hl : (D.due room).length ≤ 1000)
    (q : ∀ t, Q (.int ((D.moved room qp count : Nat) + 1) t) m n) : Does prog w A h₀ L (call (.ref 584) [.ref l, .int ((qp : Nat) + 1) pt, .ref sp, .int count ct]) m n Q := by
  refine Codes.call ?_
  refine code_fnC (binds := [("lines_here", .ref l), ("place", .int ((qp : Nat) + 1) pt), ("spot", .ref sp), ("count", .int count ct)]) (own := []) (cf := (fun k => [("place", k)])) (vars := (fun k => [(k, .var (some (.int ((qp : Nat) + 1) pt)))])) (m₀ := (upd (upd (upd (fun _ => none) "lines_here" (.ref l)) "spot" (.ref sp)) "count" (.int count ct))) (by assumption) (by walk_at "room") (by walk_at "pick") (by k_is) (by k_is) (fun s X => by walk_at "binds") (by rfl) (by decide +kernel) (fun _ => by rfl) (fun _ => by rfl) (by walk_at "locs") (st := (fun k => [(k, .var (some (.int ((qp : Nat) + 1) pt)))])) (fun _ => rfl) (by rfl) (by rfl) (by rfl) ?_
  intro g L' c0 B' K R'
  show Does _ _ _ _ _ (execs (_ :: _) (envX _ ⟨_, _, _, _, _⟩ _ _ _ _)) _ _ _
  have W' := W.mono K
  obtain ⟨vs, w1, w2⟩ := W.mono K
  have S' := K _ _ S
  have hvz := w2.length
  have hpos := chain_pos (D := D) (room := room) 0
  have hpos : 0 < (D.due room).length := hpos
  have hslt := seen_lt (D := D) (room := room) (s := D.own qp) hpos
  walk_at "sts"
  refine x_ae (cpos := default) (cs := [("place", c0)]) (Room.handled R') (by rfl) ?_
  walk_at "sts"
  refine f_enum (by walk_at "kn") fun en it => ?_
  walk_at "sts"
  obtain ⟨fi, hfi⟩ : ∃ fi, fi = (D.due room).findIdx fun i => D.pl i == qp := ⟨_, rfl⟩
  refine ⟨l, vs, en, it, _, rfl, rfl, by walk_at "kn", FJ vs.length fi (fun ns => ∃ r, ns = (fi : Int) :: r), fun i ys r j => ?_, ⟨rfl, Nat.le_refl _, Nat.zero_le _, [], .nil, fun h => absurd h (Nat.not_lt_zero _), fun _ => rfl⟩, fun g2 L2 K2 KB acc i ys r m' x2 t tk hx2 j => ?_, fun acc ys r j => ?_⟩
  · have := j.le.1; have := j.le.2; lia
  · obtain ⟨rfl, jl, ji, ns, jn, j1, j2⟩ := j
    have hi := (List.getElem?_eq_some_iff.mp hx2).1
    obtain ⟨ix, hix, hR⟩ := w2.get' hx2
    obtain ⟨a, ss, e, sh, gs, c, ct, rfl, g1, g2', g3, g4, g5⟩ := hR.mono (Ψ := At prog w g2) fun a c h => K2 a c (.inl h)
    obtain ⟨sk, st, su, s1⟩ := start_of g2'
    have kc := K2 c0 (.var (some (.int ((qp : Nat) + 1) pt))) (by walk_at "kn")
    have B2 := KB B'
    walk_at "sts"
    refine tests1 ?_
    walk_at "sts"
    by_cases hp : D.pl ix = qp
    · walk_at "sts"
      refine ⟨[], keep3 (p := (acc, _)) (q := (en, _)) (s := (it, _)) (by walk_at "take") (by walk_at "take") (by walk_at "take"), rfl, by rw [List.length_append]; show _ + 1 ≤ _; lia, hi, _, (ints_snoc jn _ _), fun h => ?_, fun h => ?_⟩
      · rcases Nat.lt_or_ge fi i with h' | h'
        · obtain ⟨r, rfl⟩ := j1 h'
          exact ⟨_, rfl⟩
        · have e : i = fi := by lia
          rw [j2 h', e]; exact ⟨_, rfl⟩
      · have := findIdx_before (fun i => D.pl i == qp) (D.due room) i ix (by lia) hix
        simp [hp] at this
    · walk_at "sts"
      refine ⟨[], keep3 (p := (acc, _)) (q := (en, _)) (s := (it, _)) (by walk_at "take") (by walk_at "take") (by walk_at "take"), rfl, by lia, hi, ns, jn, fun h => ?_, fun h => j2 (by lia)⟩
      rcases Nat.lt_or_ge fi i with h' | h'
      · exact j1 h'
      · have e : i = fi := by lia
        have := findIdx_here (fun i => D.pl i == qp) (D.due room) ix (by rw [← hfi, ← e]; exact hix)
        simp [hp] at this
  · obtain ⟨rfl, jl, ji, ns, jn, j1, j2⟩ := j
    walk_at "st"
    refine e_join (fun v => ∃ t, v = .int (D.firstAt room (D.due room) qp (D.own qp) : Nat) t) ?_ fun v ext hv => ?_
    · walk_at "sts"
      refine c_ned R' (rd_list (by walk_at "kn") (rd_ints jn)) (rd_list (by walk_at "kn") .nil) (ke_shaped_ints ns) (by decide) ?_
      by_cases hf : fi < vs.length
      · obtain ⟨r, rfl⟩ := j1 hf
        have hd : (!PyData.eqv (.list (((fi : Int) :: r).map .int)) (.list [])) = true := by simp [PyData.eqv, PyData.eqvAll]
        obtain ⟨t, ht⟩ := jn.get 0 _ rfl
        walk_at "sts"
        refine i_lst (by walk_at "kn") (by decide) (by decide) ht ?_
        exact ⟨⟨_, by unfold VD.firstAt; rw [← hfi, if_pos (by lia)]⟩, rfl, [_], rfl⟩
      · have e := j2 (by lia)
        subst e
        have hd : (!PyData.eqv (.list (([] : List Int).map .int)) (.list [])) = false := by simp [PyData.eqv, PyData.eqvAll]
        walk_at "sts"
        refine law_seen_ok B' (by walk_at "room") (W'.mono fun _ _ => knA) (by walk_at "kn") (own_spot hq) hl fun tk => ?_
        exact ⟨⟨_, by unfold VD.firstAt; rw [← hfi, if_neg (by lia)]⟩, rfl, [_], rfl⟩
    · obtain ⟨t, rfl⟩ := hv
      have hcl : min (max 0 ((D.firstAt room (D.due room) qp (D.own qp) : Nat) + count)) ((vs.length : Int) - 1) = ((D.goal2 room qp count : Nat) : Int) := by
        unfold VD.goal2 VD.clamp; lia
      have hgl : D.goal2 room qp count < (D.due room).length := by unfold VD.goal2 VD.clamp; lia
      walk_at "sts"
      rw [hcl]
      by_cases hc : 0 < count
      · walk_at "sts"
        refine x_al (cpos := default) (cs := [("place", c0)]) (Room.handled R') (by rfl) ?_
        walk_at "sts"
        intro sl
        refine i_slice (vs := vs) (zs := vs.drop (D.goal2 room qp count)) (by walk_at "kn") (by walk_at "kn") (.int _ _) .none (by rw [slicePick_from']) (by lia) fun b => ?_
        have w3 := w2.drop (D.goal2 room qp count)
        have hzz := w3.length
        obtain ⟨fj, hfj⟩ : ∃ fj, fj = ((D.due room).drop (D.goal2 room qp count)).findIdx fun i => D.pl i != qp := ⟨_, rfl⟩
        refine ⟨b, _, rfl, by walk_at "kn", FJ (vs.drop (D.goal2 room qp count)).length fj (fun ns => ∃ x r, ((D.due room).drop (D.goal2 room qp count))[fj]? = some x ∧ ns = ((D.pl x : Nat) + 1 : Int) :: r), fun i ys r j => ?_, ⟨rfl, Nat.le_refl _, Nat.zero_le _, [], .nil, fun h => absurd h (Nat.not_lt_zero _), fun _ => rfl⟩, fun g2 L2 K2 KB I acc i ys r m' x2 hx2 j => ?_, fun acc ys r j => ?_⟩
        · have := j.le.1; have := j.le.2; have := List.length_drop (i := D.goal2 room qp count) (l := vs); lia
        · obtain ⟨rfl, jl, ji, ns, jn, j1, j2⟩ := j
          have hi := (List.getElem?_eq_some_iff.mp hx2).1
          obtain ⟨ix, hix, hR⟩ := w3.get' hx2
          obtain ⟨a, ss, e, sh, gs, c, ct, rfl, g1, g2', g3, g4, g5⟩ := hR.mono (Ψ := At prog w g2) fun a c h => K2 a c (.inl h)
          obtain ⟨sk, st, su, s1⟩ := start_of g2'
          have kc := K2 c0 (.var (some (.int ((qp : Nat) + 1) pt))) (by walk_at "kn")
          have B2 := KB B'
          walk_at "sts"
          refine tests1 ?_
          walk_at "sts"
          by_cases hp : D.pl ix = qp
          · walk_at "sts"
            refine ⟨[], keep2 (p := (acc, _)) (q := (I, _)) (by walk_at "take") (by walk_at "take"), rfl, by lia, hi, ns, jn, fun h => ?_, fun h => j2 (by lia)⟩
            rcases Nat.lt_or_ge fj i with h' | h'
            · exact j1 h'
            · have e : i = fj := by lia
              have := findIdx_here (fun i => D.pl i != qp) ((D.due room).drop (D.goal2 room qp count)) ix (by rw [← hfj, ← e]; exact hix)
              simp [hp] at this
          · walk_at "sts"
            refine ⟨[], keep2 (p := (acc, _)) (q := (I, _)) (by walk_at "take") (by walk_at "take"), rfl, by rw [List.length_append]; show _ + 1 ≤ _; lia, hi, _, (ints_snoc jn _ _), fun h => ?_, fun h => ?_⟩
            · rcases Nat.lt_or_ge fj i with h' | h'
              · obtain ⟨x, r, hx, rfl⟩ := j1 h'
                exact ⟨x, _, hx, rfl⟩
              · have e : i = fj := by lia
                rw [j2 h', ← e]; exact ⟨ix, _, hix, rfl⟩
            · have := findIdx_before (fun i => D.pl i != qp) ((D.due room).drop (D.goal2 room qp count)) i ix (by lia) hix
              simp [hp] at this
        · obtain ⟨rfl, jl, ji, ns, jn, j1, j2⟩ := j
          walk_at "sts"
          refine c_ned R' (rd_list (by walk_at "kn") (rd_ints jn)) (rd_list (by walk_at "kn") .nil) (ke_shaped_ints ns) (by decide) ?_
          have hmv : D.moved room qp count = D.fur ((D.due room).drop (D.goal2 room qp count)) qp := by unfold VD.moved; rw [if_pos hc]
          unfold VD.fur at hmv
          rw [find_findIdx, ← hfj] at hmv
          by_cases hf : fj < (vs.drop (D.goal2 room qp count)).length
          · obtain ⟨x, r, hx, rfl⟩ := j1 hf
            rw [hx] at hmv
            have hmv : D.moved room qp count = D.pl x := hmv
            have hd : (!PyData.eqv (.list ((((D.pl x : Nat) + 1 : Int) :: r).map .int)) (.list [])) = true := by simp [PyData.eqv, PyData.eqvAll]
            obtain ⟨t, ht⟩ := jn.get 0 _ rfl
            walk_at "sts"
            refine i_lst (by walk_at "kn") (by decide) (by decide) ht ?_
            rw [hmv] at q
            exact fin0 (q _)
          · have e := j2 (by lia)
            subst e
            rw [List.getElem?_eq_none (by lia)] at hmv
            have hmv : D.moved room qp count = qp := hmv
            have hd : (!PyData.eqv (.list (([] : List Int).map .int)) (.list [])) = false := by simp [PyData.eqv, PyData.eqvAll]
            walk_at "sts"
            rw [hmv] at q
            exact fin0 (q _)
      · obtain ⟨v, hv, a, ss, e, sh, gs, c, ct, rfl, g1, g2, g3, g4, g5⟩ := w2.get (List.getElem?_eq_getElem hgl)
        obtain ⟨sk, st, su, s1⟩ := start_of g2
        have hmv : D.moved room qp count = D.pl ((D.due room)[D.goal2 room qp count]) := by unfold VD.moved; rw [if_neg hc, List.getD_eq_getElem?_getD, List.getElem?_eq_getElem hgl]; rfl
        walk_at "sts"
        refine i_lst (vs := vs) (i := (D.goal2 room qp count : Nat)) (by walk_at "kn") (by lia) (by lia) (by rw [Int.toNat_natCast]; exact hv) ?_
        walk_at "sts"
        rw [hmv] at q
        exact fin0 (q _)

-- WD
inductive IsLSign (Φ : Known) (D : VD) (x : Nat) (v : Value) : Prop
  | mk : ∀ a s t0 t1 t2, (v = .ref a) → (D.S[x]? = some s) → (Φ a (.tup [.int s.1 t0, .int ((D.pl x : Nat) + 1) t1, .int ((x : Int) - (D.off (D.pl x) : Nat)) t2, .bool (decide (s.2 ≠ -1))])) → IsLSign Φ D x v
theorem IsLSign.mono {Φ Ψ : Known} {D : VD} (k : ∀ a c, Φ a c → Ψ a c) (x : Nat) (v : Value) (h : IsLSign Φ D x v) : IsLSign Ψ D x v := by
  obtain ⟨a, s, t0, t1, t2, e, h1, h2⟩ := h; exact ⟨a, s, t0, t1, t2, e, h1, k _ _ h2⟩
theorem IsLSign.mk' {Φ : Known} {D : VD} {x : Nat} {a : Addr} {s : Int × Int} {t0 t1 t2 : Tok} {c p k : Int} {b : Bool} (h2 : Φ a (.tup [.int c t0, .int p t1, .int k t2, .bool b])) (h1 : D.S[x]? = some s) (hc : s.1 = c) (hp : ((D.pl x : Nat) : Int) + 1 = p) (hk : (x : Int) - (D.off (D.pl x) : Nat) = k) (hb : decide (s.2 ≠ -1) = b) : IsLSign Φ D x (.ref a) := by
  subst hc hp hk hb
  exact ⟨_, _, _, _, _, rfl, h1, h2⟩
theorem less4 {p q s z : Addr × Cell} {n r r' r'' r3 : Led} (t : Take p n r) (u : Take q r r') (v : Take s r' r'') (x : Take z r'' r3) : Less (p :: q :: s :: z :: r3) n := Pick.less (.cons t (.cons u (.cons v (.cons x .nil))))
inductive IsLSigns (Φ : Known) (D : VD) (l : Addr) : Prop
  | mk : ∀ vs, (Φ l (.list vs)) → (All2 (IsLSign Φ D) (List.range D.N) vs) → IsLSigns Φ D l
theorem IsLSigns.mono {Φ Ψ : Known} {D : VD} {l : Addr} (k : ∀ a c, Φ a c → Ψ a c) (h : IsLSigns Φ D l) : IsLSigns Ψ D l := by
  obtain ⟨vs, a, b⟩ := h; exact ⟨vs, k _ _ a, b.mono (IsLSign.mono k)⟩
def AheadAt (Φ : Known) (D : VD) (kvs : List (Int × Value)) (p : Int) : Prop := (valueAt kvs p = none ∧ D.ahd p = []) ∨ ∃ l vs, valueAt kvs p = some (.ref l) ∧ Φ l (.list vs) ∧ IntsAre vs (D.ahd p)
theorem e_join2 {t : Sem Value} {Q : Value → Loc → Led → Prop} (P : Value → Led → Prop) (x : Does prog w A h₀ L t m n fun v m' n' => m' = m ∧ ∃ ext, n' = ext ++ n ∧ P v ext) (k : ∀ v ext, P v ext → Q v m (ext ++ n)) : Does prog w A h₀ L t m n Q := x.mono fun v m' n' z => by
  obtain ⟨rfl, ext, rfl, h⟩ := z
  exact k v ext h
inductive I_ls (fl ra c0 tl ad : Addr) (D : VD) (i : Nat) (m : Loc) (r : Led) : Prop
  | mk : ∀ cr vs x new, (r = (ra, cr) :: (fl, .list vs) :: (c0, .var x) :: new) → (All2 (IsLSign (InL new) D) (List.range (D.off i)) vs) → (m "text" = some (.ref tl)) → (m "ahead" = some (.ref ad)) → (m "found" = some (.ref fl)) → I_ls fl ra c0 tl ad D i m r
theorem law_signs_ok {tl ad : Addr} {D : VD} {tv : List Value} {kvs : List (Int × Value)} {Q : Value → Loc → Led → Prop} (B : Base prog w h₀) (R : Room A 5) (kt : Kn prog w h₀ n tl (.list tv)) (ht : IntsAre tv D.text) (ka : Kn prog w h₀ n ad (.idict kvs)) (hA : ∀ p, AheadAt (Kn prog w h₀ n) D kvs p) (ok : ViewOk D) (hN : D.N ≤ 900)
    (q : ∀ l new, IsLSigns (InL new) D l → Q (.ref l) m (new ++ n)) : Does prog w A h₀ L (call (.ref 567) [.ref tl, .ref ad]) m n Q := by
  refine Codes.call ?_
  refine code_fnC (binds := [("text", .ref tl), ("ahead", .ref ad)]) (own := []) (cf := (fun k => [("at", k)])) (vars := (fun k => [(k, .var none)])) (m₀ := (upd (upd (fun _ => none) "text" (.ref tl)) "ahead" (.ref ad))) (by assumption) (by walk_at "room") (by walk_at "pick") (by k_is) (by k_is) (fun s X => by walk_at "binds") (by rfl) (by decide +kernel) (fun _ => by rfl) (fun _ => by rfl) (by walk_at "locs") (st := (fun k => [(k, .var none)])) (fun _ => rfl) (by rfl) (by rfl) (by rfl) ?_
  intro g L' c0 B' K R'
  show Does _ _ _ _ _ (execs (_ :: _) (envX _ ⟨_, _, _, _, _⟩ _ _ _ _)) _ _ _
  have kt := K _ _ kt
  have ka := K _ _ ka
  have htz := ht.length
  have hok := ok.text
  walk_at "sts"
  rename_i fl
  refine x_fr (Room.handled R') ?_
  walk_at "sts"
  rw [show (tv.length : Int) + 1 = ((tv.length + 1 : Nat) : Int) by lia]
  refine f_range1 fun ra t v => ?_
  refine ⟨ra, tv.length + 1, t, _, v, rfl, by lia, .inr (.head _), I_ls fl ra c0 tl ad D,
    ⟨_, [], _, [], rfl, .nil, by walk_at "lk", by walk_at "lk", by walk_at "lk"⟩, fun I i m r ta hi j => ?_, fun m r j => ?_⟩
  · obtain ⟨cr, vs, x, new, rfl, ha, m1, m2, m3⟩ := j
    have hiT : i ≤ D.text.length := by lia
    have hoff := off_len_le hiT
    have hvz := ha.length
    rw [List.length_range] at hvz
    rw [Int.zero_add]
    walk_at "st"
    walk_at "st"
    walk_at "st"
    have hah := ok.ahd ((i : Int) + 1)
    refine e_join2 (fun v ext => ∃ hl hv, v = .ref hl ∧ (At prog w g hl (.list hv) ∨ (hl, .list hv) ∈ ext) ∧ IntsAre hv (D.ahd ((i : Int) + 1))) ?_ fun v ext hv => ?_
    · walk_at "sts"
      rcases hA ((i : Int) + 1) with ⟨e1, e2⟩ | ⟨hl, hv, e1, k1, k2⟩
      · rw [e1, e2]
        exact ⟨rfl, [_], rfl, _, _, rfl, .inr (.head _), .nil⟩
      · rw [e1]
        exact ⟨rfl, [_], rfl, _, _, rfl, .inl (K _ _ k1), k2⟩
    · obtain ⟨hl, hv, rfl, kh, ih⟩ := hv
      have hhz := ih.length
      have kh0 := kh
      have kh : ∀ r, Kn prog w g (ext ++ r) hl (.list hv) := fun r => kh.elim .inl fun h => .inr (List.mem_append.mpr (.inl h))
      walk_at "sts"
      refine e_ce (cpos := default) (cs := [("at", c0)]) (Room.handled R') (by rfl) ?_
      walk_at "sts"
      refine f_enum (kh _) fun en it => ?_
      walk_at "sts"
      refine ⟨hl, hv, en, it, _, rfl, rfl, kh _, fun j ys r => j ≤ hv.length ∧ All2 (IsLSign (InL r) D) ((List.range j).map (D.off i + ·)) ys, fun j ys r z => ?_, ⟨Nat.zero_le _, .nil⟩, fun g2 L2 K2 KB acc j ys r m' x2 t tk hx2 z => ?_, fun acc ys r z => ?_⟩
      · rw [z.2.length, List.length_map, List.length_range]; lia
      · obtain ⟨jl, ja⟩ := z
        have hj := (List.getElem?_eq_some_iff.mp hx2).1
        obtain ⟨t2, ht2⟩ := ih.get j ((D.ahd ((i : Int) + 1))[j]'(by lia)) (List.getElem?_eq_getElem (by lia))
        have hS := S_ahd (D := D) hiT (List.getElem?_eq_getElem (show j < (D.ahd ((i : Int) + 1)).length by lia))
        generalize (D.ahd ((i : Int) + 1))[j]'(by lia) = cc at ht2 hS
        have e2 : x2 = .int cc t2 := Option.some.inj (hx2.symm.trans ht2)
        subst e2
        have kc := K2 c0 (.var (some (.int (i : Nat) ta))) (by walk_at "kn")
        have B2 := KB B'
        walk_at "sts"
        refine ⟨fun _ => ?_, fun h => (by cases h)⟩
        walk_at "sts"
        refine ⟨_, less3 (p := (acc, _)) (q := (en, _)) (s := (it, _)) (by walk_at "take") (by walk_at "take") (by walk_at "take"), hj, ?_⟩
        rw [List.range_succ, List.map_append]
        refine All2.snoc (ja.mono (IsLSign.mono fun _ _ h => by simp only [InL] at h ⊢; walk_at "mem")) ?_
        refine IsLSign.mk' List.mem_cons_self hS.1 rfl ?_ ?_ rfl
        · rw [hS.2]
        · rw [hS.2]; show ((D.off i + j : Nat) : Int) - (D.off i : Nat) = (j : Int); lia
      · obtain ⟨jl, ja⟩ := z
        have hyz := ja.length
        rw [List.length_map, List.length_range] at hyz
        have hof : D.off i + hv.length ≤ D.N := by
          have h1 := rowsAt_len (D := D) ((i : Int) + 1)
          have h2 : D.off (i + 1) = D.off i + (D.rowsAt ((i : Int) + 1)).length := rfl
          have h3 := off_mono (D := D) (show i + 1 ≤ D.text.length + 1 by lia)
          rw [off_T] at h3
          lia
        walk_at "sts"
        refine l_ext (ys := ys) (by walk_at "alt") (by walk_at "kn") (by lia) ?_
        walk_at "sts"
        have hhe : hv.length = (D.ahd ((i : Int) + 1)).length := hhz
        have hrows := rowsAt_len (D := D) ((i : Int) + 1)
        have ho1 : D.off (i + 1) = D.off i + (D.rowsAt ((i : Int) + 1)).length := rfl
        have hro : List.range (D.off i + hv.length) = List.range (D.off i) ++ (List.range hv.length).map (D.off i + ·) := List.range_add
        by_cases hl : i < D.text.length
        · obtain ⟨tk2, htx⟩ := ht.get i D.text[i] (List.getElem?_eq_getElem hl)
          rw [if_pos (by unfold VD.fin; lia)] at hrows
          have hS := S_own (D := D) hl
          have how : D.own i = D.off i + hv.length := by unfold VD.own; lia
          walk_at "sts"
          refine i_lst (vs := tv) (i := i) (by walk_at "kn") (by lia) (by lia) (by rw [Int.toNat_natCast]; exact htx) ?_
          walk_at "sts"
          refine l_len (vs := hv) (kh0.elim .inl fun h => .inr (by walk_at "mem")) (by lia) fun tk => ?_
          walk_at "sts"
          refine te_next _ (less4 (p := (I, _)) (q := (ra, _)) (s := (fl, _)) (z := (c0, _)) (by walk_at "take") (by walk_at "take") (by walk_at "take") (by walk_at "take")) ⟨_, rfl, _, _, _, _, rfl, ?_, by walk_at "lk", by walk_at "lk", by walk_at "lk"⟩
          rw [show D.off (i + 1) = D.off i + hv.length + 1 by lia, List.range_succ, hro]
          refine All2.snoc ((ha.mono (IsLSign.mono fun _ _ h => by simp only [InL] at h ⊢; walk_at "mem")).append (ja.mono (IsLSign.mono fun _ _ h => by simp only [InL] at h ⊢; walk_at "mem"))) ?_
          rw [← how]
          refine IsLSign.mk' List.mem_cons_self hS.1 (code_text hl) ?_ ?_ ?_
          · rw [hS.2]
          · rw [hS.2]; lia
          · exact decide_eq_true (by show ((i : Int) + 1) ≠ -1; lia)
        · rw [if_neg (by unfold VD.fin; lia)] at hrows
          walk_at "sts"
          refine te_next _ (less4 (p := (I, _)) (q := (ra, _)) (s := (fl, _)) (z := (c0, _)) (by walk_at "take") (by walk_at "take") (by walk_at "take") (by walk_at "take")) ⟨_, rfl, _, _, _, _, rfl, ?_, by walk_at "lk", by walk_at "lk", by walk_at "lk"⟩
          rw [show D.off (i + 1) = D.off i + hv.length by lia, hro]
          exact (ha.mono (IsLSign.mono fun _ _ h => by simp only [InL] at h ⊢; walk_at "mem")).append (ja.mono (IsLSign.mono fun _ _ h => by simp only [InL] at h ⊢; walk_at "mem"))
  · obtain ⟨cr, vs, x, new, rfl, ha, m1, m2, m3⟩ := j
    walk_at "sts"
    refine ⟨_, Less.refl _, q _ _ ⟨vs, by simp only [InL]; walk_at "mem", ?_⟩⟩
    rw [← off_T, ← htz]
    exact ha.mono (IsLSign.mono fun _ _ h => by simp only [InL] at h ⊢; walk_at "mem")

-- WE
inductive SpotV (Φ : Known) (D : VD) (i : Nat) (v : Value) : Prop
  | mk : ∀ s, (v = .ref s) → (SpotT Φ D i s) → SpotV Φ D i v
theorem SpotV.mono {Φ Ψ : Known} {D : VD} (k : ∀ a c, Φ a c → Ψ a c) (i : Nat) (v : Value) (h : SpotV Φ D i v) : SpotV Ψ D i v := by
  obtain ⟨s, e, h⟩ := h; exact ⟨s, e, h.mono k⟩
def InO (Φ : Known) (new : Led) : Known := fun a c => (a, c) ∈ new ∨ Φ a c
theorem InO.up {Φ : Known} {new new' : Led} (k : ∀ x, x ∈ new → x ∈ new') (a : Addr) (c : Cell) (h : InO Φ new a c) : InO Φ new' a c := h.imp (k _) id
inductive I_rows2 (Φ0 : Known) (D : VD) (room av : Nat) (fl sh sg la spl : Addr) (vs : List Value) (new : Led) (cx : Int) (rt xt ct : Tok) (κ : Nat) (m : Loc) (n : Led) : Prop
  | mk : ∀ c gs cy cyt y yt nn, (n = (sh, .list gs) :: (fl, .list vs) :: nn) → (∀ x, x ∈ new → x ∈ nn) → (κ = D.N - (av + c)) → (c ≤ room) → (av + c ≤ D.N) → (∀ j, j < c → ∃ x, D.S[av + j]? = some x ∧ x.1 ≠ 10) → (IntsAre gs (((D.S.drop av).take c).map (·.2))) → (y = ((av + c : Nat) : Int)) → (m "signs_here" = some (.ref sg)) → (m "last" = some (.ref la)) → (m "room" = some (.int (room : Nat) rt)) → (m "spots" = some (.ref spl)) → (m "found" = some (.ref fl)) → (m "at" = some (.int y yt)) → (m "column" = some (.int cy cyt)) → (m "start" = some (.int (av : Nat) xt)) → (m "where" = some (.int cx ct)) → (m "shown" = some (.ref sh)) → I_rows2 Φ0 D room av fl sh sg la spl vs new cx rt xt ct κ m n
inductive I_rows1 (Φ0 : Known) (D : VD) (room : Nat) (fl sg la spl : Addr) (rt : Tok) (κ : Nat) (m : Loc) (n : Led) : Prop
  | mk : ∀ is av vs cx ct x xt new zs, (n = (fl, .list vs) :: new) → (κ = D.N + 1 - av) → (av ≤ D.N) → (D.due room = is ++ D.chain room av) → (is.length ≤ av) → (All2 (IsDue (InO Φ0 new) D room) is vs) → ((spl, .list zs) ∈ new) → (All2 (SpotV (InO Φ0 new) D) (List.range (D.N + 1)) zs) → (x = ((av : Nat) : Int)) → (m "signs_here" = some (.ref sg)) → (m "last" = some (.ref la)) → (m "room" = some (.int (room : Nat) rt)) → (m "spots" = some (.ref spl)) → (m "found" = some (.ref fl)) → (m "at" = some (.int x xt)) → (m "column" = some (.int cx ct)) → I_rows1 Φ0 D room fl sg la spl rt κ m n
theorem law_rows_ok {Φ0 : Known} {sg la : Addr} {D : VD} {room : Nat} {rt : Tok} {Q : Value → Loc → Led → Prop} (B : Base prog w h₀) (R : Room A 5) (hΦ : ∀ a c, Φ0 a c → Kn prog w h₀ n a c) (W : IsLSigns (Kn prog w h₀ n) D sg) (LA : SpotT Φ0 D D.N la) (hN : D.N ≤ 900) (hr : 2 ≤ room ∧ room ≤ 100)
    (q : ∀ l new, IsDues (InO Φ0 new) D room l → Q (.ref l) m (new ++ n)) : Does prog w A h₀ L (call (.ref 572) [.ref sg, .ref la, .int (room : Nat) rt]) m n Q := by
  refine Codes.call ?_
  refine code_fn (binds := [("signs_here", .ref sg), ("last", .ref la), ("room", .int (room : Nat) rt)]) (by assumption) (by walk_at "room") (by walk_at "pick") (by k_is) (by k_is) (fun s X => by walk_at "binds") (by exact locs rfl) (by decide +kernel) (by rfl) (by rfl) (by rfl) ?_
  intro g L' B' K R'
  show Does _ _ _ _ _ (execs (_ :: _) (envX _ ⟨_, _, _, _, _⟩ _ _ _ _)) _ _ _
  obtain ⟨sv, w1, w2⟩ := W.mono K
  have hsz := w2.length
  rw [List.length_range] at hsz
  walk_at "st"
  walk_at "st"
  refine e_cl (cpos := default) (cs := []) (Room.handled R') (by rfl) ?_
  walk_at "sts"
  refine ⟨sg, sv, rfl, knA w1, fun i ys r => i ≤ sv.length ∧ All2 (SpotV (InL r) D) (List.range i) ys, fun i ys r j => ?_, ⟨Nat.zero_le _, .nil⟩, fun g2 L2 K2 KB I acc i ys r m' x2 hx2 j => ?_, fun acc ys r j => ?_⟩
  · rw [j.2.length, List.length_range]; lia
  · obtain ⟨ji, ja⟩ := j
    have hi := (List.getElem?_eq_some_iff.mp hx2).1
    obtain ⟨ix, hix, a, s, t0, t1, t2, rfl, h1, h2⟩ := w2.get' hx2
    have hix' : ix = i := by rw [List.getElem?_range (by lia)] at hix; exact (Option.some.inj hix).symm
    subst hix'
    have h2 := K2 _ _ (knA h2)
    have B2 := KB B'
    walk_at "sts"
    refine ⟨fun _ => ?_, fun h => (by cases h)⟩
    walk_at "sts"
    refine ⟨_, less2 (p := (acc, _)) (q := (I, _)) (by walk_at "take") (by walk_at "take"), hi, ?_⟩
    rw [List.range_succ]
    refine All2.snoc (ja.mono (SpotV.mono fun _ _ h => .tail _ h)) ⟨_, rfl, _, _, _, _, List.mem_cons_self, ?_⟩
    exact pl_spot (by lia)
  · obtain ⟨ji, ja⟩ := j
    have hyz := ja.length
    rw [List.length_range] at hyz
    rw [hsz] at ja
    walk_at "sts"
    refine o_cat (xs := ys) (ys := [.ref la]) (by walk_at "kn") (by walk_at "kn") (by show _ + 1 ≤ _; lia) fun spl => ?_
    have K0 : ∀ a c, Φ0 a c → At prog w g a c := fun a c h => K a c (hΦ a c h)
    have LA0 := LA
    walk_at "sts"
    rename_i fl tk1 tk2 tp
    have hzs : All2 (SpotV (InO Φ0 r) D) (List.range (D.N + 1)) (ys ++ [.ref la]) := by
      rw [List.range_succ]
      exact All2.snoc (ja.mono (SpotV.mono fun _ _ h => .inl h)) ⟨la, rfl, LA0.mono fun _ _ h => .inr h⟩
    refine Does.less (less1 (p := (fl, _)) (by walk_at "take")) ?_
    refine x_while (I_rows1 Φ0 D room fl sg la spl rt) _
      ⟨[], 0, [], _, _, _, _, _, _, rfl, rfl, Nat.zero_le _, rfl, Nat.le_refl _, .nil, by walk_at "mem", hzs.mono (SpotV.mono (InO.up fun x h => by walk_at "mem")), rfl, by walk_at "lk", by walk_at "lk", by walk_at "lk", by walk_at "lk", by walk_at "lk", by walk_at "lk", by walk_at "lk"⟩ ?_
    clear hzs ja ji hyz
    rintro κ m n ⟨is, av, vs, cx, ct, _, xt, new, zs, rfl, rfl, hav, hdue, hisz, ha, kz, hz, rfl, m1, m2, m3, m4, m5, m6, m7⟩
    have hvz := ha.length
    have hzz := hz.length
    rw [List.length_range] at hzz
    walk_at "sts"
    rename_i tk3 sh tp2
    refine Does.less (less2 (p := (sh, _)) (q := (fl, _)) (by walk_at "take") (by walk_at "take")) ?_
    refine x_while (I_rows2 Φ0 D room av fl sh sg la spl vs new cx rt xt ct) _
      ⟨0, [], _, _, ((av : Nat) : Int), _, _, rfl, fun x h => .tail _ h, rfl, Nat.zero_le _, hav, fun j h => absurd h (Nat.not_lt_zero _), (by simp; exact .nil), rfl, by walk_at "lk", by walk_at "lk", by walk_at "lk", by walk_at "lk", by walk_at "lk", by walk_at "lk", by walk_at "lk", by walk_at "lk", by walk_at "lk", by walk_at "lk"⟩ ?_
    clear m1 m2 m3 m4 m5 m6 m7
    rintro κ m n ⟨c, gs, cy, cyt, _, yt, nn, rfl, hsub, rfl, hcr, hac, hcs, hgs, rfl, m1, m2, m3, m4, m5, m6, m7, m8, m9, m10⟩
    have hgz := hgs.length
    rw [List.length_map, List.length_take, List.length_drop] at hgz
    have hgz' : gs.length = c := by rw [hgz]; show min c (D.N - av) = c; lia
    have kz' := hsub _ kz
    obtain ⟨v0, hv0, s0, rfl, hs0⟩ := hz.get (i := av) (List.getElem?_range (by lia))
    by_cases hend : av + c < D.N
    · obtain ⟨v, hv, a, s, t0, t1, t2, rfl, h1, h2⟩ := w2.get (i := av + c) (List.getElem?_range (by lia))
      by_cases h10 : s.1 = 10
      · have hrun : D.run room av = c := run_eq hcs hcr (.inr fun x hx => by rw [h1] at hx; cases hx; exact h10)
        have e1 : D.isEnd room av = false := by unfold VD.isEnd; rw [hrun]; exact decide_eq_false (by lia)
        have e3 : D.nxt room av = av + c + 1 := by unfold VD.nxt VD.isNl; rw [hrun, h1]; simp [h10]
        walk_at "sts"
        refine i_lst (vs := sv) (i := (av + c : Nat)) (by walk_at "kn") (by lia) (by lia) (by rw [Int.toNat_natCast]; exact hv) ?_
        walk_at "sts"
        refine i_lst (vs := sv) (i := (av + c : Nat)) (by walk_at "kn") (by lia) (by lia) (by rw [Int.toNat_natCast]; exact hv) ?_
        walk_at "sts"
        refine i_lst (vs := zs) (i := (av : Nat)) (by walk_at "kn") (by lia) (by lia) (by rw [Int.toNat_natCast]; exact hv0) ?_
        obtain ⟨v1, hv1, s1, rfl, hs1⟩ := hz.get (i := av + c + 1) (List.getElem?_range (by lia))
        walk_at "sts"
        refine i_lst (vs := zs) (i := ((av + c : Nat) : Int) + 1) (by walk_at "kn") (by lia) (by lia) (by rw [show (((av + c : Nat) : Int) + 1).toNat = av + c + 1 by lia]; exact hv1) ?_
        walk_at "sts"
        have hch : D.due room = (is ++ [av]) ++ D.chain room (D.nxt room av) := by rw [hdue, chain_eq hr.1 hav, e1, List.append_assoc]; rfl
        have hne := nxt_gt hr.1 e1
        refine te_next _ (less1 (p := (fl, _)) (by walk_at "take")) ⟨D.N + 1 - D.nxt room av, by lia, is ++ [av], D.nxt room av, _, _, _, ((av + c : Nat) : Int) + 1, _, _, zs, rfl, rfl, hne.2, hch, by rw [List.length_append]; show _ + 1 ≤ _; lia, ?_, by walk_at "mem", hz.mono (SpotV.mono (InO.up fun x h => by have h := hsub x h; walk_at "mem")), by have := e3; lia, by walk_at "lk", by walk_at "lk", by walk_at "lk", by walk_at "lk", by walk_at "lk", by walk_at "lk", by walk_at "lk"⟩
        refine All2.snoc (ha.mono (IsDue.mono (InO.up fun x h => by have h := hsub x h; walk_at "mem"))) ⟨_, s0, s1, sh, gs, _, _, rfl, .inl (by walk_at "mem"), hs0.mono (InO.up fun x h => by have h := hsub x h; walk_at "mem"), ?_, .inl (by walk_at "mem"), ?_⟩
        · rw [e3]; exact hs1.mono (InO.up fun x h => by have h := hsub x h; walk_at "mem")
        · unfold VD.shown; rw [hrun]; exact hgs
      · by_cases hlt : c < room
        · walk_at "sts"
          refine i_lst (vs := sv) (i := (av + c : Nat)) (by walk_at "kn") (by lia) (by lia) (by rw [Int.toNat_natCast]; exact hv) ?_
          walk_at "sts"
          refine i_lst (vs := sv) (i := (av + c : Nat)) (by walk_at "kn") (by lia) (by lia) (by rw [Int.toNat_natCast]; exact hv) ?_
          have htk : ((D.S.drop av).take (c + 1)).map (·.2) = ((D.S.drop av).take c).map (·.2) ++ [s.2] := by
            rw [take_snoc (x := s) (by rw [List.getElem?_drop]; exact h1), List.map_append]; rfl
          by_cases hs2 : s.2 = -1
          · have hd : decide (s.2 ≠ -1) = false := decide_eq_false (fun h => h hs2)
            have hgs' := fun t => (ints_snoc hgs (-1) t)
            rw [hs2] at htk
            rw [← htk] at hgs'
            walk_at "sts"
            refine te_next _ (less2 (p := (sh, _)) (q := (fl, _)) (by walk_at "take") (by walk_at "take")) ⟨D.N - (av + (c + 1)), by lia, c + 1, _, _, _, ((av + c : Nat) : Int) + 1, _, _, rfl, fun x h => .tail _ (hsub x h), rfl, by lia, by lia, fun j hj => ?_, hgs' _, by lia, by walk_at "lk", by walk_at "lk", by walk_at "lk", by walk_at "lk", by walk_at "lk", by walk_at "lk", by walk_at "lk", by walk_at "lk", by walk_at "lk", by walk_at "lk"⟩
            rcases Nat.lt_or_ge j c with h | h
            · exact hcs j h
            · have : j = c := by lia
              subst this
              exact ⟨_, h1, h10⟩
          · have hd : decide (s.2 ≠ -1) = true := decide_eq_true hs2
            have hpl := S_pl h1 hs2
            have hgs' := fun t => (ints_snoc hgs s.2 t)
            rw [← htk, hpl] at hgs'
            walk_at "sts"
            refine i_lst (vs := sv) (i := (av + c : Nat)) (by walk_at "kn") (by lia) (by lia) (by rw [Int.toNat_natCast]; exact hv) ?_
            walk_at "sts"
            refine te_next _ (less2 (p := (sh, _)) (q := (fl, _)) (by walk_at "take") (by walk_at "take")) ⟨D.N - (av + (c + 1)), by lia, c + 1, _, _, _, ((av + c : Nat) : Int) + 1, _, _, rfl, fun x h => .tail _ (hsub x h), rfl, by lia, by lia, fun j hj => ?_, hgs' _, by lia, by walk_at "lk", by walk_at "lk", by walk_at "lk", by walk_at "lk", by walk_at "lk", by walk_at "lk", by walk_at "lk", by walk_at "lk", by walk_at "lk", by walk_at "lk"⟩
            rcases Nat.lt_or_ge j c with h | h
            · exact hcs j h
            · have : j = c := by lia
              subst this
              exact ⟨_, h1, h10⟩
        · have hce : c = room := by lia
          have hrun : D.run room av = c := run_eq hcs hcr (.inl hce)
          have e1 : D.isEnd room av = false := by unfold VD.isEnd; rw [hrun]; exact decide_eq_false (by lia)
          have e3 : D.nxt room av = av + c := by unfold VD.nxt VD.isNl; rw [hrun, h1]; simp [h10]
          walk_at "sts"
          refine i_lst (vs := sv) (i := (av + c : Nat)) (by walk_at "kn") (by lia) (by lia) (by rw [Int.toNat_natCast]; exact hv) ?_
          walk_at "sts"
          refine i_lst (vs := sv) (i := (av + c : Nat)) (by walk_at "kn") (by lia) (by lia) (by rw [Int.toNat_natCast]; exact hv) ?_
          walk_at "sts"
          refine i_lst (vs := zs) (i := (av : Nat)) (by walk_at "kn") (by lia) (by lia) (by rw [Int.toNat_natCast]; exact hv0) ?_
          obtain ⟨v1, hv1, s1, rfl, hs1⟩ := hz.get (i := av + c) (List.getElem?_range (by lia))
          walk_at "sts"
          refine i_lst (vs := zs) (i := (av + c : Nat)) (by walk_at "kn") (by lia) (by lia) (by rw [Int.toNat_natCast]; exact hv1) ?_
          walk_at "sts"
          have hch : D.due room = (is ++ [av]) ++ D.chain room (D.nxt room av) := by rw [hdue, chain_eq hr.1 hav, e1, List.append_assoc]; rfl
          have hne := nxt_gt hr.1 e1
          refine te_next _ (less1 (p := (fl, _)) (by walk_at "take")) ⟨D.N + 1 - D.nxt room av, by lia, is ++ [av], D.nxt room av, _, _, _, ((av + c : Nat) : Int), _, _, zs, rfl, rfl, hne.2, hch, by rw [List.length_append]; show _ + 1 ≤ _; lia, ?_, by walk_at "mem", hz.mono (SpotV.mono (InO.up fun x h => by have h := hsub x h; walk_at "mem")), by have := e3; lia, by walk_at "lk", by walk_at "lk", by walk_at "lk", by walk_at "lk", by walk_at "lk", by walk_at "lk", by walk_at "lk"⟩
          refine All2.snoc (ha.mono (IsDue.mono (InO.up fun x h => by have h := hsub x h; walk_at "mem"))) ⟨_, s0, s1, sh, gs, _, _, rfl, .inl (by walk_at "mem"), hs0.mono (InO.up fun x h => by have h := hsub x h; walk_at "mem"), ?_, .inl (by walk_at "mem"), ?_⟩
          · rw [e3]; exact hs1.mono (InO.up fun x h => by have h := hsub x h; walk_at "mem")
          · unfold VD.shown; rw [hrun]; exact hgs
    · have hrun : D.run room av = c := run_eq hcs hcr (.inr fun x hx => by rw [S_none (by lia)] at hx; cases hx)
      have e1 : D.isEnd room av = true := by unfold VD.isEnd; rw [hrun]; exact decide_eq_true (by lia)
      have e3 : D.nxt room av = D.N := by unfold VD.nxt VD.isNl; rw [hrun, S_none (by lia)]; show av + c = D.N; lia
      walk_at "sts"
      refine i_lst (vs := zs) (i := (av : Nat)) (by walk_at "kn") (by lia) (by lia) (by rw [Int.toNat_natCast]; exact hv0) ?_
      walk_at "sts"
      have hch : D.due room = is ++ [av] := by rw [hdue, chain_eq hr.1 hav, e1]; rfl
      refine ⟨_, Less.refl _, q _ _ ⟨_, .inl (by walk_at "mem"), ?_⟩⟩
      rw [hch]
      refine All2.snoc (ha.mono (IsDue.mono (InO.up fun x h => by have h := hsub x h; walk_at "mem"))) ⟨_, s0, la, sh, gs, _, _, rfl, .inl (by walk_at "mem"), hs0.mono (InO.up fun x h => by have h := hsub x h; walk_at "mem"), ?_, .inl (by walk_at "mem"), ?_⟩
      · rw [e3]; exact LA0.mono fun a c h => .inr h
      · unfold VD.shown; rw [hrun]; exact hgs

-- WF
theorem new_Options {Q : Value → Loc → Led → Prop} (B : Base prog w h₀) (R : Room A 3) (q : ∀ x dx, IsOpts (InL [(dx, .attrs [("tab_width", .int 8 227), ("has_carets", .bool true), ("truncates", .bool false), ("wraps_words", .bool false), ("hscroll", .int 0 228)]), (x, .inst 39 dx)]) x → Q (.ref x) m ([(dx, .attrs [("tab_width", .int 8 227), ("has_carets", .bool true), ("truncates", .bool false), ("wraps_words", .bool false), ("hscroll", .int 0 228)]), (x, .inst 39 dx)] ++ n)) : Does prog w A h₀ L (call (.ref 39) []) m n Q := by
  refine mk B R (mk_Options _) (in_Options _) (if_Options _) fun x dx A' RA => ?_
  refine code_fn (binds := [("self", .ref x), ("tab_width", .int 8 227), ("has_carets", .bool true), ("truncates", .bool false), ("wraps_words", .bool false), ("hscroll", .int 0 228)]) (own := [(dx, .attrs [])]) (by assumption) (by walk_at "room") (by walk_at "pick") (by k_is) (by k_is) (fun s X => by walk_at "binds") (by exact locs rfl) (by decide +kernel) (by rfl) (by rfl) (by rfl) ?_
  intro g L' B' K R'
  show Does _ _ _ _ _ (execs (_ :: _) (envX _ ⟨_, _, _, _, _⟩ _ _ _ _)) _ _ _
  have kx := K x (.inst 39 dx) (by walk_at "kn")
  walk_at "sts"
  exact ⟨_, Less.refl _, rfl, q _ _ (.mk (.tail _ (.head _)) (.head _))⟩
theorem view_init_ok {rest : Led} {x dx l : Addr} {t : Tok} {Q : Value → Loc → Led → Prop} (B : Base prog w h₀) (R : Room A 3) (P : Pick [(dx, .attrs [])] n rest) (kx : Kn prog w h₀ rest x (.inst 188 dx)) (q : Q .none m ((dx, .attrs [("codes", .ref l), ("first", .int 1 t)]) :: rest)) : Does prog w A h₀ L (call (.ref 86) [.ref x, .ref l, .int 1 t]) m n Q := by
  refine Codes.call ?_
  refine code_fn (binds := [("self", .ref x), ("codes", .ref l), ("begin", .int 1 t)]) (own := [(dx, .attrs [])]) (by assumption) (by walk_at "room") (by walk_at "pick") (by k_is) (by k_is) (fun s X => by walk_at "binds") (by exact locs rfl) (by decide +kernel) (by rfl) (by rfl) (by rfl) ?_
  intro g L' B' K R'
  show Does _ _ _ _ _ (execs (_ :: _) (envX _ ⟨_, _, _, _, _⟩ _ _ _ _)) _ _ _
  have kx := K x (.inst 188 dx) kx
  walk_at "sts"
  exact ⟨_, Less.refl _, q⟩
theorem new_ToldView {lc : Addr} {Q : Value → Loc → Led → Prop} (B : Base prog w h₀) (R : Room A 5) (q : ∀ v d f1 f2 f3 sd, Q (.ref v) m ((sd, .idict []) :: (f3, .idict []) :: (f2, .idict []) :: (f1, .idict []) :: (d, .attrs (ViewA lc f1 f2 f3 sd 388)) :: (v, .inst 188 d) :: n)) : Does prog w A h₀ L (call (.ref 188) [.ref lc]) m n Q := by
  refine mk B R (mk_ToldView _) (in_ToldView _) (if_ToldView _) fun x dx A' RA => ?_
  refine code_fn (binds := [("self", .ref x), ("codes", .ref lc), ("begin", .int 1 388)]) (own := [(dx, .attrs [])]) (by assumption) (by walk_at "room") (by walk_at "pick") (by k_is) (by k_is) (fun s X => by walk_at "binds") (by exact locs rfl) (by decide +kernel) (by rfl) (by rfl) (by rfl) ?_
  intro g L' B' K R'
  show Does _ _ _ _ _ (execs (_ :: _) (envX _ ⟨_, _, _, _, _⟩ _ _ _ _)) _ _ _
  have kx := K x (.inst 188 dx) (by walk_at "kn")
  walk_at "sts"
  refine mc B' (mc_View _).1 (mc_View _).2.1 (mc_View _).2.2.1 (mc_View _).2.2.2 ?_
  walk_at "sts"
  refine view_init_ok B' (by walk_at "room") (by walk_at "pick") (by walk_at "kn") ?_
  walk_at "sts"
  exact ⟨_, Less.refl _, rfl, q _ _ _ _ _ _⟩
theorem new_Face {p : Addr} {Q : Value → Loc → Led → Prop} (B : Base prog w h₀) (R : Room A 3) (q : ∀ x new, Q (.ref x) m (new ++ n)) : Does prog w A h₀ L (call (.ref 504) [.ref p]) m n Q := by
  refine mk B R (mk_Face _) (in_Face _) (if_Face _) fun x dx A' RA => ?_
  refine code_fn (binds := [("self", .ref x), ("parts", .ref p), ("parents", .ref 493)]) (own := [(dx, .attrs [])]) (by assumption) (by walk_at "room") (by walk_at "pick") (by k_is) (by k_is) (fun s X => by walk_at "binds") (by exact locs rfl) (by decide +kernel) (by rfl) (by rfl) (by rfl) ?_
  intro g L' B' K R'
  show Does _ _ _ _ _ (execs (_ :: _) (envX _ ⟨_, _, _, _, _⟩ _ _ _ _)) _ _ _
  have kx := K x (.inst 504 dx) (by walk_at "kn")
  walk_at "sts"
  exact ⟨_, Less.refl _, rfl, by rw [List.append_cons]; exact q _ _⟩
theorem new_FaceTable {Q : Value → Loc → Led → Prop} (B : Base prog w h₀) (R : Room A 5) (q : ∀ x new, IsTable (InL new) x → Q (.ref x) m (new ++ n)) : Does prog w A h₀ L (call (.ref 551) []) m n Q := by
  refine mk B R (mk_FaceTable _) (in_FaceTable _) (if_FaceTable _) fun x dx A' RA => ?_
  refine code_fn (binds := [("self", .ref x)]) (own := [(dx, .attrs [])]) (by assumption) (by walk_at "room") (by walk_at "pick") (by k_is) (by k_is) (fun s X => by walk_at "binds") (by exact locs rfl) (by decide +kernel) (by rfl) (by rfl) (by rfl) ?_
  intro g L' B' K R'
  show Does _ _ _ _ _ (execs (_ :: _) (envX _ ⟨_, _, _, _, _⟩ _ _ _ _)) _ _ _
  have kx := K x (.inst 551 dx) (by walk_at "kn")
  walk_at "sts"
  refine e_dict1 (Room.cl0 R') fun a1 => ?_
  refine e_glob B' (gl_xDEFAULT _) ?_
  walk_at "sts"
  refine new_Face B' (by walk_at "room") fun fx nf => ?_
  refine ⟨_, less1 (p := (a1, _)) (by walk_at "take"), .inl ⟨_, _, rfl⟩, ?_⟩
  walk_at "sts"
  refine e_dict1 (Room.cl0 R') fun a2 => ?_
  walk_at "sts"
  refine ⟨_, less1 (p := (a2, _)) (by walk_at "take"), .inr ⟨484, _, _, rfl, knA (At_plain B'), .cons _ _ (.cons _ _ (.cons _ _ (.cons _ _ (.cons _ _ (.cons _ _ .nil)))))⟩, ?_⟩
  walk_at "sts"
  refine ⟨_, keep1 (p := (dx, _)) (by walk_at "take"), rfl, ?_⟩
  exact q x [_, _] (.mk (.tail _ (.head _)) (.head _))

-- WG
theorem kf_in {K k : Frag} {h : Heap} (e : k.map (fun p => K.lookup p.1) = k.map fun p => some p.2) (X : K.In h) : k.In h := fun a o ho => by
  have hm : (a, o) ∈ k := by
    clear e
    induction k with
    | nil => cases ho
    | cons p k ih =>
      obtain ⟨b, q⟩ := p
      rw [List.lookup_cons] at ho
      by_cases hb : a == b
      · rw [hb] at ho
        cases ho
        rw [beq_iff_eq.mp hb]; exact .head _
      · rw [Bool.eq_false_iff.mpr hb] at ho
        exact .tail _ (ih ho)
  have h2 : ∀ p ∈ k, K.lookup p.1 = some p.2 := by
    intro p hp
    obtain ⟨i, hi, rfl⟩ := List.getElem_of_mem hp
    have := congrArg (·[i]?) e
    simpa [hi] using this
  exact X a o (h2 _ hm)
theorem i_slice0 {value slice : Expr} {l a : Addr} {vs zs : List Value} {u v : Value} {lo hi : Option Int} {ops : List Value} {Q : Value → Loc → Led → Prop} (kl : h₀.IsList l vs.toArray) (ks : Kn prog w h₀ n a (slc u v)) (pl : IsPart u lo) (pu : IsPart v hi)
    (hz : (slicePick vs.toArray lo hi none) = zs.toArray) (hs' : vs.length ≤ 1000) (q : ∀ b, Q (.ref b) m ((b, .list zs) :: n))
    (hs : subscripted slice false (.ref l) (.ref a) = operate ops (getItem (.ref l) (.ref a)) := by with_unfolding_all rfl) (ht : ∀ r, letTemporaryGo value (.ref l) r = pure () := by intro _; with_unfolding_all rfl) : Does prog w A h₀ L (subscriptTail value slice (.ref l) (.ref a)) m n Q := Does.of fun s E H R k => by
  obtain ⟨o, h1, h2⟩ := kl
  have hl : s.heap.IsList l vs.toArray := ⟨o, H.F.keep _ _ h1, h2⟩
  refine subscriptTail_ops hl.typeIs list_getitem_lookup (wpAny_getItem_list_slice hl (isSlc H ks) pl pu .none (by simp) ?_ (by rw [List.size_toArray, sizeLine_eq]; lia)) hs ht
  rw [hz]
  exact k _ _ _ _ (H.push (c := .list zs) { cls := .type "list", data := .seq zs.toArray } ⟨0, rfl⟩) rfl rfl (q _)
theorem valueAt_map (k : Int) (v : Value) (p : Int) : ∀ kvs : List (Int × Value), valueAt (kvs.map fun kv => if kv.1 = k then (kv.1, v) else kv) p = if p = k then (if kvs.any (fun kv => kv.1 = k) then some v else none) else valueAt kvs p
  | [] => by simp [valueAt]
  | a :: kvs => by
    have ih := valueAt_map k v p kvs
    unfold valueAt at ih ⊢
    rw [List.map_cons]
    by_cases ha : a.1 = k
    · simp only [ha, if_true]
      by_cases hp : p = k
      · subst hp; simp [ha]
      · rw [List.find?_cons_of_neg (by simpa using fun h => hp h.symm), ih, if_neg hp, if_neg hp, List.find?_cons_of_neg (by simpa [ha] using fun h => hp h.symm)]
    · simp only [if_neg ha]
      by_cases hp : p = k
      · subst hp
        rw [List.find?_cons_of_neg (by simpa using ha), ih, List.any_cons, decide_eq_false ha, Bool.false_or]; simp
      · rw [if_neg hp] at ih ⊢
        by_cases h : a.1 = p
        · rw [List.find?_cons_of_pos (by simpa using h), List.find?_cons_of_pos (by simpa using h)]
        · rw [List.find?_cons_of_neg (by simpa using h), List.find?_cons_of_neg (by simpa using h)]; exact ih
theorem valueAt_stored (kvs : List (Int × Value)) (k : Int) (v : Value) (p : Int) : valueAt (stored kvs k v) p = if p = k then some v else valueAt kvs p := by
  unfold stored
  by_cases h : kvs.any (fun kv => kv.1 = k) = true
  · rw [if_pos h, valueAt_map, if_pos h]
  · rw [if_neg h]
    unfold valueAt
    rw [List.find?_append]
    by_cases hp : p = k
    · subst hp
      rw [if_pos rfl]
      have : kvs.find? (fun kv => decide (kv.1 = p)) = none := by
        rw [List.find?_eq_none]
        intro x hx e
        exact h (List.any_eq_true.mpr ⟨x, hx, e⟩)
      rw [this]; simp
    · rw [if_neg hp]
      rw [show List.find? (fun kv : Int × Value => decide (kv.1 = p)) [(k, v)] = none from by rw [List.find?_cons_of_neg (by simpa using fun h => hp h.symm)]; rfl]
      simp
theorem less5 {p q s z y : Addr × Cell} {n r r' r'' r3 r4 : Led} (t : Take p n r) (u : Take q r r') (v : Take s r' r'') (x : Take z r'' r3) (b : Take y r3 r4) : Less (p :: q :: s :: z :: y :: r4) n := Pick.less (.cons t (.cons u (.cons v (.cons x (.cons b .nil)))))
theorem less6 {p q s z y x : Addr × Cell} {n r r' r'' r3 r4 r5 : Led} (t : Take p n r) (u : Take q r r') (v : Take s r' r'') (a : Take z r'' r3) (b : Take y r3 r4) (c : Take x r4 r5) : Less (p :: q :: s :: z :: y :: x :: r5) n := Pick.less (.cons t (.cons u (.cons v (.cons a (.cons b (.cons c .nil))))))
theorem valueAt_key {kvs : List (Int × Value)} {p : Int} (h : p ∈ kvs.map (·.1)) : valueAt kvs p ≠ none := by
  obtain ⟨x, hx, rfl⟩ := List.mem_map.mp h
  unfold valueAt
  intro e
  rw [Option.map_eq_none_iff, List.find?_eq_none] at e
  exact e x hx (by simp)
theorem valueAt_nokey {kvs : List (Int × Value)} {p : Int} (h : p ∉ kvs.map (·.1)) : valueAt kvs p = none := by
  unfold valueAt
  rw [Option.map_eq_none_iff, List.find?_eq_none]
  intro x hx e
  exact h (List.mem_map.mpr ⟨x, hx, by simpa using e⟩)
def TC (x : Int) : Prop := x = 97 ∨ x = 98 ∨ x = 10
def AC (x : Int) : Prop := x = 120 ∨ x = 121 ∨ x = 10
theorem IntsAre.pick {vs : List Value} {ns : List Int} (h : IntsAre vs ns) {r : Int} (h0 : 0 ≤ r) (h1 : r < ns.length) : ∃ x t, vs[r.toNat]? = some (.int x t) ∧ x ∈ ns := by
  have hl : r.toNat < ns.length := by lia
  obtain ⟨t, e⟩ := h.get r.toNat _ (List.getElem?_eq_getElem hl)
  exact ⟨_, t, e, List.getElem_mem hl⟩
theorem lessO {p : Addr × Cell} {n r : Led} (t : Take p n r) : Less ([p] ++ r) n := less1 t
theorem Does.room {env : Env} {t : Sem α} {Q : α → Loc → Led → Prop} (h : Room (callerA.deeper env) 30 → Does prog w (callerA.deeper env) h₀ L t m n Q) : Does prog w (callerA.deeper env) h₀ L t m n Q := h (⟨by decide, by decide, rfl⟩ : Room callerA 31).deeper
inductive LoopA (dk ad tl c0 ra : Addr) (tv : List Value) : Nat → Loc → Led → Prop
  | mk {i : Nat} {m : Loc} {cr : Cell} {ds : List Value} {new : Led} (kvs : List (Int × Value)) (af : Int → List Int) : DeckOk ds → kvs.length ≤ i → (∀ p, AheadAt (InL new) ⟨[], af⟩ kvs p) → (∀ p, (af p).length ≤ 4 ∧ ∀ c ∈ af p, AC c) →
      m "text" = some (.ref tl) → m "ahead" = some (.ref ad) → LoopA dk ad tl c0 ra tv i m ((ra, cr) :: (dk, .list ds) :: (ad, .idict kvs) :: (tl, .list tv) :: (c0, .var (some (.ref dk))) :: new)
theorem Does.cut {t : Sem α} {Q : α → Loc → Led → Prop} {p q : Addr × Cell} {r r' : Led} (t1 : Take p n r) (t2 : Take q r r') (h : ∀ b, b = r' → Does prog w A h₀ L t m (p :: q :: b) Q) : Does prog w A h₀ L t m n Q := Does.less (less2 t1 t2) (h _ rfl)
inductive LoopB (dk srt : Addr) (svs ds : List Value) (af : Int → List Int) (sns : List Int) (b0 : Led) (sd : Addr) (m0 : Loc) : Nat → Loc → Led → Prop
  | mk {i : Nat} {m : Loc} (skvs : List (Int × Value)) (new : Led) : i ≤ sns.length → skvs.length ≤ i → (∀ p, Strs (InL new) (if p ∈ sns.take i then af p else []) (valueAt skvs p)) → (∀ x, x ∈ b0 → x ∈ new) → (∀ y : Str, y ≠ "place" → m y = m0 y) →
      LoopB dk srt svs ds af sns b0 sd m0 i m ((srt, .list svs) :: (sd, .idict skvs) :: (dk, .list ds) :: new)
theorem Does.cut1 {t : Sem α} {Q : α → Loc → Led → Prop} {p : Addr × Cell} {r : Led} (t1 : Take p n r) (h : ∀ b, b = r → Does prog w A h₀ L t m (p :: b) Q) : Does prog w A h₀ L t m n Q := Does.less (less1 t1) (h _ rfl)
theorem D_C {D : VD} (h1 : ∀ x ∈ D.text, TC x) (h2 : ∀ p, ∀ c ∈ D.ahd p, AC c) : ∀ x ∈ D.S, Cd x.1 := fun x hx => by
  unfold VD.S at hx
  obtain ⟨q, hq, hx⟩ := List.mem_flatMap.mp hx
  have hq : q ≤ D.text.length := by have := List.mem_range.mp hq; lia
  unfold VD.rowsAt at hx
  rcases List.mem_append.mp hx with hx | hx
  · obtain ⟨c, hc, rfl⟩ := List.mem_map.mp hx
    have := h2 _ c hc
    unfold AC at this; unfold Cd; show c = _ ∨ _; lia
  · split at hx
    · rename_i hp
      rw [List.mem_singleton] at hx
      subst hx
      have hl : q < D.text.length := by unfold VD.fin at hp; lia
      have := h1 _ (List.getElem_mem hl)
      rw [← code_text hl] at this
      unfold TC at this; unfold Cd; show D.code _ = _ ∨ _; lia
    · cases hx
theorem D_off {D : VD} (h : ∀ p, (D.ahd p).length ≤ 4) : ∀ n, D.off n ≤ n * 5
  | 0 => Nat.le_refl _
  | n + 1 => by
    have h1 := D_off h n
    have h2 := rowsAt_len (D := D) ((n : Int) + 1)
    have h3 := h ((n : Int) + 1)
    have h4 : D.off (n + 1) = D.off n + (D.rowsAt ((n : Int) + 1)).length := rfl
    split at h2 <;> lia
theorem rowsFrom_len {D : VD} {room : Nat} : ∀ f i, (D.rowsFrom room f i).length ≤ f
  | 0, i => Nat.le_refl _
  | f + 1, i => by
    rw [VD.rowsFrom]
    split
    · exact Nat.succ_le_succ (Nat.zero_le _)
    · exact Nat.succ_le_succ (rowsFrom_len f _)
inductive LoopL (dk ra vw tb op tl ad due : Addr) (room : Nat) (wt : Tok) (b2 : Led) : Nat → Loc → Led → Prop
  | mk {i : Nat} {m : Loc} (cr : Cell) (ds : List Value) (new : Led) : DeckOk ds → (∀ x, x ∈ b2 → x ∈ new) → m "view" = some (.ref vw) → m "faces" = some (.ref tb) → m "options" = some (.ref op) → m "text" = some (.ref tl) → m "ahead" = some (.ref ad) → m "due" = some (.ref due) → m "width" = some (.int ((room : Nat) + 1) wt) →
      LoopL dk ra vw tb op tl ad due room wt b2 i m ((ra, cr) :: (dk, .list ds) :: new)
def VD.spotData (D : VD) (i : Nat) : PyData := .tuple [.int ((D.pl i : Nat) + 1), .int ((i : Int) - (D.off (D.pl i) : Nat))]
def VD.rowData (D : VD) (room i : Nat) : PyData := .tuple [D.spotData i, D.spotData (D.nxt room i), .list ((D.shown room i).map .int)]
inductive RowT (Φ : Known) (D : VD) (room i : Nat) (v : Value) : Prop
  | mk : ∀ a s e l gs, (v = .ref a) → (Φ a (.tup [.ref s, .ref e, .ref l])) → (SpotT Φ D i s) → (SpotT Φ D (D.nxt room i) e) → (Φ l (.list gs)) → (IntsAre gs (D.shown room i)) → RowT Φ D room i v
theorem RowT.mono {Φ Ψ : Known} {D : VD} {room : Nat} (k : ∀ a c, Φ a c → Ψ a c) (i : Nat) (v : Value) (h : RowT Φ D room i v) : RowT Ψ D room i v := by
  obtain ⟨a, s, e, l, gs, rfl, h1, h2, h3, h4, h5⟩ := h
  exact ⟨a, s, e, l, gs, rfl, k _ _ h1, h2.mono k, h3.mono k, k _ _ h4, h5⟩
theorem spot_rd {D : VD} {i : Nat} {s : Addr} (h : SpotT (Kn prog w h₀ n) D i s) : Rd prog w h₀ n (.ref s) (D.spotData i) := by
  obtain ⟨p, k, t, u, e, h⟩ := h
  obtain ⟨rfl, rfl⟩ := Spot.pl h
  exact rd_tup e (.cons rd_int (.cons rd_int .nil))
theorem rows_rd {D : VD} {room : Nat} {is : List Nat} {vs : List Value} (h : All2 (RowT (Kn prog w h₀ n) D room) is vs) : RdAll prog w h₀ n vs (is.map (D.rowData room)) := by
  induction h with
  | nil => exact .nil
  | cons a _ ih =>
    obtain ⟨a, s, e, l, gs, rfl, h1, h2, h3, h4, h5⟩ := a
    exact .cons (rd_tup h1 (.cons (spot_rd h2) (.cons (spot_rd h3) (.cons (rd_list h4 (rd_ints h5)) .nil)))) ih
theorem row_lay (D : VD) (room : Nat) : ∀ is : List Nat, PyData.canLayAll0 (is.map (D.rowData room)) = true ∧ PyData.depthAll (is.map (D.rowData room)) ≤ 2
  | [] => ⟨by simp [PyData.canLayAll0], by simp [PyData.depthAll]⟩
  | i :: is => by
    obtain ⟨h1, h2⟩ := row_lay D room is
    constructor
    · simp [PyData.canLayAll0, h1, VD.rowData, VD.spotData, PyData.canLay0, ke_canLayAll0]
    · simp [PyData.depthAll, VD.rowData, VD.spotData, PyData.depth, ke_depthAll]
      lia
theorem rows_shaped (D : VD) (room : Nat) (is : List Nat) : SeqAt.shaped (.list (is.map (D.rowData room))) = true := by
  obtain ⟨h1, h2⟩ := row_lay D room is
  simp [SeqAt.shaped, PyData.canLay0, PyData.depth, h1]
  lia
theorem rows_same (D : VD) (room : Nat) (is : List Nat) : (!PyData.eqv (.list (is.map (D.rowData room))) (.list (is.map (D.rowData room)))) = false := by
  rw [SeqAt.eqv_refl _ (by simp [PyData.canLay0, (row_lay D room is).1])]; rfl
theorem slice_mid (vs : List Value) (a b : Nat) : slicePick vs.toArray (some (a : Int)) (some (b : Int)) none = ((vs.drop a).take (b - a)).toArray := by
  rw [slicePick_plain]
  simp only [Option.elim, clipAt_nat, List.size_toArray]
  congr 1
  rcases Nat.le_total a vs.length with h | h
  · rw [Nat.min_eq_left h]
    rcases Nat.le_total b vs.length with h' | h'
    · rw [Nat.min_eq_left h']
    · rw [Nat.min_eq_right h', List.take_of_length_le (by simp), List.take_of_length_le (by simp; lia)]
  · rw [Nat.min_eq_right h, List.drop_of_length_le (by simp), List.drop_of_length_le h]; simp
theorem shown_le {D : VD} {room i : Nat} : (D.shown room i).length ≤ room := by
  unfold VD.shown VD.run
  rw [List.length_map, List.length_take, List.length_drop]
  have h := (List.takeWhile_sublist (l := (D.S.drop i).take room) (fun s : Int × Int => s.1 != 10)).length_le
  rw [List.length_take] at h; lia
theorem ne2 (a b : Int) : (!PyData.eqv (.tuple [.int a, .int b]) (.tuple [.int a, .int b])) = false := by simp [PyData.eqv, PyData.eqvAll]
inductive I_z (vs : List Value) (i : Nat) (ys : List Value) (r : Led) : Prop
  | mk : (r = []) → (i ≤ vs.length) → ∀ zs, (IntsAre ys zs) → (zs.length = i) → I_z vs i ys r
inductive I_dk (dk : Addr) (N : Nat) (i : Nat) (ys : List Value) (r : Led) : Prop
  | mk : ∀ ds ns, (r = [(dk, .list ds)]) → (DeckOk ds) → (IntsAre ys ns) → (ns.length = i) → (i ≤ N) → (∀ x ∈ ns, TC x) → I_dk dk N i ys r
inductive I_dk5 (dk : Addr) (N5 : Nat) (i : Nat) (ys : List Value) (r : Led) : Prop
  | mk : ∀ ds ns, (r = [(dk, .list ds)]) → (DeckOk ds) → (IntsAre ys ns) → (ns.length = i) → (i ≤ N5) → (∀ x ∈ ns, AC x) → I_dk5 dk N5 i ys r
def head.tw12310735299239354703 : Nat := 0
def head.tw13942192884097748152 : Nat := 0
def head.tw976808484645153763 : Nat := 0
def head.tw12460202669355646752 : Nat := 0
def head.tw15501141472565082077 : Nat := 0
def head.tw11628534518673281344 : Nat := 0
def head.tw3715584954343283195 : Nat := 0
def head.tw3453547403478019728 : Nat := 0
def head.tw2554682012703037696 : Nat := 0
def head.tw8159583801465064534 : Nat := 0
def head.tw16871623187472473471 : Nat := 0
def head.tw14788773977795034992 : Nat := 0
def head.tw6772502638888315869 : Nat := 0
def head.tw11296743742662292762 : Nat := 0
def head.tw2393098407364606883 : Nat := 0
def head.tw18007968972792079559 : Nat := 0
def head.tw4473611206160876864 : Nat := 0
def head.tw2864405669816312776 : Nat := 0
def head.tw9133290819911140118 : Nat := 0
def head.tw15520248196984853422 : Nat := 0
def head.tw12998212659555988865 : Nat := 0
def head.tw9186546921256032858 : Nat := 0
def head.tw5501060405047882677 : Nat := 0
def head.tw3986194592780655508 : Nat := 0
def head.tw14628233357713752721 : Nat := 0
def head.tw14139502460874162764 : Nat := 0
def head.tw9984397402777080727 : Nat := 0
def head.tw3790771472595898956 : Nat := 0
def head.tw3696042808614700290 : Nat := 0
def head.tw7494366503370351645 : Nat := 0
def head.tw18384547517478447814 : Nat := 0
def head.tw1134157569726261602 : Nat := 0
def head.tw12870424476946447624 : Nat := 0
def head.tw69809265629811306 : Nat := 0
def head.tw7013799640231393816 : Nat := 0
def head.tw4834694072379752904 : Nat := 0
def head.tw6088685845774392931 : Nat := 0
def head.tw45052839361067614 : Nat := 0
def head.tw8671685427711848851 : Nat := 0
def head.tw4965378191221513410 : Nat := 0
def head.tw14720509044617813951 : Nat := 0
def head.tw10265929125382437317 : Nat := 0
def head.tw1519320592345488741 : Nat := 0
def head.tw1919001801439425371 : Nat := 0
def head.tw6684681932595197013 : Nat := 0
def head.tw8187629637223713605 : Nat := 0
def head.tw17674571679781333832 : Nat := 0
def head.tw15436542981012472205 : Nat := 0
def head.tw13510609219080548989 : Nat := 0
def head.tw11105056867450500199 : Nat := 0
def head.tw16817119741492734445 : Nat := 0
def head.tw7498250532897285284 : Nat := 0
def head.tw18416563613846182222 : Nat := 0
def head.tw7876399200375917224 : Nat := 0
def head.tw17453365369857097546 : Nat := 0
def head.tw9114333099845857663 : Nat := 0
def head.tw2172669909848549399 : Nat := 0
def head.tw8182079617134344778 : Nat := 0
def head.tw17988201657351507238 : Nat := 0
def head.tw4235852798576303577 : Nat := 0
def head.tw10593331771876419691 : Nat := 0
def head.tw6889739017440866108 : Nat := 0
def head.tw16903022960794457021 : Nat := 0
def head.tw17782148633632673465 : Nat := 0
def head.tw3746228215898030841 : Nat := 0
def head.tw9464831228461672588 : Nat := 0
def head.tw709382114072422158 : Nat := 0
def head.tw13357441389134331599 : Nat := 0
def head.tw7161073391023584161 : Nat := 0
def head.tw9746458257258439470 : Nat := 0
def head.tw15035418422258542911 : Nat := 0
def head.tw16659920880120507502 : Nat := 0
def head.tw12601080634535202701 : Nat := 0
def head.tw16390735416758967846 : Nat := 0
def head.tw5508695066786827253 : Nat := 0
def head.tw1714602735852981970 : Nat := 0
def head.tw1212124681294104184 : Nat := 0
def head.tw9388430590476628193 : Nat := 0
def head.tw5515381820778694223 : Nat := 0
def head.tw8402214883040486957 : Nat := 0
def head.tw7661765248129044261 : Nat := 0
def head.tw8169693465737517768 : Nat := 0
def head.tw649443455394278489 : Nat := 0
def head.tw15798066900824788120 : Nat := 0
def head.tw13335025841360890868 : Nat := 0
def head.tw7758381527925395934 : Nat := 0
def head.tw604627371996746742 : Nat := 0
def head.tw5104563664521345299 : Nat := 0
def head.tw16714887947964762639 : Nat := 0
def head.tw10015159338476511836 : Nat := 0
def head.tw12207028300977255130 : Nat := 0
def head.tw17486074103640542121 : Nat := 0
def head.tw12201952087667049370 : Nat := 0
def head.tw9065935926736091543 : Nat := 0
def head.tw17017319662998615 : Nat := 0
def head.tw15539854500240908086 : Nat := 0
def head.tw11427066125472700054 : Nat := 0
def head.tw15735840784391694233 : Nat := 0
def head.tw742351954350328859 : Nat := 0
def head.tw1618804561499322139 : Nat := 0
def head.tw6247268493268985975 : Nat := 0
def head.tw12773685731770592110 : Nat := 0
def head.tw14028522991509751376 : Nat := 0
def head.tw7658410731251134818 : Nat := 0
def head.tw14699756766385990792 : Nat := 0
def head.tw17332727794074296334 : Nat := 0
def head.tw13294958713779813728 : Nat := 0
def head.tw532055438628499158 : Nat := 0
def head.tw5650451955626385410 : Nat := 0
def head.tw17297054508065495485 : Nat := 0
def head.tw6588589085864783938 : Nat := 0
def head.tw9196398404247428943 : Nat := 0
def head.tw16111715859725283846 : Nat := 0
def head.tw14857608947800436607 : Nat := 0
def head.tw15204471325056678010 : Nat := 0
def head.tw15894371620910866019 : Nat := 0
def head.tw14676189674455941282 : Nat := 0
def head.tw15796087645652482245 : Nat := 0
def head.tw9162278640276766204 : Nat := 0
def head.tw10270352894671993868 : Nat := 0
def head.tw12695399030622205104 : Nat := 0
def head.tw5723944856813171866 : Nat := 0
def head.tw15091486752826498866 : Nat := 0
def head.tw15785421084128741142 : Nat := 0
def head.tw7253898381062576733 : Nat := 0
def head.tw12328230846540189838 : Nat := 0
def head.tw17608190574486352970 : Nat := 0
def head.tw1457377512435260902 : Nat := 0
def head.tw8603420104599213669 : Nat := 0
def head.tw12362083183470981646 : Nat := 0
def head.tw14842460003800876886 : Nat := 0
def head.tw4964814941381164201 : Nat := 0
def head.tw3264716943610762504 : Nat := 0
def head.tw739537129135343663 : Nat := 0
def head.tw17552560543380974038 : Nat := 0
def head.tw13295082483830516422 : Nat := 0
def head.tw3303856703048408355 : Nat := 0
def head.tw9062998866958442273 : Nat := 0
def head.tw5111174896325423537 : Nat := 0
def head.tw11063524718261073790 : Nat := 0
def head.tw14999265807660949796 : Nat := 0
def head.tw10021064610941686981 : Nat := 0
def head.tw3597743205603396729 : Nat := 0
def head.tw12478146576626367362 : Nat := 0
def head.tw17539234302018041193 : Nat := 0
def head.tw6079359036626576793 : Nat := 0
def head.tw8382746154173761051 : Nat := 0
def head.tw18260194641540637818 : Nat := 0
def head.tw5019597260055213698 : Nat := 0
def head.tw4433315090154635215 : Nat := 0
def head.tw7802898811600756450 : Nat := 0
def head.tw13906610036690215845 : Nat := 0
def head.tw9625377726130185387 : Nat := 0
def head.tw2581250870941146908 : Nat := 0
def head.tw8541356943393881859 : Nat := 0
def head.tw174166394780034911 : Nat := 0
def head.tw5438144065070405397 : Nat := 0
def head.tw7994106446794305319 : Nat := 0
def head.tw1909714482019496454 : Nat := 0
def head.tw8627200689577751383 : Nat := 0
def head.tw13086575352542018947 : Nat := 0
def head.tw4691952243595246448 : Nat := 0
def head.tw4415685298772064003 : Nat := 0
def head.tw17113217626458354986 : Nat := 0
def head.tw17700853532424174462 : Nat := 0
def head.tw5870146547769353613 : Nat := 0
def head.tw17789423225533864492 : Nat := 0
def head.tw5096742575497195690 : Nat := 0
def head.tw2879759524354350568 : Nat := 0
def head.tw9202431907968578930 : Nat := 0
def head.tw6402496994288996404 : Nat := 0
def head.tw780477332936465449 : Nat := 0
def head.tw16922147877168347812 : Nat := 0
def head.tw12892129938458570674 : Nat := 0
def head.tw12344544660321961925 : Nat := 0
def head.tw2203363585012173787 : Nat := 0
def head.tw5599997604879368025 : Nat := 0
def head.tw2876011056497122456 : Nat := 0
def head.tw5401097623525119610 : Nat := 0
def head.tw6327039764776113722 : Nat := 0
def head.tw6640010369347007910 : Nat := 0
def head.tw15638870477510070732 : Nat := 0
def head.tw2518057956044344595 : Nat := 0
def head.tw9142320679590124636 : Nat := 0
def head.tw12841863872788715202 : Nat := 0
def head.tw693309671712327132 : Nat := 0
def head.tw1506576300011279404 : Nat := 0
def head.tw16997897962222511 : Nat := 0
def head.tw16894197260953374720 : Nat := 0
def head.tw1643771367246577777 : Nat := 0
def head.tw5986637957666399235 : Nat := 0
def head.tw11194998557105285118 : Nat := 0
def head.tw2825341998796452840 : Nat := 0
def head.tw14531177953140590962 : Nat := 0
def head.tw12364624919760631829 : Nat := 0
def head.tw12475708393154427166 : Nat := 0
def head.tw13749153600029988744 : Nat := 0
def head.tw14512941343882779238 : Nat := 0
def head.tw5092371620264689978 : Nat := 0
def head.tw14061139507663348314 : Nat := 0
def head.tw6053349399257934933 : Nat := 0
def head.tw15647378281017813147 : Nat := 0
def head.tw13276723143375012678 : Nat := 0
def head.tw17854896373637125580 : Nat := 0
def head.tw13743032657059413451 : Nat := 0
def head.tw11582096051123008839 : Nat := 0
def head.tw13353151263460963528 : Nat := 0
def head.tw5927865893512547691 : Nat := 0
def head.tw4528443807372415038 : Nat := 0
def head.tw10079960370226730655 : Nat := 0
def head.tw7512725033676591148 : Nat := 0
def head.tw1224924573807776437 : Nat := 0
def head.tw4708111749353345164 : Nat := 0
def head.tw2400818531096893172 : Nat := 0
def head.tw9082462177598256812 : Nat := 0
def head.tw573967197379146972 : Nat := 0
def head.tw9646481798937456297 : Nat := 0
def head.tw11862927689305589065 : Nat := 0
def head.tw13988103294471073821 : Nat := 0
def head.tw1917425121527220963 : Nat := 0
def head.tw1276956409769668328 : Nat := 0
def head.tw3688799982635324794 : Nat := 0
def head.tw14744981736328886265 : Nat := 0
def head.tw12043669396524033845 : Nat := 0
def head.tw10748227973586771634 : Nat := 0
def head.tw1689142752476645926 : Nat := 0
def head.tw4273228799998304602 : Nat := 0
def head.tw14882813523228863612 : Nat := 0
def head.tw4543076655600059902 : Nat := 0
def head.tw6857060684267632606 : Nat := 0
def head.tw2641368528265132563 : Nat := 0
def head.tw9325057278558614444 : Nat := 0
def head.tw14149427978524627653 : Nat := 0
def head.tw7798919776615213670 : Nat := 0
def head.tw6237802210402583469 : Nat := 0
def head.tw1852205218256702202 : Nat := 0
def head.tw11830646870156203037 : Nat := 0
def head.tw12024539317367501503 : Nat := 0
def head.tw6587087628758450585 : Nat := 0
def head.tw2994366008111725845 : Nat := 0
def head.tw12147184966966947637 : Nat := 0
def head.tw1858285994304674589 : Nat := 0
def head.tw17725469503822016867 : Nat := 0
def head.tw6217066452294943225 : Nat := 0
def head.tw869265686075093806 : Nat := 0
def head.tw5939897463889383058 : Nat := 0
def head.tw10005452208157733855 : Nat := 0
def head.tw14943480678444902952 : Nat := 0
def head.tw2350586252961548244 : Nat := 0
def head.tw16278871845796110771 : Nat := 0
def head.tw17197444120159719569 : Nat := 0
def head.tw5788964047882338313 : Nat := 0
def head.tw1030536996053982578 : Nat := 0
def head.tw6426539377367359892 : Nat := 0
def head.tw6053997905714604814 : Nat := 0
def head.tw12775505166333009402 : Nat := 0
def head.tw5638995163158488052 : Nat := 0
def head.tw3160712208675142370 : Nat := 0
def head.tw16474958459275807246 : Nat := 0
def head.tw17826015225549371706 : Nat := 0
def head.tw13605870324054321959 : Nat := 0
def head.tw3512634313551410195 : Nat := 0
def head.tw1748456618969930982 : Nat := 0
def head.tw12359489953124434286 : Nat := 0
def head.tw5506250874072839755 : Nat := 0
def head.tw4381510469713062047 : Nat := 0
def head.tw15840312062823119879 : Nat := 0
def head.tw17821319399108415887 : Nat := 0
def head.tw2260579728952749127 : Nat := 0
def head.tw12704426703380559182 : Nat := 0
def head.tw13954853420313727417 : Nat := 0
def head.tw851385035628625539 : Nat := 0
def head.tw8408249889716310983 : Nat := 0
def head.tw5187041380464763778 : Nat := 0
def head.tw8402328212356670530 : Nat := 0
def head.tw6085824867444503733 : Nat := 0
def head.tw17836260108008149386 : Nat := 0
def head.tw13508044439285423174 : Nat := 0
def head.tw17212571956275664395 : Nat := 0
def head.tw10533634037010066435 : Nat := 0
def head.tw1463646239528298992 : Nat := 0
def head.tw8812732774380208333 : Nat := 0
def head.tw16984083398119652359 : Nat := 0
def head.tw12032222614953749359 : Nat := 0
def head.tw2237326684586592538 : Nat := 0
def head.tw9353324838224930552 : Nat := 0
def head.tw9145527808636388435 : Nat := 0
def head.tw14234965402570480558 : Nat := 0
def head.tw7906546307943345882 : Nat := 0
def head.tw4975070653579243887 : Nat := 0
def head.tw262713603470380999 : Nat := 0
def head.tw1626232751844553403 : Nat := 0
def head.tw14168692526580214153 : Nat := 0
def head.tw7090939061502383884 : Nat := 0
def head.tw6846597200999610202 : Nat := 0
def head.tw6110071263904590700 : Nat := 0
def head.tw5629256929840616583 : Nat := 0
def head.tw8874674299285249911 : Nat := 0
def head.tw3304075619188804072 : Nat := 0
def head.tw2428695696106030784 : Nat := 0
def head.tw5973763720392745831 : Nat := 0
def head.tw6859560249404122135 : Nat := 0
def head.tw2326617092838664518 : Nat := 0
def head.tw7712916153251135833 : Nat := 0
def head.tw17577399041416155939 : Nat := 0
def head.tw1985537357303476512 : Nat := 0
def head.tw315434073420411817 : Nat := 0
def head.tw779419810087314491 : Nat := 0
def head.tw14527164170590304321 : Nat := 0
def head.tw14909605222495392915 : Nat := 0
def head.tw17243387458012846398 : Nat := 0
def head.tw12205659690895024086 : Nat := 0
def head.tw10987702880554017565 : Nat := 0
def head.tw8216834362191484069 : Nat := 0
def head.tw3821945547825155762 : Nat := 0
def head.tw5479459121986351116 : Nat := 0
def head.tw8414573866900348196 : Nat := 0
def head.tw11988142204041823098 : Nat := 0
def head.tw18332285231265401824 : Nat := 0
def head.tw7523532297153676066 : Nat := 0
def head.tw10059252607514160932 : Nat := 0
def head.tw10205530081349824492 : Nat := 0
def head.tw5319049981483164881 : Nat := 0
def head.tw9716329373054682134 : Nat := 0
def head.tw10519217271611395807 : Nat := 0
def head.tw18080951475816111786 : Nat := 0
def head.tw10261356005730403935 : Nat := 0
def head.tw2753283235347674219 : Nat := 0
def head.tw11692735721529064706 : Nat := 0
def head.tw15782939476341012554 : Nat := 0
def head.tw467416434755642258 : Nat := 0
def head.tw4023466491090337370 : Nat := 0
def head.tw10730805705081004914 : Nat := 0
def head.tw13078646160514809887 : Nat := 0
def head.tw12987040726578829979 : Nat := 0
def head.tw6507506987150044280 : Nat := 0
def head.tw1674916153312227138 : Nat := 0
def head.tw6265338273532641288 : Nat := 0
def head.tw7688317290187622652 : Nat := 0
def head.tw14385403278947933607 : Nat := 0
def head.tw13227620805987009915 : Nat := 0
def head.tw4063747431996464497 : Nat := 0
def head.tw17348764703882912863 : Nat := 0
def head.tw6100774026682323163 : Nat := 0
def head.tw12287978374625458572 : Nat := 0
def head.tw4311042196063409733 : Nat := 0
def head.tw14667470093908496907 : Nat := 0
def head.tw17265401458761052179 : Nat := 0
def head.tw17646911460466567920 : Nat := 0
def head.tw6474009502463322548 : Nat := 0
def head.tw9827913525700040407 : Nat := 0
def head.tw16065720564569863766 : Nat := 0
def head.tw6388477656530123435 : Nat := 0
def head.tw3690969761935527329 : Nat := 0
def head.tw4196546014268931301 : Nat := 0
def head.tw5141578139466067413 : Nat := 0
def head.tw3083302935323014018 : Nat := 0
def head.tw12903917746401883607 : Nat := 0
def head.tw16576625349610184965 : Nat := 0
def head.tw3749026756887285471 : Nat := 0
def head.tw6032335186944297945 : Nat := 0
def head.tw16640130746408290383 : Nat := 0
def head.tw10898857373019930491 : Nat := 0
def head.tw2506711637615833298 : Nat := 0
def head.tw140066278072042493 : Nat := 0
def head.tw14982685227137828758 : Nat := 0
def head.tw11925700103697007601 : Nat := 0
def head.tw1687793838685487538 : Nat := 0
def head.tw3088210815446039105 : Nat := 0
def head.tw16874305072444578374 : Nat := 0
def head.tw10865165270600546614 : Nat := 0
def head.tw11923155195566972133 : Nat := 0
def head.tw14969872817325187116 : Nat := 0
def head.tw5274623360512300857 : Nat := 0
def head.tw3581614266968435656 : Nat := 0
def head.tw5140934472235413692 : Nat := 0
def head.tw3991279037241028524 : Nat := 0
def head.tw12741294794224977040 : Nat := 0
def head.tw300626226527484142 : Nat := 0
def head.tw533756555076263647 : Nat := 0
def head.tw6489421142724028100 : Nat := 0
def head.tw12740806245664736207 : Nat := 0
def head.tw9407594320385231609 : Nat := 0
def head.tw466721876749952763 : Nat := 0
def head.tw14432977821161478157 : Nat := 0
def head.tw12398312691204496596 : Nat := 0
def head.tw11484797826999851062 : Nat := 0
def head.tw7789450098604059249 : Nat := 0
def head.tw9084464897068113634 : Nat := 0
def head.tw4764554697811233 : Nat := 0
def head.tw11544532188706048022 : Nat := 0
def head.tw10366927770000222440 : Nat := 0
def head.tw18433677622606106133 : Nat := 0
def head.tw6846866878297920324 : Nat := 0
def head.tw12330954535739239725 : Nat := 0
def head.tw12865059321931465230 : Nat := 0
def head.tw6212921109956642855 : Nat := 0
def head.tw7928285938522686346 : Nat := 0
def head.tw18123143868385100064 : Nat := 0
def head.tw10242447542790323104 : Nat := 0
def head.tw7833285031277912329 : Nat := 0
def head.tw13653928888864918839 : Nat := 0
def head.tw6121141971511671821 : Nat := 0
def head.tw17698105195316432488 : Nat := 0
def head.tw12472887615940459650 : Nat := 0
def head.tw4746297304354101679 : Nat := 0
def head.tw1082313596108445148 : Nat := 0
def head.tw8715499118904818895 : Nat := 0
def head.tw10018764681926925449 : Nat := 0
def head.tw6836605351468522007 : Nat := 0
def head.tw11770459041652445329 : Nat := 0
def head.tw5205872252415025574 : Nat := 0
def head.tw7313386461004707312 : Nat := 0
def head.tw9214367901419015226 : Nat := 0
def head.tw5331137831679937033 : Nat := 0
def head.tw2694075680205673411 : Nat := 0
def head.tw8035625575855466936 : Nat := 0
def head.tw1939405473400901271 : Nat := 0
def head.tw13337238644230332656 : Nat := 0
def head.tw13198292447841614426 : Nat := 0
def head.tw5944575059761466720 : Nat := 0
def head.tw10504981510240967646 : Nat := 0
def head.tw13896987355042952010 : Nat := 0
def head.tw1620002657737552111 : Nat := 0
def head.tw17905491414393134947 : Nat := 0
def head.tw6161856959107265637 : Nat := 0
def head.tw8758324158161630591 : Nat := 0
def head.tw10786079294511566085 : Nat := 0
def head.tw5363715690607933 : Nat := 0
def head.tw11426403942048686318 : Nat := 0
def head.tw13689084217373910675 : Nat := 0
def head.tw5346772772824661884 : Nat := 0
def head.tw4709128311485490483 : Nat := 0
def head.tw8299393411229908732 : Nat := 0
def head.tw1522823579158628613 : Nat := 0
def head.tw16441004959143088680 : Nat := 0
def head.tw12858780395421280599 : Nat := 0
def head.tw14393718171448925343 : Nat := 0
def head.tw5617373736292572815 : Nat := 0
def head.tw14112051064653734678 : Nat := 0
def head.tw2355103038987944067 : Nat := 0
def head.tw14969385696402013904 : Nat := 0
def head.tw9777900189565919194 : Nat := 0
def head.tw11308087075614649832 : Nat := 0
def head.tw15468718075485040107 : Nat := 0
def head.tw16800043278716471037 : Nat := 0
def head.tw7732209734871044160 : Nat := 0
def head.tw3762518864795453254 : Nat := 0
def head.tw10840385229135970747 : Nat := 0
def head.tw17188972718952451159 : Nat := 0
def head.tw15841401105113185080 : Nat := 0
def head.tw6207834228037699737 : Nat := 0
def head.tw9515422150858430662 : Nat := 0
def head.tw4945251732147069371 : Nat := 0
def head.tw10668533816033670360 : Nat := 0
def head.tw3547030090768783262 : Nat := 0
def head.tw3665506230870052707 : Nat := 0
def head.tw1319983325249436295 : Nat := 0
def head.tw1389810093214676884 : Nat := 0
def head.tw6891450509433485068 : Nat := 0
def head.tw8534208459206503383 : Nat := 0
def head.tw1499353310998574721 : Nat := 0
def head.tw16128420640991077102 : Nat := 0
def head.tw11290360913936777911 : Nat := 0
def head.tw8866670633112419022 : Nat := 0
def head.tw3973953319845086491 : Nat := 0
def head.tw4839655697589452165 : Nat := 0
def head.tw17275705279478898512 : Nat := 0
def head.tw9325123708862168440 : Nat := 0
def head.tw16172356507618199906 : Nat := 0
def head.tw8101760021730824546 : Nat := 0
def head.tw13295774097974887486 : Nat := 0
def head.tw6202090305015876224 : Nat := 0
def head.tw2491421050496283774 : Nat := 0
def head.tw9592777112578238593 : Nat := 0
def head.tw11821203517306503961 : Nat := 0
def head.tw10258521583956687137 : Nat := 0
def head.tw13031993528536639038 : Nat := 0
def head.tw5764021196749891206 : Nat := 0
def head.tw497287684792784471 : Nat := 0
def head.tw16769997242578385675 : Nat := 0
def head.tw4009957668330374740 : Nat := 0
def head.tw16782820856776367440 : Nat := 0
def head.tw15656768269340197940 : Nat := 0
def head.tw14679116673082234219 : Nat := 0
def head.tw13379354915994877463 : Nat := 0
def head.tw16572314662081343053 : Nat := 0
def head.tw3368474557548986910 : Nat := 0
def head.tw4857777746444614323 : Nat := 0
def head.tw3980653432952411973 : Nat := 0
def head.tw11338825007792423415 : Nat := 0
def head.tw15895551434495452948 : Nat := 0
def head.tw8185714761375850791 : Nat := 0
def head.tw17014734716931888790 : Nat := 0
def head.tw4607607821588926596 : Nat := 0
def head.tw9083612298779875492 : Nat := 0
def head.tw930087139818521243 : Nat := 0
def head.tw12851702773856589430 : Nat := 0
def head.tw1062042127530464391 : Nat := 0
def head.tw3547240966391284428 : Nat := 0
def head.tw10431609616501453582 : Nat := 0
def head.tw17093656651364094606 : Nat := 0
def head.tw15148963937461231693 : Nat := 0
def head.tw14492117785962260688 : Nat := 0
def head.tw14843749296085226474 : Nat := 0
def head.tw14205479233844494046 : Nat := 0
def head.tw8451290768687142514 : Nat := 0
def head.tw2340069552987342377 : Nat := 0
def head.tw8997269238129315039 : Nat := 0
def head.tw7277520189549225825 : Nat := 0
def head.tw392924538731108202 : Nat := 0
def head.tw8912104118211102971 : Nat := 0
def head.tw5015311536963163689 : Nat := 0
def head.tw12949380547846470161 : Nat := 0
def head.tw17362218986543327160 : Nat := 0
def head.tw15410735652082386980 : Nat := 0
def head.tw1315816938146588887 : Nat := 0
def head.tw6737735255597943219 : Nat := 0
def head.tw2154566216772986472 : Nat := 0
def head.tw11434997419882176723 : Nat := 0
def head.tw3103639331685909893 : Nat := 0
def head.tw44622916816846810 : Nat := 0
def head.tw1673358830478937286 : Nat := 0
def head.tw5593727005144783397 : Nat := 0
def head.tw9101448428047585222 : Nat := 0
def head.tw2529948359932261575 : Nat := 0
def head.tw8569104457590258164 : Nat := 0
def head.tw9743709737119245314 : Nat := 0
def head.tw7119846925741900413 : Nat := 0
def head.tw9978949632667528635 : Nat := 0
def head.tw15506723302920939300 : Nat := 0
def head.tw17015032458148788900 : Nat := 0
def head.tw2525317073905713282 : Nat := 0
def head.tw1503407388533364548 : Nat := 0
def head.tw13915308365350131148 : Nat := 0
def head.tw13199516396595161752 : Nat := 0
def head.tw3556061257289618393 : Nat := 0
def head.tw16106133796442146334 : Nat := 0
def head.tw13704148757180265829 : Nat := 0
def head.tw14646466228836335164 : Nat := 0
def head.tw13478637309914159250 : Nat := 0
def head.tw12604462930493870256 : Nat := 0
def head.tw9495540839478616804 : Nat := 0
def head.tw13585267454733459922 : Nat := 0
def head.tw9103479521544129834 : Nat := 0
def head.tw14139617269561922093 : Nat := 0
def head.tw15967466079928408925 : Nat := 0
def head.tw10467814448475477596 : Nat := 0
def head.tw9671237223504923836 : Nat := 0
def head.tw5487235932777146282 : Nat := 0
def head.tw9658139154387788515 : Nat := 0
def head.tw9905244861711924020 : Nat := 0
def head.tw15510365090734361527 : Nat := 0
def head.tw14417885227837004991 : Nat := 0
set_option Elab.async true in
theorem head : PySem.Challenge.rw_sq0007_01.Holds := by
  w_on
  o_law
  k_head
  case hw => w_witness2
  k_go0
  all_goals (try k_fold)
  rename_i w s₀ s₁ mg mb G Y fa o pm doc ho hg KX X V GL T B0 TE TW w10 w9 M w8 w7 hcd ns hs hlay0 hL0 hr0 hl2 as5 as4 sl vs as1 hL ra w1 r0 hI hr2 hc1 hc2 K0 hD h₁ tk₁ F oc hoc N0 X0
  have KX : (kf w.params).In s₁.heap := kf_in (by kernel_rfl) KX
  have B : Base Challenge.rw_sq0007_01.row.prog w s₁.heap := ⟨KX, _, _, _, _, topRead_of T⟩
  clear hs hlay0 hL0 hr0 hl2 ra w1 r0 hr2 K0 hD X0 G Y X V GL TE TW T B0 M
  have H : Holds Challenge.rw_sq0007_01.row.prog w s₁.heap s₁.heap.objs.size (upd (fun _ => none) "script" (.ref sl)) [(s₁.heap.objs.size + 1, .var none)] h₁ := ⟨F, ⟨_, N0, .cons hoc .nil⟩, List.nodup_cons.mpr ⟨(fun h => nomatch h), List.nodup_nil⟩⟩
  refine Does.use (prog := Challenge.rw_sq0007_01.row.prog) (w := w) (h₀ := s₁.heap) (L := s₁.heap.objs.size) (m := upd (fun _ => none) "script" (.ref sl)) (n := [(s₁.heap.objs.size + 1, .var none)]) (Q := fun f _ _ => f = .ret (.bool true)) ?_ H fun f s' m' n' H' hg' ho' e => ?_
  rotate_left
  · subst e
    show GoodW _ _ _ _ _ _ _
    exact ⟨.inl ⟨_, .bool true, _, rfl, fun _ => by with_unfolding_all rfl, .bool _, by with_unfolding_all rfl, fun _ => ⟨List.nodup_nil, fun a h => nomatch h⟩⟩, fun b o e => H'.F.keep b o e, ho', hg'.trans hg⟩
  · clear H N0 hoc F hcd
    dsimp only
    refine Does.room fun R => ?_
    have hvz := hI.length
    walk_at "sts"
    refine e_cl (cpos := default) (cs := []) (Room.handled R) (by rfl) ?_
    walk_at "sts"
    intro sl2
    refine i_slice0 (vs := vs) (zs := vs) hL (by walk_at "kn") .none (.int _ _) (by show slicePick _ none (some ((63 : Nat) : Int)) none = _; rw [slicePick_upto', List.take_of_length_le (by show vs.length ≤ 63; lia)]) (by lia) fun dk0 => ?_
    refine ⟨dk0, vs, rfl, by walk_at "kn", I_z vs, fun i ys r j => ?_, ⟨rfl, Nat.zero_le _, [], .nil, rfl⟩, fun g2 L2 K2 KB I acc i ys r m' x hx j => ?_, fun dk ys r j => ?_⟩
    · obtain ⟨_, ji, zs, jn, jl⟩ := j
      have := jn.length; lia
    · obtain ⟨rfl, ji, zs, jn, jl⟩ := j
      have hi := (List.getElem?_eq_some_iff.mp hx).1
      obtain ⟨t, ht⟩ := hI.get i (ns[i]'(by lia)) (List.getElem?_eq_getElem (by lia))
      have e : x = .int (ns[i]'(by lia)) t := Option.some.inj (hx.symm.trans ht)
      subst e
      have B2 := KB B
      walk_at "sts"
      refine ⟨fun _ => ?_, fun h => (by cases h)⟩
      walk_at "sts"
      refine f_abs fun tk => ?_
      exact ⟨[], keep2 (p := (acc, _)) (q := (I, _)) (by walk_at "take") (by walk_at "take"), rfl, hi, _, (ints_snoc jn _ _), by rw [List.length_append, jl]; rfl⟩
    · obtain ⟨rfl, ji, zs, jn, jl⟩ := j
      have hdk : DeckOk ys := ⟨zs, jn, by lia⟩
      clear jn jl ji
      walk_at "sts"
      rename_i ad tp
      refine x_ar (cpos := default) (cs := [("deck", s₁.heap.objs.size + 1)]) (Room.handled R) (by rfl) ?_
      walk_at "sts"
      refine law_draw_ok B (by walk_at "room") (by walk_at "pick") hdk (by decide) fun r t ds hdk h0 h1 => ?_
      walk_at "sts"
      obtain ⟨N, hN⟩ : ∃ N : Nat, 3 + r = N := ⟨(3 + r).toNat, by lia⟩
      rw [hN]
      refine f_range1 fun ra t v => ?_
      walk_at "sts"
      refine ⟨ra, N, t, _, v, [(dk, .list ds)], _, rfl, by lia, by walk_at "kn", lessO (p := (dk, .list ds)) (by walk_at "take"), I_dk dk N, fun i ys r j => ?_, ⟨ds, [], rfl, hdk, .nil, rfl, Nat.zero_le _, fun x h => nomatch h⟩, fun g2 L2 K2 KB I acc i ys r m' t hi j => ?_, fun tl ys r j => ?_⟩
      · obtain ⟨ds, ns, _, _, jn, jl, ji, _⟩ := j
        have := jn.length; lia
      · obtain ⟨ds, ns, rfl, hdk, jn, jl, ji, jt⟩ := j
        have kc := K2 (s₁.heap.objs.size + 1) (.var (some (.ref dk))) (by walk_at "kn")
        have B2 := KB B
        walk_at "sts"
        refine ⟨fun _ => ?_, fun h => (by cases h)⟩
        walk_at "sts"
        refine law_draw_ok B2 (by walk_at "room") (by walk_at "pick") hdk (by decide) fun r t ds hdk h0 h1 => ?_
        obtain ⟨x, tx, hx, hm⟩ := IntsAre.pick (.cons _ _ (.cons _ _ (.cons _ _ (.cons _ _ (.cons _ _ .nil))))) h0 h1
        refine i_lst (by walk_at "kn") h0 (by lia) hx ?_
        exact ⟨_, keep3 (p := (acc, _)) (q := (I, _)) (s := (dk, _)) (by walk_at "take") (by walk_at "take") (by walk_at "take"), ds, _, rfl, hdk, (ints_snoc jn _ _), by rw [List.length_append, jl]; rfl, hi, fun y hy => by
          rcases List.mem_append.mp hy with h | h
          · exact jt y h
          · rw [List.mem_singleton] at h; subst h; simp at hm; unfold TC; lia⟩
      · obtain ⟨ds, T0, rfl, hdk, jn, jl, _, jt⟩ := j
        rw [List.singleton_append]
        refine Does.less (less4 (p := (dk, _)) (q := (ad, _)) (s := (tl, _)) (z := (s₁.heap.objs.size + 1, _)) (by walk_at "take") (by walk_at "take") (by walk_at "take") (by walk_at "take")) ?_
        have jz := jn.length
        refine x_fr (Room.handled R) ?_
        walk_at "sts"
        refine law_draw_ok B (by walk_at "room") (by walk_at "pick") hdk (by decide) fun r t ds hdk h0 h1 => ?_
        walk_at "sts"
        obtain ⟨N4, hN4⟩ : ∃ N : Nat, r = N := ⟨r.toNat, by lia⟩
        rw [hN4]
        refine f_range1 fun ra t v => ?_
        refine ⟨ra, N4, t, _, v, rfl, by lia, by walk_at "kn", LoopA dk ad tl (s₁.heap.objs.size + 1) ra ys, .mk _ (fun _ => []) hdk (Nat.zero_le _) (fun p => .inl ⟨rfl, rfl⟩) (fun p => ⟨Nat.zero_le _, fun c h => nomatch h⟩) (by walk_at "lk") (by walk_at "lk"), fun I i m r t hi j => ?_, fun m r j => ?_⟩
        · obtain ⟨kvs, af, hdk, hkz, hA, hF, m1, m2⟩ := j
          walk_at "sts"
          refine law_draw_ok B (by walk_at "room") (by walk_at "pick") hdk (by lia) fun r t ds hdk h0 h1 => ?_
          walk_at "sts"
          refine e_cr (cpos := default) (cs := [("deck", s₁.heap.objs.size + 1)]) (Room.handled R) (by rfl) ?_
          walk_at "sts"
          refine law_draw_ok B (by walk_at "room") (by walk_at "pick") hdk (by decide) fun r4 t ds hdk h40 h41 => ?_
          walk_at "sts"
          obtain ⟨N5, hN5⟩ : ∃ N : Nat, 1 + r4 = N := ⟨(1 + r4).toNat, by lia⟩
          rw [hN5]
          refine f_range1 fun ra5 t v => ?_
          walk_at "sts"
          refine ⟨ra5, N5, t, _, v, [(dk, .list ds)], _, rfl, by lia, by walk_at "kn", lessO (p := (dk, .list ds)) (by walk_at "take"), I_dk5 dk N5, fun i ys r j => ?_, ⟨ds, [], rfl, hdk, .nil, rfl, Nat.zero_le _, fun x h => nomatch h⟩, fun g2 L2 K2 KB I acc i ys r m' t hi j => ?_, fun sl2 ys r j => ?_⟩
          · obtain ⟨ds, ns, _, _, jn, jl, ji, _⟩ := j
            have := jn.length; lia
          · obtain ⟨ds, ns, rfl, hdk, jn, jl, ji, jt⟩ := j
            have kc := K2 (s₁.heap.objs.size + 1) (.var (some (.ref dk))) (by walk_at "kn")
            have B2 := KB B
            walk_at "sts"
            refine ⟨fun _ => ?_, fun h => (by cases h)⟩
            walk_at "sts"
            refine law_draw_ok B2 (by walk_at "room") (by walk_at "pick") hdk (by decide) fun r t ds hdk h0 h1 => ?_
            obtain ⟨x, tx, hx, hm⟩ := IntsAre.pick (.cons _ _ (.cons _ _ (.cons _ _ .nil))) h0 h1
            refine i_lst (by walk_at "kn") h0 (by lia) hx ?_
            exact ⟨_, keep3 (p := (acc, _)) (q := (I, _)) (s := (dk, _)) (by walk_at "take") (by walk_at "take") (by walk_at "take"), ds, _, rfl, hdk, (ints_snoc jn _ _), by rw [List.length_append, jl]; rfl, hi, fun y hy => by
              rcases List.mem_append.mp hy with h | h
              · exact jt y h
              · rw [List.mem_singleton] at h; subst h; simp at hm; unfold AC; lia⟩
          · obtain ⟨ds, cs, rfl, hdk, jn, jl, _, jt⟩ := j
            rw [List.singleton_append]
            walk_at "sts"
            refine d_set (by walk_at "alt") (by lia) ?_
            walk_at "sts"
            refine te_next _ (less6 (p := (I, _)) (q := (ra, _)) (s := (dk, _)) (z := (ad, _)) (y := (tl, _)) (x := (s₁.heap.objs.size + 1, _)) (by walk_at "take") (by walk_at "take") (by walk_at "take") (by walk_at "take") (by walk_at "take") (by walk_at "take")) ⟨_, rfl, .mk _ (fun p => if p = 1 + r then cs else af p) hdk (Nat.le_trans (stored_length_le _ _ _) (Nat.succ_le_succ hkz)) (fun p => ?_) (fun p => ?_) (by walk_at "lk") (by walk_at "lk")⟩
            · unfold AheadAt
              rw [valueAt_stored]
              by_cases hp : p = 1 + r
              · rw [if_pos hp]
                refine .inr ⟨sl2, ys, rfl, ?_, ?_⟩
                · simp only [InL]; walk_at "mem"
                · show IntsAre ys (if p = 1 + r then cs else af p)
                  rw [if_pos hp]; exact jn
              · rw [if_neg hp]
                show (_ ∧ (if p = 1 + r then cs else af p) = []) ∨ ∃ l vs, _ ∧ _ ∧ IntsAre vs (if p = 1 + r then cs else af p)
                rw [if_neg hp]
                rcases hA p with ⟨e1, e2⟩ | ⟨l, vs, e1, e2, e3⟩
                · exact .inl ⟨e1, e2⟩
                · exact .inr ⟨l, vs, e1, by simp only [InL] at e2 ⊢; walk_at "mem", e3⟩
            · show (if p = 1 + r then cs else af p).length ≤ 4 ∧ ∀ c ∈ (if p = 1 + r then cs else af p), AC c
              by_cases hp : p = 1 + r
              · rw [if_pos hp]; exact ⟨by lia, jt⟩
              · rw [if_neg hp]; exact hF p
        · obtain ⟨kvs, af, hdk, hkz, hA, hF, m1, m2⟩ := j
          walk_at "sts"
          refine f_list (by walk_at "kn") (by lia) fun lc => ?_
          walk_at "sts"
          refine new_ToldView B (by walk_at "room") fun vw d f1 f2 f3 sd => ?_
          walk_at "sts"
          refine new_FaceTable B (by walk_at "room") fun tb ntb hT => ?_
          walk_at "sts"
          refine new_Options B (by walk_at "room") fun op dop hO => ?_
          walk_at "sts"
          refine law_draw_ok B (by walk_at "room") (by walk_at "pick") hdk (by decide) fun rw' t ds hdk hw0 hw1 => ?_
          walk_at "sts"
          refine Does.cut (p := (sd, _)) (q := (dk, _)) (by walk_at "take") (by walk_at "take") fun b0 hb => ?_
          have kad : (ad, .idict kvs) ∈ b0 := by rw [hb]; walk_at "mem"
          have ktl : (tl, .list ys) ∈ b0 := by rw [hb]; walk_at "mem"
          have kc0 : (s₁.heap.objs.size + 1, .var (some (.ref dk))) ∈ b0 := by rw [hb]; walk_at "mem"
          have klc : (lc, .list ys) ∈ b0 := by rw [hb]; walk_at "mem"
          have kvw : (vw, .inst 188 d) ∈ b0 := by rw [hb]; walk_at "mem"
          have kd : (d, .attrs (ViewA lc f1 f2 f3 sd 388)) ∈ b0 := by rw [hb]; walk_at "mem"
          have kf1 : (f1, .idict []) ∈ b0 := by rw [hb]; walk_at "mem"
          have kf2 : (f2, .idict []) ∈ b0 := by rw [hb]; walk_at "mem"
          have kf3 : (f3, .idict []) ∈ b0 := by rw [hb]; walk_at "mem"
          have hT : IsTable (InL b0) tb := hT.mono fun a c h => by rw [hb]; simp only [InL] at h ⊢; walk_at "mem"
          have hO : IsOpts (InL b0) op := hO.mono fun a c h => by
            rw [hb]; simp only [InL] at h ⊢
            rcases List.mem_cons.mp h with h | h
            · rw [h]; walk_at "mem"
            · rw [List.mem_singleton.mp h]; walk_at "mem"
          have hA : ∀ p, AheadAt (InL b0) ⟨[], af⟩ kvs p := fun p => (hA p).imp id fun ⟨l, vs, e1, e2, e3⟩ => ⟨l, vs, e1, by rw [hb]; simp only [InL] at e2 ⊢; walk_at "mem", e3⟩
          clear hb
          refine x_fl (Room.handled R) ?_
          walk_at "sts"
          refine f_sorted (Room.handled R) (by walk_at "kn") (by lia) fun srt svs sns hsi hperm => ?_
          have hszz := hsi.length
          have hkl := hperm.length_eq
          rw [List.length_map] at hkl
          refine ⟨srt, svs, rfl, by walk_at "kn", LoopB dk srt svs ds af sns b0 sd _, .mk [] b0 (Nat.zero_le _) (Nat.le_refl _) (fun p => ?_) (fun x h => h) (fun y h => rfl), fun i m r j => ?_, fun I i m r x hx j => ?_, fun m r j => ?_⟩
          · rw [List.take_zero, if_neg (fun h => nomatch h)]; exact .none rfl
          · obtain ⟨skvs, new, hi, hz, hS, hsub, hm⟩ := j
            exact .inr (.head _)
          · obtain ⟨skvs, new, hi, hz, hS, hsub, hm⟩ := j
            have hi' := (List.getElem?_eq_some_iff.mp hx).1
            obtain ⟨tp, htp⟩ := hsi.get i (sns[i]'(by lia)) (List.getElem?_eq_getElem (by lia))
            have hget : sns[i]? = some (sns[i]'(by lia)) := List.getElem?_eq_getElem (by lia)
            have hmem : (sns[i]'(by lia)) ∈ kvs.map (·.1) := hperm.mem_iff.mp (List.getElem_mem _)
            generalize sns[i]'(by lia) = p at htp hget hmem
            have e : x = .int p tp := Option.some.inj (hx.symm.trans htp)
            subst e
            obtain ⟨l, lvs, e1, e2, e3⟩ := (hA p).resolve_left fun h => valueAt_key hmem h.1
            have e2 := hsub _ e2
            have hlz := e3.length
            have hF4 := (hF p).1
            have hlz : lvs.length ≤ 4 := by rw [hlz]; exact hF4
            have n1 := hsub _ kad
            have n2 := hsub _ kvw
            have n3 := hsub _ kd
            have m1 : m "view" = some (.ref vw) := (hm _ (by decide)).trans (by walk_at "lk")
            have m2 : m "ahead" = some (.ref ad) := (hm _ (by decide)).trans (by walk_at "lk")
            walk_at "sts"
            refine d_item (by walk_at "kn") e1 ?_
            walk_at "sts"
            refine f_list (vs := lvs) (by walk_at "kn") (by lia) fun lcp => ?_
            walk_at "sts"
            refine d_set (by walk_at "alt") (by lia) ?_
            walk_at "sts"
            refine te_next _ (less4 (p := (I, _)) (q := (srt, _)) (s := (sd, _)) (z := (dk, _)) (by walk_at "take") (by walk_at "take") (by walk_at "take") (by walk_at "take")) ⟨_, rfl, .mk _ _ (by lia) (Nat.le_trans (stored_length_le _ _ _) (Nat.succ_le_succ hz)) (fun p' => ?_) (fun x h => ?_) (fun y h => ?_)⟩
            · rw [valueAt_stored, take_snoc hget]
              by_cases hp : p' = p
              · subst hp
                rw [if_pos rfl, if_pos (List.mem_append.mpr (.inr (List.mem_singleton.mpr rfl)))]
                refine Strs.some (by simp only [InL]; walk_at "mem") (by simp only [InL]; walk_at "mem") (by simp only [InL]; walk_at "mem") e3 (by simp only [InL]; walk_at "mem")
              · have hS' := hS p'
                rw [if_neg hp]
                refine Strs.mono (Φ := InL new) (fun a c h => by simp only [InL] at h ⊢; walk_at "mem") ?_
                by_cases h0 : p' ∈ sns.take i
                · rw [if_pos h0] at hS'
                  rw [if_pos (List.mem_append.mpr (.inl h0))]; exact hS'
                · rw [if_neg h0] at hS'
                  rw [if_neg (by simp [h0, hp])]; exact hS'
            · have h := hsub x h
              obtain ⟨xa, xc⟩ := x
              walk_at "mem"
            · exact (if_neg h).trans (hm y h)
          · obtain ⟨skvs, new, hi, hz, hS, hsub, hm⟩ := j
            have hS : ∀ p, Strs (InL new) (af p) (valueAt skvs p) := fun p => by
              have h := hS p
              rw [List.take_of_length_le (by lia)] at h
              by_cases hp : p ∈ sns
              · rw [if_pos hp] at h; exact h
              · rw [if_neg hp] at h
                have e : af p = [] := by
                  rcases hA p with ⟨_, e⟩ | ⟨l, vs, e, _⟩
                  · exact e
                  · rw [valueAt_nokey (fun z => hp (hperm.mem_iff.mpr z))] at e; cases e
                rw [e]; exact h
            have m1 : m "view" = some (.ref vw) := (hm _ (by decide)).trans (by walk_at "lk")
            have m2 : m "ahead" = some (.ref ad) := (hm _ (by decide)).trans (by walk_at "lk")
            have m3 : m "text" = some (.ref tl) := (hm _ (by decide)).trans (by walk_at "lk")
            have m4 : m "faces" = some (.ref tb) := (hm _ (by decide)).trans (by walk_at "lk")
            have m5 : m "options" = some (.ref op) := (hm _ (by decide)).trans (by walk_at "lk")
            have m6 : ∃ t, m "width" = some (.int (3 + rw') t) := ⟨_, (hm _ (by decide)).trans (by walk_at "lk")⟩
            obtain ⟨wt, m6⟩ := m6
            obtain ⟨D, hDd⟩ : ∃ D : VD, D = ⟨T0, af⟩ := ⟨_, rfl⟩
            have hDt : D.text = T0 := by rw [hDd]
            have hDa : D.ahd = af := by rw [hDd]
            have hok : ViewOk D := ⟨by rw [hDt]; lia, fun p => by rw [hDa]; have := (hF p).1; lia⟩
            have hC : ∀ x ∈ D.S, Cd x.1 := D_C (by rw [hDt]; exact jt) fun p => by rw [hDa]; exact (hF p).2
            have hTz : D.text.length ≤ 14 := by rw [hDt]; lia
            have hyT : ys.length = D.text.length := by rw [hDt]; exact jz
            have hN : D.N ≤ 900 := by rw [← off_T]; have := D_off (D := D) (fun p => by rw [hDa]; exact (hF p).1) (D.text.length + 1); lia
            rw [← hDt] at jn
            rw [← hDa] at hS
            have hA : ∀ p, AheadAt (InL b0) D kvs p := fun p => by have h := hA p; rw [hDd]; exact h
            clear hDd hDt hDa jt hF
            obtain ⟨room, hroom⟩ : ∃ room : Nat, 3 + rw' = (room : Int) + 1 := ⟨(2 + rw').toNat, by lia⟩
            have hr : 2 ≤ room ∧ room ≤ 100 := by lia
            rw [hroom] at m6
            clear hw0 hw1 hroom
            refine Does.cut1 (p := (dk, _)) (by walk_at "take") fun b hb => ?_
            have hsb : ∀ x, x ∈ b0 → x ∈ b := fun x h => by rw [hb]; have h := hsub x h; obtain ⟨xa, xc⟩ := x; walk_at "mem"
            have hsn : ∀ x, x ∈ new → x ∈ b := fun x h => by rw [hb]; obtain ⟨xa, xc⟩ := x; walk_at "mem"
            have ksd : (sd, .idict skvs) ∈ b := by rw [hb]; walk_at "mem"
            have kad := hsb _ kad
            have ktl := hsb _ ktl
            have kc0 := hsb _ kc0
            have hT := hT.mono (Ψ := InL b) fun a c h => hsb _ h
            have hO := hO.mono (Ψ := InL b) fun a c h => hsb _ h
            have hA : ∀ p, AheadAt (InL b) D kvs p := fun p => (hA p).imp id fun ⟨l, vs, e1, e2, e3⟩ => ⟨l, vs, e1, hsb _ e2, e3⟩
            have hV : IsView (InL b) D vw := .mk (hsb _ kvw) (hsb _ kd) (hsb _ klc) jn (hsb _ kf1) (hsb _ kf2) (hsb _ kf3) ksd (fun p => (hS p).mono fun a c h => hsn _ h) hok
            clear hb hsb hsn hS hsub kvw kd klc kf1 kf2 kf3 ksd hm
            have hfin : (ys.length : Int) + 1 = D.fin := by unfold VD.fin; lia
            have hlast : D.Spot D.N D.fin (D.ahd D.fin).length := by
              have h := own_spot (D := D) (Nat.le_refl D.text.length)
              rw [own_T, show (D.text.length : Int) + 1 = D.fin by unfold VD.fin; lia] at h
              exact h
            walk_at "st"
            refine e_join2 (fun v ext => ∃ a t u, v = .ref a ∧ (a, .tup [.int D.fin t, .int (D.ahd D.fin).length u]) ∈ ext) ?_ fun v ext hv => ?_
            · walk_at "sts"
              rw [hfin]
              rcases hA D.fin with ⟨e1, e2⟩ | ⟨l, lvs, e1, e2, e3⟩
              · rw [e1, e2, Option.getD_none]
                refine l_len (vs := []) (by walk_at "kn") (by decide) fun tk => ?_
                walk_at "sts"
                exact ⟨rfl, [_, _], rfl, _, _, _, rfl, .head _⟩
              · rw [e1, Option.getD_some]
                have hz3 := e3.length
                have hz4 := hok.ahd D.fin
                simp only [InL] at e2
                refine l_len (vs := lvs) (by walk_at "kn") (by lia) fun tk => ?_
                rw [hz3]
                walk_at "sts"
                exact ⟨rfl, [_, _], rfl, _, _, _, rfl, .head _⟩
            · obtain ⟨la, lt, lu, rfl, kla⟩ := hv
              walk_at "sts"
              refine law_signs_ok (D := D) B (by walk_at "room") (by walk_at "kn") jn (by walk_at "kn") (fun p => (hA p).imp id fun ⟨l, vs, e1, e2, e3⟩ => ⟨l, vs, e1, .inr (by simp only [InL] at e2; walk_at "mem"), e3⟩) hok hN fun sg nsg hsg => ?_
              walk_at "sts"
              rw [show (room : Int) + 1 - 1 = (room : Nat) by lia]
              refine law_rows_ok (Φ0 := InL (ext ++ b)) B (by walk_at "room") (fun a c h => .inr ?_) (hsg.mono fun a c h => .inr (by simp only [InL] at h; walk_at "mem")) ⟨_, _, lt, lu, List.mem_append.mpr (.inl kla), hlast⟩ hN hr fun due ndue hdue => ?_
              · simp only [InL] at h
                rcases List.mem_append.mp h with h | h <;> walk_at "mem"
              walk_at "sts"
              refine Does.cut1 (p := (dk, _)) (by walk_at "take") fun b2 hb => ?_
              have hsub : ∀ x, x ∈ b → x ∈ b2 := fun x h => by rw [hb]; obtain ⟨xa, xc⟩ := x; walk_at "mem"
              have kad := hsub _ kad
              have ktl := hsub _ ktl
              have kc0 := hsub _ kc0
              have hT := hT.mono (Ψ := InL b2) fun a c h => hsub _ h
              have hO := hO.mono (Ψ := InL b2) fun a c h => hsub _ h
              have hA : ∀ p, AheadAt (InL b2) D kvs p := fun p => (hA p).imp id fun ⟨l, vs, e1, e2, e3⟩ => ⟨l, vs, e1, hsub _ e2, e3⟩
              have hV := hV.mono (Ψ := InL b2) fun a c h => hsub _ h
              have hdue : IsDues (InL b2) D room due := hdue.mono fun a c h => by
                rw [hb]
                rcases h with h | h
                · simp only [InL]; walk_at "mem"
                · simp only [InL] at h ⊢
                  rcases List.mem_append.mp h with h | h <;> walk_at "mem"
              clear hb hsub hsg kla
              refine x_fr (Room.handled R) ?_
              walk_at "sts"
              refine law_draw_ok B (by walk_at "room") (by walk_at "pick") hdk (by decide) fun r t ds hdk h0 h1 => ?_
              walk_at "sts"
              obtain ⟨N7, hN7⟩ : ∃ N : Nat, 1 + r = N := ⟨(1 + r).toNat, by lia⟩
              rw [hN7]
              refine f_range1 fun ra t v => ?_
              refine ⟨ra, N7, t, _, v, rfl, by lia, .inr (.head _), LoopL dk ra vw tb op tl ad due room wt b2, .mk _ _ _ hdk (fun x h => h) (by walk_at "lk") (by walk_at "lk") (by walk_at "lk") (by walk_at "lk") (by walk_at "lk") (by walk_at "lk") (by walk_at "lk"), fun I i m r t hi j => ?_, fun m r j => ?_⟩
              · obtain ⟨cr, ds, new, hdk, hsub, m1, m2, m3, m4, m5, m6, m7⟩ := j
                have kad := hsub _ kad
                have ktl := hsub _ ktl
                have kc0 := hsub _ kc0
                have hT := hT.mono (Ψ := InL new) fun a c h => hsub _ h
                have hO := hO.mono (Ψ := InL new) fun a c h => hsub _ h
                have hA : ∀ p, AheadAt (InL new) D kvs p := fun p => (hA p).imp id fun ⟨l, vs, e1, e2, e3⟩ => ⟨l, vs, e1, hsub _ e2, e3⟩
                have hV := hV.mono (Ψ := InL new) fun a c h => hsub _ h
                have hdue := hdue.mono (Ψ := InL new) fun a c h => hsub _ h
                obtain ⟨dvs, kdu, hdv⟩ := id hdue
                simp only [InL] at kdu
                have hdz := hdv.length
                have hdl : (D.due room).length ≤ 901 := Nat.le_trans (rowsFrom_len _ _) (by lia)
                have hpos : 0 < (D.due room).length := chain_pos 0
                walk_at "sts"
                refine law_draw_ok B (by walk_at "room") (by walk_at "pick") hdk (by lia) fun r1 t ds hdk h0 h1 => ?_
                walk_at "sts"
                obtain ⟨qp, rfl⟩ : ∃ qp : Nat, r1 = qp := ⟨r1.toNat, by lia⟩
                have hq : qp ≤ D.text.length := by lia
                rw [show (1 : Int) + (qp : Nat) = (qp : Nat) + 1 by lia]
                refine law_draw_ok B (by walk_at "room") (by walk_at "pick") hdk (by decide) fun r2 t ds hdk _ _ => ?_
                walk_at "sts"
                rename_i tae
                obtain ⟨hl, hvs, e, kh, hz⟩ : ∃ hl hvs, (valueAt kvs ((qp : Nat) + 1)).getD (.ref tae) = .ref hl ∧ ((hl, .list hvs) ∈ new ∨ (hl = tae ∧ hvs = [])) ∧ hvs.length = (D.ahd ((qp : Nat) + 1)).length := by
                  rcases hA ((qp : Nat) + 1) with ⟨e1, e2⟩ | ⟨l, lvs, e1, e2, e3⟩
                  · exact ⟨tae, [], by rw [e1]; rfl, .inr ⟨rfl, rfl⟩, by rw [e2]; rfl⟩
                  · exact ⟨l, lvs, by rw [e1]; rfl, .inl e2, e3.length⟩
                rw [e]
                have hz4 := hok.ahd ((qp : Nat) + 1)
                refine l_len (vs := hvs) (kh.elim (fun h => .inr (by walk_at "mem")) fun h => .inr (by rw [h.1, h.2]; walk_at "mem")) (by lia) fun tk => ?_
                rw [hz]
                walk_at "sts"
                refine law_seen_ok (D := D) B (by walk_at "room") (hdue.mono fun a c h => .inr (by simp only [InL] at h; walk_at "mem")) (by walk_at "kn") (own_spot hq) (by lia) fun tk => ?_
                have hsl := seen_lt (D := D) (room := room) (s := D.own qp) hpos
                have hgl : min (max 0 (((D.seen room (D.due room) (D.own qp) : Nat) : Int) + (r2 - 4))) ((dvs.length : Int) - 1) = ((D.goal room qp (r2 - 4) : Nat) : Int) := by unfold VD.goal VD.clamp; lia
                have hgz : D.goal room qp (r2 - 4) < (D.due room).length := by unfold VD.goal VD.clamp; lia
                walk_at "sts"
                rw [hgl]
                refine vertical_motion_ok (D := D) B (by walk_at "room") (hV.mono fun a c h => .inr (by simp only [InL] at h; walk_at "mem")) (hT.mono fun a c h => .inr (by simp only [InL] at h; walk_at "mem")) (hO.mono fun a c h => .inr (by simp only [InL] at h; walk_at "mem")) hr hC hN hq fun vm t u => ?_
                obtain ⟨gv, hgv, ga, gs, ge, gsh, ggs, gc, gct, rfl, g1, g2, g3, g4, g5⟩ := hdv.get (List.getElem?_eq_getElem hgz)
                obtain ⟨gk, gt, gu, gs1⟩ := start_of g2
                simp only [InL] at g1 gs1
                have hgd : (D.due room).getD (D.goal room qp (r2 - 4)) 0 = (D.due room)[D.goal room qp (r2 - 4)] := by rw [List.getD_eq_getElem?_getD, List.getElem?_eq_getElem hgz]; rfl
                rw [hgd]
                walk_at "sts"
                refine i_lst (vs := dvs) (i := (D.goal room qp (r2 - 4) : Nat)) (by walk_at "kn") (by lia) (by lia) (by rw [Int.toNat_natCast]; exact hgv) ?_
                walk_at "sts"
                refine c_ned R (rd_tup (by walk_at "kn") (.cons rd_int (.cons rd_int .nil))) (rd_tup (by walk_at "kn") (.cons rd_int (.cons rd_int .nil))) (by rfl) (by rfl) ?_
                walk_at "st"
                refine br0 (ne2 _ _) ?_
                walk_at "sts"
                refine begin_moved_ok (D := D) B (by walk_at "room") (hV.mono fun a c h => .inr (by simp only [InL] at h; walk_at "mem")) (hT.mono fun a c h => .inr (by simp only [InL] at h; walk_at "mem")) (hO.mono fun a c h => .inr (by simp only [InL] at h; walk_at "mem")) hr hC hN hq fun t => ?_
                walk_at "sts"
                refine law_moved_ok (D := D) B (by walk_at "room") (hdue.mono fun a c h => .inr (by simp only [InL] at h; walk_at "mem")) (by walk_at "kn") hq (by lia) fun t => ?_
                walk_at "sts"
                refine law_draw_ok B (by walk_at "room") (by walk_at "pick") hdk (by lia) fun r3 t ds hdk f0 f1' => ?_
                walk_at "sts"
                obtain ⟨fs, rfl⟩ : ∃ fs : Nat, r3 = fs := ⟨r3.toNat, by lia⟩
                refine law_draw_ok B (by walk_at "room") (by walk_at "pick") hdk (by decide) fun r4 t ds hdk g0 g1' => ?_
                walk_at "sts"
                have hfs : fs < (D.due room).length := by lia
                obtain ⟨fv, hfv, fa', fss, fe, fsh, fgs, fc, fct, rfl, q1, q2, q3, q4, q5⟩ := hdv.get (List.getElem?_eq_getElem hfs)
                have hfx := List.getElem?_eq_getElem hfs
                generalize (D.due room)[fs] = fx at hfx hfv q2 q3 q5
                obtain ⟨xp, xk, xt, xu, xs1, xs2⟩ := q2
                simp only [InL] at q1 xs1
                obtain ⟨hh, hhh⟩ : ∃ hh : Nat, 1 + r4 = hh := ⟨(1 + r4).toNat, by lia⟩
                rw [hhh]
                refine i_lst (vs := dvs) (i := (fs : Nat)) (by walk_at "kn") (by lia) (by lia) (by rw [Int.toNat_natCast]; exact hfv) ?_
                walk_at "sts"
                refine i_lst (vs := dvs) (i := (fs : Nat)) (by walk_at "kn") (by lia) (by lia) (by rw [Int.toNat_natCast]; exact hfv) ?_
                walk_at "sts"
                refine laid_rows_ok (D := D) (i := fx) (hh := hh) B (by walk_at "room") (hV.mono fun a c h => .inr (by simp only [InL] at h; walk_at "mem")) (hT.mono fun a c h => .inr (by simp only [InL] at h; walk_at "mem")) (hO.mono fun a c h => .inr (by simp only [InL] at h; walk_at "mem")) (by walk_at "kn") xs2.1 hr hC (by lia) fun shl snew hsr => ?_
                obtain ⟨isq, hisq⟩ : ∃ isq, isq = ((D.due room).drop fs).take hh := ⟨_, rfl⟩
                have hdd := due_drop hr.1 hfx
                rw [rows_take hr.1 _ _ hdd.1, ← hdd.2, ← hisq] at hsr
                have hiz : 0 < isq.length ∧ isq.length ≤ 1000 := by rw [hisq, List.length_take, List.length_drop]; lia
                obtain ⟨rvs, krs, hrv⟩ := id hsr
                simp only [InL] at krs
                have hrz := hrv.length
                walk_at "sts"
                refine x_al (cpos := default) (cs := []) (Room.handled R) (by rfl) ?_
                walk_at "sts"
                refine ⟨shl, rvs, rfl, by walk_at "kn", fun i ys r => i ≤ rvs.length ∧ All2 (RowT (InO (InL snew) r) D room) (isq.take i) ys, fun i ys r j => ?_, ⟨Nat.zero_le _, by rw [List.take_zero]; exact .nil⟩, fun g2 L2 K2 KB I acc i ys r m' x hx j => ?_, fun rsh ys r j => ?_⟩
                · rw [j.2.length, List.length_take]; lia
                · obtain ⟨ji, ja⟩ := j
                  have hi := (List.getElem?_eq_some_iff.mp hx).1
                  obtain ⟨ix, hix, ra', rfl, hR⟩ := hrv.get' hx
                  obtain ⟨rd, ss, ee, gl, cc, nc, nt, bb, mk, rc, gs, y1, y2, y3, y4, y5, y6⟩ := hR
                  simp only [InL] at y1 y2 y5
                  have z1 := K2 _ _ (.inr (List.mem_append.mpr (.inl y1)))
                  have z2 := K2 _ _ (.inr (List.mem_append.mpr (.inl y2)))
                  have z5 := K2 _ _ (.inr (List.mem_append.mpr (.inl y5)))
                  have z6 := y6.mono (Glyph.mono (Ψ := At Challenge.rw_sq0007_01.row.prog w g2) fun a c h => K2 a c (.inr (List.mem_append.mpr (.inl h))))
                  have B2 := KB B
                  have hgz := y6.length
                  have hgl900 : (D.shown room ix).length ≤ 100 := by unfold VD.shown VD.run; rw [List.length_map, List.length_take, List.length_drop]; have h := (List.takeWhile_sublist (l := (D.S.drop ix).take room) (fun s : Int × Int => s.1 != 10)).length_le; rw [List.length_take] at h; lia
                  walk_at "sts"
                  refine ⟨fun _ => ?_, fun h => (by cases h)⟩
                  walk_at "sts"
                  refine e_cl (cpos := default) (cs := []) (Room.handled R) (by rfl) ?_
                  walk_at "sts"
                  refine ⟨gl, gs, rfl, by walk_at "kn", fun i ys r => And3 (r = []) (i ≤ gs.length) (IntsAre ys ((D.shown room ix).take i)), fun i ys r j => ?_, ⟨rfl, Nat.zero_le _, by rw [List.take_zero]; exact .nil⟩, fun g3 L3 K3 KB3 I3 acc3 i3 ys3 r3 m3 x3 hx3 j3 => ?_, fun acc3 ys3 r3 j3 => ?_⟩
                  · have := j.h3.length
                    rw [List.length_take] at this; lia
                  · obtain ⟨rfl, ji3, ja3⟩ := j3
                    have hi3 := (List.getElem?_eq_some_iff.mp hx3).1
                    obtain ⟨pv, hpv, tg, ga, gb, gc, rfl, hg⟩ := z6.get' hx3
                    have hg := K3 _ _ (knA hg)
                    have B3 := KB3 B2
                    walk_at "sts"
                    refine ⟨fun _ => ?_, fun h => (by cases h)⟩
                    walk_at "sts"
                    exact ⟨[], keep2 (p := (acc3, _)) (q := (I3, _)) (by walk_at "take") (by walk_at "take"), rfl, hi3, by rw [take_snoc hpv]; exact (ints_snoc ja3 _ _)⟩
                  · obtain ⟨rfl, ji3, ja3⟩ := j3
                    rw [List.take_of_length_le (by lia)] at ja3
                    walk_at "sts"
                    refine ⟨_, less2 (p := (acc, _)) (q := (I, _)) (by walk_at "take") (by walk_at "take"), hi, ?_⟩
                    rw [take_snoc hix]
                    refine All2.snoc (ja.mono (RowT.mono (InO.up fun x h => by obtain ⟨xa, xc⟩ := x; walk_at "mem"))) ⟨_, ss, ee, acc3, ys3, rfl, .inl (by walk_at "mem"), y3.mono fun a c h => .inr h, y4.mono fun a c h => .inr h, .inl (by walk_at "mem"), ja3⟩
                · obtain ⟨ji, ja⟩ := j
                  rw [List.take_of_length_le (by lia)] at ja
                  have hyz := ja.length
                  walk_at "sts"
                  refine e_cl (cpos := default) (cs := []) (Room.handled R) (by rfl) ?_
                  walk_at "sts"
                  intro sl3
                  refine i_slice (vs := dvs) (zs := (dvs.drop fs).take hh) (by walk_at "kn") (by walk_at "kn") (.int _ _) (.int _ _) (by rw [show ((fs : Nat) : Int) + ((hh : Nat) : Int) = ((fs + hh : Nat) : Int) by lia, slice_mid, Nat.add_sub_cancel_left]) (by lia) fun psl => ?_
                  have hw4 : All2 (IsDue (InL new) D room) isq ((dvs.drop fs).take hh) := by rw [hisq]; exact (hdv.drop fs).take hh
                  have hw5 := hw4.length
                  refine ⟨psl, _, rfl, by walk_at "kn", fun i ys r => i ≤ ((dvs.drop fs).take hh).length ∧ All2 (RowT (InO (InL new) r) D room) (isq.take i) ys, fun i ys r j => ?_, ⟨Nat.zero_le _, by rw [List.take_zero]; exact .nil⟩, fun g2 L2 K2 KB I acc i ys r m' x hx j => ?_, fun psh ys2 r2' j => ?_⟩
                  · rw [j.2.length, List.length_take]; lia
                  · obtain ⟨ji, ja⟩ := j
                    have hi := (List.getElem?_eq_some_iff.mp hx).1
                    obtain ⟨ix, hix, oa, oss, oe, osh, ogs, oc, ot, rfl, o1, o2, o3, o4, o5⟩ := hw4.get' hx
                    simp only [InL] at o1
                    have z1 := K2 oa (.tup [.ref oss, .ref oe, .ref osh, .int oc ot]) (.inr (by walk_at "mem"))
                    have B2 := KB B
                    walk_at "sts"
                    refine ⟨fun _ => ?_, fun h => (by cases h)⟩
                    walk_at "sts"
                    intro sl4
                    refine i_tup3 (by walk_at "kn") (by walk_at "kn") fun b3 => ?_
                    refine ⟨_, less2 (p := (acc, _)) (q := (I, _)) (by walk_at "take") (by walk_at "take"), hi, ?_⟩
                    rw [take_snoc hix]
                    refine All2.snoc (ja.mono (RowT.mono (InO.up fun x h => by obtain ⟨xa, xc⟩ := x; walk_at "mem"))) ⟨_, oss, oe, osh, ogs, rfl, .inl (by walk_at "mem"), o2.mono fun a c h => .inr h, o3.mono fun a c h => .inr h, .inr o4, o5⟩
                  · obtain ⟨ji2, ja2⟩ := j
                    rw [List.take_of_length_le (by lia)] at ja2
                    refine c_ned R (rd_list (by walk_at "kn") (rows_rd (D := D) (room := room) (is := isq) (ja.mono (RowT.mono fun a c h => ?_)))) (rd_list (by walk_at "kn") (rows_rd (D := D) (room := room) (is := isq) (ja2.mono (RowT.mono fun a c h => ?_)))) (rows_shaped _ _ _) (rows_shaped _ _ _) ?_
                    · rcases h with h | h
                      · exact .inr (by walk_at "mem")
                      · simp only [InL] at h; exact .inr (by walk_at "mem")
                    · rcases h with h | h
                      · exact .inr (by walk_at "mem")
                      · simp only [InL] at h; exact .inr (by walk_at "mem")
                    walk_at "st"
                    refine br0 (rows_same _ _ _) ?_
                    walk_at "sts"
                    have hcur := cur_due (s := D.own qp) hr.1 hfs (show 0 < hh by lia)
                    rw [← hisq] at hcur
                    have hgb : ∀ x, (D.shown room x).length ≤ 1000 := fun x => Nat.le_trans shown_le (by lia)
                    refine cursor_in_ok (D := D) (room := room) (is := isq) B (by walk_at "room") (hV.mono fun a c h => .inr (by simp only [InL] at h; walk_at "mem")) (hsr.mono fun a c h => .inr (by simp only [InL] at h; walk_at "mem")) hiz hq (fun x _ => hgb x) (fun hP => ?_) (fun hP cx ca ct cu hcx => ?_)
                    · rw [hcur.1] at hP
                      walk_at "sts"
                      refine law_cursor_ok (D := D) (s := D.own qp) B (by walk_at "room") (hdue.mono fun a c h => .inr (by simp only [InL] at h; walk_at "mem")) (by walk_at "kn") (own_spot hq) (by lia) hgb (fun hn => ?_) (fun h1 h2 => ?_)
                      · refine c_ned R rd_none rd_none (by rfl) (by rfl) ?_
                        walk_at "st"
                        refine br0 (by simp [PyData.eqv]) ?_
                        walk_at "sts"
                        refine te_next _ (less3 (p := (I, _)) (q := (ra, _)) (s := (dk, _)) (by walk_at "take") (by walk_at "take") (by walk_at "take")) ⟨_, rfl, .mk _ _ _ hdk (fun x h => ?_) (by walk_at "lk") (by walk_at "lk") (by walk_at "lk") (by walk_at "lk") (by walk_at "lk") (by walk_at "lk") (by walk_at "lk")⟩
                        have h := hsub x h
                        obtain ⟨xa, xc⟩ := x
                        walk_at "mem"
                      · simp [h1, h2] at hP
                    · rw [hcur.1] at hP
                      have h12 : fs ≤ D.seen room (D.due room) (D.own qp) ∧ D.seen room (D.due room) (D.own qp) < fs + hh := by simpa using hP
                      have hse := hcur.2 h12.1 h12.2
                      walk_at "sts"
                      refine law_cursor_ok (D := D) (s := D.own qp) B (by walk_at "room") (hdue.mono fun a c h => .inr (by simp only [InL] at h; walk_at "mem")) (by walk_at "kn") (own_spot hq) (by lia) hgb (fun hn => absurd h12 hn) (fun _ _ x' a' t' u' hx' => ?_)
                      have hxx : cx = x' := by
                        rw [hse, hisq, List.getElem?_take_of_lt (by lia), List.getElem?_drop, show fs + (D.seen room (D.due room) (D.own qp) - fs) = D.seen room (D.due room) (D.own qp) by lia, hx'] at hcx
                        exact (Option.some.inj hcx).symm
                      subst hxx
                      rw [show ((D.seen room isq (D.own qp) : Nat) : Int) = (D.seen room (D.due room) (D.own qp) : Nat) - (fs : Nat) by rw [hse]; lia]
                      refine c_ned R (rd_tup (by walk_at "kn") (.cons rd_int (.cons rd_int .nil))) (rd_tup (by walk_at "kn") (.cons rd_int (.cons rd_int .nil))) (by rfl) (by rfl) ?_
                      walk_at "st"
                      refine br0 (ne2 _ _) ?_
                      walk_at "sts"
                      refine te_next _ (less3 (p := (I, _)) (q := (ra, _)) (s := (dk, _)) (by walk_at "take") (by walk_at "take") (by walk_at "take")) ⟨_, rfl, .mk _ _ _ hdk (fun x h => ?_) (by walk_at "lk") (by walk_at "lk") (by walk_at "lk") (by walk_at "lk") (by walk_at "lk") (by walk_at "lk") (by walk_at "lk")⟩
                      have h := hsub x h
                      obtain ⟨xa, xc⟩ := x
                      walk_at "mem"
              · obtain ⟨cr, ds, new, hdk, hsub, m1, m2, m3, m4, m5, m6, m7⟩ := j
                walk_at "sts"
                exact rfl

end
end Mine
theorem PySem.Challenge.cw_sq0007_01_holds : PySem.Challenge.rw_sq0007_01.Holds := by
  exact Mine.head
