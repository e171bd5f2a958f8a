import PyProof.Rows.All
import Wide.All
import OpenK.AllK
import Wide.FinOn
import Lean
import PySem.Challenge.RW_og0256_01
open PySem PySem.W PySem.Calls PyProof.Rows
set_option Elab.async false
set_option maxRecDepth 100000
set_option maxHeartbeats 8000000
set_option linter.unusedVariables false
set_option pp.maxSteps 3000
set_option compiler.extract_closed false
set_option genInjectivity false
set_option genSizeOf false
namespace Mine
/-! the head, by hand -/
/-- the parts of the def that stands at a place of the text -/
noncomputable def hd.fn (i : Nat) : Option (Arguments × List Stmt × Scope) := match PySem.Challenge.pw_og0256_01.main.body[i]? with
  | some (.FunctionDef _ a b _ _ _ s _ _ _) => some (a, b, s)
  | some (.ClassDef _ _ _ [.FunctionDef _ a b _ _ _ s _ _ _] _ _ _ _ _ _ _) => some (a, b, s)
  | _ => none
/-- the heap as the top leaves it: what the law can come to -/
noncomputable def hd.heap_39 : Params → Frag := by
  refine (?F : (a29 : Arguments) → (b29 : List Stmt) → (s29 : Scope) → some (a29, b29, s29) = hd.fn 3 → (a43 : Arguments) → (b43 : List Stmt) → (s43 : Scope) → some (a43, b43, s43) = hd.fn 4 → (a48 : Arguments) → (b48 : List Stmt) → (s48 : Scope) → some (a48, b48, s48) = hd.fn 5 → (a55 : Arguments) → (b55 : List Stmt) → (s55 : Scope) → some (a55, b55, s55) = hd.fn 6 → (a60 : Arguments) → (b60 : List Stmt) → (s60 : Scope) → some (a60, b60, s60) = hd.fn 7 → (a67 : Arguments) → (b67 : List Stmt) → (s67 : Scope) → some (a67, b67, s67) = hd.fn 8 → (a74 : Arguments) → (b74 : List Stmt) → (s74 : Scope) → some (a74, b74, s74) = hd.fn 9 → (a81 : Arguments) → (b81 : List Stmt) → (s81 : Scope) → some (a81, b81, s81) = hd.fn 10 → (a88 : Arguments) → (b88 : List Stmt) → (s88 : Scope) → some (a88, b88, s88) = hd.fn 11 → (a95 : Arguments) → (b95 : List Stmt) → (s95 : Scope) → some (a95, b95, s95) = hd.fn 12 → (a100 : Arguments) → (b100 : List Stmt) → (s100 : Scope) → some (a100, b100, s100) = hd.fn 13 → (a107 : Arguments) → (b107 : List Stmt) → (s107 : Scope) → some (a107, b107, s107) = hd.fn 14 → (a114 : Arguments) → (b114 : List Stmt) → (s114 : Scope) → some (a114, b114, s114) = hd.fn 15 → (a121 : Arguments) → (b121 : List Stmt) → (s121 : Scope) → some (a121, b121, s121) = hd.fn 16 → (a129 : Arguments) → (b129 : List Stmt) → (s129 : Scope) → some (a129, b129, s129) = hd.fn 17 → (a136 : Arguments) → (b136 : List Stmt) → (s136 : Scope) → some (a136, b136, s136) = hd.fn 18 → (a143 : Arguments) → (b143 : List Stmt) → (s143 : Scope) → some (a143, b143, s143) = hd.fn 19 → (a150 : Arguments) → (b150 : List Stmt) → (s150 : Scope) → some (a150, b150, s150) = hd.fn 20 → (a157 : Arguments) → (b157 : List Stmt) → (s157 : Scope) → some (a157, b157, s157) = hd.fn 21 → (a164 : Arguments) → (b164 : List Stmt) → (s164 : Scope) → some (a164, b164, s164) = hd.fn 22 → (a171 : Arguments) → (b171 : List Stmt) → (s171 : Scope) → some (a171, b171, s171) = hd.fn 23 → (a178 : Arguments) → (b178 : List Stmt) → (s178 : Scope) → some (a178, b178, s178) = hd.fn 24 → (a183 : Arguments) → (b183 : List Stmt) → (s183 : Scope) → some (a183, b183, s183) = hd.fn 25 → (a188 : Arguments) → (b188 : List Stmt) → (s188 : Scope) → some (a188, b188, s188) = hd.fn 26 → (a193 : Arguments) → (b193 : List Stmt) → (s193 : Scope) → some (a193, b193, s193) = hd.fn 27 → (a200 : Arguments) → (b200 : List Stmt) → (s200 : Scope) → some (a200, b200, s200) = hd.fn 28 → (a207 : Arguments) → (b207 : List Stmt) → (s207 : Scope) → some (a207, b207, s207) = hd.fn 29 → (a212 : Arguments) → (b212 : List Stmt) → (s212 : Scope) → some (a212, b212, s212) = hd.fn 30 → (a220 : Arguments) → (b220 : List Stmt) → (s220 : Scope) → some (a220, b220, s220) = hd.fn 31 → (a227 : Arguments) → (b227 : List Stmt) → (s227 : Scope) → some (a227, b227, s227) = hd.fn 33 → (a234 : Arguments) → (b234 : List Stmt) → (s234 : Scope) → some (a234, b234, s234) = hd.fn 34 → (a241 : Arguments) → (b241 : List Stmt) → (s241 : Scope) → some (a241, b241, s241) = hd.fn 35 → (a248 : Arguments) → (b248 : List Stmt) → (s248 : Scope) → some (a248, b248, s248) = hd.fn 36 → (a253 : Arguments) → (b253 : List Stmt) → (s253 : Scope) → some (a253, b253, s253) = hd.fn 37 → (a258 : Arguments) → (b258 : List Stmt) → (s258 : Scope) → some (a258, b258, s258) = hd.fn 38 → (a265 : Arguments) → (b265 : List Stmt) → (s265 : Scope) → some (a265, b265, s265) = hd.fn 39 → (a270 : Arguments) → (b270 : List Stmt) → (s270 : Scope) → some (a270, b270, s270) = hd.fn 40 → (a275 : Arguments) → (b275 : List Stmt) → (s275 : Scope) → some (a275, b275, s275) = hd.fn 41 → Params → Frag) _ _ _ rfl _ _ _ rfl _ _ _ rfl _ _ _ rfl _ _ _ rfl _ _ _ rfl _ _ _ rfl _ _ _ rfl _ _ _ rfl _ _ _ rfl _ _ _ rfl _ _ _ rfl _ _ _ rfl _ _ _ rfl _ _ _ rfl _ _ _ rfl _ _ _ rfl _ _ _ rfl _ _ _ rfl _ _ _ rfl _ _ _ rfl _ _ _ rfl _ _ _ rfl _ _ _ rfl _ _ _ rfl _ _ _ rfl _ _ _ rfl _ _ _ rfl _ _ _ rfl _ _ _ rfl _ _ _ rfl _ _ _ rfl _ _ _ rfl _ _ _ rfl _ _ _ rfl _ _ _ rfl _ _ _ rfl _ _ _ rfl
  exact fun a29 b29 s29 _ a43 b43 s43 _ a48 b48 s48 _ a55 b55 s55 _ a60 b60 s60 _ a67 b67 s67 _ a74 b74 s74 _ a81 b81 s81 _ a88 b88 s88 _ a95 b95 s95 _ a100 b100 s100 _ a107 b107 s107 _ a114 b114 s114 _ a121 b121 s121 _ a129 b129 s129 _ a136 b136 s136 _ a143 b143 s143 _ a150 b150 s150 _ a157 b157 s157 _ a164 b164 s164 _ a171 b171 s171 _ a178 b178 s178 _ a183 b183 s183 _ a188 b188 s188 _ a193 b193 s193 _ a200 b200 s200 _ a207 b207 s207 _ a212 b212 s212 _ a220 b220 s220 _ a227 b227 s227 _ a234 b234 s234 _ a241 b241 s241 _ a248 b248 s248 _ a253 b253 s253 _ a258 b258 s258 _ a265 b265 s265 _ a270 b270 s270 _ a275 b275 s275 _ P => [
    (2, { cls := .none, data := .dict #[] }),
    (3, { cls := .type "dict", data := .dict #[{ hash := PyData.keyHash P "__name__", key := .str "__name__" 165, val := .str "law_og0256_01" 522 }, { hash := PyData.keyHash P "__doc__", key := .str "__doc__" 166, val := .none }, { hash := PyData.keyHash P "__package__", key := .str "__package__" 167, val := .none }, { hash := PyData.keyHash P "__loader__", key := .str "__loader__" 168, val := .builtin "__main__.__loader__#opaque" }, { hash := PyData.keyHash P "__spec__", key := .str "__spec__" 169, val := .none }, { hash := PyData.keyHash P "__annotations__", key := .str "__annotations__" 170, val := .ref 6 }, { hash := PyData.keyHash P "__builtins__", key := .str "__builtins__" 171, val := .ref 4 }, { hash := PyData.keyHash P "__file__", key := .str "__file__" 173, val := .str "/claim/cut.py" 172 }, { hash := PyData.keyHash P "__cached__", key := .str "__cached__" 174, val := .none }, { hash := PyData.keyHash P "LEAST_SIDE", key := .str "LEAST_SIDE" 190, val := .int 1 189 }, { hash := PyData.keyHash P "LAYOUT_WORDS", key := .str "LAYOUT_WORDS" 196, val := .ref 15 }, { hash := PyData.keyHash P "Cell", key := .str "Cell" 237, val := .ref 32 }, { hash := PyData.keyHash P "layout_leaf", key := .str "layout_leaf" 246, val := .ref 43 }, { hash := PyData.keyHash P "layout_copy", key := .str "layout_copy" 252, val := .ref 48 }, { hash := PyData.keyHash P "layout_leaves", key := .str "layout_leaves" 261, val := .ref 55 }, { hash := PyData.keyHash P "layout_panes", key := .str "layout_panes" 267, val := .ref 60 }, { hash := PyData.keyHash P "layout_path", key := .str "layout_path" 277, val := .ref 67 }, { hash := PyData.keyHash P "layout_kind", key := .str "layout_kind" 284, val := .ref 74 }, { hash := PyData.keyHash P "layout_side", key := .str "layout_side" 292, val := .ref 81 }, { hash := PyData.keyHash P "layout_set_side", key := .str "layout_set_side" 301, val := .ref 88 }, { hash := PyData.keyHash P "layout_index", key := .str "layout_index" 311, val := .ref 95 }, { hash := PyData.keyHash P "layout_room", key := .str "layout_room" 317, val := .ref 100 }, { hash := PyData.keyHash P "layout_change", key := .str "layout_change" 327, val := .ref 107 }, { hash := PyData.keyHash P "layout_placed", key := .str "layout_placed" 337, val := .ref 114 }, { hash := PyData.keyHash P "layout_exchanged", key := .str "layout_exchanged" 346, val := .ref 121 }, { hash := PyData.keyHash P "split_layout", key := .str "split_layout" 368, val := .ref 129 }, { hash := PyData.keyHash P "layout_melted", key := .str "layout_melted" 378, val := .ref 136 }, { hash := PyData.keyHash P "close_pane", key := .str "close_pane" 392, val := .ref 143 }, { hash := PyData.keyHash P "layout_border", key := .str "layout_border" 403, val := .ref 150 }, { hash := PyData.keyHash P "resize_pane", key := .str "resize_pane" 422, val := .ref 157 }, { hash := PyData.keyHash P "resize_pane_to", key := .str "resize_pane_to" 436, val := .ref 164 }, { hash := PyData.keyHash P "fit_layout", key := .str "fit_layout" 449, val := .ref 171 }, { hash := PyData.keyHash P "is_tiling", key := .str "is_tiling" 456, val := .ref 178 }, { hash := PyData.keyHash P "layout_is_right", key := .str "layout_is_right" 462, val := .ref 183 }, { hash := PyData.keyHash P "layout_shares", key := .str "layout_shares" 468, val := .ref 188 }, { hash := PyData.keyHash P "layout_of_parts", key := .str "layout_of_parts" 474, val := .ref 193 }, { hash := PyData.keyHash P "layout_even", key := .str "layout_even" 488, val := .ref 200 }, { hash := PyData.keyHash P "layout_main", key := .str "layout_main" 503, val := .ref 207 }, { hash := PyData.keyHash P "layout_tiled", key := .str "layout_tiled" 509, val := .ref 212 }, { hash := PyData.keyHash P "named_layout", key := .str "named_layout" 521, val := .ref 220 }, { hash := PyData.keyHash P "_law_told", key := .str "_law_told" 536, val := .ref 227 }, { hash := PyData.keyHash P "_law_due", key := .str "_law_due" 548, val := .ref 234 }, { hash := PyData.keyHash P "_law_split", key := .str "_law_split" 563, val := .ref 241 }, { hash := PyData.keyHash P "_law_closed", key := .str "_law_closed" 573, val := .ref 248 }, { hash := PyData.keyHash P "_law_moved", key := .str "_law_moved" 579, val := .ref 253 }, { hash := PyData.keyHash P "_law_fitted", key := .str "_law_fitted" 585, val := .ref 258 }, { hash := PyData.keyHash P "_law_deed", key := .str "_law_deed" 607, val := .ref 265 }, { hash := PyData.keyHash P "_law_shares_right", key := .str "_law_shares_right" 613, val := .ref 270 }, { hash := PyData.keyHash P "law", key := .str "law" 619, val := .ref 275 }] 49 }),
    (15, { cls := .type "tuple", data := .seq #[.str "even-horizontal" 191, .str "even-vertical" 192, .str "main-horizontal" 193, .str "main-vertical" 194, .str "tiled" 195] }),
    (23, { cls := .type "tuple", data := .seq #[] }),
    (25, { cls := .type "tuple", data := .seq #[.str "self" 212, .str "kind" 213, .str "width" 214, .str "height" 215, .str "x" 216, .str "y" 217, .str "parts" 218, .str "pane" 219] }),
    (26, { cls := .type "tuple", data := .seq #[] }),
    (28, { cls := .type "code", data := .fields #[.str "__init__" 209, .str "Cell.__init__" 210, .str "/claim/cut.py" 211, .int 6 0, .int 8 0, .int 0 0, .int 0 0, .int 3 0, .ref 23, .bool true, .int 181 0, .ref 24, .none, .ref 25, .ref 26, .ref 27, .int 220 0, .int 6 0, .str "/claim/cut.py" 221] }),
    (29, { cls := .type "function", data := .func { name := "__init__", qualname := "Cell.__init__", params := a29, body := .stmts b29, scope := s29, globals := 3, closure := [], defaults := .none, kwdefaults := .none, pyModule := .str "termcore.layouts" 187, code := .ref 28 } }),
    (30, { cls := .type "tuple", data := .seq #[.str "height" 223, .str "kind" 224, .str "pane" 225, .str "parts" 226, .str "width" 227, .str "x" 228, .str "y" 229] }),
    (31, { cls := .type "dict", data := .dict #[{ hash := PyData.keyHash P "__module__", key := .str "__module__" 204, val := .str "termcore.layouts" 187 }, { hash := PyData.keyHash P "__firstlineno__", key := .str "__firstlineno__" 208, val := .int 4 207 }, { hash := PyData.keyHash P "__init__", key := .str "__init__" 222, val := .ref 29 }, { hash := PyData.keyHash P "__static_attributes__", key := .str "__static_attributes__" 230, val := .ref 30 }, { hash := PyData.keyHash P "__dict__", key := .str "__dict__" 232, val := .ref 33 }, { hash := PyData.keyHash P "__weakref__", key := .str "__weakref__" 234, val := .ref 34 }, { hash := PyData.keyHash P "__doc__", key := .str "__doc__" 235, val := .none }] 4 }),
    (32, { cls := .type "type", data := .cls { name := "Cell", bases := [.type "object"], mro := [.ref 32, .type "object"], ns := 31, qualname := "Cell" }, slots := #[none, none, some (.str "Cell" 197), some (.str "Cell" 205), some (.builtin "object.__new__"), some (.bool true)] }),
    (33, { cls := .type "getset_descriptor", data := .fields #[.str "__dict__" 231, .ref 32, .builtin "function.__dict__", .builtin "function.__dict__#set"] }),
    (34, { cls := .type "getset_descriptor", data := .fields #[.str "__weakref__" 233, .ref 32, .builtin "ExceptionGroup.__weakref__", .none] }),
    (37, { cls := .type "tuple", data := .seq #[] }),
    (39, { cls := .type "tuple", data := .seq #[.str "pane" 241, .str "width" 242, .str "height" 243] }),
    (40, { cls := .type "tuple", data := .seq #[] }),
    (42, { cls := .type "code", data := .fields #[.str "layout_leaf" 238, .str "layout_leaf" 239, .str "/claim/cut.py" 240, .int 14 0, .int 3 0, .int 0 0, .int 0 0, .int 3 0, .ref 37, .bool true, .int 181 0, .ref 38, .none, .ref 39, .ref 40, .ref 41, .int 244 0, .int 14 0, .str "/claim/cut.py" 245] }),
    (43, { cls := .type "function", data := .func { name := "layout_leaf", qualname := "layout_leaf", params := a43, body := .stmts b43, scope := s43, globals := 3, closure := [], defaults := .none, kwdefaults := .none, pyModule := .str "termcore.layouts" 187, code := .ref 42 } }),
    (44, { cls := .type "tuple", data := .seq #[] }),
    (47, { cls := .type "code", data := .fields #[.str "layout_copy" 247, .str "layout_copy" 248, .str "/claim/cut.py" 249, .int 16 0, .int 1 0, .int 0 0, .int 0 0, .int 3 0, .ref 44, .bool true, .int 181 0, .ref 45, .none, .none, .none, .ref 46, .int 250 0, .int 16 0, .str "/claim/cut.py" 251] }),
    (48, { cls := .type "function", data := .func { name := "layout_copy", qualname := "layout_copy", params := a48, body := .stmts b48, scope := s48, globals := 3, closure := [], defaults := .none, kwdefaults := .none, pyModule := .str "termcore.layouts" 187, code := .ref 47 } }),
    (49, { cls := .type "tuple", data := .seq #[] }),
    (51, { cls := .type "tuple", data := .seq #[.str "cell" 256, .str "found" 257, .str "part" 258] }),
    (52, { cls := .type "tuple", data := .seq #[] }),
    (54, { cls := .type "code", data := .fields #[.str "layout_leaves" 253, .str "layout_leaves" 254, .str "/claim/cut.py" 255, .int 19 0, .int 1 0, .int 0 0, .int 0 0, .int 3 0, .ref 49, .bool true, .int 181 0, .ref 50, .none, .ref 51, .ref 52, .ref 53, .int 259 0, .int 19 0, .str "/claim/cut.py" 260] }),
    (55, { cls := .type "function", data := .func { name := "layout_leaves", qualname := "layout_leaves", params := a55, body := .stmts b55, scope := s55, globals := 3, closure := [], defaults := .none, kwdefaults := .none, pyModule := .str "termcore.layouts" 187, code := .ref 54 } }),
    (56, { cls := .type "tuple", data := .seq #[] }),
    (59, { cls := .type "code", data := .fields #[.str "layout_panes" 262, .str "layout_panes" 263, .str "/claim/cut.py" 264, .int 26 0, .int 1 0, .int 0 0, .int 0 0, .int 3 0, .ref 56, .bool true, .int 181 0, .ref 57, .none, .none, .none, .ref 58, .int 265 0, .int 26 0, .str "/claim/cut.py" 266] }),
    (60, { cls := .type "function", data := .func { name := "layout_panes", qualname := "layout_panes", params := a60, body := .stmts b60, scope := s60, globals := 3, closure := [], defaults := .none, kwdefaults := .none, pyModule := .str "termcore.layouts" 187, code := .ref 59 } }),
    (61, { cls := .type "tuple", data := .seq #[] }),
    (63, { cls := .type "tuple", data := .seq #[.str "cell" 271, .str "pane" 272, .str "part" 273, .str "found" 274] }),
    (64, { cls := .type "tuple", data := .seq #[] }),
    (66, { cls := .type "code", data := .fields #[.str "layout_path" 268, .str "layout_path" 269, .str "/claim/cut.py" 270, .int 28 0, .int 2 0, .int 0 0, .int 0 0, .int 3 0, .ref 61, .bool true, .int 181 0, .ref 62, .none, .ref 63, .ref 64, .ref 65, .int 275 0, .int 28 0, .str "/claim/cut.py" 276] }),
    (67, { cls := .type "function", data := .func { name := "layout_path", qualname := "layout_path", params := a67, body := .stmts b67, scope := s67, globals := 3, closure := [], defaults := .none, kwdefaults := .none, pyModule := .str "termcore.layouts" 187, code := .ref 66 } }),
    (68, { cls := .type "tuple", data := .seq #[] }),
    (70, { cls := .type "tuple", data := .seq #[.str "is_row" 281] }),
    (71, { cls := .type "tuple", data := .seq #[] }),
    (73, { cls := .type "code", data := .fields #[.str "layout_kind" 278, .str "layout_kind" 279, .str "/claim/cut.py" 280, .int 36 0, .int 1 0, .int 0 0, .int 0 0, .int 3 0, .ref 68, .bool true, .int 181 0, .ref 69, .none, .ref 70, .ref 71, .ref 72, .int 282 0, .int 36 0, .str "/claim/cut.py" 283] }),
    (74, { cls := .type "function", data := .func { name := "layout_kind", qualname := "layout_kind", params := a74, body := .stmts b74, scope := s74, globals := 3, closure := [], defaults := .none, kwdefaults := .none, pyModule := .str "termcore.layouts" 187, code := .ref 73 } }),
    (75, { cls := .type "tuple", data := .seq #[] }),
    (77, { cls := .type "tuple", data := .seq #[.str "cell" 288, .str "is_row" 289] }),
    (78, { cls := .type "tuple", data := .seq #[] }),
    (80, { cls := .type "code", data := .fields #[.str "layout_side" 285, .str "layout_side" 286, .str "/claim/cut.py" 287, .int 38 0, .int 2 0, .int 0 0, .int 0 0, .int 3 0, .ref 75, .bool true, .int 181 0, .ref 76, .none, .ref 77, .ref 78, .ref 79, .int 290 0, .int 38 0, .str "/claim/cut.py" 291] }),
    (81, { cls := .type "function", data := .func { name := "layout_side", qualname := "layout_side", params := a81, body := .stmts b81, scope := s81, globals := 3, closure := [], defaults := .none, kwdefaults := .none, pyModule := .str "termcore.layouts" 187, code := .ref 80 } }),
    (82, { cls := .type "tuple", data := .seq #[] }),
    (84, { cls := .type "tuple", data := .seq #[.str "cell" 296, .str "is_row" 297, .str "side" 298] }),
    (85, { cls := .type "tuple", data := .seq #[] }),
    (87, { cls := .type "code", data := .fields #[.str "layout_set_side" 293, .str "layout_set_side" 294, .str "/claim/cut.py" 295, .int 40 0, .int 3 0, .int 0 0, .int 0 0, .int 3 0, .ref 82, .bool true, .int 181 0, .ref 83, .none, .ref 84, .ref 85, .ref 86, .int 299 0, .int 40 0, .str "/claim/cut.py" 300] }),
    (88, { cls := .type "function", data := .func { name := "layout_set_side", qualname := "layout_set_side", params := a88, body := .stmts b88, scope := s88, globals := 3, closure := [], defaults := .none, kwdefaults := .none, pyModule := .str "termcore.layouts" 187, code := .ref 87 } }),
    (89, { cls := .type "tuple", data := .seq #[] }),
    (91, { cls := .type "tuple", data := .seq #[.str "parts" 305, .str "cell" 306, .str "at" 307, .str "part" 308] }),
    (92, { cls := .type "tuple", data := .seq #[] }),
    (94, { cls := .type "code", data := .fields #[.str "layout_index" 302, .str "layout_index" 303, .str "/claim/cut.py" 304, .int 45 0, .int 2 0, .int 0 0, .int 0 0, .int 3 0, .ref 89, .bool true, .int 181 0, .ref 90, .none, .ref 91, .ref 92, .ref 93, .int 309 0, .int 45 0, .str "/claim/cut.py" 310] }),
    (95, { cls := .type "function", data := .func { name := "layout_index", qualname := "layout_index", params := a95, body := .stmts b95, scope := s95, globals := 3, closure := [], defaults := .none, kwdefaults := .none, pyModule := .str "termcore.layouts" 187, code := .ref 94 } }),
    (96, { cls := .type "tuple", data := .seq #[] }),
    (99, { cls := .type "code", data := .fields #[.str "layout_room" 312, .str "layout_room" 313, .str "/claim/cut.py" 314, .int 50 0, .int 2 0, .int 0 0, .int 0 0, .int 3 0, .ref 96, .bool true, .int 181 0, .ref 97, .none, .none, .none, .ref 98, .int 315 0, .int 50 0, .str "/claim/cut.py" 316] }),
    (100, { cls := .type "function", data := .func { name := "layout_room", qualname := "layout_room", params := a100, body := .stmts b100, scope := s100, globals := 3, closure := [], defaults := .none, kwdefaults := .none, pyModule := .str "termcore.layouts" 187, code := .ref 99 } }),
    (101, { cls := .type "tuple", data := .seq #[] }),
    (103, { cls := .type "tuple", data := .seq #[.str "cell" 321, .str "is_row" 322, .str "change" 323, .str "part" 324] }),
    (104, { cls := .type "tuple", data := .seq #[] }),
    (106, { cls := .type "code", data := .fields #[.str "layout_change" 318, .str "layout_change" 319, .str "/claim/cut.py" 320, .int 55 0, .int 3 0, .int 0 0, .int 0 0, .int 3 0, .ref 101, .bool true, .int 181 0, .ref 102, .none, .ref 103, .ref 104, .ref 105, .int 325 0, .int 55 0, .str "/claim/cut.py" 326] }),
    (107, { cls := .type "function", data := .func { name := "layout_change", qualname := "layout_change", params := a107, body := .stmts b107, scope := s107, globals := 3, closure := [], defaults := .none, kwdefaults := .none, pyModule := .str "termcore.layouts" 187, code := .ref 106 } }),
    (108, { cls := .type "tuple", data := .seq #[] }),
    (110, { cls := .type "tuple", data := .seq #[.str "cell" 331, .str "x" 332, .str "y" 333, .str "part" 334] }),
    (111, { cls := .type "tuple", data := .seq #[] }),
    (113, { cls := .type "code", data := .fields #[.str "layout_placed" 328, .str "layout_placed" 329, .str "/claim/cut.py" 330, .int 69 0, .int 3 0, .int 0 0, .int 0 0, .int 3 0, .ref 108, .bool true, .int 181 0, .ref 109, .none, .ref 110, .ref 111, .ref 112, .int 335 0, .int 69 0, .str "/claim/cut.py" 336] }),
    (114, { cls := .type "function", data := .func { name := "layout_placed", qualname := "layout_placed", params := a114, body := .stmts b114, scope := s114, globals := 3, closure := [], defaults := .none, kwdefaults := .none, pyModule := .str "termcore.layouts" 187, code := .ref 113 } }),
    (115, { cls := .type "tuple", data := .seq #[] }),
    (117, { cls := .type "tuple", data := .seq #[.str "path" 341, .str "fresh" 342, .str "parts" 343] }),
    (118, { cls := .type "tuple", data := .seq #[] }),
    (120, { cls := .type "code", data := .fields #[.str "layout_exchanged" 338, .str "layout_exchanged" 339, .str "/claim/cut.py" 340, .int 78 0, .int 2 0, .int 0 0, .int 0 0, .int 3 0, .ref 115, .bool true, .int 181 0, .ref 116, .none, .ref 117, .ref 118, .ref 119, .int 344 0, .int 78 0, .str "/claim/cut.py" 345] }),
    (121, { cls := .type "function", data := .func { name := "layout_exchanged", qualname := "layout_exchanged", params := a121, body := .stmts b121, scope := s121, globals := 3, closure := [], defaults := .none, kwdefaults := .none, pyModule := .str "termcore.layouts" 187, code := .ref 120 } }),
    (122, { cls := .type "tuple", data := .seq #[.none, .bool false] }),
    (123, { cls := .type "tuple", data := .seq #[] }),
    (125, { cls := .type "tuple", data := .seq #[.str "root" 350, .str "pane" 351, .str "fresh" 352, .str "is_row" 353, .str "size" 354, .str "is_before" 355, .str "path" 356, .str "leaf" 357, .str "side" 358, .str "wish" 359, .str "many" 360, .str "other" 361, .str "both" 362, .str "kind" 363, .str "top" 364, .str "at" 365] }),
    (126, { cls := .type "tuple", data := .seq #[] }),
    (128, { cls := .type "code", data := .fields #[.str "split_layout" 347, .str "split_layout" 348, .str "/claim/cut.py" 349, .int 84 0, .int 6 0, .int 0 0, .int 0 0, .int 3 0, .ref 123, .bool true, .int 181 0, .ref 124, .none, .ref 125, .ref 126, .ref 127, .int 366 0, .int 84 0, .str "/claim/cut.py" 367] }),
    (129, { cls := .type "function", data := .func { name := "split_layout", qualname := "split_layout", params := a129, body := .stmts b129, scope := s129, globals := 3, closure := [], defaults := .ref 122, kwdefaults := .none, pyModule := .str "termcore.layouts" 187, code := .ref 128 } }),
    (130, { cls := .type "tuple", data := .seq #[] }),
    (132, { cls := .type "tuple", data := .seq #[.str "parts" 372, .str "kind" 373, .str "found" 374, .str "part" 375] }),
    (133, { cls := .type "tuple", data := .seq #[] }),
    (135, { cls := .type "code", data := .fields #[.str "layout_melted" 369, .str "layout_melted" 370, .str "/claim/cut.py" 371, .int 105 0, .int 2 0, .int 0 0, .int 0 0, .int 3 0, .ref 130, .bool true, .int 181 0, .ref 131, .none, .ref 132, .ref 133, .ref 134, .int 376 0, .int 105 0, .str "/claim/cut.py" 377] }),
    (136, { cls := .type "function", data := .func { name := "layout_melted", qualname := "layout_melted", params := a136, body := .stmts b136, scope := s136, globals := 3, closure := [], defaults := .none, kwdefaults := .none, pyModule := .str "termcore.layouts" 187, code := .ref 135 } }),
    (137, { cls := .type "tuple", data := .seq #[] }),
    (139, { cls := .type "tuple", data := .seq #[.str "root" 382, .str "pane" 383, .str "path" 384, .str "leaf" 385, .str "parent" 386, .str "is_row" 387, .str "at" 388, .str "top" 389] }),
    (140, { cls := .type "tuple", data := .seq #[] }),
    (142, { cls := .type "code", data := .fields #[.str "close_pane" 379, .str "close_pane" 380, .str "/claim/cut.py" 381, .int 110 0, .int 2 0, .int 0 0, .int 0 0, .int 3 0, .ref 137, .bool true, .int 181 0, .ref 138, .none, .ref 139, .ref 140, .ref 141, .int 390 0, .int 110 0, .str "/claim/cut.py" 391] }),
    (143, { cls := .type "function", data := .func { name := "close_pane", qualname := "close_pane", params := a143, body := .stmts b143, scope := s143, globals := 3, closure := [], defaults := .none, kwdefaults := .none, pyModule := .str "termcore.layouts" 187, code := .ref 142 } }),
    (144, { cls := .type "tuple", data := .seq #[] }),
    (146, { cls := .type "tuple", data := .seq #[.str "path" 396, .str "is_row" 397, .str "depth" 398, .str "parent" 399, .str "at" 400] }),
    (147, { cls := .type "tuple", data := .seq #[] }),
    (149, { cls := .type "code", data := .fields #[.str "layout_border" 393, .str "layout_border" 394, .str "/claim/cut.py" 395, .int 125 0, .int 2 0, .int 0 0, .int 0 0, .int 3 0, .ref 144, .bool true, .int 181 0, .ref 145, .none, .ref 146, .ref 147, .ref 148, .int 401 0, .int 125 0, .str "/claim/cut.py" 402] }),
    (150, { cls := .type "function", data := .func { name := "layout_border", qualname := "layout_border", params := a150, body := .stmts b150, scope := s150, globals := 3, closure := [], defaults := .none, kwdefaults := .none, pyModule := .str "termcore.layouts" 187, code := .ref 149 } }),
    (151, { cls := .type "tuple", data := .seq #[] }),
    (153, { cls := .type "tuple", data := .seq #[.str "root" 407, .str "pane" 408, .str "is_row" 409, .str "change" 410, .str "path" 411, .str "border" 412, .str "parts" 413, .str "at" 414, .str "givers" 415, .str "taker" 416, .str "left" 417, .str "giver" 418, .str "many" 419] }),
    (154, { cls := .type "tuple", data := .seq #[] }),
    (156, { cls := .type "code", data := .fields #[.str "resize_pane" 404, .str "resize_pane" 405, .str "/claim/cut.py" 406, .int 132 0, .int 4 0, .int 0 0, .int 0 0, .int 3 0, .ref 151, .bool true, .int 181 0, .ref 152, .none, .ref 153, .ref 154, .ref 155, .int 420 0, .int 132 0, .str "/claim/cut.py" 421] }),
    (157, { cls := .type "function", data := .func { name := "resize_pane", qualname := "resize_pane", params := a157, body := .stmts b157, scope := s157, globals := 3, closure := [], defaults := .none, kwdefaults := .none, pyModule := .str "termcore.layouts" 187, code := .ref 156 } }),
    (158, { cls := .type "tuple", data := .seq #[] }),
    (160, { cls := .type "tuple", data := .seq #[.str "root" 426, .str "pane" 427, .str "is_row" 428, .str "side" 429, .str "path" 430, .str "border" 431, .str "wish" 432, .str "is_ahead" 433] }),
    (161, { cls := .type "tuple", data := .seq #[] }),
    (163, { cls := .type "code", data := .fields #[.str "resize_pane_to" 423, .str "resize_pane_to" 424, .str "/claim/cut.py" 425, .int 148 0, .int 4 0, .int 0 0, .int 0 0, .int 3 0, .ref 158, .bool true, .int 181 0, .ref 159, .none, .ref 160, .ref 161, .ref 162, .int 434 0, .int 148 0, .str "/claim/cut.py" 435] }),
    (164, { cls := .type "function", data := .func { name := "resize_pane_to", qualname := "resize_pane_to", params := a164, body := .stmts b164, scope := s164, globals := 3, closure := [], defaults := .none, kwdefaults := .none, pyModule := .str "termcore.layouts" 187, code := .ref 163 } }),
    (165, { cls := .type "tuple", data := .seq #[] }),
    (167, { cls := .type "tuple", data := .seq #[.str "root" 440, .str "width" 441, .str "height" 442, .str "found" 443, .str "is_row" 444, .str "side" 445, .str "change" 446] }),
    (168, { cls := .type "tuple", data := .seq #[] }),
    (170, { cls := .type "code", data := .fields #[.str "fit_layout" 437, .str "fit_layout" 438, .str "/claim/cut.py" 439, .int 156 0, .int 3 0, .int 0 0, .int 0 0, .int 3 0, .ref 165, .bool true, .int 181 0, .ref 166, .none, .ref 167, .ref 168, .ref 169, .int 447 0, .int 156 0, .str "/claim/cut.py" 448] }),
    (171, { cls := .type "function", data := .func { name := "fit_layout", qualname := "fit_layout", params := a171, body := .stmts b171, scope := s171, globals := 3, closure := [], defaults := .none, kwdefaults := .none, pyModule := .str "termcore.layouts" 187, code := .ref 170 } }),
    (172, { cls := .type "tuple", data := .seq #[] }),
    (174, { cls := .type "tuple", data := .seq #[.str "root" 453] }),
    (175, { cls := .type "tuple", data := .seq #[] }),
    (177, { cls := .type "code", data := .fields #[.str "is_tiling" 450, .str "is_tiling" 451, .str "/claim/cut.py" 452, .int 162 0, .int 1 0, .int 0 0, .int 0 0, .int 3 0, .ref 172, .bool true, .int 181 0, .ref 173, .none, .ref 174, .ref 175, .ref 176, .int 454 0, .int 162 0, .str "/claim/cut.py" 455] }),
    (178, { cls := .type "function", data := .func { name := "is_tiling", qualname := "is_tiling", params := a178, body := .stmts b178, scope := s178, globals := 3, closure := [], defaults := .none, kwdefaults := .none, pyModule := .str "termcore.layouts" 187, code := .ref 177 } }),
    (179, { cls := .type "tuple", data := .seq #[] }),
    (182, { cls := .type "code", data := .fields #[.str "layout_is_right" 457, .str "layout_is_right" 458, .str "/claim/cut.py" 459, .int 164 0, .int 3 0, .int 0 0, .int 0 0, .int 3 0, .ref 179, .bool true, .int 181 0, .ref 180, .none, .none, .none, .ref 181, .int 460 0, .int 164 0, .str "/claim/cut.py" 461] }),
    (183, { cls := .type "function", data := .func { name := "layout_is_right", qualname := "layout_is_right", params := a183, body := .stmts b183, scope := s183, globals := 3, closure := [], defaults := .none, kwdefaults := .none, pyModule := .str "termcore.layouts" 187, code := .ref 182 } }),
    (184, { cls := .type "tuple", data := .seq #[] }),
    (187, { cls := .type "code", data := .fields #[.str "layout_shares" 463, .str "layout_shares" 464, .str "/claim/cut.py" 465, .int 178 0, .int 2 0, .int 0 0, .int 0 0, .int 3 0, .ref 184, .bool true, .int 181 0, .ref 185, .none, .none, .none, .ref 186, .int 466 0, .int 178 0, .str "/claim/cut.py" 467] }),
    (188, { cls := .type "function", data := .func { name := "layout_shares", qualname := "layout_shares", params := a188, body := .stmts b188, scope := s188, globals := 3, closure := [], defaults := .none, kwdefaults := .none, pyModule := .str "termcore.layouts" 187, code := .ref 187 } }),
    (189, { cls := .type "tuple", data := .seq #[] }),
    (192, { cls := .type "code", data := .fields #[.str "layout_of_parts" 469, .str "layout_of_parts" 470, .str "/claim/cut.py" 471, .int 181 0, .int 2 0, .int 0 0, .int 0 0, .int 3 0, .ref 189, .bool true, .int 181 0, .ref 190, .none, .none, .none, .ref 191, .int 472 0, .int 181 0, .str "/claim/cut.py" 473] }),
    (193, { cls := .type "function", data := .func { name := "layout_of_parts", qualname := "layout_of_parts", params := a193, body := .stmts b193, scope := s193, globals := 3, closure := [], defaults := .none, kwdefaults := .none, pyModule := .str "termcore.layouts" 187, code := .ref 192 } }),
    (194, { cls := .type "tuple", data := .seq #[] }),
    (196, { cls := .type "tuple", data := .seq #[.str "panes" 478, .str "width" 479, .str "height" 480, .str "is_row" 481, .str "parts" 482, .str "pane" 483, .str "share" 484, .str "part" 485] }),
    (197, { cls := .type "tuple", data := .seq #[] }),
    (199, { cls := .type "code", data := .fields #[.str "layout_even" 475, .str "layout_even" 476, .str "/claim/cut.py" 477, .int 189 0, .int 4 0, .int 0 0, .int 0 0, .int 3 0, .ref 194, .bool true, .int 181 0, .ref 195, .none, .ref 196, .ref 197, .ref 198, .int 486 0, .int 189 0, .str "/claim/cut.py" 487] }),
    (200, { cls := .type "function", data := .func { name := "layout_even", qualname := "layout_even", params := a200, body := .stmts b200, scope := s200, globals := 3, closure := [], defaults := .none, kwdefaults := .none, pyModule := .str "termcore.layouts" 187, code := .ref 199 } }),
    (201, { cls := .type "tuple", data := .seq #[] }),
    (203, { cls := .type "tuple", data := .seq #[.str "panes" 492, .str "width" 493, .str "height" 494, .str "is_row" 495, .str "main" 496, .str "side" 497, .str "first" 498, .str "rest" 499, .str "one" 500] }),
    (204, { cls := .type "tuple", data := .seq #[] }),
    (206, { cls := .type "code", data := .fields #[.str "layout_main" 489, .str "layout_main" 490, .str "/claim/cut.py" 491, .int 196 0, .int 5 0, .int 0 0, .int 0 0, .int 3 0, .ref 201, .bool true, .int 181 0, .ref 202, .none, .ref 203, .ref 204, .ref 205, .int 501 0, .int 196 0, .str "/claim/cut.py" 502] }),
    (207, { cls := .type "function", data := .func { name := "layout_main", qualname := "layout_main", params := a207, body := .stmts b207, scope := s207, globals := 3, closure := [], defaults := .none, kwdefaults := .none, pyModule := .str "termcore.layouts" 187, code := .ref 206 } }),
    (208, { cls := .type "tuple", data := .seq #[] }),
    (211, { cls := .type "code", data := .fields #[.str "layout_tiled" 504, .str "layout_tiled" 505, .str "/claim/cut.py" 506, .int 206 0, .int 3 0, .int 0 0, .int 0 0, .int 3 0, .ref 208, .bool true, .int 181 0, .ref 209, .none, .none, .none, .ref 210, .int 507 0, .int 206 0, .str "/claim/cut.py" 508] }),
    (212, { cls := .type "function", data := .func { name := "layout_tiled", qualname := "layout_tiled", params := a212, body := .stmts b212, scope := s212, globals := 3, closure := [], defaults := .none, kwdefaults := .none, pyModule := .str "termcore.layouts" 187, code := .ref 211 } }),
    (213, { cls := .type "tuple", data := .seq #[.none] }),
    (214, { cls := .type "tuple", data := .seq #[] }),
    (216, { cls := .type "tuple", data := .seq #[.str "word" 513, .str "panes" 514, .str "width" 515, .str "height" 516, .str "main" 517, .str "found" 518] }),
    (217, { cls := .type "tuple", data := .seq #[] }),
    (219, { cls := .type "code", data := .fields #[.str "named_layout" 510, .str "named_layout" 511, .str "/claim/cut.py" 512, .int 221 0, .int 5 0, .int 0 0, .int 0 0, .int 3 0, .ref 214, .bool true, .int 181 0, .ref 215, .none, .ref 216, .ref 217, .ref 218, .int 519 0, .int 221 0, .str "/claim/cut.py" 520] }),
    (220, { cls := .type "function", data := .func { name := "named_layout", qualname := "named_layout", params := a220, body := .stmts b220, scope := s220, globals := 3, closure := [], defaults := .ref 213, kwdefaults := .none, pyModule := .str "termcore.layouts" 187, code := .ref 219 } }),
    (221, { cls := .type "tuple", data := .seq #[] }),
    (223, { cls := .type "tuple", data := .seq #[.str "root" 527, .str "is_row" 528, .str "found" 529, .str "part" 530, .str "along" 531, .str "across" 532, .str "spots" 533] }),
    (224, { cls := .type "tuple", data := .seq #[] }),
    (226, { cls := .type "code", data := .fields #[.str "_law_told" 524, .str "_law_told" 525, .str "/claim/cut.py" 526, .int 232 0, .int 2 0, .int 0 0, .int 0 0, .int 3 0, .ref 221, .bool true, .int 181 0, .ref 222, .none, .ref 223, .ref 224, .ref 225, .int 534 0, .int 232 0, .str "/claim/cut.py" 535] }),
    (227, { cls := .type "function", data := .func { name := "_law_told", qualname := "_law_told", params := a227, body := .stmts b227, scope := s227, globals := 3, closure := [], defaults := .none, kwdefaults := .none, pyModule := .str "law_og0256_01" 522, code := .ref 226 } }),
    (228, { cls := .type "tuple", data := .seq #[] }),
    (230, { cls := .type "tuple", data := .seq #[.str "lot" 540, .str "across" 541, .str "found" 542, .str "at" 543, .str "pane" 544, .str "along" 545] }),
    (231, { cls := .type "tuple", data := .seq #[] }),
    (233, { cls := .type "code", data := .fields #[.str "_law_due" 537, .str "_law_due" 538, .str "/claim/cut.py" 539, .int 239 0, .int 2 0, .int 0 0, .int 0 0, .int 3 0, .ref 228, .bool true, .int 181 0, .ref 229, .none, .ref 230, .ref 231, .ref 232, .int 546 0, .int 239 0, .str "/claim/cut.py" 547] }),
    (234, { cls := .type "function", data := .func { name := "_law_due", qualname := "_law_due", params := a234, body := .stmts b234, scope := s234, globals := 3, closure := [], defaults := .none, kwdefaults := .none, pyModule := .str "law_og0256_01" 522, code := .ref 233 } }),
    (235, { cls := .type "tuple", data := .seq #[] }),
    (237, { cls := .type "tuple", data := .seq #[.str "lot" 552, .str "k" 553, .str "fresh" 554, .str "size" 555, .str "is_before" 556, .str "pane" 557, .str "along" 558, .str "many" 559, .str "both" 560] }),
    (238, { cls := .type "tuple", data := .seq #[] }),
    (240, { cls := .type "code", data := .fields #[.str "_law_split" 549, .str "_law_split" 550, .str "/claim/cut.py" 551, .int 245 0, .int 5 0, .int 0 0, .int 0 0, .int 3 0, .ref 235, .bool true, .int 181 0, .ref 236, .none, .ref 237, .ref 238, .ref 239, .int 561 0, .int 245 0, .str "/claim/cut.py" 562] }),
    (241, { cls := .type "function", data := .func { name := "_law_split", qualname := "_law_split", params := a241, body := .stmts b241, scope := s241, globals := 3, closure := [], defaults := .none, kwdefaults := .none, pyModule := .str "law_og0256_01" 522, code := .ref 240 } }),
    (242, { cls := .type "tuple", data := .seq #[] }),
    (244, { cls := .type "tuple", data := .seq #[.str "lot" 567, .str "k" 568, .str "rest" 569, .str "heir" 570] }),
    (245, { cls := .type "tuple", data := .seq #[] }),
    (247, { cls := .type "code", data := .fields #[.str "_law_closed" 564, .str "_law_closed" 565, .str "/claim/cut.py" 566, .int 253 0, .int 2 0, .int 0 0, .int 0 0, .int 3 0, .ref 242, .bool true, .int 181 0, .ref 243, .none, .ref 244, .ref 245, .ref 246, .int 571 0, .int 253 0, .str "/claim/cut.py" 572] }),
    (248, { cls := .type "function", data := .func { name := "_law_closed", qualname := "_law_closed", params := a248, body := .stmts b248, scope := s248, globals := 3, closure := [], defaults := .none, kwdefaults := .none, pyModule := .str "law_og0256_01" 522, code := .ref 247 } }),
    (249, { cls := .type "tuple", data := .seq #[] }),
    (252, { cls := .type "code", data := .fields #[.str "_law_moved" 574, .str "_law_moved" 575, .str "/claim/cut.py" 576, .int 258 0, .int 3 0, .int 0 0, .int 0 0, .int 3 0, .ref 249, .bool true, .int 181 0, .ref 250, .none, .none, .none, .ref 251, .int 577 0, .int 258 0, .str "/claim/cut.py" 578] }),
    (253, { cls := .type "function", data := .func { name := "_law_moved", qualname := "_law_moved", params := a253, body := .stmts b253, scope := s253, globals := 3, closure := [], defaults := .none, kwdefaults := .none, pyModule := .str "law_og0256_01" 522, code := .ref 252 } }),
    (254, { cls := .type "tuple", data := .seq #[] }),
    (257, { cls := .type "code", data := .fields #[.str "_law_fitted" 580, .str "_law_fitted" 581, .str "/claim/cut.py" 582, .int 268 0, .int 2 0, .int 0 0, .int 0 0, .int 3 0, .ref 254, .bool true, .int 181 0, .ref 255, .none, .none, .none, .ref 256, .int 583 0, .int 268 0, .str "/claim/cut.py" 584] }),
    (258, { cls := .type "function", data := .func { name := "_law_fitted", qualname := "_law_fitted", params := a258, body := .stmts b258, scope := s258, globals := 3, closure := [], defaults := .none, kwdefaults := .none, pyModule := .str "law_og0256_01" 522, code := .ref 257 } }),
    (259, { cls := .type "tuple", data := .seq #[] }),
    (261, { cls := .type "tuple", data := .seq #[.str "w" 589, .str "root" 590, .str "number" 591, .str "way" 592, .str "k" 593, .str "more" 594, .str "pane" 595, .str "lot" 596, .str "is_row" 597, .str "size" 598, .str "is_before" 599, .str "told" 600, .str "whole" 601, .str "sizes" 602, .str "wish" 603, .str "change" 604] }),
    (262, { cls := .type "tuple", data := .seq #[] }),
    (264, { cls := .type "code", data := .fields #[.str "_law_deed" 586, .str "_law_deed" 587, .str "/claim/cut.py" 588, .int 281 0, .int 3 0, .int 0 0, .int 0 0, .int 3 0, .ref 259, .bool true, .int 181 0, .ref 260, .none, .ref 261, .ref 262, .ref 263, .int 605 0, .int 281 0, .str "/claim/cut.py" 606] }),
    (265, { cls := .type "function", data := .func { name := "_law_deed", qualname := "_law_deed", params := a265, body := .stmts b265, scope := s265, globals := 3, closure := [], defaults := .none, kwdefaults := .none, pyModule := .str "law_og0256_01" 522, code := .ref 264 } }),
    (266, { cls := .type "tuple", data := .seq #[] }),
    (269, { cls := .type "code", data := .fields #[.str "_law_shares_right" 608, .str "_law_shares_right" 609, .str "/claim/cut.py" 610, .int 300 0, .int 3 0, .int 0 0, .int 0 0, .int 3 0, .ref 266, .bool true, .int 181 0, .ref 267, .none, .none, .none, .ref 268, .int 611 0, .int 300 0, .str "/claim/cut.py" 612] }),
    (270, { cls := .type "function", data := .func { name := "_law_shares_right", qualname := "_law_shares_right", params := a270, body := .stmts b270, scope := s270, globals := 3, closure := [], defaults := .none, kwdefaults := .none, pyModule := .str "law_og0256_01" 522, code := .ref 269 } }),
    (271, { cls := .type "tuple", data := .seq #[] }),
    (274, { cls := .type "code", data := .fields #[.str "law" 614, .str "law" 615, .str "/claim/cut.py" 616, .int 307 0, .int 1 0, .int 0 0, .int 0 0, .int 3 0, .ref 271, .bool true, .int 181 0, .ref 272, .none, .none, .none, .ref 273, .int 617 0, .int 307 0, .str "/claim/cut.py" 618] }),
    (275, { cls := .type "function", data := .func { name := "law", qualname := "law", params := a275, body := .stmts b275, scope := s275, globals := 3, closure := [], defaults := .none, kwdefaults := .none, pyModule := .str "law_og0256_01" 522, code := .ref 274 } })]
/-- the statements that the head looks at -/
noncomputable def hd.view_39 : Program := by
  refine (?F : (c0 : Stmt) → (c1 : Stmt) → (c2 : Stmt) → (c3 : Stmt) → (c4 : Stmt) → (c5 : Stmt) → (c6 : Stmt) → (c7 : Stmt) → (c8 : Stmt) → (c9 : Stmt) → (c10 : Stmt) → (c11 : Stmt) → (c12 : Stmt) → (c13 : Stmt) → (c14 : Stmt) → (c15 : Stmt) → (c16 : Stmt) → (c17 : Stmt) → (c18 : Stmt) → (c19 : Stmt) → (c20 : Stmt) → (c21 : Stmt) → (c22 : Stmt) → (c23 : Stmt) → (c24 : Stmt) → (c25 : Stmt) → (c26 : Stmt) → (c27 : Stmt) → (c28 : Stmt) → (c29 : Stmt) → (c30 : Stmt) → (c31 : Stmt) → (c32 : Stmt) → (c33 : Stmt) → (c34 : Stmt) → (c35 : Stmt) → (c36 : Stmt) → (c37 : Stmt) → (c38 : Stmt) → (c39 : Stmt) → (c40 : Stmt) → (c41 : Stmt) → [c0, c1, c2, c3, c4, c5, c6, c7, c8, c9, c10, c11, c12, c13, c14, c15, c16, c17, c18, c19, c20, c21, c22, c23, c24, c25, c26, c27, c28, c29, c30, c31, c32, c33, c34, c35, c36, c37, c38, c39, c40, c41] = PySem.Challenge.pw_og0256_01.main.body → Program) _ _ _ _ _ _ _ _ _ _ _ _ _ _ _ _ _ _ _ _ _ _ _ _ _ _ _ _ _ _ _ _ _ _ _ _ _ _ _ _ _ _ rfl
  exact fun c0 c1 c2 c3 c4 c5 c6 c7 c8 c9 c10 c11 c12 c13 c14 c15 c16 c17 c18 c19 c20 c21 c22 c23 c24 c25 c26 c27 c28 c29 c30 c31 c32 c33 c34 c35 c36 c37 c38 c39 c40 c41 _ => { PySem.Challenge.pw_og0256_01 with main := { PySem.Challenge.pw_og0256_01.main with body := [c1, c2, c3, c4, c5, c6, c7, c8, c9, c10, c11, c12, c13, c14, c15, c16, c18, c19, c20, c21, c22, c23, c24, c25, c26, c27, c28, c29, c30, c33, c34, c35, c36, c37, c38, c39, c40, c41] } }
noncomputable def hd.as : List Addr := [2, 3, 15, 23, 25, 26, 28, 29, 30, 31, 32, 33, 34, 37, 39, 40, 42, 43, 44, 47, 48, 49, 51, 52, 54, 55, 56, 59, 60, 61, 63, 64, 66, 67, 68, 70, 71, 73, 74, 75, 77, 78, 80, 81, 82, 84, 85, 87, 88, 89, 91, 92, 94, 95, 96, 99, 100, 101, 103, 104, 106, 107, 108, 110, 111, 113, 114, 115, 117, 118, 120, 121, 122, 123, 125, 126, 128, 129, 130, 132, 133, 135, 136, 137, 139, 140, 142, 143, 144, 146, 147, 149, 150, 151, 153, 154, 156, 157, 158, 160, 161, 163, 164, 165, 167, 168, 170, 171, 172, 174, 175, 177, 178, 179, 182, 183, 184, 187, 188, 189, 192, 193, 194, 196, 197, 199, 200, 201, 203, 204, 206, 207, 208, 211, 212, 213, 214, 216, 217, 219, 220, 221, 223, 224, 226, 227, 228, 230, 231, 233, 234, 235, 237, 238, 240, 241, 242, 244, 245, 247, 248, 249, 252, 253, 254, 257, 258, 259, 261, 262, 264, 265, 266, 269, 270, 271, 274, 275]
theorem hd.as_ok : ∀ P, hd.as = (hd.heap_39 P).map (·.1) := fun _ => by kernel_rfl
theorem hd.left : LeftO PySem.Challenge.rw_og0256_01.row.prog hd.view_39 [PySem.Str.ofString "split_layout", PySem.Str.ofString "named_layout"] (fun s => xlAt hd.view_39 [] s && recOk (RowW.records PySem.Challenge.rw_og0256_01.row.toRowW) s) (kHook hd.heap_39 hd.as hd.as_ok).obs (kHook hd.heap_39 hd.as hd.as_ok).val 3026 := fun w => by kernel_rfl
noncomputable def hd.rec : DefRec := by
  refine (?F : (d : DefRec) → some (d, []) = defOf hd.view_39 PySem.Challenge.rw_og0256_01.row.name → DefRec) _ rfl
  exact fun d _ => d
theorem hd (walk : WalkO hd.view_39 [PySem.Str.ofString "split_layout", PySem.Str.ofString "named_layout"] (XL hd.view_39 []) (kHook hd.heap_39 hd.as hd.as_ok).says PySem.Challenge.rw_og0256_01.row.toRowW hd.rec [] (fun f vs => call f vs)) : PySem.Challenge.rw_og0256_01.Holds :=
  holds_law (by kernel_rfl) fun said => holds_open (q := hd.view_39) (loose := [PySem.Str.ofString "split_layout", PySem.Str.ofString "named_layout"]) (Xt := (fun s => xlAt hd.view_39 [] s && recOk (RowW.records PySem.Challenge.rw_og0256_01.row.toRowW) s)) (XP := XL hd.view_39 []) (Yf := (kHook hd.heap_39 hd.as hd.as_ok).obs) (Ya := (kHook hd.heap_39 hd.as hd.as_ok).val) (YP := (kHook hd.heap_39 hd.as hd.as_ok).says) (N := 3026) hd.left
    (Hook.of (kHook hd.heap_39 hd.as hd.as_ok)) (Hook.keeps (kHook hd.heap_39 hd.as hd.as_ok)) (fun s e => xl_of s (Bool.and_eq_true_iff.mp e).1) XL.keeps (by kernel_rfl) (by kernel_rfl) (by kernel_rfl) (fun s e => recFacts_of (Bool.and_eq_true_iff.mp e).2) (by rfl) said (by decide +kernel)
    ⟨rfl, rfl, rfl, rfl, rfl, by decide +kernel⟩ ⟨[WData.list []], by decide +kernel, by decide +kernel⟩ walk

theorem ne_sn {α β : Type} {f : α → Option β} {a b : α} {o : β} (h : f a = some o) (e : f b = none) : a ≠ b := fun q => by rw [q, e] at h; cases h
theorem ne_ns {α β : Type} {f : α → Option β} {a b : α} {o : β} (h : f a = none) (e : f b = some o) : a ≠ b := fun q => by rw [q, e] at h; cases h
@[elab_as_elim] theorem map_op {α β : Type} {f : α → β} {xs : List α} {i : Nat} {v : β} {C : β → Prop} (h : (xs.map f)[i]? = some v) (k : ∀ x, xs[i]? = some x → C (f x)) : C v := by
  rw [List.getElem?_map, Option.map_eq_some_iff] at h
  obtain ⟨x, hx, rfl⟩ := h
  exact k x hx
@[elab_as_elim] theorem mem_op {α β : Type} {f : α → β} {xs : List α} {y : β} {C : β → Prop} (h : y ∈ xs.map f) (k : ∀ x, x ∈ xs → C (f x)) : C y := by
  obtain ⟨x, hx, rfl⟩ := List.mem_map.mp h
  exact k x hx
theorem ne_ss {α β : Type} {f : α → Option β} {a b : α} {o o' : β} (h : f a = some o) (e : f b = some o') (d : o ≠ o') : a ≠ b := fun q => by rw [q, e] at h; exact d (Option.some.inj h).symm
@[elab_as_elim] theorem mem_cons_op {α : Type} {a x : α} {l : List α} {C : α → Prop} (h : x ∈ a :: l) (h1 : C a) (h2 : ∀ y, y ∈ l → C y) : C x := by
  rcases List.mem_cons.mp h with rfl | h
  · exact h1
  · exact h2 x h
theorem bnot_of {q r : Bool} (h : ¬ q = r) : q = !r := by cases q <;> cases r <;> simp at h ⊢


/-- what an address of the heap is known to hold -/
inductive AO where
  | lst (vs : List Value)
  | tup (vs : List Value)
  | inst (dx : Addr)
  | cd (k w h x y p n : Value)
  | cel (v : Option Value)
  | obj (o : Obj)
  | opq (p : Obj → Prop)

noncomputable def cdEs (P : Params) (k w h x y p n : Value) (t : Fin 7 → Tok) : List DictEntry :=
  [⟨PyData.keyHash P "kind", .str "kind" (t 0), k⟩, ⟨PyData.keyHash P "width", .str "width" (t 1), w⟩, ⟨PyData.keyHash P "height", .str "height" (t 2), h⟩,
   ⟨PyData.keyHash P "x", .str "x" (t 3), x⟩, ⟨PyData.keyHash P "y", .str "y" (t 4), y⟩, ⟨PyData.keyHash P "parts", .str "parts" (t 5), p⟩, ⟨PyData.keyHash P "pane", .str "pane" (t 6), n⟩]

noncomputable def AO.Is (P : Params) : AO → Obj → Prop
  | .lst vs, o => ∃ n, o = listOf vs.toArray n
  | .tup vs, o => ∃ n, o = { cls := .type "tuple", data := .seq vs.toArray n }
  | .inst dx, o => o = instObj 32 dx
  | .cd k w h x y p n, o => ∃ t, o = dictOf (cdEs P k w h x y p n t) 7
  | .cel v, o => o.data = .cell v
  | .obj o', o => o = o'
  | .opq p, o => p o

noncomputable abbrev AH := Addr → Option AO
noncomputable def AH.set (H : AH) (a : Addr) (o : AO) : AH := fun b => if b = a then some o else H b
theorem set_self {H : AH} {a : Addr} {o : AO} : (H.set a o) a = some o := by simp [AH.set]
theorem set_ne {H : AH} {a b : Addr} {o : AO} {r : Option AO} (hr : H b = r) (h : b ≠ a) : (H.set a o) b = r := by simp [AH.set, h, hr]
theorem set_new {H : AH} {a b : Addr} {o o' : AO} (hb : H b = some o') (ha : H a = none) : (H.set a o) b = some o' :=
  set_ne hb (by first | exact ne_sn hb ha | exact ne_ns hb ha | exact ne_sn ha hb | exact ne_ns ha hb)
/-- the frame at hand -/
structure St (w : World) (z : Shared) (B : Heap) (H : AH) (L : Addr) (O : List Addr) (m : Str → Option Value) (s : Shared) : Prop where
  ns : s.heap.Ns L m
  keep : ∀ b o, B.get? b = some o → s.heap.get? b = some o
  gnd : ∀ b o, z.heap.get? b = some o → B.get? b = some o
  offB : B.get? L = none
  offH : H L = none
  real : ∀ a o, H a = some o → ∃ ob, s.heap.get? a = some ob ∧ o.Is w.params ob
  above : z.heap.objs.size ≤ L
  outs : ∀ a ∈ O, H a = none ∧ ∃ o, B.get? a = some o
  same : s.gens = z.gens ∧ s.drawn = z.drawn ∧ s.os = z.os

/-- the top of the text, as it stands at the law's call -/
structure Gd (w : World) (z : Shared) : Prop where
  K : (hd.heap_39 w.params).In z.heap
  T : ∃ p loose mg mb, TopRead p loose mg mb z.heap

noncomputable def Rm (n : Nat) (A : Around) : Prop := A.handled = none ∧ A.depth + n ≤ 900 ∧ A.units + 20 * n ≤ 9000
theorem Rm.mono {m n : Nat} {A : Around} (h : Rm m A) (hn : n ≤ m) : Rm n A := ⟨h.1, by have := h.2.1; omega, by have := h.2.2; omega⟩
theorem Rm.deeper {n : Nat} {A : Around} {env : Env} (h : Rm (n + 1) A) : Rm n (A.deeper env) :=
  ⟨h.1, by have := h.2.1; rw [depth_deeper]; omega, by have := h.2.2; rw [units_deeper]; omega⟩
theorem Rm.room {n : Nat} {A : Around} (h : Rm n A) : A.depth < recursionLimit := by have := h.2.1; show A.depth < 1000; omega
section
variable {prog : Program} {w : World} {A : Around} {E : Value → Shared → Prop} {z s : Shared} {B : Heap} {H : AH} {L : Addr} {O : List Addr} {m : Str → Option Value} {env : Env}

theorem St.zkeep (S : St w z B H L O m s) : ∀ b o, z.heap.get? b = some o → s.heap.get? b = some o := fun b o e => S.keep b o (S.gnd b o e)
theorem St.K (S : St w z B H L O m s) (G : Gd w z) : (hd.heap_39 w.params).In s.heap := G.K.keeps S.zkeep
theorem St.ne (S : St w z B H L O m s) {a : Addr} {o : AO} (h : H a = some o) : a ≠ L := by first | exact ne_sn h S.offH | exact ne_ns h S.offH | exact ne_sn S.offH h | exact ne_ns S.offH h

/-- another count of tokens, less known -/
theorem St.toks (S : St w z B H L O m s) (t : Nat) : St w z B H L O m { s with toks := t } := ⟨S.ns, S.keep, S.gnd, S.offB, S.offH, S.real, S.above, S.outs, S.same⟩
theorem St.weaken (S : St w z B H L O m s) {H' : AH} (h : ∀ a o, H' a = some o → H a = some o) : St w z B H' L O m s := by
  have hn : ∀ {a}, H a = none → H' a = none := fun {a} e => by
    cases q : H' a with
    | none => rfl
    | some o => have := h _ _ q; rw [e] at this; cases this
  exact ⟨S.ns, S.keep, S.gnd, S.offB, hn S.offH, fun a o e => S.real a o (h a o e), S.above, fun a ha => ⟨hn (S.outs a ha).1, (S.outs a ha).2⟩, S.same⟩
/-- a state that keeps all that stood -/
theorem St.grown (S : St w z B H L O m s) {s' : Shared} (k : ∀ b o, s.heap.get? b = some o → s'.heap.get? b = some o) (e : s'.gens = s.gens ∧ s'.drawn = s.drawn ∧ s'.os = s.os) : St w z B H L O m s' :=
  ⟨S.ns.keeps k, fun b o q => k b o (S.keep b o q), S.gnd, S.offB, S.offH, fun a o q => let ⟨ob, x, y⟩ := S.real a o q; ⟨ob, k _ _ x, y⟩, S.above, S.outs, ⟨e.1.trans S.same.1, e.2.1.trans S.same.2.1, e.2.2.trans S.same.2.2⟩⟩
/-- a new object -/
theorem St.new (S : St w z B H L O m s) {s' : Shared} {l : Addr} {o : AO} {ob : Obj} (hl : s.heap.get? l = none) (k : ∀ b o, s.heap.get? b = some o → s'.heap.get? b = some o) (e : s'.gens = s.gens ∧ s'.drawn = s.drawn ∧ s'.os = s.os)
    (hg : s'.heap.get? l = some ob) (hi : o.Is w.params ob) : St w z B (H.set l o) L O m s' ∧ H l = none ∧ B.get? l = none := by
  have S' := S.grown k e
  have hL : l ≠ L := by rintro rfl; obtain ⟨o, _, _, x, _⟩ := S.ns; rw [hl] at x; cases x
  refine ⟨⟨S'.ns, S'.keep, S'.gnd, S'.offB, by simp [AH.set, Ne.symm hL, S.offH], fun a o' q => ?_, S'.above, fun a ha => ?_, S'.same⟩, ?_, ?_⟩
  · unfold AH.set at q
    split at q
    · rename_i h; cases q; subst h; exact ⟨ob, hg, hi⟩
    · exact S'.real a o' q
  · obtain ⟨x, o', y⟩ := S.outs a ha
    exact ⟨set_ne x (by rintro rfl; have := S.keep _ _ y; rw [hl] at this; cases this), o', y⟩
  · cases q : H l with
    | none => rfl
    | some o => obtain ⟨_, x, _⟩ := S.real _ _ q; rw [hl] at x; cases x
  · cases q : B.get? l with
    | none => rfl
    | some o => have := S.keep _ _ q; rw [hl] at this; cases this
/-- an object turned -/
theorem St.turn (S : St w z B H L O m s) {s' : Shared} {d : Addr} {o₀ o : AO} {ob : Obj} (hd : H d = some o₀) (hB : B.get? d = none) (k : ∀ b o, b ≠ d → s.heap.get? b = some o → s'.heap.get? b = some o)
    (e : s'.gens = s.gens ∧ s'.drawn = s.drawn ∧ s'.os = s.os) (hg : s'.heap.get? d = some ob) (hi : o.Is w.params ob) : St w z B (H.set d o) L O m s' := by
  have hL : d ≠ L := S.ne hd
  refine ⟨S.ns.at' (fun o q => k _ _ (Ne.symm hL) q), fun b o q => k b o (by first | exact ne_sn q hB | exact ne_ns q hB | exact ne_sn hB q | exact ne_ns hB q) (S.keep b o q), S.gnd, S.offB, by simp [AH.set, Ne.symm hL, S.offH], fun a o' q => ?_, S.above, fun a ha => ⟨set_ne (S.outs a ha).1 (by first | exact ne_sn hd ((S.outs _ ha).1) | exact ne_ns hd ((S.outs _ ha).1) | exact ne_sn ((S.outs _ ha).1) hd | exact ne_ns ((S.outs _ ha).1) hd), (S.outs a ha).2⟩, ⟨e.1.trans S.same.1, e.2.1.trans S.same.2.1, e.2.2.trans S.same.2.2⟩⟩
  unfold AH.set at q
  split at q
  · rename_i h; cases q; subst h; exact ⟨ob, hg, hi⟩
  · rename_i h; let ⟨ob, x, y⟩ := S.real a o' q; exact ⟨ob, k _ _ h x, y⟩
/-- a name stored -/
theorem St.stored (S : St w z B H L O m s) {h' : Heap} {m' : Str → Option Value} {t : Nat} (hn : h'.Ns L m') (hs : Heap.SameBut L s.heap h') : St w z B H L O m' { s with heap := h', toks := t } := by
  have k : ∀ b o, b ≠ L → s.heap.get? b = some o → h'.get? b = some o := fun b o hb q => (hs.2 b hb).trans q
  exact ⟨hn, fun b o q => k b o (by first | exact ne_sn q S.offB | exact ne_ns q S.offB | exact ne_sn S.offB q | exact ne_ns S.offB q) (S.keep b o q), S.gnd, S.offB, S.offH, fun a o q => let ⟨ob, x, y⟩ := S.real a o q; ⟨ob, k _ _ (S.ne q) x, y⟩, S.above, S.outs, S.same⟩

/-! names -/
/-- a name of a function's frame, of the kind k -/
noncomputable def okN (k : NameKind) (env : Env) (x : Str) : Bool := decide (env.scope.kind = .function ∧ env.kindOf x = some k ∧ (x == ("__debug__" : Str)) = false)
noncomputable def okG (env : Env) (x : Str) : Bool := decide (env.globals = mainGlobals) && okN .globalImplicit env x
noncomputable def okB (env : Env) (x : Str) : Bool := decide (env.builtins = builtinsNs) && decide (x ≠ ("__name__" : Str)) && okG env x
theorem okN_h {k : NameKind} {env : Env} {x : Str} (h : true = okN k env x) : env.scope.kind = .function ∧ env.kindOf x = some k ∧ (x == ("__debug__" : Str)) = false := of_decide_eq_true h.symm
theorem okG_h {env : Env} {x : Str} (h : true = okG env x) : env.globals = mainGlobals ∧ true = okN .globalImplicit env x := have h' := Bool.and_eq_true_iff.mp h.symm; ⟨of_decide_eq_true h'.1, h'.2.symm⟩
theorem okB_h {env : Env} {x : Str} (h : true = okB env x) : env.builtins = builtinsNs ∧ x ≠ "__name__" ∧ true = okG env x :=
  have h' := Bool.and_eq_true_iff.mp h.symm
  ⟨of_decide_eq_true (Bool.and_eq_true_iff.mp h'.1).1, of_decide_eq_true (Bool.and_eq_true_iff.mp h'.1).2, h'.2.symm⟩
theorem r_local (S : St w z B H L O m s) {x : Str} {pos : Pos} {v : Value} {Q : Value → Shared → Prop} (hv : m x = some v) (h : Q v s)
    (hL : L = env.locals := by rfl) (hb : true = (okN .local env x) := by rfl) :
    wpAny (model prog w) A (eval (.Name x pos) env) Q E s := wpAny_Name (wpAny_loadName_local (okN_h hb).1 (okN_h hb).2.1 (hL ▸ S.ns) hv h) (okN_h hb).2.2
theorem r_glob (S : St w z B H L O m s) (G : Gd w z) {x : Str} {pos : Pos} {v : Value} {Q : Value → Shared → Prop} (e : ∀ P, nsIn (hd.heap_39 P) mainGlobals x = some (some v)) (h : Q v s)
    (hb : true = (okG env x) := by rfl) :
    wpAny (model prog w) A (eval (.Name x pos) env) Q E s := by
  obtain ⟨p, loose, mg, mb, T⟩ := G.T
  obtain ⟨hg, hb⟩ := okG_h hb
  exact Name_function_global (okN_h hb).1 (okN_h hb).2.1 (loadGlobal_global (hg ▸ (T.g.keeps S.zkeep)) (mg_of G.K T.g (e _)) h) (okN_h hb).2.2
theorem r_builtin (S : St w z B H L O m s) (G : Gd w z) {x : Str} {pos : Pos} {v : Value} {Q : Value → Shared → Prop} (e : ∀ P, nsIn (hd.heap_39 P) mainGlobals x = some none) (hv : bootBuiltins x = some v) (h : Q v s)
    (hb : true = (okB env x) := by rfl) :
    wpAny (model prog w) A (eval (.Name x pos) env) Q E s := by
  obtain ⟨p, loose, mg, mb, T⟩ := G.T
  obtain ⟨hb, hn, hk⟩ := okB_h hb
  obtain ⟨hg, hk⟩ := okG_h hk
  exact Name_function_global (okN_h hk).1 (okN_h hk).2.1 (loadGlobal_builtin (hg ▸ (T.g.keeps S.zkeep)) (mg_none_of G.K T.g (e _)) (hb ▸ (T.b.keeps S.zkeep)) ((T.builtins x hn).trans hv) h) (okN_h hk).2.2
theorem r_cell (S : St w z B H L O m s) {x : Str} {pos : Pos} {v : Value} {c : Addr} {Q : Value → Shared → Prop} (hc : env.cells.lookup x = some c) (hm : H c = some (.cel (some v))) (h : Q v s)
    (hb : true = (okN .cell env x) := by rfl) :
    wpAny (model prog w) A (eval (.Name x pos) env) Q E s :=
  let ⟨ob, x1, x2⟩ := S.real _ _ hm
  wpAny_Name (wpAny_loadName_cell (okN_h hb).1 (okN_h hb).2.1 hc ⟨ob, x1, x2⟩ h) (okN_h hb).2.2
theorem r_free (S : St w z B H L O m s) {x : Str} {pos : Pos} {v : Value} {c : Addr} {Q : Value → Shared → Prop} (hc : env.cells.lookup x = some c) (hm : H c = some (.cel (some v))) (h : Q v s)
    (hb : true = (okN .free env x) := by rfl) (hn : false = (x == ("__classdict__" : Str)) := by rfl) :
    wpAny (model prog w) A (eval (.Name x pos) env) Q E s :=
  let ⟨ob, x1, x2⟩ := S.real _ _ hm
  wpAny_Name (wpAny_loadName_free (okN_h hb).1 (okN_h hb).2.1 hc ⟨ob, x1, x2⟩ h hn.symm) (okN_h hb).2.2

noncomputable def upd (m : Str → Option Value) (x : Str) (v : Value) : Str → Option Value := fun y => if y = x then some v else m y

theorem r_store (S : St w z B H L O m s) {x : Str} {v : Value} {Q : Unit → Shared → Prop} (h : ∀ s', St w z B H L O (upd m x v) s' → Q () s')
    (hL : L = env.locals := by rfl) (hb : true = (okN .local env x) := by rfl) : wpAny (model prog w) A (storeName env x v) Q E s :=
  wpAny_storeName_local (okN_h hb).2.1 (hL ▸ S.ns) (fun h' hn hs => h _ (S.stored (hL ▸ hn) (hL ▸ hs))) (by rw [(okN_h hb).1]; rfl)
theorem r_storeC (S : St w z B H L O m s) {x : Str} {v : Value} {v₀ : Option Value} {c : Addr} {Q : Unit → Shared → Prop} (hc : env.cells.lookup x = some c) (hm : H c = some (.cel v₀)) (hB : B.get? c = none) (h : ∀ s', St w z B (H.set c (.cel (some v))) L O m s' → Q () s')
    (hb : true = (okN .cell env x) := by rfl) : wpAny (model prog w) A (storeName env x v) Q E s := by
  obtain ⟨ob, x1, x2⟩ := S.real _ _ hm
  refine wpAny_storeName_cell (okN_h hb).1 (okN_h hb).2.1 hc ⟨ob, x1, x2⟩ fun h' hv hs => ?_
  obtain ⟨o', ho', hd'⟩ := hv
  exact h _ (S.turn (s' := { s with heap := h' }) hm hB (fun b o hb q => (hs.2 b hb).trans q) ⟨rfl, rfl, rfl⟩ ho' hd')

noncomputable def retOf : Flow → Value | .ret v => v | _ => .none

/-- the end of a called def's body: the caller's frame again -/
noncomputable def Lv (w : World) (z : Shared) (B : Heap) (L : Addr) (O : List Addr) (m : Str → Option Value) (B' : Heap) (L' : Addr) (Q : Value → Shared → Prop) (fl : Flow) (s : Shared) : Prop :=
  ∃ H' m', St w z B' H' L' (L :: O) m' s ∧ (St w z B H' L O m s → Q (retOf fl) s)

theorem St.leave (S : St w z B H L O m s) {B' : Heap} {H' : AH} {L' : Addr} {m' : Str → Option Value} {s' : Shared} {Ms : List Addr} (hM : ∀ d ∈ Ms, B.get? d = none ∧ ∃ o, H d = some o)
    (hB : ∀ b o, s.heap.get? b = some o → b ∉ Ms → B'.get? b = some o) (S' : St w z B' H' L' (L :: O) m' s') : St w z B H' L O m s' := by
  have kB : ∀ b o, B.get? b = some o → B'.get? b = some o := fun b o e => hB b o (S.keep b o e) fun q => by rw [(hM b q).1] at e; cases e
  refine ⟨S.ns.at' fun o e => S'.keep _ _ (hB _ _ e fun q => ?_), fun b o e => S'.keep b o (kB b o e), S.gnd, S.offB, (S'.outs L (.head _)).1, S'.real, S.above, fun a ha => ⟨(S'.outs a (.tail _ ha)).1, (S.outs a ha).2⟩, S'.same⟩
  obtain ⟨o, x⟩ := (hM L q).2
  rw [S.offH] at x; cases x

theorem St.enter (S : St w z B H L O m s) {Ms : List Addr} (hM : ∀ d ∈ Ms, B.get? d = none ∧ ∃ o, H d = some o) {h₁ : Heap} {m' : Str → Option Value} {t : Nat} {L' : Addr}
    (hL : s.heap.objs.size ≤ L') (hn : h₁.Ns L' m') (hk : ∀ b o, s.heap.get? b = some o → h₁.get? b = some o) : St w z (hideAll s.heap Ms) H L' (L :: O) m' { s with heap := h₁, toks := t } := by
  have fresh : s.heap.get? L' = none := Heap.get?_none_of_le hL
  refine ⟨hn, fun b o e => hk b o (of_hideAll _ e), fun b o e => hideAll_get _ (S.zkeep b o e) fun q => ?_, ?_, ?_, fun a o e => let ⟨ob, x, y⟩ := S.real a o e; ⟨ob, hk _ _ x, y⟩, ?_, fun a ha => ?_, S.same⟩
  · have := S.gnd b o e; rw [(hM b q).1] at this; cases this
  · cases q : (hideAll s.heap Ms).get? L' with
    | none => rfl
    | some o => have := of_hideAll _ q; rw [fresh] at this; cases this
  · cases q : H L' with
    | none => rfl
    | some o => obtain ⟨_, x, _⟩ := S.real _ _ q; rw [fresh] at x; cases x
  · obtain ⟨o, _, _, x, _⟩ := S.ns
    exact Nat.le_trans S.above (Nat.le_trans (Nat.le_of_lt (Heap.lt_size x)) hL)
  · rcases List.mem_cons.mp ha with rfl | ha
    · obtain ⟨o, _, _, x, _⟩ := S.ns
      exact ⟨S.offH, o, hideAll_get _ x fun q => by obtain ⟨o, x⟩ := (hM _ q).2; rw [S.offH] at x; cases x⟩
    · obtain ⟨x, o, y⟩ := S.outs a ha
      exact ⟨x, o, hideAll_get _ (S.keep _ _ y) fun q => by obtain ⟨o, x'⟩ := (hM _ q).2; rw [x] at x'; cases x'⟩

/-- a call of a def without cells: Ms the objects that it may turn -/
theorem enter (S : St w z B H L O m s) (G : Gd w z) {n : Nat} (hA : Rm (n + 1) A) {f : Addr} {o : Obj} {fd : FuncData} {body : List Stmt} {args : Args} {binds : List (Str × Value)} {Q : Value → Shared → Prop}
    (ho : (hd.heap_39 w.params).lookup f = some o) (hdata : o.data = .func fd) (hcd : codeIn (hd.heap_39 w.params) fd.code fd.qualname = true) (hbody : fd.body = .stmts body) (hbind : BindsTo s fd args binds)
    (hcell : ∀ x ∈ fd.scope.names, x.2 ≠ .cell) (hloc : ∀ x ∈ binds, fd.scope.names.lookup x.1 = some .local) (Ms : List Addr) (hM : ∀ d ∈ Ms, B.get? d = none ∧ ∃ o, H d = some o)
    (h : ∀ A' B' L' s' E', Rm n A' → (∀ d ∈ Ms, B'.get? d = none) → (∀ b, B'.get? b = none → B.get? b = none) → St w z B' H L' (L :: O) (fun x => binds.reverse.lookup x) s' →
      wpAny (model prog w) A' (execs body (callEnv fd L' f)) (Lv w z B L O m B' L' Q) E' s')
    (hco : fd.scope.isCoroutine = false := by rfl) (hgen : fd.scope.isGenerator = false := by rfl) (hk : fd.scope.kind = .function := by rfl) :
    codeAny (model prog w) A (.call (.ref f) args) (fun r s' => match r with | .ok (.ret v) => Q v s' | .ok _ => False | .error e => E e s') s := by
  obtain ⟨p, loose, mg, mb, T⟩ := G.T
  refine codeAny_call_def hA.room (S.K G _ _ ho) hdata (T.nolimit.keeps S.zkeep) (codeRec_of (S.K G) hcd) hbody hbind hcell hloc (fun h₁ hns hk₁ => ?_) hco hgen hk
  have S' := S.enter hM (Nat.le_refl _) hns hk₁ (t := s.toks + binds.length)
  refine wpAny_mono (h _ _ _ _ _ hA.deeper (fun d hd => hideAll_none _ hd) (fun b e => ?_) S') (fun fl s₂ hl => ?_) fun _ _ e => e
  · cases q : B.get? b with
    | none => rfl
    | some o => have := hideAll_get Ms (S.keep _ _ q) (fun x => by rw [(hM _ x).1] at q; cases q); rw [e] at this; cases this
  · obtain ⟨H', m', S'', k⟩ := hl
    exact k (S.leave hM (fun b o e q => hideAll_get _ e q) S'')

/-- the same of a def with cells -/
theorem enterC (S : St w z B H L O m s) (G : Gd w z) {n : Nat} (hA : Rm (n + 1) A) {f : Addr} {o : Obj} {fd : FuncData} {body : List Stmt} {args : Args} {binds : List (Str × Value)} {Q : Value → Shared → Prop}
    (ho : (hd.heap_39 w.params).lookup f = some o) (hdata : o.data = .func fd) (hcd : codeIn (hd.heap_39 w.params) fd.code fd.qualname = true) (hbody : fd.body = .stmts body) (hbind : BindsTo s fd args binds)
    (hclo : fd.closure = []) (hkind : (binds.all fun y => fd.scope.names.lookup y.1 == some .local || fd.scope.names.lookup y.1 == some .cell) = true) (Ms : List Addr) (hM : ∀ d ∈ Ms, B.get? d = none ∧ ∃ o, H d = some o)
    (h : ∀ A' B' H' L' s' E', Rm n A' → (∀ d ∈ Ms, B'.get? d = none) → (∀ b, B'.get? b = none → B.get? b = none) → (∀ a o, H a = some o → H' a = some o) →
      (∀ x c, (cellsFrom (L' + 1) fd.scope.names []).lookup x = some c → H' c = some (.cel (bindC (callEnvC fd L' f).kindOf binds (fun _ => none) x)) ∧ B'.get? c = none ∧ H c = none) →
      St w z B' H' L' (L :: O) (bindL (callEnvC fd L' f).kindOf binds fun _ => none) s' →
      wpAny (model prog w) A' (execs body (callEnvC fd L' f)) (Lv w z B L O m B' L' Q) E' s')
    (hco : fd.scope.isCoroutine = false := by rfl) (hgen : fd.scope.isGenerator = false := by rfl) (hk : fd.scope.kind = .function := by rfl) :
    codeAny (model prog w) A (.call (.ref f) args) (fun r s' => match r with | .ok (.ret v) => Q v s' | .ok _ => False | .error e => E e s') s := by
  obtain ⟨p, loose, mg, mb, T⟩ := G.T
  refine codeAny_call_function hA.room (S.K G _ _ ho) hdata hco hgen hbody (codeRec_of (S.K G) hcd) (hbind _ _ _ _ ?_)
  rw [hclo]
  refine wpAny_newFunctionEnv_cells hk (kindsX hkind _) fun env' he s' x => ?_
  subst he
  refine ⟨(T.nolimit.keeps S.zkeep).keeps x.toInCall.keep, codeAny_func ?_⟩
  obtain ⟨h₁, tk, rfl, _⟩ := x.done
  have S' := S.enter hM (Nat.le_refl _) x.toInCall.ns x.toInCall.keep (t := tk)
  have fresh : ∀ y c, (y, c) ∈ cellsFrom (s.heap.objs.size + 1) fd.scope.names [] → s.heap.get? c = none := fun y c hm => Heap.get?_none_of_le (Nat.le_of_lt (x.above y c hm))
  have hHn : ∀ c, s.heap.get? c = none → H c = none := fun c e => by
    cases q : H c with
    | none => rfl
    | some o => obtain ⟨_, y, _⟩ := S.real _ _ q; rw [e] at y; cases y
  let cs := cellsFrom (s.heap.objs.size + 1) fd.scope.names []
  let cm := bindC (callEnvC fd s.heap.objs.size f).kindOf binds fun _ => none
  let H' : AH := fun a => match H a with | some o => some o | none => (cs.find? fun q => q.2 == a).bind fun q => if cs.lookup q.1 = some a then some (.cel (cm q.1)) else none
  have le : ∀ a o, H a = some o → H' a = some o := fun a o e => by simp only [H', e]
  have S₂ : St w z (hideAll s.heap Ms) H' s.heap.objs.size (L :: O) (bindL (callEnvC fd s.heap.objs.size f).kindOf binds fun _ => none) { s with heap := h₁, toks := tk } := by
    have off : ∀ a, H a = none → (∀ y, (y, a) ∈ cs → False) → H' a = none := fun a e n => by
      simp only [H', e]
      cases q : cs.find? (fun q => q.2 == a) with
      | none => rfl
      | some q' =>
        exfalso
        have h1 := List.mem_of_find?_eq_some q
        have h2 := List.find?_some q
        exact n q'.1 (by rw [← beq_iff_eq.mp h2]; exact h1)
    refine ⟨S'.ns, S'.keep, S'.gnd, S'.offB, off _ S'.offH fun y hm => absurd (x.above y _ hm) (Nat.lt_irrefl _), fun a o e => ?_, S'.above, fun a ha => ⟨off _ (S'.outs a ha).1 fun y hm => ?_, (S'.outs a ha).2⟩, S'.same⟩
    · simp only [H'] at e
      split at e
      · rename_i q; cases e; exact S'.real a _ q
      · cases q : cs.find? (fun q => q.2 == a) with
        | none => rw [q] at e; cases e
        | some q' =>
          rw [q, Option.bind_some] at e
          split at e
          · rename_i hl; cases e; exact x.cell _ _ hl
          · cases e
    · obtain ⟨o, y'⟩ := (S'.outs a ha).2
      have := of_hideAll _ y'
      rw [fresh y a hm] at this; cases this
  refine wpAny_mono (h _ _ H' _ _ _ hA.deeper (fun d hd => hideAll_none _ hd) (fun b e => ?_) le (fun y c hl => ?_) S₂) (fun fl s₂ hl => ?_) fun _ _ e => e
  · cases q : B.get? b with
    | none => rfl
    | some o => have := hideAll_get Ms (S.keep _ _ q) (fun x => by rw [(hM _ x).1] at q; cases q); rw [e] at this; cases this
  · have hm := mem_of_lookup hl
    have hs := fresh y c hm
    refine ⟨?_, ?_, hHn c hs⟩
    · have hn := hHn c hs
      simp only [H', hn]
      cases q : cs.find? (fun q => q.2 == c) with
      | none =>
        have := List.find?_eq_none.mp q (y, c) hm
        simp at this
      | some q' =>
        have h1 := List.mem_of_find?_eq_some q
        have h2' := List.find?_some q
        have h2 : q'.2 = c := by simpa using h2'
        have h3 : q'.1 = y := name_of_addr x.apart (by rw [← h2]; exact h1) hm
        rw [Option.bind_some, if_pos (by rw [h3]; exact hl), h3]
    · cases q : (hideAll s.heap Ms).get? c with
      | none => rfl
      | some o => have := of_hideAll _ q; rw [hs] at this; cases this
  · obtain ⟨H'', m', S'', k⟩ := hl
    exact k (S.leave hM (fun b o e q => hideAll_get _ e q) S'')
end


/-! the library's frames and ledgers, from a state of our own -/
noncomputable def allOf (z h : Heap) (L : Addr) : List (Addr × Obj) :=
  (List.range h.objs.size).filterMap fun a => if a = L then none else match z.get? a with | some _ => none | none => (h.get? a).map fun o => (a, o)
theorem mem_allOf {z h : Heap} {L a : Addr} {o : Obj} : (a, o) ∈ allOf z h L ↔ a ≠ L ∧ z.get? a = none ∧ h.get? a = some o := by
  unfold allOf
  rw [List.mem_filterMap]
  constructor
  · rintro ⟨b, hb, e⟩
    split at e
    · cases e
    · rename_i hne
      split at e
      · cases e
      · rename_i hz
        cases q : h.get? b with
        | none => rw [q] at e; cases e
        | some o' => rw [q] at e; cases e; exact ⟨hne, hz, q⟩
  · rintro ⟨h1, h2, h3⟩
    exact ⟨a, List.mem_range.mpr (Heap.lt_size h3), by simp [h1, h2, h3]⟩

section
variable {prog : Program} {w : World} {A : Around} {E : Value → Shared → Prop} {z s : Shared} {B : Heap} {H : AH} {L : Addr} {O : List Addr} {m : Str → Option Value} {env : Env}

theorem St.fr (S : St w z B H L O m s) : Fr z.heap L s.heap m := ⟨S.ns, S.zkeep, S.above⟩
theorem all_news {z h : Heap} {L : Addr} : News z L h (allOf z h L) := fun p hp => by
  obtain ⟨a, o⟩ := p
  obtain ⟨h1, h2, h3⟩ := mem_allOf.mp hp
  exact ⟨h3, h1, h2⟩
theorem keep_of_all {z h h' : Heap} {L : Addr} {m : Str → Option Value} {news : List (Addr × Obj)} (F : Fr z L h' m) (N : News z L h' news) (d : Option Addr) (hs : ∀ p ∈ allOf z h L, some p.1 ≠ d → p ∈ news)
    (hzk : ∀ b o, z.get? b = some o → h.get? b = some o) : ∀ b o, b ≠ L → some b ≠ d → h.get? b = some o → h'.get? b = some o := by
  intro b o hb hd e
  cases q : z.get? b with
  | none => exact (N (b, o) (hs _ (mem_allOf.mpr ⟨hb, q, e⟩) hd)).1
  | some o' =>
    have := hzk b o' q
    rw [e] at this; cases this
    exact F.keep b _ q
theorem St.of_uni (S : St w z B H L O m s) {h' : Heap} {t : Nat} {m' : Str → Option Value} (F : Fr z.heap L h' m') (N : News z.heap L h' (allOf z.heap s.heap L)) : St w z B H L O m' { s with heap := h', toks := t } := by
  have k := keep_of_all F N none (fun p hp _ => hp) S.zkeep
  exact ⟨F.ns, fun b o q => k b o (by first | exact ne_sn q S.offB | exact ne_ns q S.offB | exact ne_sn S.offB q | exact ne_ns S.offB q) (by simp) (S.keep b o q), S.gnd, S.offB, S.offH, fun a o q => let ⟨ob, x, y⟩ := S.real a o q; ⟨ob, k _ _ (S.ne q) (by simp) x, y⟩, S.above, S.outs, S.same⟩
theorem St.fresh_uni (S : St w z B H L O m s) {h' : Heap} {l : Addr} {ob : Obj} {ext : List (Addr × Obj)} (hl : ∀ p ∈ allOf z.heap s.heap L, p.1 < l) (N : News z.heap L h' ext) (hm : (l, ob) ∈ ext) : s.heap.get? l = none := by
  obtain ⟨h1, h2, h3⟩ := N (l, ob) hm
  cases q : s.heap.get? l with
  | none => rfl
  | some o => exact absurd (hl (l, o) (mem_allOf.mpr ⟨h2, h3, q⟩)) (Nat.lt_irrefl _)
theorem St.new_uni (S : St w z B H L O m s) {h' : Heap} {t : Nat} {l : Addr} {ob : Obj} {o : AO} (hl : s.heap.get? l = none) (F : Fr z.heap L h' m) (N : News z.heap L h' ((l, ob) :: allOf z.heap s.heap L))
    (hi : o.Is w.params ob) : St w z B (H.set l o) L O m { s with heap := h', toks := t } ∧ H l = none ∧ B.get? l = none := by
  have S' := S.of_uni (t := t) F fun p hp => N p (.tail _ hp)
  have hn : H l = none := by
    cases q : H l with
    | none => rfl
    | some o => obtain ⟨_, x, _⟩ := S.real _ _ q; rw [hl] at x; cases x
  have hb : B.get? l = none := by
    cases q : B.get? l with
    | none => rfl
    | some o => have := S.keep _ _ q; rw [hl] at this; cases this
  refine ⟨⟨S'.ns, S'.keep, S'.gnd, S'.offB, set_ne S'.offH (Ne.symm (N _ (.head _)).2.1), fun a o' q => ?_, S'.above, fun a ha => ⟨set_ne (S'.outs a ha).1 ?_, (S'.outs a ha).2⟩, S'.same⟩, hn, hb⟩
  · unfold AH.set at q
    split at q
    · rename_i h; cases q; subst h; exact ⟨ob, (N _ (.head _)).1, hi⟩
    · exact S'.real a o' q
  · rintro rfl
    obtain ⟨_, o', y⟩ := S.outs _ ha
    rw [hb] at y; cases y
theorem upd_all {z h : Heap} {L d : Addr} {o o' : Obj} (hd : h.get? d = some o) (hL : d ≠ L) (hz : z.get? d = none) :
    Upd d o o' ((d, o) :: (allOf z h L).filter fun p => p.1 != d) ((d, o') :: (allOf z h L).filter fun p => p.1 != d) :=
  .head fun p hp => by simpa using (List.mem_filter.mp hp).2
theorem news_all {z h : Heap} {L d : Addr} {o : Obj} (hd : h.get? d = some o) (hL : d ≠ L) (hz : z.get? d = none) : News z L h ((d, o) :: (allOf z h L).filter fun p => p.1 != d) := fun p hp => by
  rcases List.mem_cons.mp hp with rfl | hp
  · exact ⟨hd, hL, hz⟩
  · exact all_news p (List.mem_filter.mp hp).1
theorem St.turn_uni (S : St w z B H L O m s) {h' : Heap} {t : Nat} {d : Addr} {ob : Obj} {o₀ o : AO} (hd : H d = some o₀) (hB : B.get? d = none) (F : Fr z.heap L h' m)
    (N : News z.heap L h' ((d, ob) :: (allOf z.heap s.heap L).filter fun p => p.1 != d)) (hi : o.Is w.params ob) : St w z B (H.set d o) L O m { s with heap := h', toks := t } := by
  have k := keep_of_all (h := s.heap) F N (some d) (fun p hp hne => .tail _ (List.mem_filter.mpr ⟨hp, by simpa using hne⟩)) S.zkeep
  have hL : d ≠ L := S.ne hd
  refine ⟨F.ns, fun b o q => k b o (by first | exact ne_sn q S.offB | exact ne_ns q S.offB | exact ne_sn S.offB q | exact ne_ns S.offB q) (by rintro h; cases h; rw [hB] at q; cases q) (S.keep b o q), S.gnd, S.offB, set_ne S.offH (Ne.symm hL), fun a o' q => ?_, S.above, fun a ha => ⟨set_ne (S.outs a ha).1 (by first | exact ne_sn hd ((S.outs _ ha).1) | exact ne_ns hd ((S.outs _ ha).1) | exact ne_sn ((S.outs _ ha).1) hd | exact ne_ns ((S.outs _ ha).1) hd), (S.outs a ha).2⟩, S.same⟩
  unfold AH.set at q
  split at q
  · rename_i h; cases q; subst h; exact ⟨ob, (N _ (.head _)).1, hi⟩
  · rename_i h; let ⟨ob, x, y⟩ := S.real a o' q; exact ⟨ob, k _ _ (S.ne q) (by simpa using h) x, y⟩
theorem St.znone (S : St w z B H L O m s) {d : Addr} (hB : B.get? d = none) : z.heap.get? d = none := by
  cases q : z.heap.get? d with
  | none => rfl
  | some o => have := S.gnd _ _ q; rw [hB] at this; cases this
/-- the same object, said otherwise -/
theorem St.retype (S : St w z B H L O m s) {d : Addr} {o o' : AO} (hd : H d = some o) (h : ∀ ob, o.Is w.params ob → o'.Is w.params ob) : St w z B (H.set d o') L O m s := by
  refine ⟨S.ns, S.keep, S.gnd, S.offB, set_ne S.offH (Ne.symm (S.ne hd)), fun a q e => ?_, S.above, fun a ha => ⟨set_ne (S.outs a ha).1 (by first | exact ne_sn hd ((S.outs _ ha).1) | exact ne_ns hd ((S.outs _ ha).1) | exact ne_sn ((S.outs _ ha).1) hd | exact ne_ns ((S.outs _ ha).1) hd), (S.outs a ha).2⟩, S.same⟩
  unfold AH.set at e
  split at e
  · rename_i h'; cases e; subst h'
    obtain ⟨ob, x, y⟩ := S.real _ _ hd
    exact ⟨ob, x, h ob y⟩
  · exact S.real a q e

/-! facts of the written part -/
variable {P : Params}
theorem k_getattribute : findIn (hd.heap_39 P) (.ref 32) "__getattribute__" = some (some (.builtin "object.__getattribute__")) := by kernel_rfl
theorem k_setattr : findIn (hd.heap_39 P) (.ref 32) "__setattr__" = some (some (.builtin "object.__setattr__")) := by kernel_rfl
theorem k_plain : plainOver (hd.heap_39 P) 32 = true := by kernel_rfl
theorem k_hasdict : hasDictIn (hd.heap_39 P) 32 = true := by kernel_rfl
theorem k_makes : makesIn (hd.heap_39 P) 32 = true := by kernel_rfl
theorem k_init : findIn (hd.heap_39 P) (.ref 32) "__init__" = some (some (.ref 29)) := by kernel_rfl
theorem k_initfn : isFn (hd.heap_39 P) (.ref 29) = true := by kernel_rfl
noncomputable def isField (n : Str) : Bool := n == "kind" || n == "width" || n == "height" || n == "x" || n == "y" || n == "parts" || n == "pane"
theorem k_field {n : Str} (h : isField n = true) : findIn (hd.heap_39 P) (.ref 32) n = some none ∧ takerIn (hd.heap_39 P) 32 n = some none := by
  simp only [isField, Bool.or_eq_true, beq_iff_eq] at h
  rcases h with (((((rfl | rfl) | rfl) | rfl) | rfl) | rfl) | rfl <;> exact ⟨by kernel_rfl, by kernel_rfl⟩
noncomputable def fld (n : Str) (k w h x y p v : Value) : Option Value :=
  if n = "kind" then some k else if n = "width" then some w else if n = "height" then some h else if n = "x" then some x else if n = "y" then some y else if n = "parts" then some p else if n = "pane" then some v else none
theorem fld_get {n : Str} {k w h x y p v r : Value} {t : Fin 7 → Tok} (e : fld n k w h x y p v = some r) : isField n = true ∧ getL n (cdEs P k w h x y p v t) = some (some r) := by
  unfold fld at e
  (repeat' split at e) <;> first | cases e | skip
  all_goals (rename_i q; subst q; exact ⟨by decide, rfl⟩)
end


section
variable {prog : Program} {w : World} {A : Around} {E : Value → Shared → Prop} {z s : Shared} {B : Heap} {H : AH} {L : Addr} {O : List Addr} {m : Str → Option Value} {env : Env}

theorem St.inst (S : St w z B H L O m s) {c dx : Addr} {ao : AO} {ob : Obj} (hc : H c = some (.inst dx)) (hd : H dx = some ao) (ho : s.heap.get? dx = some ob) : W.InstAt s.heap c (instObj 32 dx) 32 (some ob) := by
  obtain ⟨oc, h1, h2⟩ := S.real _ _ hc
  cases h2
  exact ⟨h1, rfl, rfl, ho⟩

/-- a field read -/
theorem r_attr (S : St w z B H L O m s) (G : Gd w z) {c dx : Addr} {k wd h x y p n v : Value} {name : Str} {expr : Bool} {Q : Value → Shared → Prop} (hc : H c = some (.inst dx)) (hd : H dx = some (.cd k wd h x y p n))
    (hf : some v = fld name k wd h x y p n) (hv : handedIn v = true) (q : ∀ s', St w z B H L O m s' → Q v s') : wpAny (model prog w) A (getAttr (.ref c) name expr) Q E s := by
  obtain ⟨ob, h1, t, rfl⟩ := S.real _ _ hd
  obtain ⟨e1, e2⟩ := fld_get (P := w.params) (t := t) hf.symm
  exact get_value (S.K G) (S.inst hc hd h1) k_getattribute (findObj_own k_hasdict (k_field e1).1 rfl (by rw [lookIn_dict]; exact e2)) hv (q _ (S.toks _))

/-- an entry of an object put into its dict -/
theorem r_setobj (S : St w z B H L O m s) (G : Gd w z) {c dx : Addr} {es es' : List DictEntry} {n n' : Nat} {ao o' : AO} {name : Str} {v : Value} {Q : Unit → Shared → Prop} (hc : H c = some (.inst dx)) (hd : H dx = some ao) (hB : B.get? dx = none)
    (ho : s.heap.get? dx = some (dictOf es n)) (hf : isField name = true) (hl : (getL name es).isSome = true)
    (e : (putL name (PyData.keyHash w.params name) (.str name (s.toks + 1)) v es, putN name es n) = (es', n')) (hz : es'.length ≤ 1000) (hi : o'.Is w.params (dictOf es' n'))
    (q : ∀ s', St w z B (H.set dx o') L O m s' → Q () s') : wpAny (model prog w) A (setAttr (.ref c) name v) Q E s := by
  have hL := S.ne hd
  exact set_dict S.fr G.K (news_all ho hL (S.znone hB)) (S.inst hc hd ho) rfl k_setattr k_plain (k_field hf).2 k_hasdict hl e (upd_all ho hL (S.znone hB)) hz fun h' F' N' => q _ (S.turn_uni hd hB F' N' hi)

/-- a side or a corner turned -/
noncomputable def setF (name : Str) (v k wd h x y p n : Value) : Option AO :=
  if name = "width" then some (.cd k v h x y p n) else if name = "height" then some (.cd k wd v x y p n) else if name = "x" then some (.cd k wd h v y p n) else if name = "y" then some (.cd k wd h x v p n) else none
theorem setF_cases {name : Str} {v k wd h x y p n : Value} {o : AO} (e : some o = setF name v k wd h x y p n) {C : Str → AO → Prop}
    (h1 : C "width" (.cd k v h x y p n)) (h2 : C "height" (.cd k wd v x y p n)) (h3 : C "x" (.cd k wd h v y p n)) (h4 : C "y" (.cd k wd h x v p n)) : C name o := by
  unfold setF at e
  by_cases a : name = "width"
  · rw [if_pos a] at e; cases e; exact a ▸ h1
  rw [if_neg a] at e; clear a
  by_cases a : name = "height"
  · rw [if_pos a] at e; cases e; exact a ▸ h2
  rw [if_neg a] at e; clear a
  by_cases a : name = "x"
  · rw [if_pos a] at e; cases e; exact a ▸ h3
  rw [if_neg a] at e; clear a
  by_cases a : name = "y"
  · rw [if_pos a] at e; cases e; exact a ▸ h4
  rw [if_neg a] at e; cases e
theorem r_set (S : St w z B H L O m s) (G : Gd w z) {c dx : Addr} {k wd h x y p n v : Value} {name : Str} {o : AO} {Q : Unit → Shared → Prop} (hc : H c = some (.inst dx)) (hd : H dx = some (.cd k wd h x y p n)) (hB : B.get? dx = none)
    (e : some o = setF name v k wd h x y p n) (q : ∀ s', St w z B (H.set dx o) L O m s' → Q () s') : wpAny (model prog w) A (setAttr (.ref c) name v) Q E s := by
  obtain ⟨ob, h1, t, rfl⟩ := S.real _ _ hd
  refine setF_cases (C := fun name o => (∀ s', St w z B (H.set dx o) L O m s' → Q () s') → wpAny (model prog w) A (setAttr (.ref c) name v) Q E s) e (fun q => ?_) (fun q => ?_) (fun q => ?_) (fun q => ?_) q
  · exact r_setobj (es' := cdEs w.params k v h x y p n t) (n' := 7) (o' := .cd k v h x y p n) S G hc hd hB h1 rfl rfl rfl (Nat.le_of_ble_eq_true rfl) ⟨t, rfl⟩ q
  · exact r_setobj (es' := cdEs w.params k wd v x y p n t) (n' := 7) (o' := .cd k wd v x y p n) S G hc hd hB h1 rfl rfl rfl (Nat.le_of_ble_eq_true rfl) ⟨t, rfl⟩ q
  · exact r_setobj (es' := cdEs w.params k wd h v y p n t) (n' := 7) (o' := .cd k wd h v y p n) S G hc hd hB h1 rfl rfl rfl (Nat.le_of_ble_eq_true rfl) ⟨t, rfl⟩ q
  · exact r_setobj (es' := cdEs w.params k wd h x v p n t) (n' := 7) (o' := .cd k wd h x v p n) S G hc hd hB h1 rfl rfl rfl (Nat.le_of_ble_eq_true rfl) ⟨t, rfl⟩ q
/-- one row of the __init__: self.NAME = VALUE -/
theorem r_initrow (S : St w z B H L O m s) (G : Gd w z) {c dx : Addr} {es es' : List DictEntry} {n n' : Nat} {ao : AO} {name x self : Str} {p1 p2 p3 p4 : Pos} {v : Value} {rest : List Stmt} {Q : Flow → Shared → Prop} (hc : H c = some (.inst dx)) (hd : H dx = some ao) (hB : B.get? dx = none)
    (ho : s.heap.get? dx = some (dictOf es n)) (hf : isField name = true) (hl : (getL name es).isSome = true)
    (e : (putL name (PyData.keyHash w.params name) (.str name (s.toks + 1)) v es, putN name es n) = (es', n')) (hz : es'.length ≤ 1000)
    (hx : m x = some v) (hs : m self = some (.ref c)) (q : ∀ s', St w z B (H.set dx (.obj (dictOf es' n'))) L O m s' → wpAny (model prog w) A (execs rest env) Q E s')
    (hL : L = env.locals := by rfl) (kx : true = (okN .local env x) := by rfl) (ks : true = (okN .local env self) := by rfl)
    (hsw : swapsWith (.Name x p1) (some (.Attribute (.Name self p2) name p3)) p4.line env = pure false := by rfl) :
    wpAny (model prog w) A (execs (.Assign [.Attribute (.Name self p2) name p3] (.Name x p1) p4 :: rest) env) Q E s := by
  refine wpAny_execs_cons (plainObj_wpAny_Assign_Attribute ?_ hsw)
  refine r_local S hx ?_ hL kx
  refine r_local S hs ?_ hL ks
  exact r_setobj (o' := .obj (dictOf es' n')) S G hc hd hB ho hf hl e hz rfl q
end

section
variable {prog : Program} {w : World} {A : Around} {E : Value → Shared → Prop} {z s : Shared} {B : Heap} {H : AH} {L : Addr} {O : List Addr} {m : Str → Option Value} {env : Env}
theorem rm_make {n : Nat} {rest : List Value} (h : Rm (n + 1) A) : Rm n (A.under (.builtin "type.__call__" ⟨.ref 32 :: rest, []⟩)) := by
  refine ⟨h.1, ?_, ?_⟩
  · have := h.2.1
    show A.depth + 1 + n ≤ 900
    omega
  · have := h.2.2
    show A.units + 1 + 20 * n ≤ 9000
    omega
end

noncomputable def bodyOf (fd : FuncData) : List Stmt := match fd.body with | .stmts b => b | _ => []

/-- the body of the for loop that stands at a place -/
noncomputable def forAt (l : List Stmt) (i : Nat) : List Stmt := match l[i]? with | some (.For _ _ b _ _) => b | _ => []
noncomputable abbrev FdAt (f : Addr) := {fd : FuncData // ∀ P, ∃ oc od sl, (hd.heap_39 P).lookup f = some ⟨oc, od, .func fd, sl⟩}
noncomputable def fd29 : FdAt 29 := ⟨_, fun _ => ⟨_, _, _, rfl⟩⟩

section
variable {prog : Program} {w : World} {A : Around} {E : Value → Shared → Prop} {z s : Shared} {B : Heap} {H : AH} {L : Addr} {O : List Addr} {m : Str → Option Value} {env : Env}

theorem c_Cell (S : St w z B H L O m s) (G : Gd w z) {nn : Nat} (hA : Rm (nn + 4) A) {k wd h x y p n : Value} {Q : Value → Shared → Prop}
    (q : ∀ c dx s', St w z B ((H.set dx (.cd k wd h x y p n)).set c (.inst dx)) L O m s' → H c = none → H dx = none → B.get? c = none → B.get? dx = none → c ≠ dx → Q (.ref c) s') :
    wpAny (model prog w) A (call (.ref 32) [k, wd, h, x, y, p, n]) Q E s := by
  refine call_cls S.fr G.K all_news k_makes k_init k_initfn fun c dx h' F' N' l1 l2 => ?_
  have hdx : s.heap.get? dx = none := S.fresh_uni l1 N' (.tail _ (.head _))
  have hcx : s.heap.get? c = none := S.fresh_uni (fun p hp => Nat.lt_trans (l1 p hp) l2) N' (.head _)
  obtain ⟨S1, n1, b1⟩ := S.new_uni (t := s.toks) (o := .obj (dictOf [] 0)) hdx F' (fun p hp => N' p (.tail _ hp)) rfl
  obtain ⟨_, n2, b2⟩ := S.new_uni (t := s.toks) (o := .inst dx) hcx F' (fun p hp => N' p (by rcases List.mem_cons.mp hp with rfl | hp; exact .head _; exact .tail _ (.tail _ hp))) rfl
  have hne : c ≠ dx := Nat.ne_of_gt l2
  have S2 : St w z B ((H.set dx (.obj (dictOf [] 0))).set c (.inst dx)) L O m { s with heap := h', toks := s.toks } := by
    have hgc := (N' _ (.head _)).1
    have hcL := (N' _ (.head _)).2.1
    refine ⟨S1.ns, S1.keep, S1.gnd, S1.offB, set_ne S1.offH (Ne.symm hcL), fun a o e => ?_, S1.above, fun a ha => ⟨set_ne (S1.outs a ha).1 ?_, (S1.outs a ha).2⟩, S1.same⟩
    · unfold AH.set at e
      split at e
      · rename_i q; subst q; cases e; exact ⟨_, hgc, rfl⟩
      · exact S1.real a o e
    · rintro rfl
      obtain ⟨_, o', y⟩ := S1.outs _ ha
      rw [b2] at y; cases y
  have hc2 : ((H.set dx (.obj (dictOf [] 0))).set c (.inst dx)) c = some (.inst dx) := set_self
  have hd2 : ((H.set dx (.obj (dictOf [] 0))).set c (.inst dx)) dx = some (.obj (dictOf [] 0)) := set_ne set_self (Ne.symm hne)
  refine codeAny_mono (enter (binds := [("self", .ref c), ("kind", k), ("width", wd), ("height", h), ("x", x), ("y", y), ("parts", p), ("pane", n)]) (Q := fun v s' => v = .none ∧ Q (.ref c) s') (E := E) S2 G (rm_make hA) (Exists.choose_spec (Exists.choose_spec (Exists.choose_spec (fd29.2 w.params)))) rfl (by kernel_rfl) rfl (BindsTo.of_eq rfl) (by decide) (locs rfl) [dx] (fun d hd => ?_) ?_) fun r s' hr => ?_
  · rw [List.mem_singleton.mp hd]; exact ⟨b1, _, hd2⟩
  · intro A' B' L' s1 E' hA' hM hB S3
    have hBd : B'.get? dx = none := hM dx (.head _)
    obtain ⟨ob, g1, g2⟩ := S3.real _ _ hd2
    cases g2
    have hcs : ∀ {H' : AH} {o : AO}, H' c = some (.inst dx) → (H'.set dx o) c = some (.inst dx) := fun e => set_ne e hne
    refine r_initrow S3 G hc2 hd2 hBd g1 (by decide) rfl rfl (Nat.le_of_ble_eq_true rfl) rfl rfl fun t1 S4 => ?_
    obtain ⟨ob, g1, g2⟩ := S4.real _ _ set_self
    cases g2
    refine r_initrow S4 G (hcs hc2) set_self hBd g1 (by decide) rfl rfl (Nat.le_of_ble_eq_true rfl) rfl rfl fun t2 S5 => ?_
    obtain ⟨ob, g1, g2⟩ := S5.real _ _ set_self
    cases g2
    refine r_initrow S5 G (hcs (hcs hc2)) set_self hBd g1 (by decide) rfl rfl (Nat.le_of_ble_eq_true rfl) rfl rfl fun t3 S6 => ?_
    obtain ⟨ob, g1, g2⟩ := S6.real _ _ set_self
    cases g2
    refine r_initrow S6 G (hcs (hcs (hcs hc2))) set_self hBd g1 (by decide) rfl rfl (Nat.le_of_ble_eq_true rfl) rfl rfl fun t4 S7 => ?_
    obtain ⟨ob, g1, g2⟩ := S7.real _ _ set_self
    cases g2
    refine r_initrow S7 G (hcs (hcs (hcs (hcs hc2)))) set_self hBd g1 (by decide) rfl rfl (Nat.le_of_ble_eq_true rfl) rfl rfl fun t5 S8 => ?_
    obtain ⟨ob, g1, g2⟩ := S8.real _ _ set_self
    cases g2
    refine r_initrow S8 G (hcs (hcs (hcs (hcs (hcs hc2))))) set_self hBd g1 (by decide) rfl rfl (Nat.le_of_ble_eq_true rfl) rfl rfl fun t6 S9 => ?_
    obtain ⟨ob, g1, g2⟩ := S9.real _ _ set_self
    cases g2
    refine r_initrow S9 G (hcs (hcs (hcs (hcs (hcs (hcs hc2)))))) set_self hBd g1 (by decide) rfl rfl (Nat.le_of_ble_eq_true rfl) rfl rfl fun t7 S10 => ?_
    refine wpAny_execs_nil ?_
    have S11 := S10.retype set_self (o' := .cd k wd h x y p n) fun ob hob => ⟨fun i => match i with | 0 => s1.toks + 1 | 1 => t1.toks + 1 | 2 => t2.toks + 1 | 3 => t3.toks + 1 | 4 => t4.toks + 1 | 5 => t5.toks + 1 | 6 => t6.toks + 1, hob⟩
    refine ⟨_, _, S11.weaken (H' := (H.set dx (.cd k wd h x y p n)).set c (.inst dx)) fun a o e => ?_, fun S12 => ⟨rfl, q _ _ _ S12 n2 n1 b2 b1 hne⟩⟩
    simp only [AH.set] at e ⊢
    by_cases q1 : a = dx
    · subst q1; simp only [if_true, if_neg (Ne.symm hne)] at e ⊢; exact e
    · simp only [if_neg q1] at e ⊢; exact e
  · rcases r with e | (v | _ | _ | _) <;> first | exact hr | exact hr.elim
end

/-! rules of single steps -/
theorem FdAt.at' {f : Addr} (F : FdAt f) (P : Params) : ∃ o : Obj, (hd.heap_39 P).lookup f = some o ∧ o.data = .func F.1 := let ⟨_, _, _, h⟩ := F.2 P; ⟨_, h, rfl⟩

noncomputable def Le (H H' : AH) : Prop := ∀ a o, H a = some o → H' a = some o
theorem Le.rfl {H : AH} : Le H H := fun _ _ e => e
theorem Le.trans {H H' H'' : AH} (h : Le H H') (h' : Le H' H'') : Le H H'' := fun a o e => h' a o (h a o e)
theorem Le.set {H : AH} {a : Addr} {o : AO} (h : H a = none) : Le H (H.set a o) := fun b o' e => set_new e h
theorem Le.set2 {H H' : AH} {a : Addr} {o : AO} (h : Le H H') : Le (H.set a o) (H'.set a o) := fun b o' e => by
  unfold AH.set at e ⊢
  split
  · rename_i q; rw [if_pos q] at e; exact e
  · rename_i q; rw [if_neg q] at e; exact h _ _ e
theorem Le.none {H H' : AH} {a : Addr} (h : Le H H') (e : H' a = none) : H a = none := by
  cases q : H a with
  | none => exact Eq.refl _
  | some o => rw [h a o q] at e; cases e

section
variable {prog : Program} {w : World} {A : Around} {E : Value → Shared → Prop} {z s : Shared} {B : Heap} {H : AH} {L : Addr} {O : List Addr} {m : Str → Option Value} {env : Env} {Q : Value → Shared → Prop}

theorem enter' (S : St w z B H L O m s) (G : Gd w z) {n : Nat} (hA : Rm (n + 1) A) {f : Addr} (F : FdAt f) {args : List Value} {binds : List (Str × Value)} (Ms : List Addr)
    (h : ∀ A' B' L' s' E', Rm n A' → (∀ d ∈ Ms, B'.get? d = none) → (∀ b, B'.get? b = none → B.get? b = none) → St w z B' H L' (L :: O) (fun x => binds.reverse.lookup x) s' →
      wpAny (model prog w) A' (execs (bodyOf F.1) (callEnv F.1 L' f)) (Lv w z B L O m B' L' Q) E' s')
    (hM : ∀ d ∈ Ms, B.get? d = none ∧ ∃ o, H d = some o)
    (hcd : codeIn (hd.heap_39 w.params) F.1.code F.1.qualname = true) (hbody : F.1.body = .stmts (bodyOf F.1)) (hbind : BindsTo s F.1 ⟨args, []⟩ binds)
    (hcell : (F.1.scope.names.all fun x => x.2 != .cell) = true) (hloc : (binds.all fun x => decide (F.1.scope.names.lookup x.1 = some .local)) = true)
    (hco : F.1.scope.isCoroutine = false) (hgen : F.1.scope.isGenerator = false) (hk : F.1.scope.kind = .function) :
    wpAny (model prog w) A (call (.ref f) args) Q E s := by
  obtain ⟨o, h1, h2⟩ := F.at' w.params
  exact wpAny_call (enter S G hA h1 h2 hcd hbody hbind (fun x hx => by simpa using List.all_eq_true.mp hcell x hx) (locs hloc) Ms hM h hco hgen hk)
theorem enterC' (S : St w z B H L O m s) (G : Gd w z) {n : Nat} (hA : Rm (n + 1) A) {f : Addr} (F : FdAt f) {args : List Value} {binds : List (Str × Value)} (Ms : List Addr)
    (h : ∀ A' B' H' L' s' E', Rm n A' → (∀ d ∈ Ms, B'.get? d = none) → (∀ b, B'.get? b = none → B.get? b = none) → Le H H' →
      (∀ x c, (cellsFrom (L' + 1) F.1.scope.names []).lookup x = some c → H' c = some (.cel (bindC (callEnvC F.1 L' f).kindOf binds (fun _ => none) x)) ∧ B'.get? c = none ∧ H c = none) →
      St w z B' H' L' (L :: O) (bindL (callEnvC F.1 L' f).kindOf binds fun _ => none) s' →
      wpAny (model prog w) A' (execs (bodyOf F.1) (callEnvC F.1 L' f)) (Lv w z B L O m B' L' Q) E' s')
    (hM : ∀ d ∈ Ms, B.get? d = none ∧ ∃ o, H d = some o)
    (hcd : codeIn (hd.heap_39 w.params) F.1.code F.1.qualname = true) (hbody : F.1.body = .stmts (bodyOf F.1)) (hbind : BindsTo s F.1 ⟨args, []⟩ binds)
    (hclo : F.1.closure = []) (hkind : (binds.all fun y => F.1.scope.names.lookup y.1 == some .local || F.1.scope.names.lookup y.1 == some .cell) = true)
    (hco : F.1.scope.isCoroutine = false) (hgen : F.1.scope.isGenerator = false) (hk : F.1.scope.kind = .function) :
    wpAny (model prog w) A (call (.ref f) args) Q E s := by
  obtain ⟨o, h1, h2⟩ := F.at' w.params
  exact wpAny_call (enterC S G hA h1 h2 hcd hbody hbind hclo hkind Ms hM h hco hgen hk)

variable {a b : Int} {t u : Tok}
theorem r_cint (S : St w z B H L O m s) {i : Int} {k : Nat} {pos : Pos} (q : ∀ t s', St w z B H L O m s' → Q (.int i t) s') : wpAny (model prog w) A (eval (.Constant (.int i) k pos) env) Q E s :=
  wpAny_Constant_int (q _ _ (S.toks _))
theorem r_cstr (S : St w z B H L O m s) {x : Str} {k : Nat} {pos : Pos} (q : ∀ t s', St w z B H L O m s' → Q (.str x t) s') : wpAny (model prog w) A (eval (.Constant (.str x) k pos) env) Q E s :=
  Constant_str (q _ _ (S.toks _))
theorem r_add (S : St w z B H L O m s) (q : ∀ t s', St w z B H L O m s' → Q (.int (a + b) t) s') : wpAny (model prog w) A (binaryOp .Add (.int a t) (.int b u)) Q E s := add_int (q _ _ (S.toks _))
theorem r_sub (S : St w z B H L O m s) (q : ∀ t s', St w z B H L O m s' → Q (.int (a - b) t) s') : wpAny (model prog w) A (binaryOp .Sub (.int a t) (.int b u)) Q E s := sub_int (q _ _ (S.toks _))
theorem r_mul (S : St w z B H L O m s) (h : IntMulOk a b) (q : ∀ t s', St w z B H L O m s' → Q (.int (a * b) t) s') : wpAny (model prog w) A (binaryOp .Mult (.int a t) (.int b u)) Q E s := mul_int (q _ _ (S.toks _)) h
theorem r_mulL (S : St w z B H L O m s) (q : ∀ t s', St w z B H L O m s' → Q (.int (a * b) t) s') (h : true = Nat.ble (Builtin.Int.intBits a) 64 := by rfl) : wpAny (model prog w) A (binaryOp .Mult (.int a t) (.int b u)) Q E s := r_mul S (IntMulOk.of_left (Nat.le_of_ble_eq_true h.symm)) q
theorem r_mulR (S : St w z B H L O m s) (q : ∀ t s', St w z B H L O m s' → Q (.int (a * b) t) s') (h : true = Nat.ble (Builtin.Int.intBits b) 64 := by rfl) : wpAny (model prog w) A (binaryOp .Mult (.int a t) (.int b u)) Q E s := r_mul S (IntMulOk.of_right (Nat.le_of_ble_eq_true h.symm)) q
theorem r_mod (S : St w z B H L O m s) (h : b ≠ 0) (q : ∀ t s', St w z B H L O m s' → Q (.int (a.fmod b) t) s') : wpAny (model prog w) A (binaryOp .Mod (.int a t) (.int b u)) Q E s := mod_int' h (q _ _ (S.toks _))
theorem pylong_small {a b : Int} (h0 : 0 < b) (h1 : b < 1000) : Builtin.divisionGoesByPylong a b = false := by
  unfold Builtin.divisionGoesByPylong
  have h2 : b.natAbs.log2 < 10 := by
    have hb : b.natAbs ≠ 0 := by omega
    exact (Nat.log2_lt hb).mpr (by have : b.natAbs < 1000 := by omega
                                   omega)
  have h3 : ¬ (b == 0) = true := by simp; omega
  simp only [h3, Bool.false_eq_true, if_false]
  have : ¬ (b.natAbs.log2 / 30 + 1 > 300) := by omega
  simp [this]
theorem r_fdiv (S : St w z B H L O m s) (h0 : 0 < b) (h1 : b < 1000) (q : ∀ t s', St w z B H L O m s' → Q (.int (a.fdiv b) t) s') : wpAny (model prog w) A (binaryOp .FloorDiv (.int a t) (.int b u)) Q E s :=
  floordiv_int (by omega) (q _ _ (S.toks _)) (.inl (pylong_small h0 h1))
theorem r_iadd (S : St w z B H L O m s) (q : ∀ t s', St w z B H L O m s' → Q (.int (a + b) t) s') : wpAny (model prog w) A (inplaceOp .Add (.int a t) (.int b u)) Q E s := iadd_int (q _ _ (S.toks _))
theorem r_isub (S : St w z B H L O m s) (q : ∀ t s', St w z B H L O m s' → Q (.int (a - b) t) s') : wpAny (model prog w) A (inplaceOp .Sub (.int a t) (.int b u)) Q E s := isub_int (q _ _ (S.toks _))
theorem r_neg (S : St w z B H L O m s) (q : ∀ t s', St w z B H L O m s' → Q (.int (-a) t) s') : wpAny (model prog w) A (unaryOp .USub (.int a t)) Q E s := neg_int (q _ _ (S.toks _))
theorem r_abs (S : St w z B H L O m s) (q : ∀ t s', St w z B H L O m s' → Q (.int (if a < 0 then -a else a) t) s') : wpAny (model prog w) A (call (.builtin "abs") [.int a t]) Q E s := call_abs_int fun u tk => q _ _ (S.toks _)
theorem r_max (S : St w z B H L O m s) {n : Nat} (hA : Rm n A) (q : ∀ t s', St w z B H L O m s' → Q (.int (if b > a then b else a) t) s') : wpAny (model prog w) A (call (.builtin "max") [.int a t, .int b u]) Q E s :=
  max_two_N hA.1 S.fr all_news fun h' tk F' N' => q _ _ (S.of_uni F' N')
theorem r_min (S : St w z B H L O m s) {n : Nat} (hA : Rm n A) (q : ∀ t s', St w z B H L O m s' → Q (.int (if b < a then b else a) t) s') : wpAny (model prog w) A (call (.builtin "min") [.int a t, .int b u]) Q E s :=
  min_two_N hA.1 S.fr all_news fun h' tk F' N' => q _ _ (S.of_uni F' N')
theorem r_intb (S : St w z B H L O m s) {c : Bool} (q : ∀ t s', St w z B H L O m s' → Q (.int (if c = true then 1 else 0) t) s') : wpAny (model prog w) A (call (.type "int") [.bool c]) Q E s := call_int_bool (q _ _ (S.toks _))

/-! calls -/
/-- arguments without stars -/
noncomputable def okA (args : List Expr) : Bool := args.all kdsPlain
theorem okA_h {e : Expr} {rest : List Expr} {env : Env} {pos : Pos} (h0 : true = okA (e :: rest)) : starEach (e :: rest) env = (false, eval e env) :: starEach rest env ∧ (backTo pos (starEach rest env)).any (·.1) = false := by
  have h := h0.symm
  have h' : rest.all kdsPlain = true := (Bool.and_eq_true_iff.mp h).2
  rw [kds_star _ h', kds_star (e :: rest) h]
  refine ⟨rfl, ?_⟩
  induction evalEach rest env with
  | nil => rfl
  | cons x l ih => exact ih
theorem r_callWith {pos : Pos} {f : Value} {e : Expr} {rest : List Expr} (G : Gd w z) (hk : ∀ P, keepIn (hd.heap_39 P) f = true)
    (h : wpAny (model prog w) A (spliced (backTo pos (starEach (e :: rest) env))) (fun vs s₁ => (∀ b o, z.heap.get? b = some o → s₁.heap.get? b = some o) ∧ wpAny (model prog w) A (call f vs) Q E s₁) E s)
    (hb : true = (okA (e :: rest)) := by rfl) :
    wpAny (model prog w) A (callWith pos f [] (backTo pos (starEach (e :: rest) env)) []) Q E s := by
  obtain ⟨he, hplain⟩ := okA_h (pos := pos) hb
  refine callWith_K G.K (hk _) (wpAny_mono h (fun vs s₁ h₁ => ⟨G.K.keeps h₁.1, ?_⟩) fun _ _ e => e) he hplain
  simpa using h₁.2

/-! lists and tuples -/
theorem r_newList (S : St w z B H L O m s) {vs : List Value} (hz : vs.length ≤ sizeLine) (q : ∀ l s', St w z B (H.set l (.lst vs)) L O m s' → H l = none → B.get? l = none → Q (.ref l) s') : wpAny (model prog w) A (newList vs) Q E s :=
  newList_N S.fr all_news (fun h' F' N' => let ⟨x, y, v⟩ := S.new_uni (t := s.toks) (o := .lst vs) (Heap.get?_none_of_le (Nat.le_refl _)) F' N' ⟨_, rfl⟩; q _ _ x y v) hz
theorem r_newTuple (S : St w z B H L O m s) {vs : List Value} (hz : vs.length ≤ sizeLine) (q : ∀ l s', St w z B (H.set l (.tup vs)) L O m s' → H l = none → B.get? l = none → Q (.ref l) s') : wpAny (model prog w) A (newTuple vs) Q E s :=
  newTuple_N S.fr all_news (fun h' F' N' => let ⟨x, y, v⟩ := S.new_uni (t := s.toks) (o := .tup vs) (Heap.get?_none_of_le (Nat.le_refl _)) F' N' ⟨_, rfl⟩; q _ _ x y v) hz
theorem St.isList (S : St w z B H L O m s) {l : Addr} {vs : List Value} (h : H l = some (.lst vs)) : s.heap.IsList l vs.toArray := by
  obtain ⟨ob, h1, n, rfl⟩ := S.real _ _ h
  exact ⟨_, h1, rfl, n, rfl⟩
theorem St.isTup (S : St w z B H L O m s) {l : Addr} {vs : List Value} (h : H l = some (.tup vs)) : IsTup s.heap l vs.toArray := by
  obtain ⟨ob, h1, n, rfl⟩ := S.real _ _ h
  exact ⟨_, h1, rfl, n, rfl⟩
theorem r_len (S : St w z B H L O m s) {l : Addr} {vs : List Value} (h : H l = some (.lst vs)) (hz : vs.length ≤ sizeLine) (q : ∀ t s', St w z B H L O m s' → Q (.int vs.length t) s') : wpAny (model prog w) A (call (.builtin "len") [.ref l]) Q E s :=
  len_list (S.isList h) (by rw [sizeLine_eq] at hz; simp only [List.size_toArray]; omega) (q _ _ (S.toks _))
/-- an item at a place that is not below nought -/
theorem r_item (S : St w z B H L O m s) {value slice : Expr} {l : Addr} {vs : List Value} {k : Int} {v : Value} {i : Nat} (h : H l = some (.lst vs)) (hk : k = i) (hx : vs[i]? = some v) (hz : vs.length ≤ sizeLine) (q : Q v s)
    (hs : subscripted slice false (.ref l) (.int k u) = operate [.ref l, .int k u] (getItem (.ref l) (.int k u)) := by with_unfolding_all rfl) :
    wpAny (model prog w) A (subscriptTail value slice (.ref l) (.int k u)) Q E s := by
  have hL := S.isList h
  have hi := (List.getElem?_eq_some_iff.mp hx).1
  rw [sizeLine_eq] at hz
  refine tail_any hL.typeIs slot_list_getitem.lookup (wpAny_getItem_list hL (by omega) (by omega) ?_ q) hs
  subst hk; simpa using hx
/-- an item from behind -/
theorem r_itemN (S : St w z B H L O m s) {value slice : Expr} {l : Addr} {vs : List Value} {k : Int} {v : Value} {i : Nat} (h : H l = some (.lst vs)) (hk : k < 0) (hi : k + vs.length = i) (hx : vs[i]? = some v) (hz : vs.length ≤ sizeLine) (q : Q v s)
    (hs : subscripted slice false (.ref l) (.int k u) = operate [.ref l, .int k u] (getItem (.ref l) (.int k u))) :
    wpAny (model prog w) A (subscriptTail value slice (.ref l) (.int k u)) Q E s := by
  have hL := S.isList h
  have hi' := (List.getElem?_eq_some_iff.mp hx).1
  rw [sizeLine_eq] at hz
  refine tail_any hL.typeIs slot_list_getitem.lookup (wpAny_getItem_list_neg hL hk (by simp; omega) (by omega) ?_ q) hs
  have : (k + (vs.toArray.size : Int)).toNat = i := by simp; omega
  rw [this]; simpa using hx
theorem r_itemT (S : St w z B H L O m s) {value slice : Expr} {l : Addr} {vs : List Value} {k : Int} {v : Value} {i : Nat} (h : H l = some (.tup vs)) (hk : k = i) (hx : vs[i]? = some v) (hz : vs.length ≤ 1000) (q : Q v s)
    (hs : subscripted slice false (.ref l) (.int k u) = operate [.ref l, .int k u] (getItem (.ref l) (.int k u))) :
    wpAny (model prog w) A (subscriptTail value slice (.ref l) (.int k u)) Q E s := by
  have hi := (List.getElem?_eq_some_iff.mp hx).1
  refine item_tupleT (S.isTup h) (by omega) (by omega) (j := i) ?_ hx q hs
  subst hk
  have h1 : ¬ ((i : Int) < 0) := by omega
  simp [seqIndex?, h1, hi]
/-- the item at a place that counts from either end -/
noncomputable def itemK (vs : List Value) (k : Int) : Option Value := if k < 0 then if k + vs.length < 0 then none else vs[(k + vs.length).toNat]? else vs[k.toNat]?
theorem r_itemK (S : St w z B H L O m s) {value slice : Expr} {l : Addr} {vs : List Value} {k : Int} {v : Value} (h : H l = some (.lst vs)) (hx : some v = itemK vs k) (hz : vs.length ≤ sizeLine) (q : Q v s)
    (hs : subscripted slice false (.ref l) (.int k u) = operate [.ref l, .int k u] (getItem (.ref l) (.int k u)) := by with_unfolding_all rfl) :
    wpAny (model prog w) A (subscriptTail value slice (.ref l) (.int k u)) Q E s := by
  unfold itemK at hx
  by_cases a : k < 0
  · rw [if_pos a] at hx
    by_cases b : k + vs.length < 0
    · rw [if_pos b] at hx; cases hx
    · rw [if_neg b] at hx
      exact r_itemN S h a (by omega) hx.symm hz q hs
  · rw [if_neg a] at hx
    exact r_item S h (by omega) hx.symm hz q hs
theorem r_itemTK (S : St w z B H L O m s) {value slice : Expr} {l : Addr} {vs : List Value} {k : Int} {v : Value} (h : H l = some (.tup vs)) (hx : some v = itemK vs k) (hk : true = (decide (0 ≤ k) && Nat.ble vs.length 1000)) (q : Q v s)
    (hs : subscripted slice false (.ref l) (.int k u) = operate [.ref l, .int k u] (getItem (.ref l) (.int k u)) := by with_unfolding_all rfl) :
    wpAny (model prog w) A (subscriptTail value slice (.ref l) (.int k u)) Q E s := by
  have hk := Bool.and_eq_true_iff.mp hk.symm
  have a : ¬ k < 0 := Int.not_lt.mpr (of_decide_eq_true hk.1)
  unfold itemK at hx
  rw [if_neg a] at hx
  exact r_itemT S h (by omega) hx.symm (Nat.le_of_ble_eq_true hk.2) q hs
/-- a slice of a list: the slice object stands on the heap already -/
theorem r_slice (S : St w z B H L O m s) {value slice : Expr} {l : Addr} {vs ws : List Value} {vl vu vk : Value} {lo hi st : Option Int} {ops : List Value} (h : H l = some (.lst vs)) (h1 : IsPart vl lo) (h2 : IsPart vu hi) (h3 : IsPart vk st)
    (e : slicePick vs.toArray lo hi st = ws.toArray) (hst : st ≠ some 0) (hz : vs.length ≤ sizeLine)
    (q : ∀ l' s', St w z B (H.set l' (.lst ws)) L O m s' → H l' = none → B.get? l' = none → Q (.ref l') s')
    (hs : subscripted slice false (.ref l) (.ref s.heap.objs.size) = operate ops (getItem (.ref l) (.ref s.heap.objs.size))) (ht : ∀ r, letTemporaryGo value (.ref l) r = pure ()) :
    wpAny (model prog w) A (subscriptTail value slice (.ref l) (.ref s.heap.objs.size)) Q E { s with heap := s.heap.push { cls := .type "slice", data := .fields #[vl, vu, vk] } } := by
  refine slice_list3 S.fr all_news (S.isList h) h1 h2 h3 hst (fun h' F' N' => ?_) hs ht (by simpa using hz)
  rw [e] at N'
  obtain ⟨x, y, v⟩ := S.new_uni (t := s.toks) (o := .lst ws) (Heap.get?_none_of_le (Nat.le_succ _)) F' N' ⟨_, rfl⟩
  exact q _ _ x y v
theorem pick_from (vs : List Value) (n : Nat) : slicePick vs.toArray (some (n : Int)) none none = (vs.drop n).toArray := by rw [slicePick_from']
theorem pick_upto (vs : List Value) (n : Nat) : slicePick vs.toArray none (some (n : Int)) none = (vs.take n).toArray := by rw [slicePick_upto']
theorem pick_rev (vs : List Value) : slicePick vs.toArray none none (some (-1)) = vs.reverse.toArray := by rw [krv_pick]
theorem r_cat (S : St w z B H L O m s) {l l' : Addr} {vs ws : List Value} (h : H l = some (.lst vs)) (h' : H l' = some (.lst ws)) (hz : vs.length + ws.length ≤ sizeLine)
    (q : ∀ n s', St w z B (H.set n (.lst (vs ++ ws))) L O m s' → H n = none → B.get? n = none → Q (.ref n) s') : wpAny (model prog w) A (binaryOp .Add (.ref l) (.ref l')) Q E s :=
  add_arrays S.fr all_news (S.isList h) (S.isList h') (fun h' F' N' => let ⟨x, y, v⟩ := S.new_uni (t := s.toks) (o := .lst (vs ++ ws)) (Heap.get?_none_of_le (Nat.le_refl _)) F' N' ⟨_, rfl⟩; q _ _ x y v) (by simpa using hz)
theorem r_append (S : St w z B H L O m s) {l : Addr} {vs : List Value} {v : Value} (h : H l = some (.lst vs)) (hB : B.get? l = none) (hz : vs.length ≤ sizeLine) (q : ∀ s', St w z B (H.set l (.lst (vs ++ [v]))) L O m s' → Q .none s') :
    wpAny (model prog w) A (call (.builtin "list.append") [.ref l, v]) Q E s := by
  obtain ⟨ob, h1, n, rfl⟩ := S.real _ _ h
  have hL := S.ne h
  exact append_K S.fr (news_all h1 hL (S.znone hB)) (upd_all h1 hL (S.znone hB)) (fun h' F' N' => q _ (S.turn_uni (t := s.toks) h hB F' N' ⟨n + 1, by simp⟩)) (by simpa using hz)
theorem r_method (S : St w z B H L O m s) {l : Addr} {vs : List Value} {name : Str} {id : String} {pl : Sem Bool} {Q : Value × List Value → Shared → Prop} (h : H l = some (.lst vs)) (hs : Slot "list" name id) (ht : typeOf (.builtin id) = pure (.type "method_descriptor"))
    (q : Q (.builtin id, [.ref l]) s) : wpAny (model prog w) A (getMethod (.ref l) name pl) Q E s := by
  obtain ⟨ob, h1, n, rfl⟩ := S.real _ _ h
  exact getMethod_builtin ⟨_, h1, rfl⟩ PySem.F.plainAttrs_list hs ht (fun a e => by cases e; exact ⟨_, h1, rfl⟩) q
end

section
variable {P : Params}
noncomputable def fd43 : FdAt 43 := ⟨_, fun _ => ⟨_, _, _, rfl⟩⟩
theorem cd43 : codeIn (hd.heap_39 P) fd43.1.code fd43.1.qualname = true := by kernel_rfl
noncomputable def fd48 : FdAt 48 := ⟨_, fun _ => ⟨_, _, _, rfl⟩⟩
theorem cd48 : codeIn (hd.heap_39 P) fd48.1.code fd48.1.qualname = true := by kernel_rfl
noncomputable def fd55 : FdAt 55 := ⟨_, fun _ => ⟨_, _, _, rfl⟩⟩
theorem cd55 : codeIn (hd.heap_39 P) fd55.1.code fd55.1.qualname = true := by kernel_rfl
noncomputable def fd60 : FdAt 60 := ⟨_, fun _ => ⟨_, _, _, rfl⟩⟩
theorem cd60 : codeIn (hd.heap_39 P) fd60.1.code fd60.1.qualname = true := by kernel_rfl
noncomputable def fd67 : FdAt 67 := ⟨_, fun _ => ⟨_, _, _, rfl⟩⟩
theorem cd67 : codeIn (hd.heap_39 P) fd67.1.code fd67.1.qualname = true := by kernel_rfl
noncomputable def fd74 : FdAt 74 := ⟨_, fun _ => ⟨_, _, _, rfl⟩⟩
theorem cd74 : codeIn (hd.heap_39 P) fd74.1.code fd74.1.qualname = true := by kernel_rfl
noncomputable def fd81 : FdAt 81 := ⟨_, fun _ => ⟨_, _, _, rfl⟩⟩
theorem cd81 : codeIn (hd.heap_39 P) fd81.1.code fd81.1.qualname = true := by kernel_rfl
noncomputable def fd88 : FdAt 88 := ⟨_, fun _ => ⟨_, _, _, rfl⟩⟩
theorem cd88 : codeIn (hd.heap_39 P) fd88.1.code fd88.1.qualname = true := by kernel_rfl
noncomputable def fd95 : FdAt 95 := ⟨_, fun _ => ⟨_, _, _, rfl⟩⟩
theorem cd95 : codeIn (hd.heap_39 P) fd95.1.code fd95.1.qualname = true := by kernel_rfl
noncomputable def fd100 : FdAt 100 := ⟨_, fun _ => ⟨_, _, _, rfl⟩⟩
theorem cd100 : codeIn (hd.heap_39 P) fd100.1.code fd100.1.qualname = true := by kernel_rfl
noncomputable def fd107 : FdAt 107 := ⟨_, fun _ => ⟨_, _, _, rfl⟩⟩
theorem cd107 : codeIn (hd.heap_39 P) fd107.1.code fd107.1.qualname = true := by kernel_rfl
noncomputable def fd114 : FdAt 114 := ⟨_, fun _ => ⟨_, _, _, rfl⟩⟩
theorem cd114 : codeIn (hd.heap_39 P) fd114.1.code fd114.1.qualname = true := by kernel_rfl
noncomputable def fd121 : FdAt 121 := ⟨_, fun _ => ⟨_, _, _, rfl⟩⟩
theorem cd121 : codeIn (hd.heap_39 P) fd121.1.code fd121.1.qualname = true := by kernel_rfl
noncomputable def fd129 : FdAt 129 := ⟨_, fun _ => ⟨_, _, _, rfl⟩⟩
theorem cd129 : codeIn (hd.heap_39 P) fd129.1.code fd129.1.qualname = true := by kernel_rfl
noncomputable def fd143 : FdAt 143 := ⟨_, fun _ => ⟨_, _, _, rfl⟩⟩
theorem cd143 : codeIn (hd.heap_39 P) fd143.1.code fd143.1.qualname = true := by kernel_rfl
noncomputable def fd150 : FdAt 150 := ⟨_, fun _ => ⟨_, _, _, rfl⟩⟩
theorem cd150 : codeIn (hd.heap_39 P) fd150.1.code fd150.1.qualname = true := by kernel_rfl
noncomputable def fd157 : FdAt 157 := ⟨_, fun _ => ⟨_, _, _, rfl⟩⟩
theorem cd157 : codeIn (hd.heap_39 P) fd157.1.code fd157.1.qualname = true := by kernel_rfl
noncomputable def fd164 : FdAt 164 := ⟨_, fun _ => ⟨_, _, _, rfl⟩⟩
theorem cd164 : codeIn (hd.heap_39 P) fd164.1.code fd164.1.qualname = true := by kernel_rfl
noncomputable def fd171 : FdAt 171 := ⟨_, fun _ => ⟨_, _, _, rfl⟩⟩
theorem cd171 : codeIn (hd.heap_39 P) fd171.1.code fd171.1.qualname = true := by kernel_rfl
noncomputable def fd178 : FdAt 178 := ⟨_, fun _ => ⟨_, _, _, rfl⟩⟩
theorem cd178 : codeIn (hd.heap_39 P) fd178.1.code fd178.1.qualname = true := by kernel_rfl
noncomputable def fd183 : FdAt 183 := ⟨_, fun _ => ⟨_, _, _, rfl⟩⟩
theorem cd183 : codeIn (hd.heap_39 P) fd183.1.code fd183.1.qualname = true := by kernel_rfl
noncomputable def fd188 : FdAt 188 := ⟨_, fun _ => ⟨_, _, _, rfl⟩⟩
theorem cd188 : codeIn (hd.heap_39 P) fd188.1.code fd188.1.qualname = true := by kernel_rfl
noncomputable def fd193 : FdAt 193 := ⟨_, fun _ => ⟨_, _, _, rfl⟩⟩
theorem cd193 : codeIn (hd.heap_39 P) fd193.1.code fd193.1.qualname = true := by kernel_rfl
noncomputable def fd200 : FdAt 200 := ⟨_, fun _ => ⟨_, _, _, rfl⟩⟩
theorem cd200 : codeIn (hd.heap_39 P) fd200.1.code fd200.1.qualname = true := by kernel_rfl
noncomputable def fd220 : FdAt 220 := ⟨_, fun _ => ⟨_, _, _, rfl⟩⟩
theorem cd220 : codeIn (hd.heap_39 P) fd220.1.code fd220.1.qualname = true := by kernel_rfl
noncomputable def fd227 : FdAt 227 := ⟨_, fun _ => ⟨_, _, _, rfl⟩⟩
theorem cd227 : codeIn (hd.heap_39 P) fd227.1.code fd227.1.qualname = true := by kernel_rfl
noncomputable def fd234 : FdAt 234 := ⟨_, fun _ => ⟨_, _, _, rfl⟩⟩
theorem cd234 : codeIn (hd.heap_39 P) fd234.1.code fd234.1.qualname = true := by kernel_rfl
noncomputable def fd241 : FdAt 241 := ⟨_, fun _ => ⟨_, _, _, rfl⟩⟩
theorem cd241 : codeIn (hd.heap_39 P) fd241.1.code fd241.1.qualname = true := by kernel_rfl
noncomputable def fd248 : FdAt 248 := ⟨_, fun _ => ⟨_, _, _, rfl⟩⟩
theorem cd248 : codeIn (hd.heap_39 P) fd248.1.code fd248.1.qualname = true := by kernel_rfl
noncomputable def fd253 : FdAt 253 := ⟨_, fun _ => ⟨_, _, _, rfl⟩⟩
theorem cd253 : codeIn (hd.heap_39 P) fd253.1.code fd253.1.qualname = true := by kernel_rfl
noncomputable def fd258 : FdAt 258 := ⟨_, fun _ => ⟨_, _, _, rfl⟩⟩
theorem cd258 : codeIn (hd.heap_39 P) fd258.1.code fd258.1.qualname = true := by kernel_rfl
noncomputable def fd265 : FdAt 265 := ⟨_, fun _ => ⟨_, _, _, rfl⟩⟩
theorem cd265 : codeIn (hd.heap_39 P) fd265.1.code fd265.1.qualname = true := by kernel_rfl
noncomputable def fd270 : FdAt 270 := ⟨_, fun _ => ⟨_, _, _, rfl⟩⟩
theorem cd270 : codeIn (hd.heap_39 P) fd270.1.code fd270.1.qualname = true := by kernel_rfl
end
@[reducible] noncomputable def glT1 : List (Str × Value) := [("layout_leaf", .ref 43), ("layout_copy", .ref 48), ("layout_leaves", .ref 55), ("layout_panes", .ref 60), ("layout_path", .ref 67), ("layout_kind", .ref 74), ("layout_side", .ref 81), ("layout_set_side", .ref 88)]
theorem gl1 {x : Str} {v : Value} (h : List.Mem (x, v) glT1) (P : Params) : nsIn (hd.heap_39 P) mainGlobals x = some (some v) :=
  have e : ∀ p ∈ glT1, nsIn (hd.heap_39 P) mainGlobals p.1 = some (some p.2) := List.forall_mem_cons.2 ⟨by kernel_rfl, List.forall_mem_cons.2 ⟨by kernel_rfl, List.forall_mem_cons.2 ⟨by kernel_rfl, List.forall_mem_cons.2 ⟨by kernel_rfl, List.forall_mem_cons.2 ⟨by kernel_rfl, List.forall_mem_cons.2 ⟨by kernel_rfl, List.forall_mem_cons.2 ⟨by kernel_rfl, List.forall_mem_cons.2 ⟨by kernel_rfl, List.forall_mem_nil _⟩⟩⟩⟩⟩⟩⟩⟩
  e _ h
@[reducible] noncomputable def glT2 : List (Str × Value) := [("layout_index", .ref 95), ("layout_room", .ref 100), ("layout_change", .ref 107), ("layout_placed", .ref 114), ("layout_exchanged", .ref 121), ("split_layout", .ref 129), ("layout_melted", .ref 136), ("close_pane", .ref 143)]
theorem gl2 {x : Str} {v : Value} (h : List.Mem (x, v) glT2) (P : Params) : nsIn (hd.heap_39 P) mainGlobals x = some (some v) :=
  have e : ∀ p ∈ glT2, nsIn (hd.heap_39 P) mainGlobals p.1 = some (some p.2) := List.forall_mem_cons.2 ⟨by kernel_rfl, List.forall_mem_cons.2 ⟨by kernel_rfl, List.forall_mem_cons.2 ⟨by kernel_rfl, List.forall_mem_cons.2 ⟨by kernel_rfl, List.forall_mem_cons.2 ⟨by kernel_rfl, List.forall_mem_cons.2 ⟨by kernel_rfl, List.forall_mem_cons.2 ⟨by kernel_rfl, List.forall_mem_cons.2 ⟨by kernel_rfl, List.forall_mem_nil _⟩⟩⟩⟩⟩⟩⟩⟩
  e _ h
@[reducible] noncomputable def glT3 : List (Str × Value) := [("layout_border", .ref 150), ("resize_pane", .ref 157), ("resize_pane_to", .ref 164), ("fit_layout", .ref 171), ("is_tiling", .ref 178), ("layout_is_right", .ref 183), ("layout_shares", .ref 188), ("layout_of_parts", .ref 193)]
theorem gl3 {x : Str} {v : Value} (h : List.Mem (x, v) glT3) (P : Params) : nsIn (hd.heap_39 P) mainGlobals x = some (some v) :=
  have e : ∀ p ∈ glT3, nsIn (hd.heap_39 P) mainGlobals p.1 = some (some p.2) := List.forall_mem_cons.2 ⟨by kernel_rfl, List.forall_mem_cons.2 ⟨by kernel_rfl, List.forall_mem_cons.2 ⟨by kernel_rfl, List.forall_mem_cons.2 ⟨by kernel_rfl, List.forall_mem_cons.2 ⟨by kernel_rfl, List.forall_mem_cons.2 ⟨by kernel_rfl, List.forall_mem_cons.2 ⟨by kernel_rfl, List.forall_mem_cons.2 ⟨by kernel_rfl, List.forall_mem_nil _⟩⟩⟩⟩⟩⟩⟩⟩
  e _ h
@[reducible] noncomputable def glT4 : List (Str × Value) := [("layout_even", .ref 200), ("layout_main", .ref 207), ("layout_tiled", .ref 212), ("named_layout", .ref 220), ("_law_told", .ref 227), ("_law_due", .ref 234), ("_law_split", .ref 241), ("_law_closed", .ref 248)]
theorem gl4 {x : Str} {v : Value} (h : List.Mem (x, v) glT4) (P : Params) : nsIn (hd.heap_39 P) mainGlobals x = some (some v) :=
  have e : ∀ p ∈ glT4, nsIn (hd.heap_39 P) mainGlobals p.1 = some (some p.2) := List.forall_mem_cons.2 ⟨by kernel_rfl, List.forall_mem_cons.2 ⟨by kernel_rfl, List.forall_mem_cons.2 ⟨by kernel_rfl, List.forall_mem_cons.2 ⟨by kernel_rfl, List.forall_mem_cons.2 ⟨by kernel_rfl, List.forall_mem_cons.2 ⟨by kernel_rfl, List.forall_mem_cons.2 ⟨by kernel_rfl, List.forall_mem_cons.2 ⟨by kernel_rfl, List.forall_mem_nil _⟩⟩⟩⟩⟩⟩⟩⟩
  e _ h
@[reducible] noncomputable def glT5 : List (Str × Value) := [("Cell", .ref 32), ("_law_moved", .ref 253), ("_law_fitted", .ref 258), ("_law_deed", .ref 265), ("_law_shares_right", .ref 270), ("LEAST_SIDE", .int 1 189), ("LAYOUT_WORDS", .ref 15)]
theorem gl5 {x : Str} {v : Value} (h : List.Mem (x, v) glT5) (P : Params) : nsIn (hd.heap_39 P) mainGlobals x = some (some v) :=
  have e : ∀ p ∈ glT5, nsIn (hd.heap_39 P) mainGlobals p.1 = some (some p.2) := List.forall_mem_cons.2 ⟨by kernel_rfl, List.forall_mem_cons.2 ⟨by kernel_rfl, List.forall_mem_cons.2 ⟨by kernel_rfl, List.forall_mem_cons.2 ⟨by kernel_rfl, List.forall_mem_cons.2 ⟨by kernel_rfl, List.forall_mem_cons.2 ⟨by kernel_rfl, List.forall_mem_cons.2 ⟨by kernel_rfl, List.forall_mem_nil _⟩⟩⟩⟩⟩⟩⟩
  e _ h
@[reducible] noncomputable def g0T : List Str := ["len", "sum", "min", "max", "abs", "range", "int", "sorted", "list", "zip", "enumerate"]
theorem gl0 {x : Str} (h : List.Mem x g0T) (P : Params) : nsIn (hd.heap_39 P) mainGlobals x = some none :=
  have e : ∀ p ∈ g0T, nsIn (hd.heap_39 P) mainGlobals p = some none := List.forall_mem_cons.2 ⟨by kernel_rfl, List.forall_mem_cons.2 ⟨by kernel_rfl, List.forall_mem_cons.2 ⟨by kernel_rfl, List.forall_mem_cons.2 ⟨by kernel_rfl, List.forall_mem_cons.2 ⟨by kernel_rfl, List.forall_mem_cons.2 ⟨by kernel_rfl, List.forall_mem_cons.2 ⟨by kernel_rfl, List.forall_mem_cons.2 ⟨by kernel_rfl, List.forall_mem_cons.2 ⟨by kernel_rfl, List.forall_mem_cons.2 ⟨by kernel_rfl, List.forall_mem_cons.2 ⟨by kernel_rfl, List.forall_mem_nil _⟩⟩⟩⟩⟩⟩⟩⟩⟩⟩⟩
  e _ h

noncomputable def gkTab : List Nat := [43, 48, 55, 60, 67, 74, 81, 88, 95, 100, 107, 114, 121, 129, 136, 143, 150, 157, 164, 171, 178, 183, 188, 193, 200, 207, 212, 220, 227, 234, 241, 248, 32, 253, 258, 265, 270]
theorem gk_all {n : Nat} (h : gkTab.contains n = true) (P : Params) : keepIn (hd.heap_39 P) (.ref n) = true := by
  have e : (gkTab.all fun n => keepIn (hd.heap_39 P) (.ref n)) = true := by kernel_rfl
  exact List.all_eq_true.mp e n (by simpa using h)

local macro_rules | `(tactic| walk_at "gl") => `(tactic| with_reducible first | exact gl1 (by k_mem) | exact gl2 (by k_mem) | exact gl3 (by k_mem) | exact gl4 (by k_mem) | exact gl5 (by k_mem))
local macro_rules | `(tactic| walk_at "gl0") => `(tactic| with_reducible exact gl0 (by k_mem))
local macro_rules | `(tactic| walk_at "gk") => `(tactic| exact gk_all rfl)

/-- what a statement of a block hands on -/
@[reducible] noncomputable def SeqEnd (M : Model) (A : Around) (env : Env) (cs : List Stmt) (Q : Flow → Shared → Prop) (E : Value → Shared → Prop) (f : Flow) (s : Shared) : Prop :=
  match f with | .next => wpAny M A (execs cs env) Q E s | f => Q f s
theorem r_seq {M : Model} {A : Around} {env : Env} {c : Stmt} {cs : List Stmt} {Q : Flow → Shared → Prop} {E : Value → Shared → Prop} {s : Shared} (h : wpAny M A (exec c env) (SeqEnd M A env cs Q E) E s) : wpAny M A (execs (c :: cs) env) Q E s := wpAny_execs_cons h

/-! opening a chain of exists (E) and and (A) in one step -/
theorem ce {P : Prop} (h : ¬ P → False) : P := Classical.byContradiction h
theorem op_A {p0 : Prop} {p1 : Prop} {C : Prop} (h : p0 ∧ p1) (k : p0 → p1 → C) : C := k h.1 h.2
theorem op_E.{u0} {α0 : Sort u0} {p1 : α0 → Prop} {C : Prop} (h : ∃ x0, p1 x0) (k : ∀ x0, p1 x0 → C) : C := h.elim fun x0 h0 => k x0 h0
theorem op_AA {p0 : Prop} {p1 : Prop} {p2 : Prop} {C : Prop} (h : p0 ∧ p1 ∧ p2) (k : p0 → p1 → p2 → C) : C := k h.1 h.2.1 h.2.2
theorem op_AE.{u1} {α1 : Sort u1} {p0 : Prop} {p2 : α1 → Prop} {C : Prop} (h : p0 ∧ (∃ x1, p2 x1)) (k : p0 → ∀ x1, p2 x1 → C) : C := h.2.elim fun x1 h1 => k h.1 x1 h1
theorem op_EA.{u0} {α0 : Sort u0} {p1 : α0 → Prop} {p2 : α0 → Prop} {C : Prop} (h : ∃ x0, p1 x0 ∧ p2 x0) (k : ∀ x0, p1 x0 → p2 x0 → C) : C := h.elim fun x0 h0 => k x0 h0.1 h0.2
theorem op_EE.{u0, u1} {α0 : Sort u0} {α1 : Sort u1} {p2 : α0 → α1 → Prop} {C : Prop} (h : ∃ x0, ∃ x1, p2 x0 x1) (k : ∀ x0, ∀ x1, p2 x0 x1 → C) : C := h.elim fun x0 h0 => h0.elim fun x1 h1 => k x0 x1 h1
theorem op_AAA {p0 : Prop} {p1 : Prop} {p2 : Prop} {p3 : Prop} {C : Prop} (h : p0 ∧ p1 ∧ p2 ∧ p3) (k : p0 → p1 → p2 → p3 → C) : C := k h.1 h.2.1 h.2.2.1 h.2.2.2
theorem op_AEA.{u1} {α1 : Sort u1} {p0 : Prop} {p2 : α1 → Prop} {p3 : α1 → Prop} {C : Prop} (h : p0 ∧ (∃ x1, p2 x1 ∧ p3 x1)) (k : p0 → ∀ x1, p2 x1 → p3 x1 → C) : C := h.2.elim fun x1 h1 => k h.1 x1 h1.1 h1.2
theorem op_EAA.{u0} {α0 : Sort u0} {p1 : α0 → Prop} {p2 : α0 → Prop} {p3 : α0 → Prop} {C : Prop} (h : ∃ x0, p1 x0 ∧ p2 x0 ∧ p3 x0) (k : ∀ x0, p1 x0 → p2 x0 → p3 x0 → C) : C := h.elim fun x0 h0 => k x0 h0.1 h0.2.1 h0.2.2
theorem op_EAE.{u0, u2} {α0 : Sort u0} {α2 : Sort u2} {p1 : α0 → Prop} {p3 : α0 → α2 → Prop} {C : Prop} (h : ∃ x0, p1 x0 ∧ (∃ x2, p3 x0 x2)) (k : ∀ x0, p1 x0 → ∀ x2, p3 x0 x2 → C) : C := h.elim fun x0 h0 => h0.2.elim fun x2 h2 => k x0 h0.1 x2 h2
theorem op_EEA.{u0, u1} {α0 : Sort u0} {α1 : Sort u1} {p2 : α0 → α1 → Prop} {p3 : α0 → α1 → Prop} {C : Prop} (h : ∃ x0, ∃ x1, p2 x0 x1 ∧ p3 x0 x1) (k : ∀ x0, ∀ x1, p2 x0 x1 → p3 x0 x1 → C) : C := h.elim fun x0 h0 => h0.elim fun x1 h1 => k x0 x1 h1.1 h1.2
theorem op_AAAA {p0 : Prop} {p1 : Prop} {p2 : Prop} {p3 : Prop} {p4 : Prop} {C : Prop} (h : p0 ∧ p1 ∧ p2 ∧ p3 ∧ p4) (k : p0 → p1 → p2 → p3 → p4 → C) : C := k h.1 h.2.1 h.2.2.1 h.2.2.2.1 h.2.2.2.2
theorem op_AAEA.{u2} {α2 : Sort u2} {p0 : Prop} {p1 : Prop} {p3 : α2 → Prop} {p4 : α2 → Prop} {C : Prop} (h : p0 ∧ p1 ∧ (∃ x2, p3 x2 ∧ p4 x2)) (k : p0 → p1 → ∀ x2, p3 x2 → p4 x2 → C) : C := h.2.2.elim fun x2 h2 => k h.1 h.2.1 x2 h2.1 h2.2
theorem op_AAEE.{u2, u3} {α2 : Sort u2} {α3 : Sort u3} {p0 : Prop} {p1 : Prop} {p4 : α2 → α3 → Prop} {C : Prop} (h : p0 ∧ p1 ∧ (∃ x2, ∃ x3, p4 x2 x3)) (k : p0 → p1 → ∀ x2, ∀ x3, p4 x2 x3 → C) : C := h.2.2.elim fun x2 h2 => h2.elim fun x3 h3 => k h.1 h.2.1 x2 x3 h3
theorem op_AEAA.{u1} {α1 : Sort u1} {p0 : Prop} {p2 : α1 → Prop} {p3 : α1 → Prop} {p4 : α1 → Prop} {C : Prop} (h : p0 ∧ (∃ x1, p2 x1 ∧ p3 x1 ∧ p4 x1)) (k : p0 → ∀ x1, p2 x1 → p3 x1 → p4 x1 → C) : C := h.2.elim fun x1 h1 => k h.1 x1 h1.1 h1.2.1 h1.2.2
theorem op_EAAA.{u0} {α0 : Sort u0} {p1 : α0 → Prop} {p2 : α0 → Prop} {p3 : α0 → Prop} {p4 : α0 → Prop} {C : Prop} (h : ∃ x0, p1 x0 ∧ p2 x0 ∧ p3 x0 ∧ p4 x0) (k : ∀ x0, p1 x0 → p2 x0 → p3 x0 → p4 x0 → C) : C := h.elim fun x0 h0 => k x0 h0.1 h0.2.1 h0.2.2.1 h0.2.2.2
theorem op_EAAE.{u0, u3} {α0 : Sort u0} {α3 : Sort u3} {p1 : α0 → Prop} {p2 : α0 → Prop} {p4 : α0 → α3 → Prop} {C : Prop} (h : ∃ x0, p1 x0 ∧ p2 x0 ∧ (∃ x3, p4 x0 x3)) (k : ∀ x0, p1 x0 → p2 x0 → ∀ x3, p4 x0 x3 → C) : C := h.elim fun x0 h0 => h0.2.2.elim fun x3 h3 => k x0 h0.1 h0.2.1 x3 h3
theorem op_EAEE.{u0, u2, u3} {α0 : Sort u0} {α2 : Sort u2} {α3 : Sort u3} {p1 : α0 → Prop} {p4 : α0 → α2 → α3 → Prop} {C : Prop} (h : ∃ x0, p1 x0 ∧ (∃ x2, ∃ x3, p4 x0 x2 x3)) (k : ∀ x0, p1 x0 → ∀ x2, ∀ x3, p4 x0 x2 x3 → C) : C := h.elim fun x0 h0 => h0.2.elim fun x2 h2 => h2.elim fun x3 h3 => k x0 h0.1 x2 x3 h3
theorem op_EEAA.{u0, u1} {α0 : Sort u0} {α1 : Sort u1} {p2 : α0 → α1 → Prop} {p3 : α0 → α1 → Prop} {p4 : α0 → α1 → Prop} {C : Prop} (h : ∃ x0, ∃ x1, p2 x0 x1 ∧ p3 x0 x1 ∧ p4 x0 x1) (k : ∀ x0, ∀ x1, p2 x0 x1 → p3 x0 x1 → p4 x0 x1 → C) : C := h.elim fun x0 h0 => h0.elim fun x1 h1 => k x0 x1 h1.1 h1.2.1 h1.2.2
theorem op_EEEA.{u0, u1, u2} {α0 : Sort u0} {α1 : Sort u1} {α2 : Sort u2} {p3 : α0 → α1 → α2 → Prop} {p4 : α0 → α1 → α2 → Prop} {C : Prop} (h : ∃ x0, ∃ x1, ∃ x2, p3 x0 x1 x2 ∧ p4 x0 x1 x2) (k : ∀ x0, ∀ x1, ∀ x2, p3 x0 x1 x2 → p4 x0 x1 x2 → C) : C := h.elim fun x0 h0 => h0.elim fun x1 h1 => h1.elim fun x2 h2 => k x0 x1 x2 h2.1 h2.2
theorem op_AAAAA {p0 : Prop} {p1 : Prop} {p2 : Prop} {p3 : Prop} {p4 : Prop} {p5 : Prop} {C : Prop} (h : p0 ∧ p1 ∧ p2 ∧ p3 ∧ p4 ∧ p5) (k : p0 → p1 → p2 → p3 → p4 → p5 → C) : C := k h.1 h.2.1 h.2.2.1 h.2.2.2.1 h.2.2.2.2.1 h.2.2.2.2.2
theorem op_AAAAE.{u4} {α4 : Sort u4} {p0 : Prop} {p1 : Prop} {p2 : Prop} {p3 : Prop} {p5 : α4 → Prop} {C : Prop} (h : p0 ∧ p1 ∧ p2 ∧ p3 ∧ (∃ x4, p5 x4)) (k : p0 → p1 → p2 → p3 → ∀ x4, p5 x4 → C) : C := h.2.2.2.2.elim fun x4 h4 => k h.1 h.2.1 h.2.2.1 h.2.2.2.1 x4 h4
theorem op_AAAEA.{u3} {α3 : Sort u3} {p0 : Prop} {p1 : Prop} {p2 : Prop} {p4 : α3 → Prop} {p5 : α3 → Prop} {C : Prop} (h : p0 ∧ p1 ∧ p2 ∧ (∃ x3, p4 x3 ∧ p5 x3)) (k : p0 → p1 → p2 → ∀ x3, p4 x3 → p5 x3 → C) : C := h.2.2.2.elim fun x3 h3 => k h.1 h.2.1 h.2.2.1 x3 h3.1 h3.2
theorem op_AAAEE.{u3, u4} {α3 : Sort u3} {α4 : Sort u4} {p0 : Prop} {p1 : Prop} {p2 : Prop} {p5 : α3 → α4 → Prop} {C : Prop} (h : p0 ∧ p1 ∧ p2 ∧ (∃ x3, ∃ x4, p5 x3 x4)) (k : p0 → p1 → p2 → ∀ x3, ∀ x4, p5 x3 x4 → C) : C := h.2.2.2.elim fun x3 h3 => h3.elim fun x4 h4 => k h.1 h.2.1 h.2.2.1 x3 x4 h4
theorem op_AAEEA.{u2, u3} {α2 : Sort u2} {α3 : Sort u3} {p0 : Prop} {p1 : Prop} {p4 : α2 → α3 → Prop} {p5 : α2 → α3 → Prop} {C : Prop} (h : p0 ∧ p1 ∧ (∃ x2, ∃ x3, p4 x2 x3 ∧ p5 x2 x3)) (k : p0 → p1 → ∀ x2, ∀ x3, p4 x2 x3 → p5 x2 x3 → C) : C := h.2.2.elim fun x2 h2 => h2.elim fun x3 h3 => k h.1 h.2.1 x2 x3 h3.1 h3.2
theorem op_AEEAA.{u1, u2} {α1 : Sort u1} {α2 : Sort u2} {p0 : Prop} {p3 : α1 → α2 → Prop} {p4 : α1 → α2 → Prop} {p5 : α1 → α2 → Prop} {C : Prop} (h : p0 ∧ (∃ x1, ∃ x2, p3 x1 x2 ∧ p4 x1 x2 ∧ p5 x1 x2)) (k : p0 → ∀ x1, ∀ x2, p3 x1 x2 → p4 x1 x2 → p5 x1 x2 → C) : C := h.2.elim fun x1 h1 => h1.elim fun x2 h2 => k h.1 x1 x2 h2.1 h2.2.1 h2.2.2
theorem op_EAAAA.{u0} {α0 : Sort u0} {p1 : α0 → Prop} {p2 : α0 → Prop} {p3 : α0 → Prop} {p4 : α0 → Prop} {p5 : α0 → Prop} {C : Prop} (h : ∃ x0, p1 x0 ∧ p2 x0 ∧ p3 x0 ∧ p4 x0 ∧ p5 x0) (k : ∀ x0, p1 x0 → p2 x0 → p3 x0 → p4 x0 → p5 x0 → C) : C := h.elim fun x0 h0 => k x0 h0.1 h0.2.1 h0.2.2.1 h0.2.2.2.1 h0.2.2.2.2
theorem op_EAEEE.{u0, u2, u3, u4} {α0 : Sort u0} {α2 : Sort u2} {α3 : Sort u3} {α4 : Sort u4} {p1 : α0 → Prop} {p5 : α0 → α2 → α3 → α4 → Prop} {C : Prop} (h : ∃ x0, p1 x0 ∧ (∃ x2, ∃ x3, ∃ x4, p5 x0 x2 x3 x4)) (k : ∀ x0, p1 x0 → ∀ x2, ∀ x3, ∀ x4, p5 x0 x2 x3 x4 → C) : C := h.elim fun x0 h0 => h0.2.elim fun x2 h2 => h2.elim fun x3 h3 => h3.elim fun x4 h4 => k x0 h0.1 x2 x3 x4 h4
theorem op_EEAAA.{u0, u1} {α0 : Sort u0} {α1 : Sort u1} {p2 : α0 → α1 → Prop} {p3 : α0 → α1 → Prop} {p4 : α0 → α1 → Prop} {p5 : α0 → α1 → Prop} {C : Prop} (h : ∃ x0, ∃ x1, p2 x0 x1 ∧ p3 x0 x1 ∧ p4 x0 x1 ∧ p5 x0 x1) (k : ∀ x0, ∀ x1, p2 x0 x1 → p3 x0 x1 → p4 x0 x1 → p5 x0 x1 → C) : C := h.elim fun x0 h0 => h0.elim fun x1 h1 => k x0 x1 h1.1 h1.2.1 h1.2.2.1 h1.2.2.2
theorem op_EEEEE.{u0, u1, u2, u3, u4} {α0 : Sort u0} {α1 : Sort u1} {α2 : Sort u2} {α3 : Sort u3} {α4 : Sort u4} {p5 : α0 → α1 → α2 → α3 → α4 → Prop} {C : Prop} (h : ∃ x0, ∃ x1, ∃ x2, ∃ x3, ∃ x4, p5 x0 x1 x2 x3 x4) (k : ∀ x0, ∀ x1, ∀ x2, ∀ x3, ∀ x4, p5 x0 x1 x2 x3 x4 → C) : C := h.elim fun x0 h0 => h0.elim fun x1 h1 => h1.elim fun x2 h2 => h2.elim fun x3 h3 => h3.elim fun x4 h4 => k x0 x1 x2 x3 x4 h4
theorem op_AAAEAA.{u3} {α3 : Sort u3} {p0 : Prop} {p1 : Prop} {p2 : Prop} {p4 : α3 → Prop} {p5 : α3 → Prop} {p6 : α3 → Prop} {C : Prop} (h : p0 ∧ p1 ∧ p2 ∧ (∃ x3, p4 x3 ∧ p5 x3 ∧ p6 x3)) (k : p0 → p1 → p2 → ∀ x3, p4 x3 → p5 x3 → p6 x3 → C) : C := h.2.2.2.elim fun x3 h3 => k h.1 h.2.1 h.2.2.1 x3 h3.1 h3.2.1 h3.2.2
theorem op_EAAAAA.{u0} {α0 : Sort u0} {p1 : α0 → Prop} {p2 : α0 → Prop} {p3 : α0 → Prop} {p4 : α0 → Prop} {p5 : α0 → Prop} {p6 : α0 → Prop} {C : Prop} (h : ∃ x0, p1 x0 ∧ p2 x0 ∧ p3 x0 ∧ p4 x0 ∧ p5 x0 ∧ p6 x0) (k : ∀ x0, p1 x0 → p2 x0 → p3 x0 → p4 x0 → p5 x0 → p6 x0 → C) : C := h.elim fun x0 h0 => k x0 h0.1 h0.2.1 h0.2.2.1 h0.2.2.2.1 h0.2.2.2.2.1 h0.2.2.2.2.2
theorem op_EEEAAA.{u0, u1, u2} {α0 : Sort u0} {α1 : Sort u1} {α2 : Sort u2} {p3 : α0 → α1 → α2 → Prop} {p4 : α0 → α1 → α2 → Prop} {p5 : α0 → α1 → α2 → Prop} {p6 : α0 → α1 → α2 → Prop} {C : Prop} (h : ∃ x0, ∃ x1, ∃ x2, p3 x0 x1 x2 ∧ p4 x0 x1 x2 ∧ p5 x0 x1 x2 ∧ p6 x0 x1 x2) (k : ∀ x0, ∀ x1, ∀ x2, p3 x0 x1 x2 → p4 x0 x1 x2 → p5 x0 x1 x2 → p6 x0 x1 x2 → C) : C := h.elim fun x0 h0 => h0.elim fun x1 h1 => h1.elim fun x2 h2 => k x0 x1 x2 h2.1 h2.2.1 h2.2.2.1 h2.2.2.2
theorem op_EEEEAA.{u0, u1, u2, u3} {α0 : Sort u0} {α1 : Sort u1} {α2 : Sort u2} {α3 : Sort u3} {p4 : α0 → α1 → α2 → α3 → Prop} {p5 : α0 → α1 → α2 → α3 → Prop} {p6 : α0 → α1 → α2 → α3 → Prop} {C : Prop} (h : ∃ x0, ∃ x1, ∃ x2, ∃ x3, p4 x0 x1 x2 x3 ∧ p5 x0 x1 x2 x3 ∧ p6 x0 x1 x2 x3) (k : ∀ x0, ∀ x1, ∀ x2, ∀ x3, p4 x0 x1 x2 x3 → p5 x0 x1 x2 x3 → p6 x0 x1 x2 x3 → C) : C := h.elim fun x0 h0 => h0.elim fun x1 h1 => h1.elim fun x2 h2 => h2.elim fun x3 h3 => k x0 x1 x2 x3 h3.1 h3.2.1 h3.2.2
theorem op_EEEEEE.{u0, u1, u2, u3, u4, u5} {α0 : Sort u0} {α1 : Sort u1} {α2 : Sort u2} {α3 : Sort u3} {α4 : Sort u4} {α5 : Sort u5} {p6 : α0 → α1 → α2 → α3 → α4 → α5 → Prop} {C : Prop} (h : ∃ x0, ∃ x1, ∃ x2, ∃ x3, ∃ x4, ∃ x5, p6 x0 x1 x2 x3 x4 x5) (k : ∀ x0, ∀ x1, ∀ x2, ∀ x3, ∀ x4, ∀ x5, p6 x0 x1 x2 x3 x4 x5 → C) : C := h.elim fun x0 h0 => h0.elim fun x1 h1 => h1.elim fun x2 h2 => h2.elim fun x3 h3 => h3.elim fun x4 h4 => h4.elim fun x5 h5 => k x0 x1 x2 x3 x4 x5 h5
theorem op_AAAAEAA.{u4} {α4 : Sort u4} {p0 : Prop} {p1 : Prop} {p2 : Prop} {p3 : Prop} {p5 : α4 → Prop} {p6 : α4 → Prop} {p7 : α4 → Prop} {C : Prop} (h : p0 ∧ p1 ∧ p2 ∧ p3 ∧ (∃ x4, p5 x4 ∧ p6 x4 ∧ p7 x4)) (k : p0 → p1 → p2 → p3 → ∀ x4, p5 x4 → p6 x4 → p7 x4 → C) : C := h.2.2.2.2.elim fun x4 h4 => k h.1 h.2.1 h.2.2.1 h.2.2.2.1 x4 h4.1 h4.2.1 h4.2.2
theorem op_EEAAAAA.{u0, u1} {α0 : Sort u0} {α1 : Sort u1} {p2 : α0 → α1 → Prop} {p3 : α0 → α1 → Prop} {p4 : α0 → α1 → Prop} {p5 : α0 → α1 → Prop} {p6 : α0 → α1 → Prop} {p7 : α0 → α1 → Prop} {C : Prop} (h : ∃ x0, ∃ x1, p2 x0 x1 ∧ p3 x0 x1 ∧ p4 x0 x1 ∧ p5 x0 x1 ∧ p6 x0 x1 ∧ p7 x0 x1) (k : ∀ x0, ∀ x1, p2 x0 x1 → p3 x0 x1 → p4 x0 x1 → p5 x0 x1 → p6 x0 x1 → p7 x0 x1 → C) : C := h.elim fun x0 h0 => h0.elim fun x1 h1 => k x0 x1 h1.1 h1.2.1 h1.2.2.1 h1.2.2.2.1 h1.2.2.2.2.1 h1.2.2.2.2.2
theorem op_EEEAAAA.{u0, u1, u2} {α0 : Sort u0} {α1 : Sort u1} {α2 : Sort u2} {p3 : α0 → α1 → α2 → Prop} {p4 : α0 → α1 → α2 → Prop} {p5 : α0 → α1 → α2 → Prop} {p6 : α0 → α1 → α2 → Prop} {p7 : α0 → α1 → α2 → Prop} {C : Prop} (h : ∃ x0, ∃ x1, ∃ x2, p3 x0 x1 x2 ∧ p4 x0 x1 x2 ∧ p5 x0 x1 x2 ∧ p6 x0 x1 x2 ∧ p7 x0 x1 x2) (k : ∀ x0, ∀ x1, ∀ x2, p3 x0 x1 x2 → p4 x0 x1 x2 → p5 x0 x1 x2 → p6 x0 x1 x2 → p7 x0 x1 x2 → C) : C := h.elim fun x0 h0 => h0.elim fun x1 h1 => h1.elim fun x2 h2 => k x0 x1 x2 h2.1 h2.2.1 h2.2.2.1 h2.2.2.2.1 h2.2.2.2.2
theorem op_EEEEEAA.{u0, u1, u2, u3, u4} {α0 : Sort u0} {α1 : Sort u1} {α2 : Sort u2} {α3 : Sort u3} {α4 : Sort u4} {p5 : α0 → α1 → α2 → α3 → α4 → Prop} {p6 : α0 → α1 → α2 → α3 → α4 → Prop} {p7 : α0 → α1 → α2 → α3 → α4 → Prop} {C : Prop} (h : ∃ x0, ∃ x1, ∃ x2, ∃ x3, ∃ x4, p5 x0 x1 x2 x3 x4 ∧ p6 x0 x1 x2 x3 x4 ∧ p7 x0 x1 x2 x3 x4) (k : ∀ x0, ∀ x1, ∀ x2, ∀ x3, ∀ x4, p5 x0 x1 x2 x3 x4 → p6 x0 x1 x2 x3 x4 → p7 x0 x1 x2 x3 x4 → C) : C := h.elim fun x0 h0 => h0.elim fun x1 h1 => h1.elim fun x2 h2 => h2.elim fun x3 h3 => h3.elim fun x4 h4 => k x0 x1 x2 x3 x4 h4.1 h4.2.1 h4.2.2
theorem op_EEEEEEE.{u0, u1, u2, u3, u4, u5, u6} {α0 : Sort u0} {α1 : Sort u1} {α2 : Sort u2} {α3 : Sort u3} {α4 : Sort u4} {α5 : Sort u5} {α6 : Sort u6} {p7 : α0 → α1 → α2 → α3 → α4 → α5 → α6 → Prop} {C : Prop} (h : ∃ x0, ∃ x1, ∃ x2, ∃ x3, ∃ x4, ∃ x5, ∃ x6, p7 x0 x1 x2 x3 x4 x5 x6) (k : ∀ x0, ∀ x1, ∀ x2, ∀ x3, ∀ x4, ∀ x5, ∀ x6, p7 x0 x1 x2 x3 x4 x5 x6 → C) : C := h.elim fun x0 h0 => h0.elim fun x1 h1 => h1.elim fun x2 h2 => h2.elim fun x3 h3 => h3.elim fun x4 h4 => h4.elim fun x5 h5 => h5.elim fun x6 h6 => k x0 x1 x2 x3 x4 x5 x6 h6
theorem op_AAAAAAAA {p0 : Prop} {p1 : Prop} {p2 : Prop} {p3 : Prop} {p4 : Prop} {p5 : Prop} {p6 : Prop} {p7 : Prop} {p8 : Prop} {C : Prop} (h : p0 ∧ p1 ∧ p2 ∧ p3 ∧ p4 ∧ p5 ∧ p6 ∧ p7 ∧ p8) (k : p0 → p1 → p2 → p3 → p4 → p5 → p6 → p7 → p8 → C) : C := k h.1 h.2.1 h.2.2.1 h.2.2.2.1 h.2.2.2.2.1 h.2.2.2.2.2.1 h.2.2.2.2.2.2.1 h.2.2.2.2.2.2.2.1 h.2.2.2.2.2.2.2.2
theorem op_AAAAEEAA.{u4, u5} {α4 : Sort u4} {α5 : Sort u5} {p0 : Prop} {p1 : Prop} {p2 : Prop} {p3 : Prop} {p6 : α4 → α5 → Prop} {p7 : α4 → α5 → Prop} {p8 : α4 → α5 → Prop} {C : Prop} (h : p0 ∧ p1 ∧ p2 ∧ p3 ∧ (∃ x4, ∃ x5, p6 x4 x5 ∧ p7 x4 x5 ∧ p8 x4 x5)) (k : p0 → p1 → p2 → p3 → ∀ x4, ∀ x5, p6 x4 x5 → p7 x4 x5 → p8 x4 x5 → C) : C := h.2.2.2.2.elim fun x4 h4 => h4.elim fun x5 h5 => k h.1 h.2.1 h.2.2.1 h.2.2.2.1 x4 x5 h5.1 h5.2.1 h5.2.2
theorem op_AEEEAAAA.{u1, u2, u3} {α1 : Sort u1} {α2 : Sort u2} {α3 : Sort u3} {p0 : Prop} {p4 : α1 → α2 → α3 → Prop} {p5 : α1 → α2 → α3 → Prop} {p6 : α1 → α2 → α3 → Prop} {p7 : α1 → α2 → α3 → Prop} {p8 : α1 → α2 → α3 → Prop} {C : Prop} (h : p0 ∧ (∃ x1, ∃ x2, ∃ x3, p4 x1 x2 x3 ∧ p5 x1 x2 x3 ∧ p6 x1 x2 x3 ∧ p7 x1 x2 x3 ∧ p8 x1 x2 x3)) (k : p0 → ∀ x1, ∀ x2, ∀ x3, p4 x1 x2 x3 → p5 x1 x2 x3 → p6 x1 x2 x3 → p7 x1 x2 x3 → p8 x1 x2 x3 → C) : C := h.2.elim fun x1 h1 => h1.elim fun x2 h2 => h2.elim fun x3 h3 => k h.1 x1 x2 x3 h3.1 h3.2.1 h3.2.2.1 h3.2.2.2.1 h3.2.2.2.2
theorem op_EAAAAAAA.{u0} {α0 : Sort u0} {p1 : α0 → Prop} {p2 : α0 → Prop} {p3 : α0 → Prop} {p4 : α0 → Prop} {p5 : α0 → Prop} {p6 : α0 → Prop} {p7 : α0 → Prop} {p8 : α0 → Prop} {C : Prop} (h : ∃ x0, p1 x0 ∧ p2 x0 ∧ p3 x0 ∧ p4 x0 ∧ p5 x0 ∧ p6 x0 ∧ p7 x0 ∧ p8 x0) (k : ∀ x0, p1 x0 → p2 x0 → p3 x0 → p4 x0 → p5 x0 → p6 x0 → p7 x0 → p8 x0 → C) : C := h.elim fun x0 h0 => k x0 h0.1 h0.2.1 h0.2.2.1 h0.2.2.2.1 h0.2.2.2.2.1 h0.2.2.2.2.2.1 h0.2.2.2.2.2.2.1 h0.2.2.2.2.2.2.2
theorem op_EEAAAAAA.{u0, u1} {α0 : Sort u0} {α1 : Sort u1} {p2 : α0 → α1 → Prop} {p3 : α0 → α1 → Prop} {p4 : α0 → α1 → Prop} {p5 : α0 → α1 → Prop} {p6 : α0 → α1 → Prop} {p7 : α0 → α1 → Prop} {p8 : α0 → α1 → Prop} {C : Prop} (h : ∃ x0, ∃ x1, p2 x0 x1 ∧ p3 x0 x1 ∧ p4 x0 x1 ∧ p5 x0 x1 ∧ p6 x0 x1 ∧ p7 x0 x1 ∧ p8 x0 x1) (k : ∀ x0, ∀ x1, p2 x0 x1 → p3 x0 x1 → p4 x0 x1 → p5 x0 x1 → p6 x0 x1 → p7 x0 x1 → p8 x0 x1 → C) : C := h.elim fun x0 h0 => h0.elim fun x1 h1 => k x0 x1 h1.1 h1.2.1 h1.2.2.1 h1.2.2.2.1 h1.2.2.2.2.1 h1.2.2.2.2.2.1 h1.2.2.2.2.2.2
theorem op_EEEEAAAA.{u0, u1, u2, u3} {α0 : Sort u0} {α1 : Sort u1} {α2 : Sort u2} {α3 : Sort u3} {p4 : α0 → α1 → α2 → α3 → Prop} {p5 : α0 → α1 → α2 → α3 → Prop} {p6 : α0 → α1 → α2 → α3 → Prop} {p7 : α0 → α1 → α2 → α3 → Prop} {p8 : α0 → α1 → α2 → α3 → Prop} {C : Prop} (h : ∃ x0, ∃ x1, ∃ x2, ∃ x3, p4 x0 x1 x2 x3 ∧ p5 x0 x1 x2 x3 ∧ p6 x0 x1 x2 x3 ∧ p7 x0 x1 x2 x3 ∧ p8 x0 x1 x2 x3) (k : ∀ x0, ∀ x1, ∀ x2, ∀ x3, p4 x0 x1 x2 x3 → p5 x0 x1 x2 x3 → p6 x0 x1 x2 x3 → p7 x0 x1 x2 x3 → p8 x0 x1 x2 x3 → C) : C := h.elim fun x0 h0 => h0.elim fun x1 h1 => h1.elim fun x2 h2 => h2.elim fun x3 h3 => k x0 x1 x2 x3 h3.1 h3.2.1 h3.2.2.1 h3.2.2.2.1 h3.2.2.2.2
theorem op_AEEAAAAAAE.{u1, u2, u9} {α1 : Sort u1} {α2 : Sort u2} {α9 : Sort u9} {p0 : Prop} {p3 : α1 → α2 → Prop} {p4 : α1 → α2 → Prop} {p5 : α1 → α2 → Prop} {p6 : α1 → α2 → Prop} {p7 : α1 → α2 → Prop} {p8 : α1 → α2 → Prop} {p10 : α1 → α2 → α9 → Prop} {C : Prop} (h : p0 ∧ (∃ x1, ∃ x2, p3 x1 x2 ∧ p4 x1 x2 ∧ p5 x1 x2 ∧ p6 x1 x2 ∧ p7 x1 x2 ∧ p8 x1 x2 ∧ (∃ x9, p10 x1 x2 x9))) (k : p0 → ∀ x1, ∀ x2, p3 x1 x2 → p4 x1 x2 → p5 x1 x2 → p6 x1 x2 → p7 x1 x2 → p8 x1 x2 → ∀ x9, p10 x1 x2 x9 → C) : C := h.2.elim fun x1 h1 => h1.elim fun x2 h2 => h2.2.2.2.2.2.2.elim fun x9 h9 => k h.1 x1 x2 h2.1 h2.2.1 h2.2.2.1 h2.2.2.2.1 h2.2.2.2.2.1 h2.2.2.2.2.2.1 x9 h9
theorem op_EEAAAAAAAE.{u0, u1, u9} {α0 : Sort u0} {α1 : Sort u1} {α9 : Sort u9} {p2 : α0 → α1 → Prop} {p3 : α0 → α1 → Prop} {p4 : α0 → α1 → Prop} {p5 : α0 → α1 → Prop} {p6 : α0 → α1 → Prop} {p7 : α0 → α1 → Prop} {p8 : α0 → α1 → Prop} {p10 : α0 → α1 → α9 → Prop} {C : Prop} (h : ∃ x0, ∃ x1, p2 x0 x1 ∧ p3 x0 x1 ∧ p4 x0 x1 ∧ p5 x0 x1 ∧ p6 x0 x1 ∧ p7 x0 x1 ∧ p8 x0 x1 ∧ (∃ x9, p10 x0 x1 x9)) (k : ∀ x0, ∀ x1, p2 x0 x1 → p3 x0 x1 → p4 x0 x1 → p5 x0 x1 → p6 x0 x1 → p7 x0 x1 → p8 x0 x1 → ∀ x9, p10 x0 x1 x9 → C) : C := h.elim fun x0 h0 => h0.elim fun x1 h1 => h1.2.2.2.2.2.2.2.elim fun x9 h9 => k x0 x1 h1.1 h1.2.1 h1.2.2.1 h1.2.2.2.1 h1.2.2.2.2.1 h1.2.2.2.2.2.1 h1.2.2.2.2.2.2.1 x9 h9
theorem op_EEEEAAAAAA.{u0, u1, u2, u3} {α0 : Sort u0} {α1 : Sort u1} {α2 : Sort u2} {α3 : Sort u3} {p4 : α0 → α1 → α2 → α3 → Prop} {p5 : α0 → α1 → α2 → α3 → Prop} {p6 : α0 → α1 → α2 → α3 → Prop} {p7 : α0 → α1 → α2 → α3 → Prop} {p8 : α0 → α1 → α2 → α3 → Prop} {p9 : α0 → α1 → α2 → α3 → Prop} {p10 : α0 → α1 → α2 → α3 → Prop} {C : Prop} (h : ∃ x0, ∃ x1, ∃ x2, ∃ x3, p4 x0 x1 x2 x3 ∧ p5 x0 x1 x2 x3 ∧ p6 x0 x1 x2 x3 ∧ p7 x0 x1 x2 x3 ∧ p8 x0 x1 x2 x3 ∧ p9 x0 x1 x2 x3 ∧ p10 x0 x1 x2 x3) (k : ∀ x0, ∀ x1, ∀ x2, ∀ x3, p4 x0 x1 x2 x3 → p5 x0 x1 x2 x3 → p6 x0 x1 x2 x3 → p7 x0 x1 x2 x3 → p8 x0 x1 x2 x3 → p9 x0 x1 x2 x3 → p10 x0 x1 x2 x3 → C) : C := h.elim fun x0 h0 => h0.elim fun x1 h1 => h1.elim fun x2 h2 => h2.elim fun x3 h3 => k x0 x1 x2 x3 h3.1 h3.2.1 h3.2.2.1 h3.2.2.2.1 h3.2.2.2.2.1 h3.2.2.2.2.2.1 h3.2.2.2.2.2.2
theorem op_EEEAAAAAAAA.{u0, u1, u2} {α0 : Sort u0} {α1 : Sort u1} {α2 : Sort u2} {p3 : α0 → α1 → α2 → Prop} {p4 : α0 → α1 → α2 → Prop} {p5 : α0 → α1 → α2 → Prop} {p6 : α0 → α1 → α2 → Prop} {p7 : α0 → α1 → α2 → Prop} {p8 : α0 → α1 → α2 → Prop} {p9 : α0 → α1 → α2 → Prop} {p10 : α0 → α1 → α2 → Prop} {p11 : α0 → α1 → α2 → Prop} {C : Prop} (h : ∃ x0, ∃ x1, ∃ x2, p3 x0 x1 x2 ∧ p4 x0 x1 x2 ∧ p5 x0 x1 x2 ∧ p6 x0 x1 x2 ∧ p7 x0 x1 x2 ∧ p8 x0 x1 x2 ∧ p9 x0 x1 x2 ∧ p10 x0 x1 x2 ∧ p11 x0 x1 x2) (k : ∀ x0, ∀ x1, ∀ x2, p3 x0 x1 x2 → p4 x0 x1 x2 → p5 x0 x1 x2 → p6 x0 x1 x2 → p7 x0 x1 x2 → p8 x0 x1 x2 → p9 x0 x1 x2 → p10 x0 x1 x2 → p11 x0 x1 x2 → C) : C := h.elim fun x0 h0 => h0.elim fun x1 h1 => h1.elim fun x2 h2 => k x0 x1 x2 h2.1 h2.2.1 h2.2.2.1 h2.2.2.2.1 h2.2.2.2.2.1 h2.2.2.2.2.2.1 h2.2.2.2.2.2.2.1 h2.2.2.2.2.2.2.2.1 h2.2.2.2.2.2.2.2.2
theorem op_EEEAAAAAAAAA.{u0, u1, u2} {α0 : Sort u0} {α1 : Sort u1} {α2 : Sort u2} {p3 : α0 → α1 → α2 → Prop} {p4 : α0 → α1 → α2 → Prop} {p5 : α0 → α1 → α2 → Prop} {p6 : α0 → α1 → α2 → Prop} {p7 : α0 → α1 → α2 → Prop} {p8 : α0 → α1 → α2 → Prop} {p9 : α0 → α1 → α2 → Prop} {p10 : α0 → α1 → α2 → Prop} {p11 : α0 → α1 → α2 → Prop} {p12 : α0 → α1 → α2 → Prop} {C : Prop} (h : ∃ x0, ∃ x1, ∃ x2, p3 x0 x1 x2 ∧ p4 x0 x1 x2 ∧ p5 x0 x1 x2 ∧ p6 x0 x1 x2 ∧ p7 x0 x1 x2 ∧ p8 x0 x1 x2 ∧ p9 x0 x1 x2 ∧ p10 x0 x1 x2 ∧ p11 x0 x1 x2 ∧ p12 x0 x1 x2) (k : ∀ x0, ∀ x1, ∀ x2, p3 x0 x1 x2 → p4 x0 x1 x2 → p5 x0 x1 x2 → p6 x0 x1 x2 → p7 x0 x1 x2 → p8 x0 x1 x2 → p9 x0 x1 x2 → p10 x0 x1 x2 → p11 x0 x1 x2 → p12 x0 x1 x2 → C) : C := h.elim fun x0 h0 => h0.elim fun x1 h1 => h1.elim fun x2 h2 => k x0 x1 x2 h2.1 h2.2.1 h2.2.2.1 h2.2.2.2.1 h2.2.2.2.2.1 h2.2.2.2.2.2.1 h2.2.2.2.2.2.2.1 h2.2.2.2.2.2.2.2.1 h2.2.2.2.2.2.2.2.2.1 h2.2.2.2.2.2.2.2.2.2
theorem op_AEEEEEEEEAAAA.{u1, u2, u3, u4, u5, u6, u7, u8} {α1 : Sort u1} {α2 : Sort u2} {α3 : Sort u3} {α4 : Sort u4} {α5 : Sort u5} {α6 : Sort u6} {α7 : Sort u7} {α8 : Sort u8} {p0 : Prop} {p9 : α1 → α2 → α3 → α4 → α5 → α6 → α7 → α8 → Prop} {p10 : α1 → α2 → α3 → α4 → α5 → α6 → α7 → α8 → Prop} {p11 : α1 → α2 → α3 → α4 → α5 → α6 → α7 → α8 → Prop} {p12 : α1 → α2 → α3 → α4 → α5 → α6 → α7 → α8 → Prop} {p13 : α1 → α2 → α3 → α4 → α5 → α6 → α7 → α8 → Prop} {C : Prop} (h : p0 ∧ (∃ x1, ∃ x2, ∃ x3, ∃ x4, ∃ x5, ∃ x6, ∃ x7, ∃ x8, p9 x1 x2 x3 x4 x5 x6 x7 x8 ∧ p10 x1 x2 x3 x4 x5 x6 x7 x8 ∧ p11 x1 x2 x3 x4 x5 x6 x7 x8 ∧ p12 x1 x2 x3 x4 x5 x6 x7 x8 ∧ p13 x1 x2 x3 x4 x5 x6 x7 x8)) (k : p0 → ∀ x1, ∀ x2, ∀ x3, ∀ x4, ∀ x5, ∀ x6, ∀ x7, ∀ x8, p9 x1 x2 x3 x4 x5 x6 x7 x8 → p10 x1 x2 x3 x4 x5 x6 x7 x8 → p11 x1 x2 x3 x4 x5 x6 x7 x8 → p12 x1 x2 x3 x4 x5 x6 x7 x8 → p13 x1 x2 x3 x4 x5 x6 x7 x8 → C) : C := h.2.elim fun x1 h1 => h1.elim fun x2 h2 => h2.elim fun x3 h3 => h3.elim fun x4 h4 => h4.elim fun x5 h5 => h5.elim fun x6 h6 => h6.elim fun x7 h7 => h7.elim fun x8 h8 => k h.1 x1 x2 x3 x4 x5 x6 x7 x8 h8.1 h8.2.1 h8.2.2.1 h8.2.2.2.1 h8.2.2.2.2
theorem op_EEEEEEEEEEAAA.{u0, u1, u2, u3, u4, u5, u6, u7, u8, u9} {α0 : Sort u0} {α1 : Sort u1} {α2 : Sort u2} {α3 : Sort u3} {α4 : Sort u4} {α5 : Sort u5} {α6 : Sort u6} {α7 : Sort u7} {α8 : Sort u8} {α9 : Sort u9} {p10 : α0 → α1 → α2 → α3 → α4 → α5 → α6 → α7 → α8 → α9 → Prop} {p11 : α0 → α1 → α2 → α3 → α4 → α5 → α6 → α7 → α8 → α9 → Prop} {p12 : α0 → α1 → α2 → α3 → α4 → α5 → α6 → α7 → α8 → α9 → Prop} {p13 : α0 → α1 → α2 → α3 → α4 → α5 → α6 → α7 → α8 → α9 → Prop} {C : Prop} (h : ∃ x0, ∃ x1, ∃ x2, ∃ x3, ∃ x4, ∃ x5, ∃ x6, ∃ x7, ∃ x8, ∃ x9, p10 x0 x1 x2 x3 x4 x5 x6 x7 x8 x9 ∧ p11 x0 x1 x2 x3 x4 x5 x6 x7 x8 x9 ∧ p12 x0 x1 x2 x3 x4 x5 x6 x7 x8 x9 ∧ p13 x0 x1 x2 x3 x4 x5 x6 x7 x8 x9) (k : ∀ x0, ∀ x1, ∀ x2, ∀ x3, ∀ x4, ∀ x5, ∀ x6, ∀ x7, ∀ x8, ∀ x9, p10 x0 x1 x2 x3 x4 x5 x6 x7 x8 x9 → p11 x0 x1 x2 x3 x4 x5 x6 x7 x8 x9 → p12 x0 x1 x2 x3 x4 x5 x6 x7 x8 x9 → p13 x0 x1 x2 x3 x4 x5 x6 x7 x8 x9 → C) : C := h.elim fun x0 h0 => h0.elim fun x1 h1 => h1.elim fun x2 h2 => h2.elim fun x3 h3 => h3.elim fun x4 h4 => h4.elim fun x5 h5 => h5.elim fun x6 h6 => h6.elim fun x7 h7 => h7.elim fun x8 h8 => h8.elim fun x9 h9 => k x0 x1 x2 x3 x4 x5 x6 x7 x8 x9 h9.1 h9.2.1 h9.2.2.1 h9.2.2.2
theorem op_AAAAEEEEEAAAAAAA.{u4, u5, u6, u7, u8} {α4 : Sort u4} {α5 : Sort u5} {α6 : Sort u6} {α7 : Sort u7} {α8 : Sort u8} {p0 : Prop} {p1 : Prop} {p2 : Prop} {p3 : Prop} {p9 : α4 → α5 → α6 → α7 → α8 → Prop} {p10 : α4 → α5 → α6 → α7 → α8 → Prop} {p11 : α4 → α5 → α6 → α7 → α8 → Prop} {p12 : α4 → α5 → α6 → α7 → α8 → Prop} {p13 : α4 → α5 → α6 → α7 → α8 → Prop} {p14 : α4 → α5 → α6 → α7 → α8 → Prop} {p15 : α4 → α5 → α6 → α7 → α8 → Prop} {p16 : α4 → α5 → α6 → α7 → α8 → Prop} {C : Prop} (h : p0 ∧ p1 ∧ p2 ∧ p3 ∧ (∃ x4, ∃ x5, ∃ x6, ∃ x7, ∃ x8, p9 x4 x5 x6 x7 x8 ∧ p10 x4 x5 x6 x7 x8 ∧ p11 x4 x5 x6 x7 x8 ∧ p12 x4 x5 x6 x7 x8 ∧ p13 x4 x5 x6 x7 x8 ∧ p14 x4 x5 x6 x7 x8 ∧ p15 x4 x5 x6 x7 x8 ∧ p16 x4 x5 x6 x7 x8)) (k : p0 → p1 → p2 → p3 → ∀ x4, ∀ x5, ∀ x6, ∀ x7, ∀ x8, p9 x4 x5 x6 x7 x8 → p10 x4 x5 x6 x7 x8 → p11 x4 x5 x6 x7 x8 → p12 x4 x5 x6 x7 x8 → p13 x4 x5 x6 x7 x8 → p14 x4 x5 x6 x7 x8 → p15 x4 x5 x6 x7 x8 → p16 x4 x5 x6 x7 x8 → C) : C := h.2.2.2.2.elim fun x4 h4 => h4.elim fun x5 h5 => h5.elim fun x6 h6 => h6.elim fun x7 h7 => h7.elim fun x8 h8 => k h.1 h.2.1 h.2.2.1 h.2.2.2.1 x4 x5 x6 x7 x8 h8.1 h8.2.1 h8.2.2.1 h8.2.2.2.1 h8.2.2.2.2.1 h8.2.2.2.2.2.1 h8.2.2.2.2.2.2.1 h8.2.2.2.2.2.2.2
/-- the end of a piece of code, named -/
theorem hq {M : Model} {A : Around} {α : Type} {c : Sem α} {Q : α → Shared → Prop} {E : Value → Shared → Prop} {s : Shared} (h : ∀ Q', (∀ v t, Q v t → Q' v t) → wpAny M A c Q' E s) : wpAny M A c Q E s := h Q fun _ _ x => x
theorem Rm.lo {m n : Nat} {A : Around} (h : Rm m A) (e : Nat.ble n m = true) : Rm n A := h.mono (Nat.le_of_ble_eq_true e)
theorem upd_nb {m : Str → Option Value} {x y : Str} {v : Value} {r : Option Value} (h : m y = r) (e : (y == x) = false) : upd m x v y = r := by unfold upd; rw [if_neg (by intro q; rw [q] at e; simp at e)]; exact h
theorem noMs {P : Addr → Prop} : ∀ d ∈ ([] : List Addr), P d := fun _ h => nomatch h
/-! the same the other way: one constructor for a chain -/
theorem mk_AE.{u1} {α1 : Sort u1} {p0 : Prop} {p2 : α1 → Prop} (x0 : p0) (x1 : α1) (x2 : p2 x1) : p0 ∧ (∃ x1, p2 x1) := ⟨x0, x1, x2⟩
theorem mk_EA.{u0} {α0 : Sort u0} {p1 : α0 → Prop} {p2 : α0 → Prop} (x0 : α0) (x1 : p1 x0) (x2 : p2 x0) : ∃ x0, p1 x0 ∧ p2 x0 := ⟨x0, x1, x2⟩
theorem mk_EE.{u0, u1} {α0 : Sort u0} {α1 : Sort u1} {p2 : α0 → α1 → Prop} (x0 : α0) (x1 : α1) (x2 : p2 x0 x1) : ∃ x0, ∃ x1, p2 x0 x1 := ⟨x0, x1, x2⟩
theorem mk_EAA.{u0} {α0 : Sort u0} {p1 : α0 → Prop} {p2 : α0 → Prop} {p3 : α0 → Prop} (x0 : α0) (x1 : p1 x0) (x2 : p2 x0) (x3 : p3 x0) : ∃ x0, p1 x0 ∧ p2 x0 ∧ p3 x0 := ⟨x0, x1, x2, x3⟩
theorem mk_EAE.{u0, u2} {α0 : Sort u0} {α2 : Sort u2} {p1 : α0 → Prop} {p3 : α0 → α2 → Prop} (x0 : α0) (x1 : p1 x0) (x2 : α2) (x3 : p3 x0 x2) : ∃ x0, p1 x0 ∧ (∃ x2, p3 x0 x2) := ⟨x0, x1, x2, x3⟩
theorem mk_EEA.{u0, u1} {α0 : Sort u0} {α1 : Sort u1} {p2 : α0 → α1 → Prop} {p3 : α0 → α1 → Prop} (x0 : α0) (x1 : α1) (x2 : p2 x0 x1) (x3 : p3 x0 x1) : ∃ x0, ∃ x1, p2 x0 x1 ∧ p3 x0 x1 := ⟨x0, x1, x2, x3⟩
theorem mk_AEEA.{u1, u2} {α1 : Sort u1} {α2 : Sort u2} {p0 : Prop} {p3 : α1 → α2 → Prop} {p4 : α1 → α2 → Prop} (x0 : p0) (x1 : α1) (x2 : α2) (x3 : p3 x1 x2) (x4 : p4 x1 x2) : p0 ∧ (∃ x1, ∃ x2, p3 x1 x2 ∧ p4 x1 x2) := ⟨x0, x1, x2, x3, x4⟩
theorem mk_EEAA.{u0, u1} {α0 : Sort u0} {α1 : Sort u1} {p2 : α0 → α1 → Prop} {p3 : α0 → α1 → Prop} {p4 : α0 → α1 → Prop} (x0 : α0) (x1 : α1) (x2 : p2 x0 x1) (x3 : p3 x0 x1) (x4 : p4 x0 x1) : ∃ x0, ∃ x1, p2 x0 x1 ∧ p3 x0 x1 ∧ p4 x0 x1 := ⟨x0, x1, x2, x3, x4⟩
theorem mk_AEEAA.{u1, u2} {α1 : Sort u1} {α2 : Sort u2} {p0 : Prop} {p3 : α1 → α2 → Prop} {p4 : α1 → α2 → Prop} {p5 : α1 → α2 → Prop} (x0 : p0) (x1 : α1) (x2 : α2) (x3 : p3 x1 x2) (x4 : p4 x1 x2) (x5 : p5 x1 x2) : p0 ∧ (∃ x1, ∃ x2, p3 x1 x2 ∧ p4 x1 x2 ∧ p5 x1 x2) := ⟨x0, x1, x2, x3, x4, x5⟩
theorem mk_EEAAA.{u0, u1} {α0 : Sort u0} {α1 : Sort u1} {p2 : α0 → α1 → Prop} {p3 : α0 → α1 → Prop} {p4 : α0 → α1 → Prop} {p5 : α0 → α1 → Prop} (x0 : α0) (x1 : α1) (x2 : p2 x0 x1) (x3 : p3 x0 x1) (x4 : p4 x0 x1) (x5 : p5 x0 x1) : ∃ x0, ∃ x1, p2 x0 x1 ∧ p3 x0 x1 ∧ p4 x0 x1 ∧ p5 x0 x1 := ⟨x0, x1, x2, x3, x4, x5⟩
theorem mk_AEEAAA.{u1, u2} {α1 : Sort u1} {α2 : Sort u2} {p0 : Prop} {p3 : α1 → α2 → Prop} {p4 : α1 → α2 → Prop} {p5 : α1 → α2 → Prop} {p6 : α1 → α2 → Prop} (x0 : p0) (x1 : α1) (x2 : α2) (x3 : p3 x1 x2) (x4 : p4 x1 x2) (x5 : p5 x1 x2) (x6 : p6 x1 x2) : p0 ∧ (∃ x1, ∃ x2, p3 x1 x2 ∧ p4 x1 x2 ∧ p5 x1 x2 ∧ p6 x1 x2) := ⟨x0, x1, x2, x3, x4, x5, x6⟩
theorem mk_AEEAAE.{u1, u2, u5} {α1 : Sort u1} {α2 : Sort u2} {α5 : Sort u5} {p0 : Prop} {p3 : α1 → α2 → Prop} {p4 : α1 → α2 → Prop} {p6 : α1 → α2 → α5 → Prop} (x0 : p0) (x1 : α1) (x2 : α2) (x3 : p3 x1 x2) (x4 : p4 x1 x2) (x5 : α5) (x6 : p6 x1 x2 x5) : p0 ∧ (∃ x1, ∃ x2, p3 x1 x2 ∧ p4 x1 x2 ∧ (∃ x5, p6 x1 x2 x5)) := ⟨x0, x1, x2, x3, x4, x5, x6⟩
theorem mk_AEEAEA.{u1, u2, u4} {α1 : Sort u1} {α2 : Sort u2} {α4 : Sort u4} {p0 : Prop} {p3 : α1 → α2 → Prop} {p5 : α1 → α2 → α4 → Prop} {p6 : α1 → α2 → α4 → Prop} (x0 : p0) (x1 : α1) (x2 : α2) (x3 : p3 x1 x2) (x4 : α4) (x5 : p5 x1 x2 x4) (x6 : p6 x1 x2 x4) : p0 ∧ (∃ x1, ∃ x2, p3 x1 x2 ∧ (∃ x4, p5 x1 x2 x4 ∧ p6 x1 x2 x4)) := ⟨x0, x1, x2, x3, x4, x5, x6⟩
theorem mk_EEAAAA.{u0, u1} {α0 : Sort u0} {α1 : Sort u1} {p2 : α0 → α1 → Prop} {p3 : α0 → α1 → Prop} {p4 : α0 → α1 → Prop} {p5 : α0 → α1 → Prop} {p6 : α0 → α1 → Prop} (x0 : α0) (x1 : α1) (x2 : p2 x0 x1) (x3 : p3 x0 x1) (x4 : p4 x0 x1) (x5 : p5 x0 x1) (x6 : p6 x0 x1) : ∃ x0, ∃ x1, p2 x0 x1 ∧ p3 x0 x1 ∧ p4 x0 x1 ∧ p5 x0 x1 ∧ p6 x0 x1 := ⟨x0, x1, x2, x3, x4, x5, x6⟩
theorem mk_EEEEAA.{u0, u1, u2, u3} {α0 : Sort u0} {α1 : Sort u1} {α2 : Sort u2} {α3 : Sort u3} {p4 : α0 → α1 → α2 → α3 → Prop} {p5 : α0 → α1 → α2 → α3 → Prop} {p6 : α0 → α1 → α2 → α3 → Prop} (x0 : α0) (x1 : α1) (x2 : α2) (x3 : α3) (x4 : p4 x0 x1 x2 x3) (x5 : p5 x0 x1 x2 x3) (x6 : p6 x0 x1 x2 x3) : ∃ x0, ∃ x1, ∃ x2, ∃ x3, p4 x0 x1 x2 x3 ∧ p5 x0 x1 x2 x3 ∧ p6 x0 x1 x2 x3 := ⟨x0, x1, x2, x3, x4, x5, x6⟩
theorem mk_AEEAAAA.{u1, u2} {α1 : Sort u1} {α2 : Sort u2} {p0 : Prop} {p3 : α1 → α2 → Prop} {p4 : α1 → α2 → Prop} {p5 : α1 → α2 → Prop} {p6 : α1 → α2 → Prop} {p7 : α1 → α2 → Prop} (x0 : p0) (x1 : α1) (x2 : α2) (x3 : p3 x1 x2) (x4 : p4 x1 x2) (x5 : p5 x1 x2) (x6 : p6 x1 x2) (x7 : p7 x1 x2) : p0 ∧ (∃ x1, ∃ x2, p3 x1 x2 ∧ p4 x1 x2 ∧ p5 x1 x2 ∧ p6 x1 x2 ∧ p7 x1 x2) := ⟨x0, x1, x2, x3, x4, x5, x6, x7⟩
theorem mk_AEEAAEA.{u1, u2, u5} {α1 : Sort u1} {α2 : Sort u2} {α5 : Sort u5} {p0 : Prop} {p3 : α1 → α2 → Prop} {p4 : α1 → α2 → Prop} {p6 : α1 → α2 → α5 → Prop} {p7 : α1 → α2 → α5 → Prop} (x0 : p0) (x1 : α1) (x2 : α2) (x3 : p3 x1 x2) (x4 : p4 x1 x2) (x5 : α5) (x6 : p6 x1 x2 x5) (x7 : p7 x1 x2 x5) : p0 ∧ (∃ x1, ∃ x2, p3 x1 x2 ∧ p4 x1 x2 ∧ (∃ x5, p6 x1 x2 x5 ∧ p7 x1 x2 x5)) := ⟨x0, x1, x2, x3, x4, x5, x6, x7⟩
theorem mk_AEEAEAA.{u1, u2, u4} {α1 : Sort u1} {α2 : Sort u2} {α4 : Sort u4} {p0 : Prop} {p3 : α1 → α2 → Prop} {p5 : α1 → α2 → α4 → Prop} {p6 : α1 → α2 → α4 → Prop} {p7 : α1 → α2 → α4 → Prop} (x0 : p0) (x1 : α1) (x2 : α2) (x3 : p3 x1 x2) (x4 : α4) (x5 : p5 x1 x2 x4) (x6 : p6 x1 x2 x4) (x7 : p7 x1 x2 x4) : p0 ∧ (∃ x1, ∃ x2, p3 x1 x2 ∧ (∃ x4, p5 x1 x2 x4 ∧ p6 x1 x2 x4 ∧ p7 x1 x2 x4)) := ⟨x0, x1, x2, x3, x4, x5, x6, x7⟩
theorem mk_EAAAAAA.{u0} {α0 : Sort u0} {p1 : α0 → Prop} {p2 : α0 → Prop} {p3 : α0 → Prop} {p4 : α0 → Prop} {p5 : α0 → Prop} {p6 : α0 → Prop} {p7 : α0 → Prop} (x0 : α0) (x1 : p1 x0) (x2 : p2 x0) (x3 : p3 x0) (x4 : p4 x0) (x5 : p5 x0) (x6 : p6 x0) (x7 : p7 x0) : ∃ x0, p1 x0 ∧ p2 x0 ∧ p3 x0 ∧ p4 x0 ∧ p5 x0 ∧ p6 x0 ∧ p7 x0 := ⟨x0, x1, x2, x3, x4, x5, x6, x7⟩
theorem mk_EEAAAAA.{u0, u1} {α0 : Sort u0} {α1 : Sort u1} {p2 : α0 → α1 → Prop} {p3 : α0 → α1 → Prop} {p4 : α0 → α1 → Prop} {p5 : α0 → α1 → Prop} {p6 : α0 → α1 → Prop} {p7 : α0 → α1 → Prop} (x0 : α0) (x1 : α1) (x2 : p2 x0 x1) (x3 : p3 x0 x1) (x4 : p4 x0 x1) (x5 : p5 x0 x1) (x6 : p6 x0 x1) (x7 : p7 x0 x1) : ∃ x0, ∃ x1, p2 x0 x1 ∧ p3 x0 x1 ∧ p4 x0 x1 ∧ p5 x0 x1 ∧ p6 x0 x1 ∧ p7 x0 x1 := ⟨x0, x1, x2, x3, x4, x5, x6, x7⟩
theorem mk_EEEEEAA.{u0, u1, u2, u3, u4} {α0 : Sort u0} {α1 : Sort u1} {α2 : Sort u2} {α3 : Sort u3} {α4 : Sort u4} {p5 : α0 → α1 → α2 → α3 → α4 → Prop} {p6 : α0 → α1 → α2 → α3 → α4 → Prop} {p7 : α0 → α1 → α2 → α3 → α4 → Prop} (x0 : α0) (x1 : α1) (x2 : α2) (x3 : α3) (x4 : α4) (x5 : p5 x0 x1 x2 x3 x4) (x6 : p6 x0 x1 x2 x3 x4) (x7 : p7 x0 x1 x2 x3 x4) : ∃ x0, ∃ x1, ∃ x2, ∃ x3, ∃ x4, p5 x0 x1 x2 x3 x4 ∧ p6 x0 x1 x2 x3 x4 ∧ p7 x0 x1 x2 x3 x4 := ⟨x0, x1, x2, x3, x4, x5, x6, x7⟩
theorem mk_EEEEEEE.{u0, u1, u2, u3, u4, u5, u6} {α0 : Sort u0} {α1 : Sort u1} {α2 : Sort u2} {α3 : Sort u3} {α4 : Sort u4} {α5 : Sort u5} {α6 : Sort u6} {p7 : α0 → α1 → α2 → α3 → α4 → α5 → α6 → Prop} (x0 : α0) (x1 : α1) (x2 : α2) (x3 : α3) (x4 : α4) (x5 : α5) (x6 : α6) (x7 : p7 x0 x1 x2 x3 x4 x5 x6) : ∃ x0, ∃ x1, ∃ x2, ∃ x3, ∃ x4, ∃ x5, ∃ x6, p7 x0 x1 x2 x3 x4 x5 x6 := ⟨x0, x1, x2, x3, x4, x5, x6, x7⟩
theorem mk_AEEAAAAA.{u1, u2} {α1 : Sort u1} {α2 : Sort u2} {p0 : Prop} {p3 : α1 → α2 → Prop} {p4 : α1 → α2 → Prop} {p5 : α1 → α2 → Prop} {p6 : α1 → α2 → Prop} {p7 : α1 → α2 → Prop} {p8 : α1 → α2 → Prop} (x0 : p0) (x1 : α1) (x2 : α2) (x3 : p3 x1 x2) (x4 : p4 x1 x2) (x5 : p5 x1 x2) (x6 : p6 x1 x2) (x7 : p7 x1 x2) (x8 : p8 x1 x2) : p0 ∧ (∃ x1, ∃ x2, p3 x1 x2 ∧ p4 x1 x2 ∧ p5 x1 x2 ∧ p6 x1 x2 ∧ p7 x1 x2 ∧ p8 x1 x2) := ⟨x0, x1, x2, x3, x4, x5, x6, x7, x8⟩
theorem mk_AEEAAAEA.{u1, u2, u6} {α1 : Sort u1} {α2 : Sort u2} {α6 : Sort u6} {p0 : Prop} {p3 : α1 → α2 → Prop} {p4 : α1 → α2 → Prop} {p5 : α1 → α2 → Prop} {p7 : α1 → α2 → α6 → Prop} {p8 : α1 → α2 → α6 → Prop} (x0 : p0) (x1 : α1) (x2 : α2) (x3 : p3 x1 x2) (x4 : p4 x1 x2) (x5 : p5 x1 x2) (x6 : α6) (x7 : p7 x1 x2 x6) (x8 : p8 x1 x2 x6) : p0 ∧ (∃ x1, ∃ x2, p3 x1 x2 ∧ p4 x1 x2 ∧ p5 x1 x2 ∧ (∃ x6, p7 x1 x2 x6 ∧ p8 x1 x2 x6)) := ⟨x0, x1, x2, x3, x4, x5, x6, x7, x8⟩
theorem mk_AEEAAAEE.{u1, u2, u6, u7} {α1 : Sort u1} {α2 : Sort u2} {α6 : Sort u6} {α7 : Sort u7} {p0 : Prop} {p3 : α1 → α2 → Prop} {p4 : α1 → α2 → Prop} {p5 : α1 → α2 → Prop} {p8 : α1 → α2 → α6 → α7 → Prop} (x0 : p0) (x1 : α1) (x2 : α2) (x3 : p3 x1 x2) (x4 : p4 x1 x2) (x5 : p5 x1 x2) (x6 : α6) (x7 : α7) (x8 : p8 x1 x2 x6 x7) : p0 ∧ (∃ x1, ∃ x2, p3 x1 x2 ∧ p4 x1 x2 ∧ p5 x1 x2 ∧ (∃ x6, ∃ x7, p8 x1 x2 x6 x7)) := ⟨x0, x1, x2, x3, x4, x5, x6, x7, x8⟩
theorem mk_AEEAAEAA.{u1, u2, u5} {α1 : Sort u1} {α2 : Sort u2} {α5 : Sort u5} {p0 : Prop} {p3 : α1 → α2 → Prop} {p4 : α1 → α2 → Prop} {p6 : α1 → α2 → α5 → Prop} {p7 : α1 → α2 → α5 → Prop} {p8 : α1 → α2 → α5 → Prop} (x0 : p0) (x1 : α1) (x2 : α2) (x3 : p3 x1 x2) (x4 : p4 x1 x2) (x5 : α5) (x6 : p6 x1 x2 x5) (x7 : p7 x1 x2 x5) (x8 : p8 x1 x2 x5) : p0 ∧ (∃ x1, ∃ x2, p3 x1 x2 ∧ p4 x1 x2 ∧ (∃ x5, p6 x1 x2 x5 ∧ p7 x1 x2 x5 ∧ p8 x1 x2 x5)) := ⟨x0, x1, x2, x3, x4, x5, x6, x7, x8⟩
theorem mk_AEEAEAAA.{u1, u2, u4} {α1 : Sort u1} {α2 : Sort u2} {α4 : Sort u4} {p0 : Prop} {p3 : α1 → α2 → Prop} {p5 : α1 → α2 → α4 → Prop} {p6 : α1 → α2 → α4 → Prop} {p7 : α1 → α2 → α4 → Prop} {p8 : α1 → α2 → α4 → Prop} (x0 : p0) (x1 : α1) (x2 : α2) (x3 : p3 x1 x2) (x4 : α4) (x5 : p5 x1 x2 x4) (x6 : p6 x1 x2 x4) (x7 : p7 x1 x2 x4) (x8 : p8 x1 x2 x4) : p0 ∧ (∃ x1, ∃ x2, p3 x1 x2 ∧ (∃ x4, p5 x1 x2 x4 ∧ p6 x1 x2 x4 ∧ p7 x1 x2 x4 ∧ p8 x1 x2 x4)) := ⟨x0, x1, x2, x3, x4, x5, x6, x7, x8⟩
theorem mk_AEEAEEAA.{u1, u2, u4, u5} {α1 : Sort u1} {α2 : Sort u2} {α4 : Sort u4} {α5 : Sort u5} {p0 : Prop} {p3 : α1 → α2 → Prop} {p6 : α1 → α2 → α4 → α5 → Prop} {p7 : α1 → α2 → α4 → α5 → Prop} {p8 : α1 → α2 → α4 → α5 → Prop} (x0 : p0) (x1 : α1) (x2 : α2) (x3 : p3 x1 x2) (x4 : α4) (x5 : α5) (x6 : p6 x1 x2 x4 x5) (x7 : p7 x1 x2 x4 x5) (x8 : p8 x1 x2 x4 x5) : p0 ∧ (∃ x1, ∃ x2, p3 x1 x2 ∧ (∃ x4, ∃ x5, p6 x1 x2 x4 x5 ∧ p7 x1 x2 x4 x5 ∧ p8 x1 x2 x4 x5)) := ⟨x0, x1, x2, x3, x4, x5, x6, x7, x8⟩
theorem mk_EEEEAAAA.{u0, u1, u2, u3} {α0 : Sort u0} {α1 : Sort u1} {α2 : Sort u2} {α3 : Sort u3} {p4 : α0 → α1 → α2 → α3 → Prop} {p5 : α0 → α1 → α2 → α3 → Prop} {p6 : α0 → α1 → α2 → α3 → Prop} {p7 : α0 → α1 → α2 → α3 → Prop} {p8 : α0 → α1 → α2 → α3 → Prop} (x0 : α0) (x1 : α1) (x2 : α2) (x3 : α3) (x4 : p4 x0 x1 x2 x3) (x5 : p5 x0 x1 x2 x3) (x6 : p6 x0 x1 x2 x3) (x7 : p7 x0 x1 x2 x3) (x8 : p8 x0 x1 x2 x3) : ∃ x0, ∃ x1, ∃ x2, ∃ x3, p4 x0 x1 x2 x3 ∧ p5 x0 x1 x2 x3 ∧ p6 x0 x1 x2 x3 ∧ p7 x0 x1 x2 x3 ∧ p8 x0 x1 x2 x3 := ⟨x0, x1, x2, x3, x4, x5, x6, x7, x8⟩
theorem mk_AEEAAAAAE.{u1, u2, u8} {α1 : Sort u1} {α2 : Sort u2} {α8 : Sort u8} {p0 : Prop} {p3 : α1 → α2 → Prop} {p4 : α1 → α2 → Prop} {p5 : α1 → α2 → Prop} {p6 : α1 → α2 → Prop} {p7 : α1 → α2 → Prop} {p9 : α1 → α2 → α8 → Prop} (x0 : p0) (x1 : α1) (x2 : α2) (x3 : p3 x1 x2) (x4 : p4 x1 x2) (x5 : p5 x1 x2) (x6 : p6 x1 x2) (x7 : p7 x1 x2) (x8 : α8) (x9 : p9 x1 x2 x8) : p0 ∧ (∃ x1, ∃ x2, p3 x1 x2 ∧ p4 x1 x2 ∧ p5 x1 x2 ∧ p6 x1 x2 ∧ p7 x1 x2 ∧ (∃ x8, p9 x1 x2 x8)) := ⟨x0, x1, x2, x3, x4, x5, x6, x7, x8, x9⟩
theorem mk_AEEAAEEAA.{u1, u2, u5, u6} {α1 : Sort u1} {α2 : Sort u2} {α5 : Sort u5} {α6 : Sort u6} {p0 : Prop} {p3 : α1 → α2 → Prop} {p4 : α1 → α2 → Prop} {p7 : α1 → α2 → α5 → α6 → Prop} {p8 : α1 → α2 → α5 → α6 → Prop} {p9 : α1 → α2 → α5 → α6 → Prop} (x0 : p0) (x1 : α1) (x2 : α2) (x3 : p3 x1 x2) (x4 : p4 x1 x2) (x5 : α5) (x6 : α6) (x7 : p7 x1 x2 x5 x6) (x8 : p8 x1 x2 x5 x6) (x9 : p9 x1 x2 x5 x6) : p0 ∧ (∃ x1, ∃ x2, p3 x1 x2 ∧ p4 x1 x2 ∧ (∃ x5, ∃ x6, p7 x1 x2 x5 x6 ∧ p8 x1 x2 x5 x6 ∧ p9 x1 x2 x5 x6)) := ⟨x0, x1, x2, x3, x4, x5, x6, x7, x8, x9⟩
theorem mk_AEEAEEAAA.{u1, u2, u4, u5} {α1 : Sort u1} {α2 : Sort u2} {α4 : Sort u4} {α5 : Sort u5} {p0 : Prop} {p3 : α1 → α2 → Prop} {p6 : α1 → α2 → α4 → α5 → Prop} {p7 : α1 → α2 → α4 → α5 → Prop} {p8 : α1 → α2 → α4 → α5 → Prop} {p9 : α1 → α2 → α4 → α5 → Prop} (x0 : p0) (x1 : α1) (x2 : α2) (x3 : p3 x1 x2) (x4 : α4) (x5 : α5) (x6 : p6 x1 x2 x4 x5) (x7 : p7 x1 x2 x4 x5) (x8 : p8 x1 x2 x4 x5) (x9 : p9 x1 x2 x4 x5) : p0 ∧ (∃ x1, ∃ x2, p3 x1 x2 ∧ (∃ x4, ∃ x5, p6 x1 x2 x4 x5 ∧ p7 x1 x2 x4 x5 ∧ p8 x1 x2 x4 x5 ∧ p9 x1 x2 x4 x5)) := ⟨x0, x1, x2, x3, x4, x5, x6, x7, x8, x9⟩
theorem mk_EEAAAAAEA.{u0, u1, u7} {α0 : Sort u0} {α1 : Sort u1} {α7 : Sort u7} {p2 : α0 → α1 → Prop} {p3 : α0 → α1 → Prop} {p4 : α0 → α1 → Prop} {p5 : α0 → α1 → Prop} {p6 : α0 → α1 → Prop} {p8 : α0 → α1 → α7 → Prop} {p9 : α0 → α1 → α7 → Prop} (x0 : α0) (x1 : α1) (x2 : p2 x0 x1) (x3 : p3 x0 x1) (x4 : p4 x0 x1) (x5 : p5 x0 x1) (x6 : p6 x0 x1) (x7 : α7) (x8 : p8 x0 x1 x7) (x9 : p9 x0 x1 x7) : ∃ x0, ∃ x1, p2 x0 x1 ∧ p3 x0 x1 ∧ p4 x0 x1 ∧ p5 x0 x1 ∧ p6 x0 x1 ∧ (∃ x7, p8 x0 x1 x7 ∧ p9 x0 x1 x7) := ⟨x0, x1, x2, x3, x4, x5, x6, x7, x8, x9⟩
theorem mk_EEAAAAEEA.{u0, u1, u6, u7} {α0 : Sort u0} {α1 : Sort u1} {α6 : Sort u6} {α7 : Sort u7} {p2 : α0 → α1 → Prop} {p3 : α0 → α1 → Prop} {p4 : α0 → α1 → Prop} {p5 : α0 → α1 → Prop} {p8 : α0 → α1 → α6 → α7 → Prop} {p9 : α0 → α1 → α6 → α7 → Prop} (x0 : α0) (x1 : α1) (x2 : p2 x0 x1) (x3 : p3 x0 x1) (x4 : p4 x0 x1) (x5 : p5 x0 x1) (x6 : α6) (x7 : α7) (x8 : p8 x0 x1 x6 x7) (x9 : p9 x0 x1 x6 x7) : ∃ x0, ∃ x1, p2 x0 x1 ∧ p3 x0 x1 ∧ p4 x0 x1 ∧ p5 x0 x1 ∧ (∃ x6, ∃ x7, p8 x0 x1 x6 x7 ∧ p9 x0 x1 x6 x7) := ⟨x0, x1, x2, x3, x4, x5, x6, x7, x8, x9⟩
theorem mk_EEAAEAAAA.{u0, u1, u4} {α0 : Sort u0} {α1 : Sort u1} {α4 : Sort u4} {p2 : α0 → α1 → Prop} {p3 : α0 → α1 → Prop} {p5 : α0 → α1 → α4 → Prop} {p6 : α0 → α1 → α4 → Prop} {p7 : α0 → α1 → α4 → Prop} {p8 : α0 → α1 → α4 → Prop} {p9 : α0 → α1 → α4 → Prop} (x0 : α0) (x1 : α1) (x2 : p2 x0 x1) (x3 : p3 x0 x1) (x4 : α4) (x5 : p5 x0 x1 x4) (x6 : p6 x0 x1 x4) (x7 : p7 x0 x1 x4) (x8 : p8 x0 x1 x4) (x9 : p9 x0 x1 x4) : ∃ x0, ∃ x1, p2 x0 x1 ∧ p3 x0 x1 ∧ (∃ x4, p5 x0 x1 x4 ∧ p6 x0 x1 x4 ∧ p7 x0 x1 x4 ∧ p8 x0 x1 x4 ∧ p9 x0 x1 x4) := ⟨x0, x1, x2, x3, x4, x5, x6, x7, x8, x9⟩
theorem mk_AEEAEAAAAA.{u1, u2, u4} {α1 : Sort u1} {α2 : Sort u2} {α4 : Sort u4} {p0 : Prop} {p3 : α1 → α2 → Prop} {p5 : α1 → α2 → α4 → Prop} {p6 : α1 → α2 → α4 → Prop} {p7 : α1 → α2 → α4 → Prop} {p8 : α1 → α2 → α4 → Prop} {p9 : α1 → α2 → α4 → Prop} {p10 : α1 → α2 → α4 → Prop} (x0 : p0) (x1 : α1) (x2 : α2) (x3 : p3 x1 x2) (x4 : α4) (x5 : p5 x1 x2 x4) (x6 : p6 x1 x2 x4) (x7 : p7 x1 x2 x4) (x8 : p8 x1 x2 x4) (x9 : p9 x1 x2 x4) (x10 : p10 x1 x2 x4) : p0 ∧ (∃ x1, ∃ x2, p3 x1 x2 ∧ (∃ x4, p5 x1 x2 x4 ∧ p6 x1 x2 x4 ∧ p7 x1 x2 x4 ∧ p8 x1 x2 x4 ∧ p9 x1 x2 x4 ∧ p10 x1 x2 x4)) := ⟨x0, x1, x2, x3, x4, x5, x6, x7, x8, x9, x10⟩
theorem mk_EEAAAAAAAA.{u0, u1} {α0 : Sort u0} {α1 : Sort u1} {p2 : α0 → α1 → Prop} {p3 : α0 → α1 → Prop} {p4 : α0 → α1 → Prop} {p5 : α0 → α1 → Prop} {p6 : α0 → α1 → Prop} {p7 : α0 → α1 → Prop} {p8 : α0 → α1 → Prop} {p9 : α0 → α1 → Prop} {p10 : α0 → α1 → Prop} (x0 : α0) (x1 : α1) (x2 : p2 x0 x1) (x3 : p3 x0 x1) (x4 : p4 x0 x1) (x5 : p5 x0 x1) (x6 : p6 x0 x1) (x7 : p7 x0 x1) (x8 : p8 x0 x1) (x9 : p9 x0 x1) (x10 : p10 x0 x1) : ∃ x0, ∃ x1, p2 x0 x1 ∧ p3 x0 x1 ∧ p4 x0 x1 ∧ p5 x0 x1 ∧ p6 x0 x1 ∧ p7 x0 x1 ∧ p8 x0 x1 ∧ p9 x0 x1 ∧ p10 x0 x1 := ⟨x0, x1, x2, x3, x4, x5, x6, x7, x8, x9, x10⟩
theorem mk_EEAAAAAEAA.{u0, u1, u7} {α0 : Sort u0} {α1 : Sort u1} {α7 : Sort u7} {p2 : α0 → α1 → Prop} {p3 : α0 → α1 → Prop} {p4 : α0 → α1 → Prop} {p5 : α0 → α1 → Prop} {p6 : α0 → α1 → Prop} {p8 : α0 → α1 → α7 → Prop} {p9 : α0 → α1 → α7 → Prop} {p10 : α0 → α1 → α7 → Prop} (x0 : α0) (x1 : α1) (x2 : p2 x0 x1) (x3 : p3 x0 x1) (x4 : p4 x0 x1) (x5 : p5 x0 x1) (x6 : p6 x0 x1) (x7 : α7) (x8 : p8 x0 x1 x7) (x9 : p9 x0 x1 x7) (x10 : p10 x0 x1 x7) : ∃ x0, ∃ x1, p2 x0 x1 ∧ p3 x0 x1 ∧ p4 x0 x1 ∧ p5 x0 x1 ∧ p6 x0 x1 ∧ (∃ x7, p8 x0 x1 x7 ∧ p9 x0 x1 x7 ∧ p10 x0 x1 x7) := ⟨x0, x1, x2, x3, x4, x5, x6, x7, x8, x9, x10⟩
theorem mk_EEAAEAAAAA.{u0, u1, u4} {α0 : Sort u0} {α1 : Sort u1} {α4 : Sort u4} {p2 : α0 → α1 → Prop} {p3 : α0 → α1 → Prop} {p5 : α0 → α1 → α4 → Prop} {p6 : α0 → α1 → α4 → Prop} {p7 : α0 → α1 → α4 → Prop} {p8 : α0 → α1 → α4 → Prop} {p9 : α0 → α1 → α4 → Prop} {p10 : α0 → α1 → α4 → Prop} (x0 : α0) (x1 : α1) (x2 : p2 x0 x1) (x3 : p3 x0 x1) (x4 : α4) (x5 : p5 x0 x1 x4) (x6 : p6 x0 x1 x4) (x7 : p7 x0 x1 x4) (x8 : p8 x0 x1 x4) (x9 : p9 x0 x1 x4) (x10 : p10 x0 x1 x4) : ∃ x0, ∃ x1, p2 x0 x1 ∧ p3 x0 x1 ∧ (∃ x4, p5 x0 x1 x4 ∧ p6 x0 x1 x4 ∧ p7 x0 x1 x4 ∧ p8 x0 x1 x4 ∧ p9 x0 x1 x4 ∧ p10 x0 x1 x4) := ⟨x0, x1, x2, x3, x4, x5, x6, x7, x8, x9, x10⟩
theorem mk_AEEAAAAAEAA.{u1, u2, u8} {α1 : Sort u1} {α2 : Sort u2} {α8 : Sort u8} {p0 : Prop} {p3 : α1 → α2 → Prop} {p4 : α1 → α2 → Prop} {p5 : α1 → α2 → Prop} {p6 : α1 → α2 → Prop} {p7 : α1 → α2 → Prop} {p9 : α1 → α2 → α8 → Prop} {p10 : α1 → α2 → α8 → Prop} {p11 : α1 → α2 → α8 → Prop} (x0 : p0) (x1 : α1) (x2 : α2) (x3 : p3 x1 x2) (x4 : p4 x1 x2) (x5 : p5 x1 x2) (x6 : p6 x1 x2) (x7 : p7 x1 x2) (x8 : α8) (x9 : p9 x1 x2 x8) (x10 : p10 x1 x2 x8) (x11 : p11 x1 x2 x8) : p0 ∧ (∃ x1, ∃ x2, p3 x1 x2 ∧ p4 x1 x2 ∧ p5 x1 x2 ∧ p6 x1 x2 ∧ p7 x1 x2 ∧ (∃ x8, p9 x1 x2 x8 ∧ p10 x1 x2 x8 ∧ p11 x1 x2 x8)) := ⟨x0, x1, x2, x3, x4, x5, x6, x7, x8, x9, x10, x11⟩
theorem mk_AEEAEEAAAAA.{u1, u2, u4, u5} {α1 : Sort u1} {α2 : Sort u2} {α4 : Sort u4} {α5 : Sort u5} {p0 : Prop} {p3 : α1 → α2 → Prop} {p6 : α1 → α2 → α4 → α5 → Prop} {p7 : α1 → α2 → α4 → α5 → Prop} {p8 : α1 → α2 → α4 → α5 → Prop} {p9 : α1 → α2 → α4 → α5 → Prop} {p10 : α1 → α2 → α4 → α5 → Prop} {p11 : α1 → α2 → α4 → α5 → Prop} (x0 : p0) (x1 : α1) (x2 : α2) (x3 : p3 x1 x2) (x4 : α4) (x5 : α5) (x6 : p6 x1 x2 x4 x5) (x7 : p7 x1 x2 x4 x5) (x8 : p8 x1 x2 x4 x5) (x9 : p9 x1 x2 x4 x5) (x10 : p10 x1 x2 x4 x5) (x11 : p11 x1 x2 x4 x5) : p0 ∧ (∃ x1, ∃ x2, p3 x1 x2 ∧ (∃ x4, ∃ x5, p6 x1 x2 x4 x5 ∧ p7 x1 x2 x4 x5 ∧ p8 x1 x2 x4 x5 ∧ p9 x1 x2 x4 x5 ∧ p10 x1 x2 x4 x5 ∧ p11 x1 x2 x4 x5)) := ⟨x0, x1, x2, x3, x4, x5, x6, x7, x8, x9, x10, x11⟩
theorem mk_EEAAAAAAEAA.{u0, u1, u8} {α0 : Sort u0} {α1 : Sort u1} {α8 : Sort u8} {p2 : α0 → α1 → Prop} {p3 : α0 → α1 → Prop} {p4 : α0 → α1 → Prop} {p5 : α0 → α1 → Prop} {p6 : α0 → α1 → Prop} {p7 : α0 → α1 → Prop} {p9 : α0 → α1 → α8 → Prop} {p10 : α0 → α1 → α8 → Prop} {p11 : α0 → α1 → α8 → Prop} (x0 : α0) (x1 : α1) (x2 : p2 x0 x1) (x3 : p3 x0 x1) (x4 : p4 x0 x1) (x5 : p5 x0 x1) (x6 : p6 x0 x1) (x7 : p7 x0 x1) (x8 : α8) (x9 : p9 x0 x1 x8) (x10 : p10 x0 x1 x8) (x11 : p11 x0 x1 x8) : ∃ x0, ∃ x1, p2 x0 x1 ∧ p3 x0 x1 ∧ p4 x0 x1 ∧ p5 x0 x1 ∧ p6 x0 x1 ∧ p7 x0 x1 ∧ (∃ x8, p9 x0 x1 x8 ∧ p10 x0 x1 x8 ∧ p11 x0 x1 x8) := ⟨x0, x1, x2, x3, x4, x5, x6, x7, x8, x9, x10, x11⟩
theorem mk_EEEAAAAAAAA.{u0, u1, u2} {α0 : Sort u0} {α1 : Sort u1} {α2 : Sort u2} {p3 : α0 → α1 → α2 → Prop} {p4 : α0 → α1 → α2 → Prop} {p5 : α0 → α1 → α2 → Prop} {p6 : α0 → α1 → α2 → Prop} {p7 : α0 → α1 → α2 → Prop} {p8 : α0 → α1 → α2 → Prop} {p9 : α0 → α1 → α2 → Prop} {p10 : α0 → α1 → α2 → Prop} {p11 : α0 → α1 → α2 → Prop} (x0 : α0) (x1 : α1) (x2 : α2) (x3 : p3 x0 x1 x2) (x4 : p4 x0 x1 x2) (x5 : p5 x0 x1 x2) (x6 : p6 x0 x1 x2) (x7 : p7 x0 x1 x2) (x8 : p8 x0 x1 x2) (x9 : p9 x0 x1 x2) (x10 : p10 x0 x1 x2) (x11 : p11 x0 x1 x2) : ∃ x0, ∃ x1, ∃ x2, p3 x0 x1 x2 ∧ p4 x0 x1 x2 ∧ p5 x0 x1 x2 ∧ p6 x0 x1 x2 ∧ p7 x0 x1 x2 ∧ p8 x0 x1 x2 ∧ p9 x0 x1 x2 ∧ p10 x0 x1 x2 ∧ p11 x0 x1 x2 := ⟨x0, x1, x2, x3, x4, x5, x6, x7, x8, x9, x10, x11⟩
theorem mk_AEEAAAAAAAAA.{u1, u2} {α1 : Sort u1} {α2 : Sort u2} {p0 : Prop} {p3 : α1 → α2 → Prop} {p4 : α1 → α2 → Prop} {p5 : α1 → α2 → Prop} {p6 : α1 → α2 → Prop} {p7 : α1 → α2 → Prop} {p8 : α1 → α2 → Prop} {p9 : α1 → α2 → Prop} {p10 : α1 → α2 → Prop} {p11 : α1 → α2 → Prop} {p12 : α1 → α2 → Prop} (x0 : p0) (x1 : α1) (x2 : α2) (x3 : p3 x1 x2) (x4 : p4 x1 x2) (x5 : p5 x1 x2) (x6 : p6 x1 x2) (x7 : p7 x1 x2) (x8 : p8 x1 x2) (x9 : p9 x1 x2) (x10 : p10 x1 x2) (x11 : p11 x1 x2) (x12 : p12 x1 x2) : p0 ∧ (∃ x1, ∃ x2, p3 x1 x2 ∧ p4 x1 x2 ∧ p5 x1 x2 ∧ p6 x1 x2 ∧ p7 x1 x2 ∧ p8 x1 x2 ∧ p9 x1 x2 ∧ p10 x1 x2 ∧ p11 x1 x2 ∧ p12 x1 x2) := ⟨x0, x1, x2, x3, x4, x5, x6, x7, x8, x9, x10, x11, x12⟩
theorem mk_AEEAAAAAEEAA.{u1, u2, u8, u9} {α1 : Sort u1} {α2 : Sort u2} {α8 : Sort u8} {α9 : Sort u9} {p0 : Prop} {p3 : α1 → α2 → Prop} {p4 : α1 → α2 → Prop} {p5 : α1 → α2 → Prop} {p6 : α1 → α2 → Prop} {p7 : α1 → α2 → Prop} {p10 : α1 → α2 → α8 → α9 → Prop} {p11 : α1 → α2 → α8 → α9 → Prop} {p12 : α1 → α2 → α8 → α9 → Prop} (x0 : p0) (x1 : α1) (x2 : α2) (x3 : p3 x1 x2) (x4 : p4 x1 x2) (x5 : p5 x1 x2) (x6 : p6 x1 x2) (x7 : p7 x1 x2) (x8 : α8) (x9 : α9) (x10 : p10 x1 x2 x8 x9) (x11 : p11 x1 x2 x8 x9) (x12 : p12 x1 x2 x8 x9) : p0 ∧ (∃ x1, ∃ x2, p3 x1 x2 ∧ p4 x1 x2 ∧ p5 x1 x2 ∧ p6 x1 x2 ∧ p7 x1 x2 ∧ (∃ x8, ∃ x9, p10 x1 x2 x8 x9 ∧ p11 x1 x2 x8 x9 ∧ p12 x1 x2 x8 x9)) := ⟨x0, x1, x2, x3, x4, x5, x6, x7, x8, x9, x10, x11, x12⟩
theorem mk_AEEAAEEEAAAA.{u1, u2, u5, u6, u7} {α1 : Sort u1} {α2 : Sort u2} {α5 : Sort u5} {α6 : Sort u6} {α7 : Sort u7} {p0 : Prop} {p3 : α1 → α2 → Prop} {p4 : α1 → α2 → Prop} {p8 : α1 → α2 → α5 → α6 → α7 → Prop} {p9 : α1 → α2 → α5 → α6 → α7 → Prop} {p10 : α1 → α2 → α5 → α6 → α7 → Prop} {p11 : α1 → α2 → α5 → α6 → α7 → Prop} {p12 : α1 → α2 → α5 → α6 → α7 → Prop} (x0 : p0) (x1 : α1) (x2 : α2) (x3 : p3 x1 x2) (x4 : p4 x1 x2) (x5 : α5) (x6 : α6) (x7 : α7) (x8 : p8 x1 x2 x5 x6 x7) (x9 : p9 x1 x2 x5 x6 x7) (x10 : p10 x1 x2 x5 x6 x7) (x11 : p11 x1 x2 x5 x6 x7) (x12 : p12 x1 x2 x5 x6 x7) : p0 ∧ (∃ x1, ∃ x2, p3 x1 x2 ∧ p4 x1 x2 ∧ (∃ x5, ∃ x6, ∃ x7, p8 x1 x2 x5 x6 x7 ∧ p9 x1 x2 x5 x6 x7 ∧ p10 x1 x2 x5 x6 x7 ∧ p11 x1 x2 x5 x6 x7 ∧ p12 x1 x2 x5 x6 x7)) := ⟨x0, x1, x2, x3, x4, x5, x6, x7, x8, x9, x10, x11, x12⟩
theorem mk_AEEAEAAAAAAA.{u1, u2, u4} {α1 : Sort u1} {α2 : Sort u2} {α4 : Sort u4} {p0 : Prop} {p3 : α1 → α2 → Prop} {p5 : α1 → α2 → α4 → Prop} {p6 : α1 → α2 → α4 → Prop} {p7 : α1 → α2 → α4 → Prop} {p8 : α1 → α2 → α4 → Prop} {p9 : α1 → α2 → α4 → Prop} {p10 : α1 → α2 → α4 → Prop} {p11 : α1 → α2 → α4 → Prop} {p12 : α1 → α2 → α4 → Prop} (x0 : p0) (x1 : α1) (x2 : α2) (x3 : p3 x1 x2) (x4 : α4) (x5 : p5 x1 x2 x4) (x6 : p6 x1 x2 x4) (x7 : p7 x1 x2 x4) (x8 : p8 x1 x2 x4) (x9 : p9 x1 x2 x4) (x10 : p10 x1 x2 x4) (x11 : p11 x1 x2 x4) (x12 : p12 x1 x2 x4) : p0 ∧ (∃ x1, ∃ x2, p3 x1 x2 ∧ (∃ x4, p5 x1 x2 x4 ∧ p6 x1 x2 x4 ∧ p7 x1 x2 x4 ∧ p8 x1 x2 x4 ∧ p9 x1 x2 x4 ∧ p10 x1 x2 x4 ∧ p11 x1 x2 x4 ∧ p12 x1 x2 x4)) := ⟨x0, x1, x2, x3, x4, x5, x6, x7, x8, x9, x10, x11, x12⟩
theorem mk_AEEAEEAAAAAA.{u1, u2, u4, u5} {α1 : Sort u1} {α2 : Sort u2} {α4 : Sort u4} {α5 : Sort u5} {p0 : Prop} {p3 : α1 → α2 → Prop} {p6 : α1 → α2 → α4 → α5 → Prop} {p7 : α1 → α2 → α4 → α5 → Prop} {p8 : α1 → α2 → α4 → α5 → Prop} {p9 : α1 → α2 → α4 → α5 → Prop} {p10 : α1 → α2 → α4 → α5 → Prop} {p11 : α1 → α2 → α4 → α5 → Prop} {p12 : α1 → α2 → α4 → α5 → Prop} (x0 : p0) (x1 : α1) (x2 : α2) (x3 : p3 x1 x2) (x4 : α4) (x5 : α5) (x6 : p6 x1 x2 x4 x5) (x7 : p7 x1 x2 x4 x5) (x8 : p8 x1 x2 x4 x5) (x9 : p9 x1 x2 x4 x5) (x10 : p10 x1 x2 x4 x5) (x11 : p11 x1 x2 x4 x5) (x12 : p12 x1 x2 x4 x5) : p0 ∧ (∃ x1, ∃ x2, p3 x1 x2 ∧ (∃ x4, ∃ x5, p6 x1 x2 x4 x5 ∧ p7 x1 x2 x4 x5 ∧ p8 x1 x2 x4 x5 ∧ p9 x1 x2 x4 x5 ∧ p10 x1 x2 x4 x5 ∧ p11 x1 x2 x4 x5 ∧ p12 x1 x2 x4 x5)) := ⟨x0, x1, x2, x3, x4, x5, x6, x7, x8, x9, x10, x11, x12⟩
theorem mk_EEEEEEEEEEAAA.{u0, u1, u2, u3, u4, u5, u6, u7, u8, u9} {α0 : Sort u0} {α1 : Sort u1} {α2 : Sort u2} {α3 : Sort u3} {α4 : Sort u4} {α5 : Sort u5} {α6 : Sort u6} {α7 : Sort u7} {α8 : Sort u8} {α9 : Sort u9} {p10 : α0 → α1 → α2 → α3 → α4 → α5 → α6 → α7 → α8 → α9 → Prop} {p11 : α0 → α1 → α2 → α3 → α4 → α5 → α6 → α7 → α8 → α9 → Prop} {p12 : α0 → α1 → α2 → α3 → α4 → α5 → α6 → α7 → α8 → α9 → Prop} {p13 : α0 → α1 → α2 → α3 → α4 → α5 → α6 → α7 → α8 → α9 → Prop} (x0 : α0) (x1 : α1) (x2 : α2) (x3 : α3) (x4 : α4) (x5 : α5) (x6 : α6) (x7 : α7) (x8 : α8) (x9 : α9) (x10 : p10 x0 x1 x2 x3 x4 x5 x6 x7 x8 x9) (x11 : p11 x0 x1 x2 x3 x4 x5 x6 x7 x8 x9) (x12 : p12 x0 x1 x2 x3 x4 x5 x6 x7 x8 x9) (x13 : p13 x0 x1 x2 x3 x4 x5 x6 x7 x8 x9) : ∃ x0, ∃ x1, ∃ x2, ∃ x3, ∃ x4, ∃ x5, ∃ x6, ∃ x7, ∃ x8, ∃ x9, p10 x0 x1 x2 x3 x4 x5 x6 x7 x8 x9 ∧ p11 x0 x1 x2 x3 x4 x5 x6 x7 x8 x9 ∧ p12 x0 x1 x2 x3 x4 x5 x6 x7 x8 x9 ∧ p13 x0 x1 x2 x3 x4 x5 x6 x7 x8 x9 := ⟨x0, x1, x2, x3, x4, x5, x6, x7, x8, x9, x10, x11, x12, x13⟩
theorem mk_AEEAAEEAAAAAAE.{u1, u2, u5, u6, u13} {α1 : Sort u1} {α2 : Sort u2} {α5 : Sort u5} {α6 : Sort u6} {α13 : Sort u13} {p0 : Prop} {p3 : α1 → α2 → Prop} {p4 : α1 → α2 → Prop} {p7 : α1 → α2 → α5 → α6 → Prop} {p8 : α1 → α2 → α5 → α6 → Prop} {p9 : α1 → α2 → α5 → α6 → Prop} {p10 : α1 → α2 → α5 → α6 → Prop} {p11 : α1 → α2 → α5 → α6 → Prop} {p12 : α1 → α2 → α5 → α6 → Prop} {p14 : α1 → α2 → α5 → α6 → α13 → Prop} (x0 : p0) (x1 : α1) (x2 : α2) (x3 : p3 x1 x2) (x4 : p4 x1 x2) (x5 : α5) (x6 : α6) (x7 : p7 x1 x2 x5 x6) (x8 : p8 x1 x2 x5 x6) (x9 : p9 x1 x2 x5 x6) (x10 : p10 x1 x2 x5 x6) (x11 : p11 x1 x2 x5 x6) (x12 : p12 x1 x2 x5 x6) (x13 : α13) (x14 : p14 x1 x2 x5 x6 x13) : p0 ∧ (∃ x1, ∃ x2, p3 x1 x2 ∧ p4 x1 x2 ∧ (∃ x5, ∃ x6, p7 x1 x2 x5 x6 ∧ p8 x1 x2 x5 x6 ∧ p9 x1 x2 x5 x6 ∧ p10 x1 x2 x5 x6 ∧ p11 x1 x2 x5 x6 ∧ p12 x1 x2 x5 x6 ∧ (∃ x13, p14 x1 x2 x5 x6 x13))) := ⟨x0, x1, x2, x3, x4, x5, x6, x7, x8, x9, x10, x11, x12, x13, x14⟩
theorem mk_AEEAEEAAAAAAAE.{u1, u2, u4, u5, u13} {α1 : Sort u1} {α2 : Sort u2} {α4 : Sort u4} {α5 : Sort u5} {α13 : Sort u13} {p0 : Prop} {p3 : α1 → α2 → Prop} {p6 : α1 → α2 → α4 → α5 → Prop} {p7 : α1 → α2 → α4 → α5 → Prop} {p8 : α1 → α2 → α4 → α5 → Prop} {p9 : α1 → α2 → α4 → α5 → Prop} {p10 : α1 → α2 → α4 → α5 → Prop} {p11 : α1 → α2 → α4 → α5 → Prop} {p12 : α1 → α2 → α4 → α5 → Prop} {p14 : α1 → α2 → α4 → α5 → α13 → Prop} (x0 : p0) (x1 : α1) (x2 : α2) (x3 : p3 x1 x2) (x4 : α4) (x5 : α5) (x6 : p6 x1 x2 x4 x5) (x7 : p7 x1 x2 x4 x5) (x8 : p8 x1 x2 x4 x5) (x9 : p9 x1 x2 x4 x5) (x10 : p10 x1 x2 x4 x5) (x11 : p11 x1 x2 x4 x5) (x12 : p12 x1 x2 x4 x5) (x13 : α13) (x14 : p14 x1 x2 x4 x5 x13) : p0 ∧ (∃ x1, ∃ x2, p3 x1 x2 ∧ (∃ x4, ∃ x5, p6 x1 x2 x4 x5 ∧ p7 x1 x2 x4 x5 ∧ p8 x1 x2 x4 x5 ∧ p9 x1 x2 x4 x5 ∧ p10 x1 x2 x4 x5 ∧ p11 x1 x2 x4 x5 ∧ p12 x1 x2 x4 x5 ∧ (∃ x13, p14 x1 x2 x4 x5 x13))) := ⟨x0, x1, x2, x3, x4, x5, x6, x7, x8, x9, x10, x11, x12, x13, x14⟩
theorem mk_AEEAAEEEEEEEEAAAA.{u1, u2, u5, u6, u7, u8, u9, u10, u11, u12} {α1 : Sort u1} {α2 : Sort u2} {α5 : Sort u5} {α6 : Sort u6} {α7 : Sort u7} {α8 : Sort u8} {α9 : Sort u9} {α10 : Sort u10} {α11 : Sort u11} {α12 : Sort u12} {p0 : Prop} {p3 : α1 → α2 → Prop} {p4 : α1 → α2 → Prop} {p13 : α1 → α2 → α5 → α6 → α7 → α8 → α9 → α10 → α11 → α12 → Prop} {p14 : α1 → α2 → α5 → α6 → α7 → α8 → α9 → α10 → α11 → α12 → Prop} {p15 : α1 → α2 → α5 → α6 → α7 → α8 → α9 → α10 → α11 → α12 → Prop} {p16 : α1 → α2 → α5 → α6 → α7 → α8 → α9 → α10 → α11 → α12 → Prop} {p17 : α1 → α2 → α5 → α6 → α7 → α8 → α9 → α10 → α11 → α12 → Prop} (x0 : p0) (x1 : α1) (x2 : α2) (x3 : p3 x1 x2) (x4 : p4 x1 x2) (x5 : α5) (x6 : α6) (x7 : α7) (x8 : α8) (x9 : α9) (x10 : α10) (x11 : α11) (x12 : α12) (x13 : p13 x1 x2 x5 x6 x7 x8 x9 x10 x11 x12) (x14 : p14 x1 x2 x5 x6 x7 x8 x9 x10 x11 x12) (x15 : p15 x1 x2 x5 x6 x7 x8 x9 x10 x11 x12) (x16 : p16 x1 x2 x5 x6 x7 x8 x9 x10 x11 x12) (x17 : p17 x1 x2 x5 x6 x7 x8 x9 x10 x11 x12) : p0 ∧ (∃ x1, ∃ x2, p3 x1 x2 ∧ p4 x1 x2 ∧ (∃ x5, ∃ x6, ∃ x7, ∃ x8, ∃ x9, ∃ x10, ∃ x11, ∃ x12, p13 x1 x2 x5 x6 x7 x8 x9 x10 x11 x12 ∧ p14 x1 x2 x5 x6 x7 x8 x9 x10 x11 x12 ∧ p15 x1 x2 x5 x6 x7 x8 x9 x10 x11 x12 ∧ p16 x1 x2 x5 x6 x7 x8 x9 x10 x11 x12 ∧ p17 x1 x2 x5 x6 x7 x8 x9 x10 x11 x12)) := ⟨x0, x1, x2, x3, x4, x5, x6, x7, x8, x9, x10, x11, x12, x13, x14, x15, x16, x17⟩
theorem mk_EEEAAEEEAAAAAAAAA.{u0, u1, u2, u5, u6, u7} {α0 : Sort u0} {α1 : Sort u1} {α2 : Sort u2} {α5 : Sort u5} {α6 : Sort u6} {α7 : Sort u7} {p3 : α0 → α1 → α2 → Prop} {p4 : α0 → α1 → α2 → Prop} {p8 : α0 → α1 → α2 → α5 → α6 → α7 → Prop} {p9 : α0 → α1 → α2 → α5 → α6 → α7 → Prop} {p10 : α0 → α1 → α2 → α5 → α6 → α7 → Prop} {p11 : α0 → α1 → α2 → α5 → α6 → α7 → Prop} {p12 : α0 → α1 → α2 → α5 → α6 → α7 → Prop} {p13 : α0 → α1 → α2 → α5 → α6 → α7 → Prop} {p14 : α0 → α1 → α2 → α5 → α6 → α7 → Prop} {p15 : α0 → α1 → α2 → α5 → α6 → α7 → Prop} {p16 : α0 → α1 → α2 → α5 → α6 → α7 → Prop} {p17 : α0 → α1 → α2 → α5 → α6 → α7 → Prop} (x0 : α0) (x1 : α1) (x2 : α2) (x3 : p3 x0 x1 x2) (x4 : p4 x0 x1 x2) (x5 : α5) (x6 : α6) (x7 : α7) (x8 : p8 x0 x1 x2 x5 x6 x7) (x9 : p9 x0 x1 x2 x5 x6 x7) (x10 : p10 x0 x1 x2 x5 x6 x7) (x11 : p11 x0 x1 x2 x5 x6 x7) (x12 : p12 x0 x1 x2 x5 x6 x7) (x13 : p13 x0 x1 x2 x5 x6 x7) (x14 : p14 x0 x1 x2 x5 x6 x7) (x15 : p15 x0 x1 x2 x5 x6 x7) (x16 : p16 x0 x1 x2 x5 x6 x7) (x17 : p17 x0 x1 x2 x5 x6 x7) : ∃ x0, ∃ x1, ∃ x2, p3 x0 x1 x2 ∧ p4 x0 x1 x2 ∧ (∃ x5, ∃ x6, ∃ x7, p8 x0 x1 x2 x5 x6 x7 ∧ p9 x0 x1 x2 x5 x6 x7 ∧ p10 x0 x1 x2 x5 x6 x7 ∧ p11 x0 x1 x2 x5 x6 x7 ∧ p12 x0 x1 x2 x5 x6 x7 ∧ p13 x0 x1 x2 x5 x6 x7 ∧ p14 x0 x1 x2 x5 x6 x7 ∧ p15 x0 x1 x2 x5 x6 x7 ∧ p16 x0 x1 x2 x5 x6 x7 ∧ p17 x0 x1 x2 x5 x6 x7) := ⟨x0, x1, x2, x3, x4, x5, x6, x7, x8, x9, x10, x11, x12, x13, x14, x15, x16, x17⟩
theorem mk_AEEAAAAAEEEEEAAAAAAA.{u1, u2, u8, u9, u10, u11, u12} {α1 : Sort u1} {α2 : Sort u2} {α8 : Sort u8} {α9 : Sort u9} {α10 : Sort u10} {α11 : Sort u11} {α12 : Sort u12} {p0 : Prop} {p3 : α1 → α2 → Prop} {p4 : α1 → α2 → Prop} {p5 : α1 → α2 → Prop} {p6 : α1 → α2 → Prop} {p7 : α1 → α2 → Prop} {p13 : α1 → α2 → α8 → α9 → α10 → α11 → α12 → Prop} {p14 : α1 → α2 → α8 → α9 → α10 → α11 → α12 → Prop} {p15 : α1 → α2 → α8 → α9 → α10 → α11 → α12 → Prop} {p16 : α1 → α2 → α8 → α9 → α10 → α11 → α12 → Prop} {p17 : α1 → α2 → α8 → α9 → α10 → α11 → α12 → Prop} {p18 : α1 → α2 → α8 → α9 → α10 → α11 → α12 → Prop} {p19 : α1 → α2 → α8 → α9 → α10 → α11 → α12 → Prop} {p20 : α1 → α2 → α8 → α9 → α10 → α11 → α12 → Prop} (x0 : p0) (x1 : α1) (x2 : α2) (x3 : p3 x1 x2) (x4 : p4 x1 x2) (x5 : p5 x1 x2) (x6 : p6 x1 x2) (x7 : p7 x1 x2) (x8 : α8) (x9 : α9) (x10 : α10) (x11 : α11) (x12 : α12) (x13 : p13 x1 x2 x8 x9 x10 x11 x12) (x14 : p14 x1 x2 x8 x9 x10 x11 x12) (x15 : p15 x1 x2 x8 x9 x10 x11 x12) (x16 : p16 x1 x2 x8 x9 x10 x11 x12) (x17 : p17 x1 x2 x8 x9 x10 x11 x12) (x18 : p18 x1 x2 x8 x9 x10 x11 x12) (x19 : p19 x1 x2 x8 x9 x10 x11 x12) (x20 : p20 x1 x2 x8 x9 x10 x11 x12) : p0 ∧ (∃ x1, ∃ x2, p3 x1 x2 ∧ p4 x1 x2 ∧ p5 x1 x2 ∧ p6 x1 x2 ∧ p7 x1 x2 ∧ (∃ x8, ∃ x9, ∃ x10, ∃ x11, ∃ x12, p13 x1 x2 x8 x9 x10 x11 x12 ∧ p14 x1 x2 x8 x9 x10 x11 x12 ∧ p15 x1 x2 x8 x9 x10 x11 x12 ∧ p16 x1 x2 x8 x9 x10 x11 x12 ∧ p17 x1 x2 x8 x9 x10 x11 x12 ∧ p18 x1 x2 x8 x9 x10 x11 x12 ∧ p19 x1 x2 x8 x9 x10 x11 x12 ∧ p20 x1 x2 x8 x9 x10 x11 x12)) := ⟨x0, x1, x2, x3, x4, x5, x6, x7, x8, x9, x10, x11, x12, x13, x14, x15, x16, x17, x18, x19, x20⟩
theorem updS {m : Str → Option Value} {x : Str} {v : Value} : upd m x v x = some v := by unfold upd; rw [if_pos rfl]

/-- arguments that are all names of the frame -/
inductive LA (env : Env) (m : Str → Option Value) : List Expr → List Value → Prop
  | nil : LA env m [] []
  | cons {x : Str} {p : Pos} {v : Value} {es : List Expr} {vs : List Value} (kx : true = (okN .local env x)) (hx : m x = some v) (t : LA env m es vs) : LA env m (.Name x p :: es) (v :: vs)
section
variable {prog : Program} {w : World} {A : Around} {E : Value → Shared → Prop} {z s : Shared} {B : Heap} {H : AH} {L : Addr} {O : List Addr} {m : Str → Option Value} {env : Env}
theorem r_args (S : St w z B H L O m s) {es : List Expr} {vs : List Value} {pos : Pos} {Q : List Value → Shared → Prop} (h : LA env m es vs) (q : Q vs s) (hL : L = env.locals := by k_dflt rfl) :
    wpAny (model prog w) A (spliced (backTo pos (starEach es env))) Q E s := by
  induction h generalizing Q with
  | nil => exact args_nil q
  | cons kx hx _ ih => exact args_cons (r_local S hx (ih q) hL kx)
end
/-- the first of the arguments -/
theorem r_arg {M : Model} {A : Around} {s : Shared} {env : Env} {E : Value → Shared → Prop} {e : Expr} {rest : List Expr} {pos : Pos} {Q : List Value → Shared → Prop} (h : wpAny M A (eval e env) (fun v s₁ => wpAny M A (spliced (backTo pos (starEach rest env))) (fun vs s₂ => Q (v :: vs) s₂) E s₁) E s)
    (hb : true = (okA (e :: rest)) := by k_dflt rfl) : wpAny M A (spliced (backTo pos (starEach (e :: rest) env))) Q E s :=
  args_cons h (okA_h (pos := pos) hb).1

/-- a for loop whose invariant, ends and errors are named: what stands behind a turn stays small -/
theorem forL_any {prog : Program} {w : World} {A : Around} {s : Shared} {R : Result → Shared → Prop} {target : Expr} {it : Value} {body : List Stmt} {env : Env} (I : Nat → Shared → Prop)
    (turn : ∀ (I' : Nat → Shared → Prop) (R' : Result → Shared → Prop) (E' : Value → Shared → Prop), (∀ n s, I n s → I' n s) → (∀ r s, R r s → R' r s) → ∀ n s, I n s → wpAny (model prog w) A (pyNext it) (fun r s₁ => match r with
      | none => wpAny (model prog w) A (execs [] env) (fun f s₃ => R' (.ok f) s₃) E' s₁
      | some v => wpAny (model prog w) A (letOwnedTupleGo target it v) (fun _ s₁' =>
          wpAny (model prog w) A (assign target env v) (fun _ s₂ => wpAny (model prog w) A (execs body env) (fun f s₃ => match f with
            | .next | .cont => ∃ m, m < n ∧ I' m s₃
            | .brk => R' (.ok .next) s₃
            | .ret v => R' (.ok (.ret v)) s₃) E' s₂) E' s₁') E' s₁) E' s)
    (n : Nat) (h : I n s) : codeAny (model prog w) A (.forLoop target it body [] env) R s :=
  codeAny_forLoop_any I (fun n s hI => turn I R _ (fun _ _ x => x) (fun _ _ x => x) n s hI) n h

section
variable {prog : Program} {w : World} {A : Around} {E : Value → Shared → Prop} {z s : Shared} {B : Heap} {H : AH} {L : Addr} {O : List Addr} {m : Str → Option Value} {env : Env}
/-- a name and a whole number, joined or compared -/
theorem r_binNI (S : St w z B H L O m s) {x : Str} {p p2 pos : Pos} {v : Value} {i : Int} {k : Nat} {op : Operator} {Q : Value → Shared → Prop} (hx : m x = some v) (q : ∀ t s', St w z B H L O m s' → wpAny (model prog w) A (binaryOp op v (.int i t)) Q E s')
    (hL : L = env.locals := by k_dflt rfl) (kx : true = (okN .local env x) := by k_dflt rfl) :
    wpAny (model prog w) A (eval (.BinOp (.Name x p) op (.Constant (.int i) k p2) pos) env) Q E s :=
  wpAny_BinOp (r_local S hx (r_cint S q) hL kx)
theorem r_cmpNI (S : St w z B H L O m s) {x : Str} {p p2 pos : Pos} {v : Value} {i : Int} {k : Nat} {op : CmpOp} {whole : Sem Value} {Q : Bool → Shared → Prop} (hx : m x = some v)
    (q : ∀ t s', St w z B H L O m s' → wpAny (model prog w) A (compareOp op v (.int i t)) (fun c s₃ => wpAny (model prog w) A (truthy c) Q E s₃) E s')
    (hL : L = env.locals := by k_dflt rfl) (kx : true = (okN .local env x) := by k_dflt rfl) :
    wpAny (model prog w) A (isTrue (.Compare (.Name x p) [op] [.Constant (.int i) k p2] pos) env whole) Q E s :=
  wpAny_isTrue_Compare1 (r_local S hx (r_cint S q) hL kx) rfl
/-- an argument that is a name, or a whole number -/
theorem r_argN (S : St w z B H L O m s) {x : Str} {p pos : Pos} {v : Value} {rest : List Expr} {Q : List Value → Shared → Prop} (hx : m x = some v) (h : wpAny (model prog w) A (spliced (backTo pos (starEach rest env))) (fun vs s₂ => Q (v :: vs) s₂) E s)
    (hL : L = env.locals := by k_dflt rfl) (kx : true = (okN .local env x) := by k_dflt rfl) :
    wpAny (model prog w) A (spliced (backTo pos (starEach (.Name x p :: rest) env))) Q E s := args_cons (r_local S hx h hL kx)
theorem r_argI (S : St w z B H L O m s) {i : Int} {k : Nat} {p pos : Pos} {rest : List Expr} {Q : List Value → Shared → Prop} (h : ∀ t s', St w z B H L O m s' → wpAny (model prog w) A (spliced (backTo pos (starEach rest env))) (fun vs s₂ => Q (.int i t :: vs) s₂) E s') :
    wpAny (model prog w) A (spliced (backTo pos (starEach (.Constant (.int i) k p :: rest) env))) Q E s := args_cons (r_cint S h)
/-- a field of what a name holds -/
theorem r_attrN (S : St w z B H L O m s) (G : Gd w z) {c dx : Addr} {k wd h x y p n v : Value} {nm name : Str} {xp pos : Pos} {Q : Value → Shared → Prop} (hx : m nm = some (.ref c)) (hc : H c = some (.inst dx)) (hd : H dx = some (.cd k wd h x y p n))
    (hf : some v = fld name k wd h x y p n) (hv : handedIn v = true) (q : ∀ s', St w z B H L O m s' → Q v s')
    (hL : L = env.locals := by k_dflt rfl) (kx : true = (okN .local env nm) := by k_dflt rfl) :
    wpAny (model prog w) A (eval (.Attribute (.Name nm xp) name pos) env) Q E s :=
  Attribute_Name_ (r_local S hx (r_attr S G hc hd hf hv q) hL kx) (by with_unfolding_all rfl)
end

section
variable {prog : Program} {w : World} {A : Around} {E : Value → Shared → Prop} {z s : Shared} {B : Heap} {H : AH} {L : Addr} {O : List Addr} {m : Str → Option Value} {env : Env}
/-- a call of a def of the module by its name -/
theorem r_callG (S : St w z B H L O m s) (G : Gd w z) {x : Str} {p pos : Pos} {a : Addr} {e : Expr} {rest : List Expr} {Q : Value → Shared → Prop} (hg : ∀ P, nsIn (hd.heap_39 P) mainGlobals x = some (some (.ref a))) (hk : ∀ P, keepIn (hd.heap_39 P) (.ref a) = true)
    (h : wpAny (model prog w) A (spliced (backTo pos (starEach (e :: rest) env))) (fun vs s₁ => (∀ b o, z.heap.get? b = some o → s₁.heap.get? b = some o) ∧ wpAny (model prog w) A (call (.ref a) vs) Q E s₁) E s)
    (hb : true = ((okG env x && okA (e :: rest))) := by rfl) :
    wpAny (model prog w) A (eval (.Call (.Name x p) (e :: rest) [] pos) env) Q E s :=
  Call_ (r_glob S G hg (r_callWith G hk h (Bool.and_eq_true_iff.mp hb.symm).2.symm) (Bool.and_eq_true_iff.mp hb.symm).1.symm) rfl
theorem r_callB (S : St w z B H L O m s) (G : Gd w z) {x : Str} {p pos : Pos} {v : Value} {args : List Expr} {Q : Value → Shared → Prop} (e : ∀ P, nsIn (hd.heap_39 P) mainGlobals x = some none) (hv : bootBuiltins x = some v)
    (h : wpAny (model prog w) A (callWith pos v [] (backTo pos (starEach args env)) []) Q E s)
    (hb : true = (okB env x) := by rfl) :
    wpAny (model prog w) A (eval (.Call (.Name x p) args [] pos) env) Q E s :=
  Call_ (r_builtin S G e hv h hb) rfl
end

local macro_rules | `(tactic| walk_at "iS") => `(tactic| (rename St _ _ _ _ _ _ _ _ => S0; clear S0; intros))
local macro_rules | `(tactic| walk_at "hne") => `(tactic| first | with_reducible assumption | exact Ne.symm (by with_reducible assumption) | omega)
local macro_rules | `(tactic| walk_at "hget") => `(tactic| k_dflt (first | with_reducible assumption | exact set_self | (refine set_new ?_ ?_; walk_at "hget"; with_reducible assumption) | (refine set_ne ?_ ?_; walk_at "hget"; walk_at "hne")))
local macro_rules | `(tactic| walk_at "sz") => `(tactic| k_dflt (first | exact Nat.le_of_ble_eq_true rfl | assumption | (rw [sizeLine_eq]; first | omega | (simp; omega))))
local macro_rules | `(tactic| walk_at "eval Constant int") => `(tactic| (refine r_cint ‹_› ?_; walk_at "iS"))
local macro_rules | `(tactic| walk_at "eval Constant str") => `(tactic| (refine r_cstr ‹_› ?_; walk_at "iS"))
local macro_rules | `(tactic| walk_at "binaryOp Add int int") => `(tactic| (refine r_add ‹_› ?_; walk_at "iS"))
local macro_rules | `(tactic| walk_at "binaryOp Sub int int") => `(tactic| (refine r_sub ‹_› ?_; walk_at "iS"))
local macro_rules | `(tactic| walk_at "inplaceOp Add int int") => `(tactic| (refine r_iadd ‹_› ?_; walk_at "iS"))
local macro_rules | `(tactic| walk_at "inplaceOp Sub int int") => `(tactic| (refine r_isub ‹_› ?_; walk_at "iS"))
local macro_rules | `(tactic| walk_at "unaryOp USub int") => `(tactic| (refine r_neg ‹_› ?_; walk_at "iS"))
local macro_rules | `(tactic| walk_at "call builtin:abs") => `(tactic| (refine r_abs ‹_› ?_; walk_at "iS"))
local macro_rules | `(tactic| walk_at "call builtin:max") => `(tactic| (refine r_max ‹_› ‹_› ?_; walk_at "iS"))
local macro_rules | `(tactic| walk_at "call builtin:min") => `(tactic| (refine r_min ‹_› ‹_› ?_; walk_at "iS"))
local macro_rules | `(tactic| walk_at "nz") => `(tactic| first | decide | omega)
local macro_rules | `(tactic| walk_at "binaryOp Mod int int") => `(tactic| (refine r_mod ‹_› (by walk_at "nz") ?_; walk_at "iS"))
local macro_rules | `(tactic| walk_at "binaryOp FloorDiv int int") => `(tactic| (refine r_fdiv ‹_› (by walk_at "nz") (by walk_at "nz") ?_; walk_at "iS"))
local macro_rules | `(tactic| walk_at "hname") => `(tactic| k_dflt (first | rfl | assumption | exact updS | (refine upd_nb ?_ rfl; walk_at "hname")))
local macro_rules | `(tactic| walk_at "eval Name") => `(tactic| k_dflt (first | refine r_local ‹_› (by walk_at "hname") ?_ | refine r_glob ‹_› ‹_› (by walk_at "gl") ?_ | refine r_builtin ‹_› ‹_› (by walk_at "gl0") (by boot_fast) ?_))
local macro_rules | `(tactic| walk_at "storeName") => `(tactic| k_dflt (first | (refine r_store ‹_› ?_; walk_at "iS") | (refine r_storeC ‹_› (by rfl) (by walk_at "hget") ‹_› ?_; walk_at "iS")))
local macro_rules | `(tactic| walk_at "eval Attribute") => `(tactic| refine Attribute_any_ ?_)
local macro_rules | `(tactic| walk_at "hv") => `(tactic| first | exact Eq.refl true | assumption)
local macro_rules | `(tactic| walk_at "getAttr ref") => `(tactic| k_dflt (refine r_attr ‹_› ‹_› (by walk_at "hget") (by walk_at "hget") (by rfl) (by walk_at "hv") ?_; walk_at "iS"))
local macro_rules | `(tactic| walk_at "callWith ref") => `(tactic| k_dflt (refine r_callWith ‹_› (by walk_at "gk") ?_))
local macro_rules | `(tactic| walk_at "callWith") => `(tactic| k_dflt (first | refine PyProof.Rows.callWith_builtin1 ?_ | refine Pv.callWith_type1 ?_))
local macro_rules | `(tactic| walk_at "And") => `(tactic| refine ⟨St.zkeep ‹_›, ?_⟩)
local macro_rules | `(tactic| walk_at "newList") => `(tactic| k_dflt (refine r_newList ‹_› (by walk_at "sz") ?_; walk_at "iS"))
local macro_rules | `(tactic| walk_at "newTuple") => `(tactic| k_dflt (refine r_newTuple ‹_› (by walk_at "sz") ?_; walk_at "iS"))
local macro_rules | `(tactic| walk_at "call builtin:len") => `(tactic| k_dflt (refine r_len ‹_› (by walk_at "hget") (by walk_at "sz") ?_; walk_at "iS"))
local macro_rules | `(tactic| walk_at "binaryOp Add ref ref") => `(tactic| k_dflt (refine r_cat ‹_› (by walk_at "hget") (by walk_at "hget") (by walk_at "sz") ?_; walk_at "iS"))
local macro_rules | `(tactic| walk_at "wk") => `(tactic| repeat' (first | walk1 | fail))
local macro_rules | `(tactic| walk_at "exec Assign") => `(tactic| k_dflt (first | refine wpAny_Assign_Name ?_ | refine plainObj_wpAny_Assign_Attribute ?_ | refine wpAny_Assign_Subscript ?_ | refine Assign_Tuple ?_ | refine Assign_Tuple_swapped ?_))
local macro_rules | `(tactic| walk_at "setAttr ref") => `(tactic| k_dflt (refine r_set ‹_› ‹_› (by walk_at "hget") (by walk_at "hget") ‹_› (by rfl) ?_; walk_at "iS"))

local macro_rules | `(tactic| walk_at "execs cons") => `(tactic| refine r_seq ?_)
local macro_rules | `(tactic| walk_at "execs") => `(tactic| refine r_seq ?_)
local macro_rules | `(tactic| walk_at "la") => `(tactic| first | exact LA.nil | exact LA.cons (by k_dflt rfl) (by walk_at "hname") (by walk_at "la"))
local macro_rules | `(tactic| walk_at "spliced") => `(tactic| (first | refine r_args ‹_› (by walk_at "la") ?_ | refine r_argN ‹_› (by walk_at "hname") ?_ | (refine r_argI ‹_› ?_; walk_at "iS") | refine r_arg ?_))
local macro_rules | `(tactic| walk_at "eval BinOp") => `(tactic| with_reducible (refine r_binNI ‹_› (by walk_at "hname") ?_; walk_at "iS"))
local macro_rules | `(tactic| walk_at "isTrue Compare") => `(tactic| with_reducible (refine r_cmpNI ‹_› (by walk_at "hname") ?_; walk_at "iS"))
local macro_rules | `(tactic| walk_at "eval Attribute Name") => `(tactic| k_dflt (refine r_attrN ‹_› ‹_› (by walk_at "hname") (by walk_at "hget") (by walk_at "hget") (by rfl) (by walk_at "hv") ?_; walk_at "iS"))
local macro_rules | `(tactic| walk_at "eval Call") => `(tactic| k_dflt (first | refine r_callG ‹_› ‹_› (by walk_at "gl") (by walk_at "gk") ?_ | refine r_callB ‹_› ‹_› (by walk_at "gl0") (by boot_fast) ?_))

/-! small defs -/
section
variable {prog : Program} {w : World} {A : Around} {E : Value → Shared → Prop} {z s : Shared} {B : Heap} {H : AH} {L : Addr} {O : List Addr} {m : Str → Option Value} {env : Env} {Q : Value → Shared → Prop}

theorem d_kind (S : St w z B H L O m s) (G : Gd w z) (hA : Rm 2 A) {r : Bool} (q : ∀ t s', St w z B H L O m s' → Q (.str (if r then "row" else "column") t) s') :
    wpAny (model prog w) A (call (.ref 74) [.bool r]) Q E s := by
  refine enter' S G hA fd74 (binds := [("is_row", .bool r)]) [] ?_ noMs cd74 rfl (BindsTo.of_eq rfl) rfl rfl rfl rfl rfl
  intro A' B' L' s' E' hA' _ hB S'
  clear S
  cases r
  all_goals
    refine hq fun Q11 k11 => ?_
    repeat walk1
    refine k11 _ _ ?_
    exact mk_EEA _ _ (by assumption) (fun S => q _ _ S)

theorem d_side (S : St w z B H L O m s) (G : Gd w z) (hA : Rm 2 A) {c dx : Addr} {k wd h x y p n : Value} {r : Bool} (hc : H c = some (.inst dx)) (hd : H dx = some (.cd k wd h x y p n)) (h1 : handedIn wd = true) (h2 : handedIn h = true)
    (q : ∀ s', St w z B H L O m s' → Q (if r then wd else h) s') : wpAny (model prog w) A (call (.ref 81) [.ref c, .bool r]) Q E s := by
  refine enter' S G hA fd81 (binds := [("cell", .ref c), ("is_row", .bool r)]) [] ?_ noMs cd81 rfl (BindsTo.of_eq rfl) rfl rfl rfl rfl rfl
  intro A' B' L' s' E' hA' _ hB S'
  clear S
  cases r
  all_goals
    refine hq fun Q21 k21 => ?_
    repeat walk1
    refine k21 _ _ ?_
    exact mk_EEA _ _ (by assumption) (fun S => q _ S)

theorem d_set_side (S : St w z B H L O m s) (G : Gd w z) (hA : Rm 2 A) {c dx : Addr} {k wd h x y p n v : Value} {r : Bool} (hc : H c = some (.inst dx)) (hd : H dx = some (.cd k wd h x y p n)) (hB : B.get? dx = none)
    (q : ∀ s', St w z B (H.set dx (.cd k (if r then v else wd) (if r then h else v) x y p n)) L O m s' → Q .none s') : wpAny (model prog w) A (call (.ref 88) [.ref c, .bool r, v]) Q E s := by
  refine enter' S G hA fd88 (binds := [("cell", .ref c), ("is_row", .bool r), ("side", v)]) [dx] ?_ (fun d hd' => by rw [List.mem_singleton.mp hd']; exact ⟨hB, _, hd⟩) cd88 rfl (BindsTo.of_eq rfl) rfl rfl rfl rfl rfl
  intro A' B' L' s' E' hA' hM hB' S'
  have hBd := hM dx (.head _)
  clear S
  cases r
  all_goals
    refine hq fun Q32 k32 => ?_
    repeat walk1
    refine k32 _ _ ?_
    exact mk_EEA _ _ (by assumption) (fun S => q _ S)
end

/-! loops -/
noncomputable def lit (l : Addr) (i : Nat) : AO := .opq fun o => o.cls = .type "list_iterator" ∧ o.data = .fields #[.ref l, .int i 0]
noncomputable def rit (x left step : Int) : AO := .obj { cls := .type "range_iterator", data := .fields #[rawInt x, rawInt left, rawInt step] }
noncomputable def AH.del (H : AH) (a : Addr) : AH := fun b => if b = a then none else H b
theorem del_self {H : AH} {a : Addr} : (H.del a) a = none := by simp [AH.del]
theorem del_ne {H : AH} {a b : Addr} {r : Option AO} (hr : H b = r) (h : b ≠ a) : (H.del a) b = r := by simp [AH.del, h, hr]
theorem del_le {H : AH} {a : Addr} : Le (H.del a) H := fun b o e => by
  unfold AH.del at e
  split at e
  · cases e
  · exact e
theorem le_del {H H' : AH} {a : Addr} (h : Le H H') (ha : H a = none) : Le H (H'.del a) := fun b o e => del_ne (h b o e) (by first | exact ne_sn e ha | exact ne_ns e ha | exact ne_sn ha e | exact ne_ns ha e)
theorem del_set {H : AH} {a : Addr} {o : AO} (ha : H a = none) : (H.set a o).del a = H := by
  funext b
  unfold AH.del AH.set
  by_cases h : b = a
  · subst h; simp [ha]
  · simp [h]

section
variable {prog : Program} {w : World} {A : Around} {E : Value → Shared → Prop} {z s : Shared} {B : Heap} {H : AH} {L : Addr} {O : List Addr} {m : Str → Option Value} {env : Env}

/-- an object turned by a step that says of the heap only what stays -/
theorem St.turnS (S : St w z B H L O m s) {h' : Heap} {t : Nat} {d : Addr} {o₀ o : AO} {ob : Obj} (hd : H d = some o₀) (hB : B.get? d = none) (k : ∀ b o, b ≠ d → s.heap.get? b = some o → h'.get? b = some o)
    (hg : h'.get? d = some ob) (hi : o.Is w.params ob) : St w z B (H.set d o) L O m { s with heap := h', toks := t } :=
  S.turn (s' := { s with heap := h', toks := t }) hd hB k ⟨rfl, rfl, rfl⟩ hg hi
theorem St.lost (S : St w z B H L O m s) {h' : Heap} {t : Nat} {d : Addr} {o₀ : AO} (hd : H d = some o₀) (hB : B.get? d = none) (k : ∀ b o, b ≠ d → s.heap.get? b = some o → h'.get? b = some o) :
    St w z B (H.del d) L O m { s with heap := h', toks := t } := by
  have hL : d ≠ L := S.ne hd
  refine ⟨S.ns.at' fun o e => k _ _ (Ne.symm hL) e, fun b o q => k b o (by first | exact ne_sn q hB | exact ne_ns q hB | exact ne_sn hB q | exact ne_ns hB q) (S.keep b o q), S.gnd, S.offB, del_ne S.offH (Ne.symm hL), fun a o q => ?_, S.above, fun a ha => ⟨?_, (S.outs a ha).2⟩, S.same⟩
  · unfold AH.del at q
    split at q
    · cases q
    · rename_i h; let ⟨ob, x, y⟩ := S.real a o q; exact ⟨ob, k _ _ h x, y⟩
  · cases q : (H.del d) a with
    | none => rfl
    | some o => have := del_le a o q; rw [(S.outs a ha).1] at this; cases this

/-- a source of items: an iterator object at I -/
structure Src (prog : Program) (w : World) (I : Addr) (n : Nat) (P : Nat → Value → Prop) (it : Nat → AO) (fx : AH → Prop) : Prop where
  next : ∀ {z s : Shared} {B : Heap} {H : AH} {L : Addr} {O : List Addr} {m : Str → Option Value} {A : Around} {Q : Option Value → Shared → Prop} {E : Value → Shared → Prop} {i : Nat}, A.handled = none → St w z B H L O m s → H I = some (it i) → B.get? I = none → fx H → i < n →
    (∀ v s', P i v → St w z B (H.set I (it (i + 1))) L O m s' → Q (some v) s') → wpAny (model prog w) A (pyNext (.ref I)) Q E s
  done : ∀ {z s : Shared} {B : Heap} {H : AH} {L : Addr} {O : List Addr} {m : Str → Option Value} {A : Around} {Q : Option Value → Shared → Prop} {E : Value → Shared → Prop}, A.handled = none → St w z B H L O m s → H I = some (it n) → B.get? I = none → fx H →
    (∀ s', St w z B (H.del I) L O m s' → Q none s') → wpAny (model prog w) A (pyNext (.ref I)) Q E s
  self : ∀ {z s : Shared} {B : Heap} {H : AH} {L : Addr} {O : List Addr} {m : Str → Option Value} {A : Around} {Q : Value → Shared → Prop} {E : Value → Shared → Prop}, A.handled = none → St w z B H L O m s → H I = some (it 0) → Q (.ref I) s → wpAny (model prog w) A (pyIter (.ref I)) Q E s
  let' : ∀ {z s : Shared} {B : Heap} {H : AH} {L : Addr} {O : List Addr} {m : Str → Option Value} {A : Around} {Q : Unit → Shared → Prop} {E : Value → Shared → Prop} {i : Nat} (target : Expr) (v : Value), St w z B H L O m s → H I = some (it i) → Q () s →
    wpAny (model prog w) A (letOwnedTupleGo target (.ref I) v) Q E s

theorem src_list (I l : Addr) (vs : List Value) : Src prog w I vs.length (fun i v => vs[i]? = some v) (lit l) (fun H => H l = some (.lst vs)) where
  next := fun {z s B H L O m A Q E i} hh S hI hB hl hi q => by
    refine op_EA (S.real _ _ hI) fun ob g e => ?_
    refine wpAny_pyNext_list_item ⟨ob, g, e⟩ (S.isList hl) (x := vs[i]) (by simp [hi]) fun h' hit hs => ?_
    refine op_EA hit fun ob' g' e' => ?_
    try clear hit
    exact q _ _ (by simp [hi]) (S.turnS (t := s.toks) hI hB (fun b o hb x => (hs.2 b hb).trans x) g' e')
  done := fun {z s B H L O m A Q E} hh S hI hB hl q => by
    refine op_EA (S.real _ _ hI) fun ob g e => ?_
    exact wpAny_pyNext_list_end hh ⟨ob, g, e⟩ (S.isList hl) (by simp) fun h' he => q _ (S.lost (t := s.toks) hI hB fun b o hb x => he b o hb x)
  self := fun {z s B H L O m A Q E} hh S hI q => by
    refine op_EA (S.real _ _ hI) fun ob g e => ?_
    exact wpAny_pyIter_listiter (i := 0) ⟨ob, g, e⟩ q
  let' := fun {z s B H L O m A Q E i} target v S hI q => by
    refine op_EAA (S.real _ _ hI) fun ob g e1 e2 => ?_
    have main : wpAny (model prog w) A (do
        let (.ref r, .ref a) := ((Value.ref I, v) : Value × Value) | return
        let o ← load r
        match o.cls, o.data with
        | .type n, .fields vs =>
          if ["enumerate", "zip", "dict_itemiterator", "dict_reverseitemiterator", "odict_iterator", "itertools.zip_longest", "itertools.pairwise"].contains n && vs[0]? == some (rawInt a) then
            rule "for.unpacks-the-owned-tuple"
            updateField r 0 .none
        | _, _ => pure ()) Q E s := by
      cases v <;> first | exact wpAny_pure q | skip
      refine wpAny_bind (wpAny_load g ?_)
      rw [e1, e2]
      exact wpAny_pure q
    unfold letOwnedTupleGo
    split <;> first | exact main | exact wpAny_pure q

theorem src_range (I : Addr) (a c : Int) (n : Nat) : Src prog w I n (fun i v => ∃ t, v = .int (a + i * c) t) (fun i => rit (a + i * c) (n - i) c) (fun _ => True) where
  next := fun {z s B H L O m A Q E i} hh S hI hB _ hi q => by
    refine op_EA (S.real _ _ hI) fun ob g e => ?_
    cases e
    refine wpAny_pyNext_range_item g (by lia) fun h' hit hs => ?_
    refine q _ _ ⟨_, rfl⟩ (S.turnS (t := s.toks + 1) hI hB (fun b o hb x => (hs.2 b hb).trans x) hit ?_)
    show _ = _
    have e1 : a + (i : Int) * c + c = a + ((i + 1 : Nat) : Int) * c := by rw [Int.natCast_succ, Int.add_mul, Int.one_mul]; lia
    have e2 : (n : Int) - i - 1 = n - ((i + 1 : Nat) : Int) := by lia
    rw [e1, e2]
  done := fun {z s B H L O m A Q E} hh S hI hB _ q => by
    refine op_EA (S.real _ _ hI) fun ob g e => ?_
    cases e
    exact wpAny_pyNext_range_end hh g (by lia) fun h' he => q _ (S.lost (t := s.toks) hI hB fun b o hb x => he b o hb x)
  self := fun {z s B H L O m A Q E} hh S hI q => by
    refine op_EA (S.real _ _ hI) fun ob g e => ?_
    cases e
    exact (Walks.range (prog := prog) (w := w) hh I a c n).self 0 s Q E (by simpa using g) q
  let' := fun {z s B H L O m A Q E i} target v S hI q => by
    refine op_EA (S.real _ _ hI) fun ob g e => ?_
    cases e
    have main : wpAny (model prog w) A (do
        let (.ref r, .ref a) := ((Value.ref I, v) : Value × Value) | return
        let o ← load r
        match o.cls, o.data with
        | .type n, .fields vs =>
          if ["enumerate", "zip", "dict_itemiterator", "dict_reverseitemiterator", "odict_iterator", "itertools.zip_longest", "itertools.pairwise"].contains n && vs[0]? == some (rawInt a) then
            rule "for.unpacks-the-owned-tuple"
            updateField r 0 .none
        | _, _ => pure ()) Q E s := by
      cases v <;> first | exact wpAny_pure q | skip
      exact wpAny_bind (wpAny_load g (wpAny_pure q))
    unfold letOwnedTupleGo
    split <;> first | exact main | exact wpAny_pure q
end

section
variable {prog : Program} {w : World} {A : Around} {E : Value → Shared → Prop} {z s : Shared} {B : Heap} {H : AH} {L : Addr} {O : List Addr} {m : Str → Option Value} {env : Env}

noncomputable def TurnEnd (w : World) (z : Shared) (B : Heap) (L : Addr) (O : List Addr) (I : Addr) (o : AO) (J : AH → (Str → Option Value) → Prop) (Q : Flow → Shared → Prop) (f : Flow) (s : Shared) : Prop :=
  match f with
  | .ret v => Q (.ret v) s
  | .brk => Q .next s
  | _ => ∃ H' m', St w z B H' L O m' s ∧ H' I = some o ∧ J (H'.del I) m'

theorem set_del {H : AH} {a : Addr} {o : AO} (h : H a = some o) : (H.del a).set a o = H := by
  funext b
  unfold AH.del AH.set
  by_cases e : b = a
  · subst e; simp [h]
  · simp [e]

/-- a for over a source, by an invariant over what is known and the names -/
theorem r_loop {I : Addr} {n : Nat} {P : Nat → Value → Prop} {it : Nat → AO} {fx : AH → Prop} (X : Src prog w I n P it fx) (hA : A.handled = none) {target : Expr} {body : List Stmt} {Q : Flow → Shared → Prop}
    (J : Nat → AH → (Str → Option Value) → Prop) (S : St w z B H L O m s) (hI : H I = some (it 0)) (hB : B.get? I = none) (h0 : J 0 (H.del I) m) (hfx : ∀ i H m o, J i H m → H I = none → fx (H.set I o))
    (turn : ∀ i v H1 m1 s1 E', i < n → P i v → J i H1 m1 → H1 I = none → St w z B (H1.set I (it (i + 1))) L O m1 s1 →
      wpAny (model prog w) A (assign target env v) (fun _ s2 => wpAny (model prog w) A (execs body env) (TurnEnd w z B L O I (it (i + 1)) (J (i + 1)) Q) E' s2) E' s1)
    (done : ∀ H1 m1 s1, J n H1 m1 → H1 I = none → St w z B H1 L O m1 s1 → Q .next s1) :
    codeAny (model prog w) A (.forLoop target (.ref I) body [] env) (fun r s' => match r with | .ok f => Q f s' | .error e => cameBackBy (model prog w) A env E e s') s := by
  refine forL_any (fun k s' => ∃ i H1 m1, St w z B (H1.set I (it i)) L O m1 s' ∧ J i H1 m1 ∧ H1 I = none ∧ i ≤ n ∧ k = n + 1 - i) ?_ (n + 1) ⟨0, H.del I, m, by rw [set_del hI]; exact S, h0, del_self, Nat.zero_le _, rfl⟩
  intro I' R' E1 hI1 hR1 k s' hp2
  refine op_EEEAAAA hp2 fun i H1 m1 S' hJ hI' hi ek1 => ?_
  try clear hp2
  subst ek1
  by_cases hlt : i < n
  · refine X.next hA S' set_self hB (hfx _ _ _ _ hJ hI') hlt fun v s1 hP S1 => ?_
    try dsimp only
    refine X.let' _ _ S1 set_self ?_
    have e : (H1.set I (it i)).set I (it (i + 1)) = H1.set I (it (i + 1)) := by funext b; simp only [AH.set]; split <;> rfl
    rw [e] at S1
    refine wpAny_mono (turn i v H1 m1 s1 _ hlt hP hJ hI' S1) (fun _ s2 h2 => wpAny_mono h2 (fun f s3 h3 => ?_) fun _ _ x => x) fun _ _ x => x
    have fin : (∃ H' m', St w z B H' L O m' s3 ∧ H' I = some (it (i + 1)) ∧ J (i + 1) (H'.del I) m') → ∃ m_1, m_1 < n + 1 - i ∧ I' m_1 s3 := by
      intro hp0
      refine op_EEAA hp0 fun H' m' S3 h1 h2 => ?_
      try clear hp0
      exact mk_EA (n + 1 - (i + 1)) (by grind) (hI1 _ _ (⟨i + 1, H'.del I, m', by rw [set_del h1]; exact S3, h2, del_self, hlt, rfl⟩))
    cases f with
    | next => exact fin h3
    | cont => exact fin h3
    | brk => exact hR1 (.ok .next) _ h3
    | ret v => exact hR1 (.ok (.ret v)) _ h3
  · have hin : i = n := by lia
    subst hin
    refine X.done hA S' set_self hB (hfx _ _ _ _ hJ hI') fun s1 S1 => ?_
    try dsimp only
    rw [del_set hI'] at S1
    exact wpAny_execs_nil (hR1 (.ok .next) _ (done H1 m1 s1 hJ hI' S1))

/-- .. over a list -/
theorem r_forL (hA : A.handled = none) {target : Expr} {body : List Stmt} {Q : Flow → Shared → Prop} {l : Addr} {vs : List Value}
    (J : Nat → AH → (Str → Option Value) → Prop) (S : St w z B H L O m s) (hl : H l = some (.lst vs)) (h0 : J 0 H m) (hfx : ∀ i H m, J i H m → H l = some (.lst vs))
    (turn : ∀ i v H1 m1 s1 I E', vs[i]? = some v → J i H1 m1 → H1 I = none → B.get? I = none → St w z B (H1.set I (lit l (i + 1))) L O m1 s1 →
      wpAny (model prog w) A (assign target env v) (fun _ s2 => wpAny (model prog w) A (execs body env) (TurnEnd w z B L O I (lit l (i + 1)) (J (i + 1)) Q) E' s2) E' s1)
    (done : ∀ H1 m1 s1, J vs.length H1 m1 → St w z B H1 L O m1 s1 → Q .next s1) :
    wpAny (model prog w) A (pyIter (.ref l)) (fun it s₂ => codeAny (model prog w) A (.forLoop target it body [] env) (fun r s' => match r with | .ok f => Q f s' | .error e => cameBackBy (model prog w) A env E e s') s₂) E s := by
  refine wpAny_pyIter_list (S.isList hl) ?_
  refine op_AA (S.new (s' := { s with heap := s.heap.push { cls := .type "list_iterator", data := .fields #[.ref l, .int 0 0] } }) (o := lit l 0) (Heap.get?_none_of_le (Nat.le_refl _)) (fun b o e => Heap.get?_push_of_some _ e) ⟨rfl, rfl, rfl⟩ (Heap.get?_push_size _ rfl) ⟨rfl, rfl⟩) fun S1 n1 b1 => ?_
  exact r_loop (src_list _ l vs) hA J S1 set_self b1 (by rw [del_set n1]; exact h0) (fun i H m o hJ hn => set_new (hfx i H m hJ) hn) (fun i v H1 m1 s1 E' hi hP hJ hn S' => turn i v H1 m1 s1 _ E' hP hJ hn b1 S')
    fun H1 m1 s1 hJ _ S' => done H1 m1 s1 hJ S'

theorem r_asgName (S : St w z B H L O m s) {x : Str} {p : Pos} {v : Value} {Q : Unit → Shared → Prop} (h : ∀ s', St w z B H L O (upd m x v) s' → Q () s')
    (hL : L = env.locals := by rfl) (hx : true = (okN .local env x) := by rfl) : wpAny (model prog w) A (assign (.Name x p) env v) Q E s :=
  wpAny_assign_Name (r_store S h hL hx)
theorem r_asgTup2 (S : St w z B H L O m s) (hA : A.handled = none) {x y : Str} {p q r : Pos} {k : Nat} {t : Addr} {a b : Value} {Q : Unit → Shared → Prop} (ht : H t = some (.tup [a, b])) (h : ∀ s', St w z B H L O (upd (upd m x a) y b) s' → Q () s')
    (hL : L = env.locals := by rfl) (hx : true = (okN .local env x) := by rfl) (hy : true = (okN .local env y) := by rfl) :
    wpAny (model prog w) A (assign (.Tuple [.Name x p, .Name y q] k r) env (.ref t)) Q E s := by
  refine unpackN_ S.fr all_news (S.isTup ht) hA rfl rfl fun h' F' N' => ?_
  have S1 := S.of_uni (t := s.toks) F' N'
  show wpAny _ _ (assignInOrder [assign (.Name x p) env, assign (.Name y q) env] [a, b]) _ _ _
  refine assignInOrder_cons (r_asgName S1 (fun s2 S2 => assignInOrder_cons (r_asgName S2 (fun s3 S3 => assignInOrder_nil (h _ S3)) hL hy)) hL hx)
theorem r_asgTup (S : St w z B H L O m s) (hA : A.handled = none) {elts : List Expr} {k : Nat} {r : Pos} {t : Addr} {vs : List Value} {Q : Unit → Shared → Prop} (ht : H t = some (.tup vs))
    (h : ∀ s', St w z B H L O m s' → wpAny (model prog w) A (assignInOrder ((assignEach elts env).map (·.2)) vs) Q E s')
    (hn : (assignEach elts env).length = vs.length) (hf : (assignEach elts env).findIdx? (·.1) = none) :
    wpAny (model prog w) A (assign (.Tuple elts k r) env (.ref t)) Q E s :=
  unpackN_ S.fr all_news (S.isTup ht) hA (by simpa using hn) hf fun h' F' N' => h _ (S.of_uni (t := s.toks) F' N')
end

/-! comprehensions -/
section
variable {prog : Program} {w : World} {A : Around} {E : Value → Shared → Prop} {R : Result → Shared → Prop} {z s : Shared} {B : Heap} {H : AH} {L C : Addr} {O : List Addr} {m : Str → Option Value} {env : Env}

noncomputable abbrev testsOf (ifs : List Expr) (env : Env) : Sem Bool := forIn ifs true fun c r => if r = true then do let ok ← isTrue c env (eval c env); pure (ForInStep.yield ok) else pure (ForInStep.yield r)

theorem compLoop_any {elt target iter : Expr} {ifs : List Expr} {scope : Scope} {pos : Pos} {it acc : Value} {env : Env} (I : Nat → Shared → Prop)
    (turn : ∀ n s, I n s → wpAny (model prog w) A (pyNext it) (fun r s₁ => match r with
      | none => R (.ok .next) s₁
      | some v => wpAny (model prog w) A (letOwnedTupleGo target it v) (fun _ s₁' => wpAny (model prog w) A (assign target env v) (fun _ s₂ =>
          wpAny (model prog w) A (testsOf ifs env) (fun ok s₃ =>
            if ok = true then wpAny (model prog w) A (eval elt env) (fun x s₄ =>
              wpAny (model prog w) A (call (.builtin "list.append") [acc, x]) (fun _ s₅ => ∃ m, m < n ∧ I m s₅) (notedBy (model prog w) A env fun e s' => R (.error e) s') s₄) (notedBy (model prog w) A env fun e s' => R (.error e) s') s₃
            else ∃ m, m < n ∧ I m s₃) (notedBy (model prog w) A env fun e s' => R (.error e) s') s₂) (notedBy (model prog w) A env fun e s' => R (.error e) s') s₁') (notedBy (model prog w) A env fun e s' => R (.error e) s') s₁) (notedBy (model prog w) A env fun e s' => R (.error e) s') s)
    (n : Nat) (h : I n s) : codeAny (model prog w) A (.compLoop (.ListComp elt [⟨target, iter, ifs, 0⟩] scope pos) 0 it acc env) R s := by
  refine codeAny_loop rfl I (fun n s hI => ?_) n h
  show wpAny _ A ((compTurn (.ListComp elt [⟨target, iter, ifs, 0⟩] scope pos) 0 it acc env).onRaise (fun x => do noteFrame x env; theTreesLotGoes x)) _ _ s
  refine wpAny_noted ?_
  rw [compTurn_list]
  refine wpAny_bind (wpAny_standAt (wpAny_bind (wpAny_mono (turn n s hI) (fun r s₁ h₁ => ?_) fun _ _ h' => h')))
  cases r with
  | none => exact wpAny_pure h₁
  | some v =>
    refine wpAny_bind (wpAny_mono h₁ (fun _ s₁' h₁' => wpAny_bind (wpAny_mono h₁' (fun _ s₂ h₂ => wpAny_bind (wpAny_mono h₂ (fun ok s₃ h₃ => ?_) fun _ _ h' => h')) fun _ _ h' => h')) fun _ _ h' => h')
    cases ok with
    | false => exact wpAny_pure ⟨rfl, h₃⟩
    | true =>
      exact wpAny_bind (wpAny_bind (wpAny_mono h₃ (fun x s₄ h₄ => wpAny_bind (wpAny_mono h₄ (fun _ s₅ h₅ => wpAny_pure (wpAny_pure ⟨rfl, h₅⟩)) fun _ _ h' => h')) fun _ _ h' => h'))

noncomputable def CEnd (w : World) (z : Shared) (B : Heap) (C : Addr) (O : List Addr) (I D : Addr) (o : AO) (ys : List Value) (J : List Value → AH → Prop) (ys' : List Value) (s : Shared) : Prop :=
  ∃ H' m', St w z B H' C O m' s ∧ H' I = some o ∧ H' D = some (.lst ys) ∧ J ys' ((H'.del I).del D)

theorem del_del {H : AH} {a b : Addr} {o p : AO} (hab : b ≠ a) (ha : H a = some o) : (((H.del a).del b).set a o).set b p = H.set b p := by
  funext x
  unfold AH.del AH.set
  by_cases e : x = b
  · simp [e]
  · by_cases e' : x = a
    · subst e'; simp [e, ha]
    · simp [e, e']

theorem r_compLoop {I D : Addr} {n : Nat} {P : Nat → Value → Prop} {it : Nat → AO} {fx : AH → Prop} (X : Src prog w I n P it fx) (hA : A.handled = none) {elt target iter : Expr} {ifs : List Expr} {scope : Scope} {pos : Pos} {cenv : Env}
    (J : Nat → List Value → AH → Prop) (S : St w z B H C O m s) (hI : H I = some (it 0)) (hD : H D = some (.lst [])) (hne : D ≠ I) (hBI : B.get? I = none) (hBD : B.get? D = none) (hn : n ≤ 10000) (h0 : J 0 [] ((H.del I).del D))
    (hfx : ∀ i ys H o o', J i ys H → H I = none → H D = none → fx ((H.set I o).set D o'))
    (turn : ∀ i v ys H1 m1 s1 E', i < n → P i v → J i ys H1 → H1 I = none → H1 D = none → St w z B ((H1.set I (it (i + 1))).set D (.lst ys)) C O m1 s1 →
      wpAny (model prog w) A (assign target cenv v) (fun _ s2 => wpAny (model prog w) A (testsOf ifs cenv) (fun ok s3 =>
        if ok = true then wpAny (model prog w) A (eval elt cenv) (fun y s4 => CEnd w z B C O I D (it (i + 1)) ys (J (i + 1)) (ys ++ [y]) s4) E' s3 else CEnd w z B C O I D (it (i + 1)) ys (J (i + 1)) ys s3) E' s2) E' s1)
    (done : ∀ ys H1 m1 s1, J n ys H1 → H1 I = none → H1 D = none → St w z B (H1.set D (.lst ys)) C O m1 s1 → R (.ok .next) s1) :
    codeAny (model prog w) A (.compLoop (.ListComp elt [⟨target, iter, ifs, 0⟩] scope pos) 0 (.ref I) (.ref D) cenv) R s := by
  refine compLoop_any (fun k s' => ∃ i ys H1 m1, St w z B ((H1.set I (it i)).set D (.lst ys)) C O m1 s' ∧ J i ys H1 ∧ H1 I = none ∧ H1 D = none ∧ ys.length ≤ i ∧ i ≤ n ∧ k = n + 1 - i) ?_ (n + 1)
    ⟨0, [], (H.del I).del D, m, ?_, h0, del_ne del_self (Ne.symm hne), del_self, Nat.le_refl _, Nat.zero_le _, rfl⟩
  · intro k s' hp2
    refine op_EEEEAAAAAA hp2 fun i ys H1 m1 S' hJ h1 h2 hy hi ek1 => ?_
    try clear hp2
    subst ek1
    have gI : ∀ o, ((H1.set I o).set D (.lst ys)) I = some o := fun o => set_ne set_self (Ne.symm hne)
    by_cases hlt : i < n
    · refine X.next hA S' (gI _) hBI (hfx _ _ _ _ _ hJ h1 h2) hlt fun v s1 hP S1 => ?_
      try dsimp only
      refine X.let' _ _ S1 set_self ?_
      have e : (((H1.set I (it i)).set D (.lst ys)).set I (it (i + 1))) = (H1.set I (it (i + 1))).set D (.lst ys) := by
        funext b; simp only [AH.set]
        by_cases e1 : b = D
        · subst e1; simp [hne]
        · by_cases e2 : b = I
          · simp [e2, Ne.symm hne]
          · simp [e1, e2]
      rw [e] at S1
      have fin : ∀ (s3 : Shared) (ys' : List Value) (H' : AH) (m' : Str → Option Value), St w z B (H'.set D (.lst ys')) C O m' s3 → H' I = some (it (i + 1)) → J (i + 1) ys' ((H'.del I).del D) → ys'.length ≤ i + 1 →
          ∃ m_1, m_1 < n + 1 - i ∧ ∃ i ys H1 m1, St w z B ((H1.set I (it i)).set D (.lst ys)) C O m1 s3 ∧ J i ys H1 ∧ H1 I = none ∧ H1 D = none ∧ ys.length ≤ i ∧ i ≤ n ∧ m_1 = n + 1 - i := fun s3 ys' H' m' S3 q1 q2 q3 =>
        ⟨n + 1 - (i + 1), by grind, i + 1, ys', (H'.del I).del D, m', by rw [del_del hne q1]; exact S3, q2, del_ne del_self (Ne.symm hne), del_self, q3, hlt, rfl⟩
      refine wpAny_mono (turn i v ys H1 m1 s1 _ hlt hP hJ h1 h2 S1) (fun _ s2 p2 => wpAny_mono p2 (fun ok s3 p3 => ?_) fun _ _ x => x) fun _ _ x => x
      cases ok with
      | false =>
        simp only [Bool.false_eq_true, if_false] at p3 ⊢
        refine op_EEAAA p3 fun H' m' S3 q1 q2 q3 => ?_
        try clear p3
        exact fin s3 ys H' m' (S3.retype q2 fun _ x => x) q1 q3 (Nat.le_succ_of_le hy)
      | true =>
        simp only [if_true] at p3 ⊢
        refine wpAny_mono p3 (fun y s4 p4 => ?_) fun _ _ x => x
        refine op_EEAAA p4 fun H' m' S3 q1 q2 q3 => ?_
        try clear p4
        refine r_append S3 q2 hBD (by rw [sizeLine_eq]; lia) fun s5 S5 => ?_
        exact fin s5 (ys ++ [y]) H' m' S5 q1 q3 (by simp; omega)
    · have hin : i = n := by lia
      subst hin
      refine X.done hA S' (gI _) hBI (hfx _ _ _ _ _ hJ h1 h2) fun s1 S1 => ?_
      try dsimp only
      have e : (((H1.set I (it i)).set D (.lst ys)).del I) = H1.set D (.lst ys) := by
        funext b; simp only [AH.set, AH.del]
        by_cases e1 : b = I
        · subst e1; simp [Ne.symm hne, h1]
        · simp [e1]
      rw [e] at S1
      exact done ys H1 m1 s1 hJ h1 h2 S1
  · rw [del_del hne hI]
    exact S.retype hD fun _ x => x

theorem St.sameBut (S : St w z B H L O m s) {c : Addr} {h' : Heap} (hs : Heap.SameBut c s.heap h') (hc : L ≠ c) (hH : H c = none) (hB : B.get? c = none) : St w z B H L O m { s with heap := h' } :=
  ⟨S.ns.sameBut hs hc, fun b o e => (hs.2 b (by first | exact ne_sn e hB | exact ne_ns e hB | exact ne_sn hB e | exact ne_ns hB e)).trans (S.keep b o e), S.gnd, S.offB, S.offH, fun a o e => let ⟨ob, x, y⟩ := S.real a o e; ⟨ob, (hs.2 a (by first | exact ne_sn e hH | exact ne_ns e hH | exact ne_sn hH e | exact ne_ns hH e)).trans x, y⟩, S.above, S.outs, S.same⟩

/-- what stands behind the source's iterator of a comprehension -/
noncomputable abbrev CompK (prog : Program) (w : World) (A : Around) (env : Env) (e : Expr) (scope : Scope) (cl : List (Str × Addr)) (E : Value → Shared → Prop) (use : Option (Str × Pos)) (Q : Value → Shared → Prop) (it : Value) (s₂ : Shared) : Prop :=
  wpAny (model prog w) A (newList []) (fun acc s₃ => wpAny (model prog w) A (newFunctionEnv scope env.globals cl [] env.qual none .none (some env)) (fun cenv s₄ =>
    codeAny (model prog w) A (.compStart e 0 it acc { cenv with scope := relabel scope env }) (compPost (model prog w) A E (use.map fun yp => assign (.Name yp.1 yp.2) env) Q acc cenv.locals) s₄) E s₃) E s₂

/-- the scope of a comprehension -/
noncomputable def okS (sc : Scope) : Bool := decide (sc.kind = .function) && sc.names.all fun y => !(y.2 == .local) || sc.names.lookup y.1 == some .local
theorem okS_h {sc : Scope} (h : true = okS sc) : sc.kind = .function ∧ ∀ y ∈ sc.names, y.2 = .local → sc.names.lookup y.1 = some .local := by
  have h' := Bool.and_eq_true_iff.mp h.symm
  refine ⟨of_decide_eq_true h'.1, fun y hy e => ?_⟩
  have := List.all_eq_true.mp h'.2 y hy
  rw [e] at this
  exact beq_iff_eq.mp this

theorem r_comp {elt target iter : Expr} {ifs : List Expr} {scope : Scope} {cl : List (Str × Addr)} {pos : Pos} {Q : Value → Shared → Prop}
    (h : wpAny (model prog w) A (eval iter env) (fun xv s₁ => wpAny (model prog w) A (pyIter xv) (CompK prog w A env (.ListComp elt [⟨target, iter, ifs, 0⟩] scope pos) scope cl E none Q) E s₁) E s)
    (hclos : closureFor scope env = pure cl := by with_unfolding_all rfl) (hb : true = okS scope := by rfl) (hs : ∀ x, foldedSetIterable iter env x = pure x := by intro _; with_unfolding_all rfl) :
    wpAny (model prog w) A (eval (.ListComp elt [⟨target, iter, ifs, 0⟩] scope pos) env) Q E s := by
  rw [eval_ListComp]
  exact wpAny_comprehension_free (use := none) rfl hs hclos (okS_h hb).1 (okS_h hb).2 h

theorem r_compAsg {elt target iter : Expr} {ifs : List Expr} {scope : Scope} {cl : List (Str × Addr)} {pos spos : Pos} {y : Str} {py : Pos} {Q : Flow → Shared → Prop}
    (h : wpAny (model prog w) A (eval iter env) (fun xv s₁ => wpAny (model prog w) A (pyIter xv) (CompK prog w A env (.ListComp elt [⟨target, iter, ifs, 0⟩] scope pos) scope cl E (some (y, py)) (fun _ s' => Q .next s')) E s₁) E s)
    (hclos : closureFor scope env = pure cl := by with_unfolding_all rfl) (hb : true = okS scope := by rfl) (hs : ∀ x, foldedSetIterable iter env x = pure x := by intro _; with_unfolding_all rfl)
    (hsw : swapsWith (.ListComp elt [⟨target, iter, ifs, 0⟩] scope pos) (some (.Name y py)) spos.line env = pure true := by with_unfolding_all rfl) :
    wpAny (model prog w) A (exec (.Assign [.Name y py] (.ListComp elt [⟨target, iter, ifs, 0⟩] scope pos) spos) env) Q E s := by
  rw [exec_Assign_Name_used _ _ _ _ hsw]
  refine wpAny_bind (wpAny_standAt (wpAny_bind ?_))
  show wpAny _ A (do let _ ← comprehension (.ListComp elt [⟨target, iter, ifs, 0⟩] scope pos) scope env _ (newList []) false (eval iter env) (some (assign (.Name y py) env))) _ _ s
  exact wpAny_bind (wpAny_mono (wpAny_comprehension_free (use := some (assign (.Name y py) env)) (Q := fun _ s' => Q .next s') rfl hs hclos (okS_h hb).1 (okS_h hb).2 h) (fun _ s' hq => wpAny_pure (wpAny_pure hq)) fun _ _ e => e)

/-- the body of a comprehension, over a source -/
theorem r_compS {I : Addr} {n : Nat} {P : Nat → Value → Prop} {it : Nat → AO} {fx : AH → Prop} (X : Src prog w I n P it fx) (hA : A.handled = none) {elt target iter : Expr} {ifs : List Expr} {scope : Scope} {cl : List (Str × Addr)} {pos : Pos} {use : Option (Str × Pos)} {Q : Value → Shared → Prop}
    (J : Nat → List Value → AH → Prop) (S : St w z B H L O m s) (hI : H I = some (it 0)) (hBI : B.get? I = none) (hn : n ≤ 10000) (h0 : J 0 [] (H.del I))
    (hcell : ∀ y ∈ scope.names, y.2 ≠ .cell) (hkind : scope.kind = .function)
    (hfx : ∀ D i ys H o o', J i ys H → H I = none → H D = none → D ≠ I → fx ((H.set I o).set D o'))
    (turn : ∀ C D B' i v ys H1 m1 s1 E', (∀ b, B'.get? b = none → B.get? b = none) → i < n → P i v → J i ys H1 → H1 I = none → H1 D = none → D ≠ I → B'.get? I = none → B'.get? D = none → St w z B' ((H1.set I (it (i + 1))).set D (.lst ys)) C (L :: O) m1 s1 →
      wpAny (model prog w) A (assign target (compEnvC scope cl C env) v) (fun _ s2 => wpAny (model prog w) A (testsOf ifs (compEnvC scope cl C env)) (fun ok s3 =>
        if ok = true then wpAny (model prog w) A (eval elt (compEnvC scope cl C env)) (fun y s4 => CEnd w z B' C (L :: O) I D (it (i + 1)) ys (J (i + 1)) (ys ++ [y]) s4) E' s3 else CEnd w z B' C (L :: O) I D (it (i + 1)) ys (J (i + 1)) ys s3) E' s2) E' s1)
    (huse : ∀ y p, use = some (y, p) → env.locals = L ∧ env.scope.kind = .function ∧ env.kindOf y = some .local)
    (done : ∀ D ys H1 s1, J n ys H1 → H1 I = none → H1 D = none → B.get? D = none → St w z B (H1.set D (.lst ys)) L O (match use with | none => m | some yp => upd m yp.1 (.ref D)) s1 → Q (match use with | none => .ref D | some _ => .none) s1) :
    CompK prog w A env (.ListComp elt [⟨target, iter, ifs, 0⟩] scope pos) scope cl E use Q (.ref I) s := by
  refine r_newList S (by rw [sizeLine_eq]; simp) fun D s3 S3 nD bD => ?_
  have hne : D ≠ I := by first | exact ne_sn hI nD | exact ne_ns hI nD | exact ne_sn nD hI | exact ne_ns nD hI
  have hI3 : (H.set D (.lst [])) I = some (it 0) := set_new hI nD
  refine wpAny_newFunctionEnv hcell (by intro y hy; simp at hy) (fun h₁ hns₁ hsb₁ => ?_) hkind
  have hk : ∀ b o, s3.heap.get? b = some o → h₁.get? b = some o := fun b o e => hsb₁.extBut b o (Nat.ne_of_lt (Heap.lt_size e)) (Heap.get?_push_of_some _ e)
  have hM : ∀ d ∈ [I, D], B.get? d = none ∧ ∃ o, (H.set D (.lst [])) d = some o := fun d hd => by
    refine mem_cons_op hd ?_ fun d hd => ?_
    · exact mk_AE hBI _ hI3
    · rw [List.mem_singleton.mp hd]; exact ⟨bD, _, set_self⟩
  have S4 := S3.enter hM (Nat.le_refl _) hns₁ hk (t := s3.toks + ([] : List (Str × Value)).length)
  have hBI' : (hideAll s3.heap [I, D]).get? I = none := hideAll_none _ (.head _)
  have hBD' : (hideAll s3.heap [I, D]).get? D = none := hideAll_none _ (.tail _ (.head _))
  have hBB : ∀ b, (hideAll s3.heap [I, D]).get? b = none → B.get? b = none := fun b e => by
    cases q : B.get? b with
    | none => rfl
    | some o =>
      have := hideAll_get [I, D] (S3.keep _ _ q) (fun x => by rw [(hM _ x).1] at q; cases q)
      rw [e] at this; cases this
  have hd0 : (((H.set D (.lst [])).del I).del D) = H.del I := by
    funext b; simp only [AH.set, AH.del]
    by_cases e1 : b = D
    · subst e1; simp [hne, nD]
    · simp [e1]
  have loop : codeAny (model prog w) A (.compLoop (.ListComp elt [⟨target, iter, ifs, 0⟩] scope pos) 0 (.ref I) (.ref D) (compEnvC scope cl s3.heap.objs.size env)) (compPost (model prog w) A E (use.map fun yp => assign (.Name yp.1 yp.2) env) Q (.ref D) s3.heap.objs.size) { s3 with heap := h₁, toks := s3.toks + ([] : List (Str × Value)).length } := by
    refine r_compLoop X hA J S4 hI3 set_self hne hBI' hBD' hn (by rw [hd0]; exact h0) (fun i ys H o o' a b c => hfx D i ys H o o' a b c hne)
      (fun i v ys H1 m1 s1 E' a b c d e f => turn _ D _ i v ys H1 m1 s1 E' hBB a b c d e hne hBI' hBD' f) fun ys H1 m1 s1 a b c S5 => ?_
    have hL := S3.leave hM (fun b o e q => hideAll_get _ e q) S5
    have hC : L ≠ s3.heap.objs.size := by
      refine op_EEEA S3.ns fun o _ _ x _ => ?_
      exact Nat.ne_of_lt (Heap.lt_size x)
    have d := done D ys H1
    cases use with
    | none => exact ⟨m1, S5.ns, fun h' hs => d _ a b c bD (hL.sameBut hs hC S5.offH (hBB _ S5.offB))⟩
    | some yp =>
      obtain ⟨y, p⟩ := yp
      refine op_AA (huse y p rfl) fun hl hk' hx => ?_
      show wpAny _ _ (assign (.Name y p) env (.ref D)) _ _ _
      refine wpAny_assign_Name (wpAny_storeName_local hx (hl ▸ hL.ns) (fun h₂ hn₂ hs₂ => ?_) (by rw [hk']; rfl))
      refine mk_EA m1 (S5.ns.sameBut hs₂ (by rw [hl]; exact Ne.symm hC)) (fun h' hs => ?_)
      have S6 : St w z B (H1.set D (.lst ys)) L O (upd m y (.ref D)) { s1 with heap := h₂, toks := s1.toks + 1 } := hL.stored (hl ▸ hn₂) (hl ▸ hs₂)
      exact d _ a b c bD (S6.sameBut hs hC S5.offH (hBB _ S5.offB))
  exact codeAny_compStart_list loop (X.self hA S4 hI3 loop)
end

/-! comprehensions over lists, ranges -/
noncomputable def rng (a b c : Int) : AO := .opq fun o => ∃ t u v, o = { cls := .type "range", data := .fields #[.int a t, .int b u, .int c v] }
section
variable {prog : Program} {w : World} {A : Around} {E : Value → Shared → Prop} {z s : Shared} {B : Heap} {H : AH} {L : Addr} {O : List Addr} {m : Str → Option Value} {env : Env}

theorem r_compL (hA : A.handled = none) {elt target iter : Expr} {ifs : List Expr} {scope : Scope} {cl : List (Str × Addr)} {pos : Pos} {use : Option (Str × Pos)} {Q : Value → Shared → Prop} {l : Addr} {vs : List Value}
    (J : Nat → List Value → AH → Prop) (S : St w z B H L O m s) (hl : H l = some (.lst vs)) (hn : vs.length ≤ 10000) (h0 : J 0 [] H)
    (hcell : ∀ y ∈ scope.names, y.2 ≠ .cell) (hkind : scope.kind = .function)
    (hfx : ∀ i ys H, J i ys H → H l = some (.lst vs))
    (turn : ∀ C D I B' i v ys H1 m1 s1 E', (∀ b, B'.get? b = none → B.get? b = none) → vs[i]? = some v → J i ys H1 → H1 I = none → H1 D = none → D ≠ I → B'.get? I = none → B'.get? D = none → St w z B' ((H1.set I (lit l (i + 1))).set D (.lst ys)) C (L :: O) m1 s1 →
      wpAny (model prog w) A (assign target (compEnvC scope cl C env) v) (fun _ s2 => wpAny (model prog w) A (testsOf ifs (compEnvC scope cl C env)) (fun ok s3 =>
        if ok = true then wpAny (model prog w) A (eval elt (compEnvC scope cl C env)) (fun y s4 => CEnd w z B' C (L :: O) I D (lit l (i + 1)) ys (J (i + 1)) (ys ++ [y]) s4) E' s3 else CEnd w z B' C (L :: O) I D (lit l (i + 1)) ys (J (i + 1)) ys s3) E' s2) E' s1)
    (huse : ∀ y p, use = some (y, p) → env.locals = L ∧ env.scope.kind = .function ∧ env.kindOf y = some .local)
    (done : ∀ D ys H1 s1, J vs.length ys H1 → H1 D = none → B.get? D = none → St w z B (H1.set D (.lst ys)) L O (match use with | none => m | some yp => upd m yp.1 (.ref D)) s1 → Q (match use with | none => .ref D | some _ => .none) s1) :
    wpAny (model prog w) A (pyIter (.ref l)) (CompK prog w A env (.ListComp elt [⟨target, iter, ifs, 0⟩] scope pos) scope cl E use Q) E s := by
  refine wpAny_pyIter_list (S.isList hl) ?_
  refine op_AA (S.new (s' := { s with heap := s.heap.push { cls := .type "list_iterator", data := .fields #[.ref l, .int 0 0] } }) (o := lit l 0) (Heap.get?_none_of_le (Nat.le_refl _)) (fun b o e => Heap.get?_push_of_some _ e) ⟨rfl, rfl, rfl⟩ (Heap.get?_push_size _ rfl) ⟨rfl, rfl⟩) fun S1 n1 b1 => ?_
  exact r_compS (src_list _ l vs) hA J S1 set_self b1 hn (by rw [del_set n1]; exact h0) hcell hkind (fun D i ys H o o' hJ h1 h2 hne => set_new (set_new (hfx i ys H hJ) h1) (set_ne h2 hne))
    (fun C D B' i v ys H1 m1 s1 E' hBB hi hP hJ h1 h2 hne h3 h4 S' => turn C D _ B' i v ys H1 m1 s1 E' hBB hP hJ h1 h2 hne h3 h4 S') huse fun D ys H1 s1 hJ _ h2 h3 S' => done D ys H1 s1 hJ h2 h3 S'

theorem r_range1 (S : St w z B H L O m s) {n : Int} {t : Tok} {Q : Value → Shared → Prop} (q : ∀ r s', St w z B (H.set r (rng 0 n 1)) L O m s' → H r = none → B.get? r = none → Q (.ref r) s') :
    wpAny (model prog w) A (call (.type "range") [.int n t]) Q E s :=
  range1_rows S.fr all_news fun h' tk t1 u1 v1 hr F' N' hk => let ⟨x, y, v⟩ := S.new (s' := { s with heap := h', toks := tk }) (o := rng 0 n 1) (Heap.get?_none_of_le (Nat.le_refl _)) hk ⟨rfl, rfl, rfl⟩ hr ⟨t1, u1, v1, rfl⟩; q _ _ x y v
theorem r_range2 (S : St w z B H L O m s) {a n : Int} {t u : Tok} {Q : Value → Shared → Prop} (q : ∀ r s', St w z B (H.set r (rng a n 1)) L O m s' → H r = none → B.get? r = none → Q (.ref r) s') :
    wpAny (model prog w) A (call (.type "range") [.int a t, .int n u]) Q E s :=
  range2_rows S.fr all_news fun h' tk t1 u1 v1 hr F' N' hk => let ⟨x, y, v⟩ := S.new (s' := { s with heap := h', toks := tk }) (o := rng a n 1) (Heap.get?_none_of_le (Nat.le_refl _)) hk ⟨rfl, rfl, rfl⟩ hr ⟨t1, u1, v1, rfl⟩; q _ _ x y v
theorem r_range3 (S : St w z B H L O m s) {a n c : Int} {t u v : Tok} {Q : Value → Shared → Prop} (q : ∀ r s', St w z B (H.set r (rng a n c)) L O m s' → H r = none → B.get? r = none → Q (.ref r) s') (hc : c = -1 := by rfl) :
    wpAny (model prog w) A (call (.type "range") [.int a t, .int n u, .int c v]) Q E s :=
  range3_rows S.fr all_news (by lia) (fun h' tk t1 u1 v1 hr F' N' hk => let ⟨x, y, v⟩ := S.new (s' := { s with heap := h', toks := tk }) (o := rng a n c) (Heap.get?_none_of_le (Nat.le_refl _)) hk ⟨rfl, rfl, rfl⟩ hr ⟨t1, u1, v1, rfl⟩; q _ _ x y v)
    (.inl (by subst hc; unfold Builtin.divisionGoesByPylong; simp; intro h; exact absurd h (by decide)))

/-- the iterator of a range of so many steps -/
theorem r_iterR (S : St w z B H L O m s) {r : Addr} {a b c : Int} {n : Nat} {Q : Value → Shared → Prop} (hr : H r = some (rng a b c)) (hs : Builtin.Range.small a b c = true) (hn : Builtin.Range.rangeSize a b c = n)
    (q : ∀ I s', St w z B (H.set I (rit (a + ((0 : Nat) : Int) * c) ((n : Int) - ((0 : Nat) : Int)) c)) L O m s' → H I = none → B.get? I = none → Q (.ref I) s') : wpAny (model prog w) A (pyIter (.ref r)) Q E s := by
  refine op_EAEEE (S.real _ _ hr) fun ob g t u v ek1 => ?_
  subst ek1
  refine wpAny_pyIter_range g hs ?_
  obtain ⟨S1, n1, b1⟩ := S.new (s' := { s with heap := s.heap.push { cls := .type "range_iterator", data := .fields #[rawInt a, rawInt (Builtin.Range.rangeSize a b c), rawInt c] } }) (o := rit (a + ((0 : Nat) : Int) * c) ((n : Int) - ((0 : Nat) : Int)) c)
    (Heap.get?_none_of_le (Nat.le_refl _)) (fun b o e => Heap.get?_push_of_some _ e) ⟨rfl, rfl, rfl⟩ (Heap.get?_push_size _ rfl) (by show _ = _; rw [hn]; simp)
  exact q _ _ S1 n1 b1

/-- a for over a range that rises by ones -/
theorem r_forR (hA : A.handled = none) {target : Expr} {body : List Stmt} {Q : Flow → Shared → Prop} {r : Addr} {a b c : Int} {n : Nat}
    (J : Nat → AH → (Str → Option Value) → Prop) (S : St w z B H L O m s) (hr : H r = some (rng a b c)) (hs : Builtin.Range.small a b c = true) (hn : Builtin.Range.rangeSize a b c = n) (h0 : J 0 H m)
    (turn : ∀ i t H1 m1 s1 I E', i < n → J i H1 m1 → H1 I = none → B.get? I = none → St w z B (H1.set I (rit (a + ((i + 1 : Nat) : Int) * c) ((n : Int) - ((i + 1 : Nat) : Int)) c)) L O m1 s1 →
      wpAny (model prog w) A (assign target env (.int (a + i * c) t)) (fun _ s2 => wpAny (model prog w) A (execs body env) (TurnEnd w z B L O I (rit (a + ((i + 1 : Nat) : Int) * c) ((n : Int) - ((i + 1 : Nat) : Int)) c) (J (i + 1)) Q) E' s2) E' s1)
    (done : ∀ H1 m1 s1, J n H1 m1 → St w z B H1 L O m1 s1 → Q .next s1) :
    wpAny (model prog w) A (pyIter (.ref r)) (fun it s₂ => codeAny (model prog w) A (.forLoop target it body [] env) (fun r s' => match r with | .ok f => Q f s' | .error e => cameBackBy (model prog w) A env E e s') s₂) E s := by
  refine r_iterR S hr hs hn fun I s1 S1 n1 b1 => ?_
  exact r_loop (src_range I a c n) hA J S1 set_self b1 (by rw [del_set n1]; exact h0) (fun _ _ _ _ _ _ => trivial) (fun i v H1 m1 s1 E' hi ⟨t, hP⟩ hJ hn S' => by subst hP; exact turn i t H1 m1 s1 I E' hi hJ hn b1 S')
    fun H1 m1 s1 hJ _ S' => done H1 m1 s1 hJ S'
/-- a comprehension over such a range -/
theorem r_compR (hA : A.handled = none) {elt target iter : Expr} {ifs : List Expr} {scope : Scope} {cl : List (Str × Addr)} {pos : Pos} {use : Option (Str × Pos)} {Q : Value → Shared → Prop} {r : Addr} {a b c : Int} {n : Nat}
    (J : Nat → List Value → AH → Prop) (S : St w z B H L O m s) (hr : H r = some (rng a b c)) (hs : Builtin.Range.small a b c = true) (hn : Builtin.Range.rangeSize a b c = n) (hz : n ≤ 10000) (h0 : J 0 [] H)
    (hcell : ∀ y ∈ scope.names, y.2 ≠ .cell) (hkind : scope.kind = .function)
    (turn : ∀ C D I B' i t ys H1 m1 s1 E', (∀ b, B'.get? b = none → B.get? b = none) → i < n → J i ys H1 → H1 I = none → H1 D = none → D ≠ I → B'.get? I = none → B'.get? D = none → St w z B' ((H1.set I (rit (a + ((i + 1 : Nat) : Int) * c) ((n : Int) - ((i + 1 : Nat) : Int)) c)).set D (.lst ys)) C (L :: O) m1 s1 →
      wpAny (model prog w) A (assign target (compEnvC scope cl C env) (.int (a + i * c) t)) (fun _ s2 => wpAny (model prog w) A (testsOf ifs (compEnvC scope cl C env)) (fun ok s3 =>
        if ok = true then wpAny (model prog w) A (eval elt (compEnvC scope cl C env)) (fun y s4 => CEnd w z B' C (L :: O) I D (rit (a + ((i + 1 : Nat) : Int) * c) ((n : Int) - ((i + 1 : Nat) : Int)) c) ys (J (i + 1)) (ys ++ [y]) s4) E' s3 else CEnd w z B' C (L :: O) I D (rit (a + ((i + 1 : Nat) : Int) * c) ((n : Int) - ((i + 1 : Nat) : Int)) c) ys (J (i + 1)) ys s3) E' s2) E' s1)
    (huse : ∀ y p, use = some (y, p) → env.locals = L ∧ env.scope.kind = .function ∧ env.kindOf y = some .local)
    (done : ∀ D ys H1 s1, J n ys H1 → H1 D = none → B.get? D = none → St w z B (H1.set D (.lst ys)) L O (match use with | none => m | some yp => upd m yp.1 (.ref D)) s1 → Q (match use with | none => .ref D | some _ => .none) s1) :
    wpAny (model prog w) A (pyIter (.ref r)) (CompK prog w A env (.ListComp elt [⟨target, iter, ifs, 0⟩] scope pos) scope cl E use Q) E s := by
  refine r_iterR S hr hs hn fun I s1 S1 n1 b1 => ?_
  exact r_compS (src_range I a c n) hA J S1 set_self b1 hz (by rw [del_set n1]; exact h0) hcell hkind (fun _ _ _ _ _ _ _ _ _ _ => trivial)
    (fun C D B' i v ys H1 m1 s1 E' hBB hi ⟨t, hP⟩ hJ h1 h2 hne h3 h4 S' => by subst hP; exact turn C D I B' i t ys H1 m1 s1 E' hBB hi hJ h1 h2 hne h3 h4 S') huse fun D ys H1 s1 hJ _ h2 h3 S' => done D ys H1 s1 hJ h2 h3 S'
end

local macro_rules | `(tactic| walk_at "exec Assign cons ListComp") => `(tactic| k_dflt (refine r_compAsg ?_))
local macro_rules | `(tactic| walk_at "eval ListComp") => `(tactic| k_dflt (refine r_comp ?_))

/-! the trees -/
structure Lf where
  a : Addr
  dx : Addr
  pl : Addr
  w : Int
  h : Int
  x : Int
  y : Int
  p : Int
noncomputable def LeafAt (H : AH) (l : Lf) : Prop :=
  H l.a = some (.inst l.dx) ∧ (∃ t0 t1 t2 t3 t4 t5, H l.dx = some (.cd (.str "pane" t0) (.int l.w t1) (.int l.h t2) (.int l.x t3) (.int l.y t4) (.ref l.pl) (.int l.p t5))) ∧ H l.pl = some (.lst [])
theorem LeafAt.mono {H H' : AH} {l : Lf} (h : LeafAt H l) (k : Le H H') : LeafAt H' l :=
  let ⟨h1, ⟨t0, t1, t2, t3, t4, t5, h2⟩, h3⟩ := h; ⟨k _ _ h1, ⟨t0, t1, t2, t3, t4, t5, k _ _ h2⟩, k _ _ h3⟩
structure Nd where
  a : Addr
  dx : Addr
  pl : Addr
  row : Bool
  w : Int
  h : Int
  x : Int
  y : Int
  ls : List Lf
noncomputable def kindS (r : Bool) : Str := if r then "row" else "column"
noncomputable def NodeAt (H : AH) (n : Nd) : Prop :=
  H n.a = some (.inst n.dx) ∧ (∃ t0 t1 t2 t3 t4, H n.dx = some (.cd (.str (kindS n.row) t0) (.int n.w t1) (.int n.h t2) (.int n.x t3) (.int n.y t4) (.ref n.pl) .none)) ∧
    H n.pl = some (.lst (n.ls.map fun l => .ref l.a)) ∧ (∀ l ∈ n.ls, LeafAt H l) ∧ (n.ls.map (·.dx)).Nodup
theorem NodeAt.mono {H H' : AH} {n : Nd} (h : NodeAt H n) (k : Le H H') : NodeAt H' n :=
  let ⟨h1, ⟨t0, t1, t2, t3, t4, h2⟩, h3, h4, h5⟩ := h; ⟨k _ _ h1, ⟨t0, t1, t2, t3, t4, k _ _ h2⟩, k _ _ h3, fun l hl => (h4 l hl).mono k, h5⟩

theorem LeafAt.op {H : AH} {l : Lf} {C : Prop} (h : LeafAt H l)
    (k : H l.a = some (.inst l.dx) → ∀ t0 t1 t2 t3 t4 t5, H l.dx = some (.cd (.str "pane" t0) (.int l.w t1) (.int l.h t2) (.int l.x t3) (.int l.y t4) (.ref l.pl) (.int l.p t5)) → H l.pl = some (.lst []) → C) : C :=
  let ⟨h1, ⟨t0, t1, t2, t3, t4, t5, h2⟩, h3⟩ := h; k h1 t0 t1 t2 t3 t4 t5 h2 h3
theorem NodeAt.op {H : AH} {n : Nd} {C : Prop} (h : NodeAt H n)
    (k : H n.a = some (.inst n.dx) → ∀ t0 t1 t2 t3 t4, H n.dx = some (.cd (.str (kindS n.row) t0) (.int n.w t1) (.int n.h t2) (.int n.x t3) (.int n.y t4) (.ref n.pl) .none) →
      H n.pl = some (.lst (n.ls.map fun l => .ref l.a)) → (∀ l ∈ n.ls, LeafAt H l) → (n.ls.map (·.dx)).Nodup → C) : C :=
  let ⟨h1, ⟨t0, t1, t2, t3, t4, h2⟩, h3, h4, h5⟩ := h; k h1 t0 t1 t2 t3 t4 h2 h3 h4 h5

/-- what a leaf says, without its addresses -/
noncomputable def Lf.dat (l : Lf) : Int × Int × Int × Int × Int := (l.w, l.h, l.x, l.y, l.p)
/-- new and ours -/
noncomputable def Fresh (B : Heap) (H : AH) (l : Lf) : Prop := B.get? l.dx = none ∧ H l.dx = none ∧ H l.a = none ∧ H l.pl = none
theorem Fresh.down {B B' : Heap} {H H' : AH} {l : Lf} (h : Fresh B' H' l) (k : Le H H') (hB : ∀ b, B'.get? b = none → B.get? b = none) : Fresh B H l := ⟨hB _ h.1, k.none h.2.1, k.none h.2.2.1, k.none h.2.2.2⟩

section
variable {prog : Program} {w : World} {A : Around} {E : Value → Shared → Prop} {z s : Shared} {B : Heap} {H : AH} {L : Addr} {O : List Addr} {m : Str → Option Value} {env : Env} {Q : Value → Shared → Prop}

theorem leaf_made {c dx pl : Addr} {wd h x y p : Int} {t0 t1 t2 t3 t4 t5 : Tok} (hpl : H pl = some (.lst [])) (n1 : H c = none) (n2 : H dx = none) (hne : c ≠ dx) :
    LeafAt ((H.set dx (.cd (.str "pane" t0) (.int wd t1) (.int h t2) (.int x t3) (.int y t4) (.ref pl) (.int p t5))).set c (.inst dx)) ⟨c, dx, pl, wd, h, x, y, p⟩ :=
  ⟨set_self, ⟨t0, t1, t2, t3, t4, t5, set_ne set_self (Ne.symm hne)⟩, set_new (set_new hpl n2) (set_ne n1 hne)⟩
theorem le_cell {c dx : Addr} {o o' : AO} (n1 : H c = none) (n2 : H dx = none) : Le H ((H.set dx o).set c o') := fun b o e => set_ne (set_ne e (by first | exact ne_sn e n2 | exact ne_ns e n2 | exact ne_sn n2 e | exact ne_ns n2 e)) (by first | exact ne_sn e n1 | exact ne_ns e n1 | exact ne_sn n1 e | exact ne_ns n1 e)

theorem d_leaf (S : St w z B H L O m s) (G : Gd w z) (hA : Rm 8 A) {p wd h : Int} {t0 t1 t2 : Tok}
    (q : ∀ l s' H', Le H H' → LeafAt H' l → l.dat = (wd, h, 0, 0, p) → Fresh B H l → St w z B H' L O m s' → Q (.ref l.a) s') :
    wpAny (model prog w) A (call (.ref 43) [.int p t0, .int wd t1, .int h t2]) Q E s := by
  refine enter' S G hA fd43 (binds := [("pane", .int p t0), ("width", .int wd t1), ("height", .int h t2)]) [] ?_ noMs cd43 rfl (BindsTo.of_eq rfl) rfl rfl rfl rfl rfl
  intro A' B' L' s' E' hA' _ hB S'
  clear S
  refine hq fun Q57 k57 => ?_
  repeat walk1
  rename St _ _ _ _ _ _ _ _ => S1
  refine c_Cell (nn := 3) S1 G hA' fun c dx s2 S2 n1 n2 b1 b2 hne => ?_
  refine k57 _ _ ?_
  refine ⟨_, _, S2, fun S => q ⟨c, dx, _, wd, h, 0, 0, p⟩ _ _ (fun b o e => le_cell n1 n2 b o (set_new e (by assumption))) (leaf_made set_self n1 n2 hne) rfl ⟨hB _ b2, (Le.set (by assumption)).none n2, (Le.set (by assumption)).none n1, by assumption⟩ S⟩

theorem d_copyL (S : St w z B H L O m s) (G : Gd w z) (hA : Rm 8 A) {l : Lf} (hl : LeafAt H l)
    (q : ∀ l' s' H', Le H H' → LeafAt H' l' → l'.dat = l.dat → Fresh B H l' → St w z B H' L O m s' → Q (.ref l'.a) s') :
    wpAny (model prog w) A (call (.ref 48) [.ref l.a]) Q E s := by
  refine LeafAt.op hl fun h1 t0 t1 t2 t3 t4 t5 h2 h3 => ?_
  try clear hl
  refine enter' S G hA fd48 (binds := [("cell", .ref l.a)]) [] ?_ noMs cd48 rfl (BindsTo.of_eq rfl) rfl rfl rfl rfl rfl
  intro A' B' L' s' E' hA' _ hB S'
  clear S
  refine hq fun Q70 k70 => ?_
  repeat walk1
  rename St _ _ _ _ _ _ _ _ => S1
  refine r_compL hA'.1 (fun i ys H1 => ys = [] ∧ H1 = H) S1 h3 (by simp) ⟨rfl, rfl⟩ (by decide) rfl (fun i ys H1 h => h.2 ▸ h3) (fun C D I B' i v ys H1 m1 s1 E' _ hv => by simp at hv) (fun y p e => by cases e; exact ⟨rfl, rfl, rfl⟩) ?_
  rintro D ys H1 s1 ⟨rfl, rfl⟩ hD hDB S2
  have h1' := set_new (o := .lst []) h1 hD
  have h2' := set_new (o := .lst []) h2 hD
  dsimp only at S2 ⊢
  repeat walk1
  rename St _ _ _ _ _ _ _ _ => S3
  refine c_Cell (nn := 3) S3 G hA' fun c dx s2 S2 n1 n2 b1 b2 hne => ?_
  refine k70 _ _ ?_
  exact ⟨_, _, S2, fun S => q ⟨c, dx, _, l.w, l.h, l.x, l.y, l.p⟩ _ _ (fun b o e => le_cell n1 n2 b o (set_new e hD)) (leaf_made set_self n1 n2 hne) rfl ⟨hB _ b2, (Le.set hD).none n2, (Le.set hD).none n1, hD⟩ S⟩

theorem le_turn {H1 H' : AH} {I D : Addr} {o o' : AO} (hI : H1 I = none) (hD : H1 D = none) (k : Le ((H1.set I o).set D o') H') (hne : D ≠ I) : Le H1 ((H'.del I).del D) :=
  le_del (le_del (fun a p e => k a p (set_new (set_new e hI) (set_ne hD hne))) hI) hD
theorem leaf_turn {H1 H' : AH} {I D : Addr} {o o' : AO} {l : Lf} {B : Heap} (h : LeafAt H' l) (hf : Fresh B ((H1.set I o).set D o') l) (hne : D ≠ I) : LeafAt ((H'.del I).del D) l := by
  refine LeafAt.op h fun h1 t0 t1 t2 t3 t4 t5 h2 h3 => ?_
  try clear h
  refine op_AAA hf fun _ f1 f2 f3 => ?_
  try clear hf
  have nI : ∀ {a}, ((H1.set I o).set D o') a = none → a ≠ I := by rintro a e rfl; rw [set_ne set_self (Ne.symm hne)] at e; cases e
  have nD : ∀ {a}, ((H1.set I o).set D o') a = none → a ≠ D := by rintro a e rfl; rw [set_self] at e; cases e
  exact ⟨del_ne (del_ne h1 (nI f2)) (nD f2), ⟨t0, t1, t2, t3, t4, t5, del_ne (del_ne h2 (nI f1)) (nD f1)⟩, del_ne (del_ne h3 (nI f3)) (nD f3)⟩
theorem ne_of_none_some {H : AH} {a b : Addr} {o : AO} (ha : H a = none) (hb : H b = some o) : a ≠ b := by first | exact ne_sn hb ha | exact ne_ns hb ha | exact ne_sn ha hb | exact ne_ns ha hb

/-- the copies made so far -/
structure Copies (B : Heap) (H H1 : AH) (src : List Lf) (ys : List Value) (ls : List Lf) : Prop where
  ys : ys = ls.map fun l => Value.ref l.a
  dat : ls.map Lf.dat = src.map Lf.dat
  le : Le H H1
  at' : ∀ l ∈ ls, LeafAt H1 l ∧ Fresh B H l
  nd : (ls.map (·.dx)).Nodup

theorem d_copyN (S : St w z B H L O m s) (G : Gd w z) (hA : Rm 12 A) {n : Nd} (hn : NodeAt H n) (hz : n.ls.length ≤ 1000)
    (q : ∀ n' s' H', Le H H' → NodeAt H' n' → n'.ls.map Lf.dat = n.ls.map Lf.dat → (n'.row, n'.w, n'.h, n'.x, n'.y) = (n.row, n.w, n.h, n.x, n.y) → (∀ l ∈ n'.ls, Fresh B H l) → B.get? n'.dx = none → B.get? n'.pl = none → H n'.a = none → H n'.dx = none → H n'.pl = none → St w z B H' L O m s' → Q (.ref n'.a) s') :
    wpAny (model prog w) A (call (.ref 48) [.ref n.a]) Q E s := by
  refine NodeAt.op hn fun h1 t0 t1 t2 t3 t4 h2 h3 h4 h5 => ?_
  try clear hn
  refine enter' S G hA fd48 (binds := [("cell", .ref n.a)]) [] ?_ noMs cd48 rfl (BindsTo.of_eq rfl) rfl rfl rfl rfl rfl
  intro A' B' L' s' E' hA' _ hB S'
  clear S
  refine hq fun Q110 k110 => ?_
  repeat walk1
  rename St _ _ _ _ _ _ _ _ => S1
  refine r_compL hA'.1 (fun i ys H1 => ∃ ls, Copies B' H H1 (n.ls.take i) ys ls) S1 h3 (by simp; omega) ⟨[], rfl, rfl, Le.rfl, (fun _ h => nomatch h), List.nodup_nil⟩ (by decide) rfl (fun i ys H1 h => let ⟨ls, c⟩ := h; c.le _ _ h3) ?_ (fun y p e => by cases e; exact ⟨rfl, rfl, rfl⟩) ?_
  · intro C D I B'' i v ys H1 m1 s1 E'' hBB hv hp13 hI hD hne hBI hBD S2
    obtain ⟨ls, c⟩ := hp13
    refine map_op hv fun l hl => ?_
    try clear hv
    have hlm := List.mem_of_getElem? hl
    refine r_asgName S2 (fun s2 S3 => ?_)
    refine wpAny_tests_nil ?_
    rw [if_pos rfl]
    clear S1 S2
    refine hq fun Q124 k124 => ?_
    repeat walk1
    rename St _ _ _ _ _ _ _ _ => S4
    have hla : LeafAt ((H1.set I (lit n.pl (i + 1))).set D (.lst ys)) l := (h4 l hlm).mono fun a o e => set_new (set_new (c.le a o e) hI) (set_ne hD hne)
    refine d_copyL S4 G (hA'.lo rfl) hla fun l' s5 H5 k5 a5 e5 f5 S5 => ?_
    refine k124 _ _ ?_
    refine ⟨H5, _, S5, k5 _ _ (set_ne set_self (Ne.symm hne)), k5 _ _ set_self, ls ++ [l'], ?_⟩
    have kk := le_turn hI hD k5 hne
    refine ⟨by rw [c.ys]; simp, ?_, c.le.trans kk, fun l0 hl0 => ?_, ?_⟩
    · rw [List.take_add_one, hl]; simp [c.dat, e5]
    · rcases List.mem_append.mp hl0 with h | h
      · exact ⟨(c.at' l0 h).1.mono kk, (c.at' l0 h).2⟩
      · rw [List.mem_singleton.mp h]
        exact ⟨leaf_turn a5 f5 hne, f5.down (fun a o e => set_new (set_new (c.le a o e) hI) (set_ne hD hne)) hBB⟩
    · rw [List.map_append, List.nodup_append]
      refine ⟨c.nd, by simp, ?_⟩
      intro x hx y hy
      refine mem_op hx fun l0 h0 => ?_
      simp at hy
      subst hy
      refine LeafAt.op ((c.at' l0 h0).1) fun _ _ _ _ _ _ _ g _ => ?_
      exact Ne.symm (ne_of_none_some f5.2.1 (set_new (set_new g hI) (set_ne hD hne)))
  · intro D ys H1 s1 hp4 hD hDB S2
    obtain ⟨ls, c⟩ := hp4
    have h1' := set_new (o := .lst ys) (c.le _ _ h1) hD
    have h2' := set_new (o := .lst ys) (c.le _ _ h2) hD
    dsimp only at S2 ⊢
    repeat walk1
    rename St _ _ _ _ _ _ _ _ => S3
    refine c_Cell (nn := 7) S3 G hA' fun c' dx s2 S2 n1 n2 b1 b2 hne => ?_
    refine k110 _ _ ?_
    have kc := le_cell (o := (.cd (.str (kindS n.row) t0) (.int n.w t1) (.int n.h t2) (.int n.x t3) (.int n.y t4) (.ref D) .none)) (o' := .inst dx) n1 n2
    have kH : Le H (H1.set D (.lst ys)) := fun a o e => set_new (c.le a o e) hD
    refine ⟨_, _, S2, fun S => q ⟨c', dx, D, n.row, n.w, n.h, n.x, n.y, ls⟩ _ _ (kH.trans kc) ?_ (by rw [c.dat, List.take_of_length_le (by simp)]) rfl (fun l hl => (c.at' l hl).2.down Le.rfl hB) (hB _ b2) (hB _ hDB) (kH.none n1) (kH.none n2) (c.le.none hD) S⟩
    refine ⟨set_self, ⟨t0, t1, t2, t3, t4, set_ne set_self (Ne.symm hne)⟩, ?_, fun l hl => ((c.at' l hl).1.mono fun a o e => set_new e hD).mono kc, c.nd⟩
    rw [← c.ys]
    exact kc _ _ set_self
end

/-! more rules: methods of lists, sums, least and greatest -/
theorem upd_ne {m : Str → Option Value} {x y : Str} {v : Value} {r : Option Value} (h : m y = r) (hne : y ≠ x) : upd m x v y = r := by unfold upd; rw [if_neg hne]; exact h
theorem upd_self {m : Str → Option Value} {x : Str} {v : Value} : upd m x v x = some v := by unfold upd; rw [if_pos rfl]
section
variable {prog : Program} {w : World} {A : Around} {E : Value → Shared → Prop} {z s : Shared} {B : Heap} {H : AH} {L : Addr} {O : List Addr} {m : Str → Option Value} {env : Env} {Q : Value → Shared → Prop}

theorem r_callMeth {pos : Pos} {id : String} {self : Value} {e : Expr} {rest : List Expr}
    (h : wpAny (model prog w) A (spliced (backTo pos (starEach (e :: rest) env))) (fun vs s₁ => wpAny (model prog w) A (call (.builtin id) (self :: vs)) Q E s₁) E s)
    (hb : true = (okA (e :: rest)) := by rfl) :
    wpAny (model prog w) A (callWith pos (.builtin id) [self] (backTo pos (starEach (e :: rest) env)) []) Q E s := by
  obtain ⟨he, hplain⟩ := okA_h (pos := pos) hb
  rw [he] at h ⊢
  exact callWith_builtin (by show (false || ((backTo pos (starEach rest env)).any fun x => x.fst)) = false; rw [hplain]; rfl) (evalArgs_plain h)

theorem r_extend (S : St w z B H L O m s) {l l' : Addr} {vs ws : List Value} (h : H l = some (.lst vs)) (hB : B.get? l = none) (h' : H l' = some (.lst ws)) (hB' : B.get? l' = none) (hne : ws ≠ []) (hll : l ≠ l') (hz : vs.length + ws.length ≤ 100000)
    (q : ∀ s', St w z B (H.set l (.lst (vs ++ ws))) L O m s' → Q .none s') : wpAny (model prog w) A (call (.builtin "list.extend") [.ref l, .ref l']) Q E s := by
  refine ce fun gl => ?_
  refine op_EAE (S.real _ _ h) fun ob h1 n ek1 => ?_
  subst ek1
  refine op_EAE (S.real _ _ h') fun ob' h1' n' ek2 => ?_
  subst ek2
  refine gl ?_; clear gl
  have hL := S.ne h
  have hm : (l', listOf ws.toArray n') ∈ ((l, listOf vs.toArray n) :: (allOf z.heap s.heap L).filter fun p => p.1 != l) :=
    .tail _ (List.mem_filter.mpr ⟨mem_allOf.mpr ⟨S.ne h', S.znone hB', h1'⟩, by simpa using Ne.symm hll⟩)
  refine kl_extend (l := vs ++ ws) S.fr (news_all h1 hL (S.znone hB)) hm (by simp) (by cases ws <;> simp at hne ⊢) (upd_all h1 hL (S.znone hB)) ?_ (by rw [sizeLine_eq]; simp; lia) (by rw [sizeLine_eq]; simp; (refine Nat.le_trans (by with_reducible assumption) ?_; exact Nat.le_of_ble_eq_true rfl)) fun h' F' N' => q _ (S.turn_uni (t := s.toks) h hB F' N' ⟨n + 1, rfl⟩)
  simp [Builtin.List.listTooLong, sizeLine_eq]
  lia

theorem r_sum (S : St w z B H L O m s) (hA : A.handled = none) {l : Addr} {vs : List Value} {ns : List Int} (h : H l = some (.lst vs)) (hi : IntsAre vs ns) (q : ∀ t s', St w z B H L O m s' → Q (.int ns.sum t) s') : wpAny (model prog w) A (call (.builtin "sum") [.ref l]) Q E s :=
  sumK hA S.fr all_news (S.isList h) hi fun h' tk t' F' N' => q _ _ (S.of_uni F' N')
theorem r_minL (S : St w z B H L O m s) (hA : A.handled = none) {l : Addr} {vs : List Value} {ns : List Int} (h : H l = some (.lst vs)) (hi : IntsAre vs ns) (hn : 0 < ns.length) (q : ∀ M t s', M ∈ ns → (∀ a ∈ ns, M ≤ a) → St w z B H L O m s' → Q (.int M t) s') :
    wpAny (model prog w) A (call (.builtin "min") [.ref l]) Q E s :=
  kso_min S.fr all_news (S.isList h) hi hn hA fun h' M t tk F' N' h1 h2 => q M t _ h1 h2 (S.of_uni F' N')
theorem r_maxL (S : St w z B H L O m s) (hA : A.handled = none) {l : Addr} {vs : List Value} {ns : List Int} (h : H l = some (.lst vs)) (hi : IntsAre vs ns) (hn : 0 < ns.length) (q : ∀ M t s', M ∈ ns → (∀ a ∈ ns, a ≤ M) → St w z B H L O m s' → Q (.int M t) s') :
    wpAny (model prog w) A (call (.builtin "max") [.ref l]) Q E s :=
  kso_max S.fr all_news (S.isList h) hi hn hA fun h' M t tk F' N' h1 h2 => q M t _ h1 h2 (S.of_uni F' N')
theorem r_isOther (S : St w z B H L O m s) {x y d d' : Addr} (hx : H x = some (.inst d)) (hy : H y = some (.inst d')) (hne : x ≠ y) (q : Q (.bool false) s) :
    wpAny (model prog w) A (compareOp .Is (.ref x) (.ref y)) Q E s := by
  refine ce fun gl => ?_
  refine op_EA (S.real _ _ hx) fun ob g e => ?_
  refine op_EA (S.real _ _ hy) fun ob' g' e' => ?_
  refine gl ?_; clear gl
  refine kto_is g g' hne ?_ q
  cases e; simp
theorem rm_lo {n k : Nat} {A : Around} (h : Rm k A) (e : Nat.ble n k = true := by exact Eq.refl true) : Rm n A := Rm.lo h e
end
theorem kindS_pane (r : Bool) : (kindS r == ("pane" : Str)) = false := by cases r <;> decide
theorem kindS_pane' (r : Bool) : (kindS r != ("pane" : Str)) = true := by cases r <;> decide
/-- what a condition is unfolded with, in one -/
theorem cndS : (∀ (p : Prop) [Decidable p], (decide p = true) = p) ∧ (∀ (p : Prop) [Decidable p], decide p = false ↔ ¬ p) ∧ (∀ {α : Type} [BEq α] [LawfulBEq α] {a b : α}, (a == b) = true ↔ a = b) ∧
    (∀ {α : Type} [BEq α] [LawfulBEq α] {a b : α}, (a != b) = true ↔ a ≠ b) ∧ (∀ {α : Type} (a b : α), (a ≠ b) = ¬ (a = b)) ∧ (∀ b : Bool, (¬ b = true) = (b = false)) ∧ (∀ b : Bool, (¬ b = false) = (b = true)) ∧ (∀ b : Bool, (!!b) = b) ∧
    ((false = true) = False) ∧ ((¬ False) = True) ∧ (∀ r, (kindS r == ("pane" : Str)) = false) ∧ (∀ r, (kindS r != ("pane" : Str)) = true) ∧
    (∀ {α : Type} {a : α} {l : List α}, (a :: l).length = l.length + 1) ∧ (∀ {α : Type}, ([] : List α).length = 0) ∧ (∀ {α β : Type} {l : List α} (f : α → β), (l.map f).length = l.length) ∧ (∀ {α : Type} {l m : List α}, (l ++ m).length = l.length + m.length) :=
  ⟨@decide_eq_true_eq, @decide_eq_false_iff_not, @beq_iff_eq, @bne_iff_ne, fun _ _ => rfl, Bool.not_eq_true, Bool.not_eq_false, Bool.not_not, Bool.false_eq_true, not_false_eq_true, kindS_pane, kindS_pane', @List.length_cons, @List.length_nil, @List.length_map, @List.length_append⟩
theorem kindS_eq (r r' : Bool) : (kindS r == kindS r') = (r == r') := by cases r <;> cases r' <;> decide
theorem kindS_row (r : Bool) : (kindS r == ("row" : Str)) = r := by cases r <;> decide

local macro_rules | `(tactic| walk_at "cond") => `(tactic| first | assumption | (simp only [cndS]; first | done | omega | decide))
local macro_rules | `(tactic| walk_at "ite") => `(tactic| k_dflt (first | refine ite_pos rfl ?_ | refine ite_neg (by decide) ?_ | refine ite_pos (by walk_at "cond") ?_ | refine ite_neg (by walk_at "cond") ?_))
local macro_rules | `(tactic| walk_at "exec Expr") => `(tactic| k_dflt (refine wpAny_Expr_any ?_))
local macro_rules | `(tactic| walk_at "eval Call Attribute") => `(tactic| k_dflt (refine MethodCall_ ?_))
local macro_rules | `(tactic| walk_at "getMethod ref") => `(tactic| k_dflt (first | refine r_method ‹_› (by walk_at "hget") PySem.F.slot_list_append PySem.F.type_list_append ?_ | refine r_method ‹_› (by walk_at "hget") PySem.F.slot_list_extend PySem.F.type_list_extend ?_))
local macro_rules | `(tactic| walk_at "callWith builtin:list.append") => `(tactic| k_dflt (refine r_callMeth ?_))
local macro_rules | `(tactic| walk_at "callWith builtin:list.extend") => `(tactic| k_dflt (refine r_callMeth ?_))
local macro_rules | `(tactic| walk_at "call builtin:list.append") => `(tactic| k_dflt (refine r_append ‹_› (by walk_at "hget") ‹_› (by walk_at "sz") ?_; walk_at "iS"))
local macro_rules | `(tactic| walk_at "exec For") => `(tactic| k_dflt (refine wpAny_For ?_ (by intro _; with_unfolding_all rfl)))

/-! layout_leaves, layout_panes, layout_path -/
section
variable {prog : Program} {w : World} {A : Around} {E : Value → Shared → Prop} {z s : Shared} {B : Heap} {H : AH} {L : Addr} {O : List Addr} {m : Str → Option Value} {env : Env} {Q : Value → Shared → Prop}

theorem d_leavesL (S : St w z B H L O m s) (G : Gd w z) (hA : Rm 4 A) {l : Lf} (hl : LeafAt H l)
    (q : ∀ D s', St w z B (H.set D (.lst [.ref l.a])) L O m s' → H D = none → B.get? D = none → Q (.ref D) s') :
    wpAny (model prog w) A (call (.ref 55) [.ref l.a]) Q E s := by
  refine LeafAt.op hl fun h1 t0 t1 t2 t3 t4 t5 h2 h3 => ?_
  try clear hl
  refine enter' S G hA fd55 (binds := [("cell", .ref l.a)]) [] ?_ noMs cd55 rfl (BindsTo.of_eq rfl) rfl rfl rfl rfl rfl
  intro A' B' L' s' E' hA' _ hB S'
  clear S
  refine hq fun Q12 k12 => ?_
  repeat walk1
  refine k12 _ _ ?_
  exact mk_EEA _ _ (by assumption) (fun S => q _ _ S (by assumption) (hB _ (by assumption)))

theorem d_leavesN (S : St w z B H L O m s) (G : Gd w z) (hA : Rm 8 A) {n : Nd} (hn : NodeAt H n) (hz : n.ls.length ≤ 1000)
    (q : ∀ D s', St w z B (H.set D (.lst (n.ls.map fun l => .ref l.a))) L O m s' → H D = none → B.get? D = none → Q (.ref D) s') :
    wpAny (model prog w) A (call (.ref 55) [.ref n.a]) Q E s := by
  refine NodeAt.op hn fun h1 t0 t1 t2 t3 t4 h2 h3 h4 h5 => ?_
  try clear hn
  refine enter' S G hA fd55 (binds := [("cell", .ref n.a)]) [] ?_ noMs cd55 rfl (BindsTo.of_eq rfl) rfl rfl rfl rfl rfl
  intro A' B' L' s' E' hA' _ hB S'
  clear S
  refine hq fun Q23 k23 => ?_
  repeat walk1
  rename_i D _ hD hDB _ _ S1
  refine r_forL hA'.1 (fun i H1 m1 => m1 "found" = some (.ref D) ∧ H1 D = some (.lst ((n.ls.take i).map fun l => .ref l.a)) ∧ Le H H1) S1 (set_new h3 hD) ⟨rfl, set_self, Le.set hD⟩ (fun i H1 m1 h => h.2.2 _ _ h3) ?_ ?_
  · intro i v H1 m1 s1 I E'' hv hp8 hI hBI S2
    refine op_AA hp8 fun g1 g2 g3 => ?_
    try clear hp8
    refine map_op hv fun l hl => ?_
    try clear hv
    have hlm := List.mem_of_getElem? hl
    refine r_asgName S2 (fun s2 S3 => ?_)
    clear S2 S1
    have g2' := set_new (o := lit n.pl (i + 1)) g2 hI
    have hla : LeafAt (H1.set I (lit n.pl (i + 1))) l := (h4 l hlm).mono fun a o e => set_new (g3 a o e) hI
    refine hq fun Q38 k38 => ?_
    repeat walk1
    rename St _ _ _ _ _ _ _ _ => S4
    refine d_leavesL S4 G (hA'.lo rfl) hla fun D' s5 S5 n5 b5 => ?_
    try dsimp only
    walk1
    have hne := ne_of_none_some n5 g2'
    refine r_extend S5 (set_new g2' n5) hDB set_self b5 (by simp) (Ne.symm hne) (by simp; lia) fun s6 S6 => ?_
    repeat walk1
    refine k38 _ _ ?_
    refine mk_EEAAAA _ _ (by assumption) (set_ne (set_new set_self n5) (ne_of_none_some hI g2)) (upd_nb g1 rfl) (del_ne ?_ (Ne.symm (ne_of_none_some hI g2))) (fun a o e => del_ne (set_ne (set_new (set_new (g3 a o e) hI) n5) ?_) ?_)
    · rw [List.take_add_one, hl]; simp [set_self]
    · rintro rfl; rw [hD] at e; cases e
    · rintro rfl; rw [g3.none hI] at e; cases e
  · intro H1 m1 s1 hp3 S2
    refine op_AA hp3 fun g1 g2 g3 => ?_
    try clear hp3
    try dsimp only
    repeat walk1
    refine k23 _ _ ?_
    rename St _ _ _ _ _ _ _ _ => S3
    rw [List.take_of_length_le (by simp)] at g2
    refine mk_EEA _ _ (S3.weaken (H' := H.set D (.lst (n.ls.map fun l => .ref l.a))) fun a o e => ?_) (fun S => q _ _ S hD (hB _ hDB))
    unfold AH.set at e
    split at e
    · rename_i h; subst h; rw [g2]; exact e
    · exact g3 _ _ e
end

/-! trees: a leaf or one row of leaves -/
inductive Tr where
  | leaf (l : Lf)
  | node (n : Nd)
noncomputable def Tr.a : Tr → Addr | .leaf l => l.a | .node n => n.a
noncomputable def Tr.ls : Tr → List Lf | .leaf l => [l] | .node n => n.ls
noncomputable def TrAt (H : AH) : Tr → Prop | .leaf l => LeafAt H l | .node n => NodeAt H n ∧ n.ls.length ≤ 1000
theorem TrAt.mono {H H' : AH} {t : Tr} (h : TrAt H t) (k : Le H H') : TrAt H' t := by
  cases t with
  | leaf l => exact LeafAt.mono h k
  | node n => exact ⟨h.1.mono k, h.2⟩
theorem TrAt.leaves {H : AH} {t : Tr} (h : TrAt H t) : ∀ l ∈ t.ls, LeafAt H l := by
  cases t with
  | leaf l => intro l' hl; rw [List.mem_singleton.mp hl]; exact h
  | node n => exact h.1.2.2.2.1
theorem TrAt.len {H : AH} {t : Tr} (h : TrAt H t) : t.ls.length ≤ 1000 := by
  cases t with
  | leaf l => simp [Tr.ls]
  | node n => exact h.2
section
variable {prog : Program} {w : World} {A : Around} {E : Value → Shared → Prop} {z s : Shared} {B : Heap} {H : AH} {L : Addr} {O : List Addr} {m : Str → Option Value} {env : Env} {Q : Value → Shared → Prop}

theorem d_leaves (S : St w z B H L O m s) (G : Gd w z) (hA : Rm 8 A) {t : Tr} (ht : TrAt H t)
    (q : ∀ D s', St w z B (H.set D (.lst (t.ls.map fun l => .ref l.a))) L O m s' → H D = none → B.get? D = none → Q (.ref D) s') :
    wpAny (model prog w) A (call (.ref 55) [.ref t.a]) Q E s := by
  cases t with
  | leaf l => exact d_leavesL S G (hA.lo rfl) ht q
  | node n => exact d_leavesN S G hA ht.1 ht.2 q

theorem d_panes (S : St w z B H L O m s) (G : Gd w z) (hA : Rm 10 A) {t : Tr} (ht : TrAt H t)
    (q : ∀ D vs s', IntsAre vs (t.ls.map (·.p)) → St w z B (H.set D (.lst vs)) L O m s' → H D = none → B.get? D = none → Q (.ref D) s') :
    wpAny (model prog w) A (call (.ref 60) [.ref t.a]) Q E s := by
  refine enter' S G hA fd60 (binds := [("cell", .ref t.a)]) [] ?_ noMs cd60 rfl (BindsTo.of_eq rfl) rfl rfl rfl rfl rfl
  intro A' B' L' s' E' hA' _ hB S'
  clear S
  repeat walk1
  rename St _ _ _ _ _ _ _ _ => S1
  refine d_leaves S1 G (hA'.lo rfl) ht fun D0 s1 S2 n0 b0 => ?_
  refine r_compL hA'.1 (fun i ys H1 => IntsAre ys ((t.ls.take i).map (·.p)) ∧ Le (H.set D0 (.lst (t.ls.map fun l => .ref l.a))) H1) S2 set_self (by have := ht.len; simp; (refine Nat.le_trans (by with_reducible assumption) ?_; exact Nat.le_of_ble_eq_true rfl)) ⟨.nil, Le.rfl⟩ (by decide) rfl (fun i ys H1 h => h.2 _ _ set_self) ?_ (fun y p e => by cases e) ?_
  · intro C D I B'' i v ys H1 m1 s1 E'' hBB hv hp13 hI hD hne hBI hBD S2
    obtain ⟨g1, g2⟩ := hp13
    refine map_op hv fun l hl => ?_
    try clear hv
    have hlm := List.mem_of_getElem? hl
    refine r_asgName S2 (fun s2 S3 => ?_)
    refine wpAny_tests_nil ?_
    rw [if_pos rfl]
    clear S2 S1
    have kk : Le H ((H1.set I (lit D0 (i + 1))).set D (.lst ys)) := fun a o e => set_new (set_new (g2 a o (set_new e n0)) hI) (set_ne hD hne)
    refine LeafAt.op ((ht.leaves l hlm).mono kk) fun h1 t0 t1 t2 t3 t4 t5 h2 h3 => ?_
    refine hq fun Q52 k52 => ?_
    repeat walk1
    refine k52 _ _ ?_
    refine mk_EEAAAA _ _ (by assumption) (set_ne set_self (Ne.symm hne)) set_self ?_ (le_turn hI hD Le.rfl hne |> g2.trans)
    rw [List.take_add_one, hl, List.map_append]
    exact g1.append (.cons _ _ .nil)
  · intro D ys H1 s1 hp4 hD hDB S2
    obtain ⟨g1, g2⟩ := hp4
    rw [List.take_of_length_le (by simp)] at g1
    exact ⟨_, _, S2.weaken (H' := H.set D (.lst ys)) fun a o e => by
      unfold AH.set at e
      split at e
      · rename_i h; subst h; cases e; exact set_self
      · exact set_new (g2 _ _ (set_new e n0)) hD, fun S => q _ _ _ g1 S (g2.none hD |> (Le.set n0).none) (hB _ hDB)⟩
end

/-! layout_path -/
noncomputable def Tr.path : Tr → Lf → List Value
  | .leaf _, l => [.ref l.a]
  | .node n, l => [.ref n.a, .ref l.a]
section
variable {prog : Program} {w : World} {A : Around} {E : Value → Shared → Prop} {z s : Shared} {B : Heap} {H : AH} {L : Addr} {O : List Addr} {m : Str → Option Value} {env : Env} {Q : Value → Shared → Prop}

theorem d_pathL (S : St w z B H L O m s) (G : Gd w z) (hA : Rm 4 A) {l : Lf} {p : Int} {tk : Tok} (hl : LeafAt H l)
    (qn : l.p ≠ p → ∀ s', St w z B H L O m s' → Q .none s')
    (qs : l.p = p → ∀ D s', St w z B (H.set D (.lst [.ref l.a])) L O m s' → H D = none → B.get? D = none → Q (.ref D) s') :
    wpAny (model prog w) A (call (.ref 67) [.ref l.a, .int p tk]) Q E s := by
  refine LeafAt.op hl fun h1 t0 t1 t2 t3 t4 t5 h2 h3 => ?_
  try clear hl
  refine enter' S G hA fd67 (binds := [("cell", .ref l.a), ("pane", .int p tk)]) [] ?_ noMs cd67 rfl (BindsTo.of_eq rfl) rfl rfl rfl rfl rfl
  intro A' B' L' s' E' hA' _ hB S'
  clear S
  refine hq fun Q16 k16 => ?_
  by_cases hp : l.p = p
  · repeat walk1
    refine k16 _ _ ?_
    exact mk_EEA _ _ (by assumption) (fun S => qs hp _ _ S (by assumption) (hB _ (by assumption)))
  · repeat walk1
    refine k16 _ _ ?_
    exact mk_EEA _ _ (by assumption) (fun S => qn hp _ S)

theorem d_path (S : St w z B H L O m s) (G : Gd w z) (hA : Rm 8 A) {t : Tr} {p : Int} {tk : Tok} (ht : TrAt H t)
    (qn : (∀ l ∈ t.ls, l.p ≠ p) → ∀ s', St w z B H L O m s' → Q .none s')
    (qs : ∀ (k : Nat) l D s', t.ls[k]? = some l → l.p = p → St w z B (H.set D (.lst (t.path l))) L O m s' → H D = none → B.get? D = none → Q (.ref D) s') :
    wpAny (model prog w) A (call (.ref 67) [.ref t.a, .int p tk]) Q E s := by
  cases t with
  | leaf l => exact d_pathL S G (hA.lo rfl) ht (fun h => qn (by simpa [Tr.ls] using h)) fun h D s' S' => qs 0 l D s' rfl h S'
  | node n =>
    refine op_A ht fun hq1 hz => ?_
    try clear ht
    refine NodeAt.op hq1 fun h1 t0 t1 t2 t3 t4 h2 h3 h4 h5 => ?_
    try clear hq1
    refine enter' S G hA fd67 (binds := [("cell", .ref n.a), ("pane", .int p tk)]) [] ?_ noMs cd67 rfl (BindsTo.of_eq rfl) rfl rfl rfl rfl rfl
    intro A' B' L' s' E' hA' _ hB S'
    clear S
    repeat walk1
    rename St _ _ _ _ _ _ _ _ => S1
    refine r_forL hA'.1 (fun i H1 m1 => m1 "cell" = some (.ref n.a) ∧ m1 "pane" = some (.int p tk) ∧ Le H H1 ∧ ∀ l ∈ n.ls.take i, l.p ≠ p) S1 h3 ⟨rfl, rfl, Le.rfl, by simp⟩ (fun i H1 m1 h => h.2.2.1 _ _ h3) ?_ ?_
    · intro i v H1 m1 s1 I E'' hv hp8 hI hBI S2
      refine op_AAA hp8 fun g0 g1 g3 g4 => ?_
      try clear hp8
      refine map_op hv fun l hl => ?_
      try clear hv
      have hlm := List.mem_of_getElem? hl
      refine r_asgName S2 (fun s2 S3 => ?_)
      clear S2 S1
      have kk : Le H (H1.set I (lit n.pl (i + 1))) := fun a o e => set_new (g3 a o e) hI
      refine hq fun Q50 k50 => ?_
      repeat walk1
      rename St _ _ _ _ _ _ _ _ => S4
      refine d_pathL S4 G (hA'.lo rfl) ((h4 l hlm).mono kk) (fun hp s5 S5 => ?_) fun hp D s5 S5 hD hBD => ?_
      · repeat walk1
        refine k50 _ _ ?_
        refine mk_EEAAAAA _ _ (by assumption) set_self (upd_nb (upd_ne g0 (by decide)) rfl) (upd_nb (upd_ne g1 (by decide)) rfl) (by rw [del_set hI]; exact g3) ?_
        rw [List.take_add_one, hl]
        intro l0 h0
        rcases List.mem_append.mp h0 with h | h
        · exact g4 l0 h
        · simp at h; rw [h]; exact hp
      · repeat walk1
        refine k50 _ _ ?_
        rename_i D1 _ nD1 bD1 D2 s6 S6 nD2 bD2
        have k2 : Le H (((H1.set I (lit n.pl (i + 1))).set D (.lst [.ref l.a])).set D1 (.lst [.ref n.a])) := (kk.trans (Le.set hD)).trans (Le.set nD1)
        exact mk_EEA _ _ (St.weaken S6 k2.set2) (fun S => qs i l D2 _ hl hp S (k2.none nD2) (hB _ bD2))
    · intro H1 m1 s1 hp3 S2
      refine op_AAA hp3 fun g0 g1 g3 g4 => ?_
      try clear hp3
      try dsimp only
      rw [List.take_of_length_le (by simp)] at g4
      repeat walk1
      rename St _ _ _ _ _ _ _ _ => S3
      exact mk_EEA _ _ (S3.weaken g3) (fun S => qn g4 _ S)
end

/-! enumerate; layout_index -/
noncomputable def enu (it : Addr) (i : Int) (old : Value) : AO := .obj { cls := .type "enumerate", data := .fields #[.none, .bool false, .ref it, rawInt i, .none, old] }
section
variable {prog : Program} {w : World} {A : Around} {E : Value → Shared → Prop} {z s : Shared} {B : Heap} {H H₁ H₂ : AH} {L : Addr} {O : List Addr} {m : Str → Option Value} {env : Env} {Q : Value → Shared → Prop}

theorem St.join (S₁ : St w z B H₁ L O m s) (S₂ : St w z B H₂ L O m s) {H : AH} (h : ∀ a o, H a = some o → H₁ a = some o ∨ H₂ a = some o) : St w z B H L O m s := by
  have off : ∀ a, H₁ a = none → H₂ a = none → H a = none := fun a e1 e2 => by
    cases q : H a with
    | none => rfl
    | some o => rcases h a o q with x | x <;> first | (rw [e1] at x; cases x) | (rw [e2] at x; cases x)
  exact ⟨S₁.ns, S₁.keep, S₁.gnd, S₁.offB, off _ S₁.offH S₂.offH, fun a o e => (h a o e).elim (S₁.real a o) (S₂.real a o), S₁.above, fun a ha => ⟨off _ (S₁.outs a ha).1 (S₂.outs a ha).1, (S₁.outs a ha).2⟩, S₁.same⟩

theorem r_enum (S : St w z B H L O m s) {l : Addr} {vs : List Value} (hl : H l = some (.lst vs))
    (q : ∀ e it s', St w z B ((H.set it (lit l 0)).set e (enu it 0 .none)) L O m s' → H it = none → H e = none → e ≠ it → B.get? it = none → B.get? e = none → Q (.ref e) s') :
    wpAny (model prog w) A (call (.type "enumerate") [.ref l]) Q E s := by
  refine enum_rows S.fr (S.isList hl) fun h' he hit hl' F' hk n1 _ _ _ _ => ?_
  refine ce fun gl => ?_
  refine op_EA hit fun oi gi ei => ?_
  try clear hit
  refine op_AA (S.new (s' := { s with heap := h' }) (l := s.heap.objs.size) (o := lit l 0) (Heap.get?_none_of_le (Nat.le_refl _)) hk ⟨rfl, rfl, rfl⟩ gi ei) fun S1 a1 b1 => ?_
  refine op_AA (S.new (s' := { s with heap := h' }) (l := s.heap.objs.size + 1) (o := enu s.heap.objs.size 0 .none) (Heap.get?_none_of_le (Nat.le_succ _)) hk ⟨rfl, rfl, rfl⟩ he rfl) fun S2 a2 b2 => ?_
  refine gl ?_; clear gl
  refine q _ _ _ (S1.join S2 fun a o e => ?_) a1 a2 n1 b1 b2
  unfold AH.set at e ⊢
  by_cases x : a = s.heap.objs.size + 1
  · rw [if_pos x] at e; right; rw [if_pos x]; exact e
  · rw [if_neg x] at e; left; exact e

noncomputable def EEnd (w : World) (z : Shared) (B : Heap) (L : Addr) (O : List Addr) (H₁ : AH) (J : (Str → Option Value) → Prop) (Q : Flow → Shared → Prop) (f : Flow) (s2 : Shared) : Prop :=
  match f with | .ret v => Q (.ret v) s2 | .brk => Q .next s2 | _ => ∃ m2, St w z B H₁ L O m2 s2 ∧ J m2

/-- a for over enumerate(list) whose body turns the frame alone -/
theorem r_forE (hA : A.handled = none) {xi xv : Str} {pi pv pt : Pos} {k : Nat} {body : List Stmt} {Q : Flow → Shared → Prop} {e it l : Addr} {vs : List Value} (J : Nat → (Str → Option Value) → Prop)
    (S : St w z B ((H.set it (lit l 0)).set e (enu it 0 .none)) L O m s) (hl : H l = some (.lst vs)) (hit : H it = none) (he : H e = none) (hne : e ≠ it) (bi : B.get? it = none) (be : B.get? e = none) (h0 : J 0 m)
    (turn : ∀ i v t m1 s1 H1 E', vs[i]? = some v → J i m1 → Le H H1 → St w z B H1 L O (upd (upd m1 xi (.int i t)) xv v) s1 →
      wpAny (model prog w) A (execs body env) (EEnd w z B L O H1 (J (i + 1)) Q) E' s1)
    (done : ∀ m1 s1, J vs.length m1 → St w z B H L O m1 s1 → Q .next s1)
    (hL : L = env.locals := by rfl) (hx : true = (okN .local env xi) := by rfl) (hy : true = (okN .local env xv) := by rfl) :
    wpAny (model prog w) A (pyIter (.ref e)) (fun it' s₂ => codeAny (model prog w) A (.forLoop (.Tuple [.Name xi pi, .Name xv pv] k pt) it' body [] env) (fun r s' => match r with | .ok f => Q f s' | .error e => cameBackBy (model prog w) A env E e s') s₂) E s := by
  refine ce fun gl => ?_
  refine op_EA (S.real _ _ set_self) fun oe ge re => ?_
  cases re
  refine gl ?_; clear gl
  refine wpAny_pyIter_enum ge ?_
  refine forL_any (fun k' s' => ∃ i m1 old, St w z B ((H.set it (lit l i)).set e (enu it i old)) L O m1 s' ∧ J i m1 ∧ i ≤ vs.length ∧ k' = vs.length + 1 - i) ?_ (vs.length + 1) ⟨0, m, _, S, h0, Nat.zero_le _, rfl⟩
  intro I' R' E1 hI1 hR1 k' s' hp2
  refine ce fun gl => ?_
  refine op_EEEAAA hp2 fun i m1 old S' hJ hi ek1 => ?_
  try clear hp2
  subst ek1
  have gIt : ((H.set it (lit l i)).set e (enu it i old)) it = some (lit l i) := set_ne set_self (Ne.symm hne)
  have gL : ((H.set it (lit l i)).set e (enu it i old)) l = some (.lst vs) := set_new (set_new hl hit) (set_ne he hne)
  refine op_EA (S'.real _ _ set_self) fun oe ge re => ?_
  cases re
  refine op_EA (S'.real _ _ gIt) fun oi gi ri => ?_
  refine gl ?_; clear gl
  by_cases hlt : i < vs.length
  · refine wpAny_pyNext_enum_item ge ⟨oi, gi, ri⟩ (S'.isList gL) (x := vs[i]) (by simp [hlt]) hne fun h1 heo hit1 ht hsz hk1 => ?_
    try dsimp only
    refine op_EA hit1 fun oi1 gi1 ri1 => ?_
    try clear hit1
    -- the state behind the next item
    have S1 : St w z B (((H.set it (lit l (i + 1))).set e (.opq fun _ => True))) L O m1 { s' with heap := h1, toks := s'.toks + 1 } := by
      refine ⟨S'.ns.at' fun o x => hk1 _ o (Ne.symm (S'.ne set_self)) (Ne.symm (S'.ne gIt)) x, fun b o x => hk1 b o (by first | exact ne_sn x be | exact ne_ns x be | exact ne_sn be x | exact ne_ns be x) (by first | exact ne_sn x bi | exact ne_ns x bi | exact ne_sn bi x | exact ne_ns bi x) (S'.keep b o x), S'.gnd, S'.offB, ?_, fun a o x => ?_, S'.above, fun a ha => ⟨?_, (S'.outs a ha).2⟩, S'.same⟩
      · exact set_ne (set_ne ((Le.set hit).trans (Le.set (set_ne he hne)) |>.none S'.offH) (Ne.symm (S'.ne gIt))) (Ne.symm (S'.ne set_self))
      · unfold AH.set at x
        split at x
        · rename_i q; cases x; subst q; exact ⟨_, heo, trivial⟩
        · rename_i q
          split at x
          · rename_i q'; cases x; subst q'; exact ⟨_, gi1, ri1⟩
          · rename_i q'
            refine op_EA (S'.real a o (set_ne (set_ne x q') q)) fun ob y1 y2 => ?_
            exact mk_EA ob (hk1 _ _ q q' y1) y2
      · have h1 : a ≠ it := by rintro rfl; have := (S'.outs _ ha).1; rw [gIt] at this; cases this
        have h2 : a ≠ e := by rintro rfl; have := (S'.outs _ ha).1; rw [set_self] at this; cases this
        exact set_ne (set_ne ((Le.set hit).trans (Le.set (set_ne he hne)) |>.none (S'.outs a ha).1) h1) h2
    have hT : s'.heap.get? s'.heap.objs.size = none := Heap.get?_none_of_le (Nat.le_refl _)
    have hTn : ((H.set it (lit l i)).set e (enu it i old)) s'.heap.objs.size = none := by
      cases q : ((H.set it (lit l i)).set e (enu it i old)) s'.heap.objs.size with
      | none => rfl
      | some o => obtain ⟨_, x, _⟩ := S'.real _ _ q; rw [hT] at x; cases x
    have hTe : s'.heap.objs.size ≠ e := by rintro h; rw [h, set_self] at hTn; cases hTn
    refine wpAny_letOwnedTupleGo_enum heo fun h2 he2 hs2 => ?_
    have S2 : St w z B (((H.set it (lit l (i + 1))).set e (.opq fun _ => True)).set e (enu it ((i + 1 : Nat) : Int) vs[i])) L O m1 { s' with heap := h2, toks := s'.toks + 1 } := by
      refine S1.turnS (t := s'.toks + 1) set_self be (fun b o hb x => (hs2.2 b hb).trans x) he2 ?_
      show _ = _
      rw [Int.natCast_succ]
    have hT2 : h2.get? s'.heap.objs.size = some { cls := .type "tuple", data := .seq #[.int i s'.toks, vs[i]] } := (hs2.2 _ hTe).trans ht
    obtain ⟨S3, n3, b3⟩ : St w z B ((((H.set it (lit l (i + 1))).set e (.opq fun _ => True)).set e (enu it ((i + 1 : Nat) : Int) vs[i])).set s'.heap.objs.size (.tup [.int i s'.toks, vs[i]])) L O m1 { s' with heap := h2, toks := s'.toks + 1 } ∧ True ∧ True := by
      refine ⟨⟨S2.ns, S2.keep, S2.gnd, S2.offB, set_ne S2.offH ?_, fun a o x => ?_, S2.above, fun a ha => ⟨set_ne (S2.outs a ha).1 ?_, (S2.outs a ha).2⟩, S2.same⟩, trivial, trivial⟩
      · rintro rfl; obtain ⟨o, _, _, x, _⟩ := S'.ns; rw [hT] at x; cases x
      · unfold AH.set at x
        split at x
        · rename_i q; cases x; subst q; exact ⟨_, hT2, _, rfl⟩
        · exact S2.real a o x
      · rintro rfl; obtain ⟨o, x⟩ := (S'.outs _ ha).2; have := S'.keep _ _ x; rw [hT] at this; cases this
    refine r_asgTup2 S3 hA set_self (fun s4 S4 => ?_) hL hx hy
    have S5 := S4.weaken (H' := (H.set it (lit l (i + 1))).set e (enu it ((i + 1 : Nat) : Int) vs[i])) fun a o x => by
      have ha : a ≠ s'.heap.objs.size := by
        rintro rfl
        have : ((H.set it (lit l (i + 1))).set e (enu it ((i + 1 : Nat) : Int) vs[i])) s'.heap.objs.size = none := by
          unfold AH.set at hTn ⊢
          split at hTn
          · cases hTn
          · rename_i q; rw [if_neg q]
            split at hTn
            · cases hTn
            · rename_i q'; rw [if_neg q']; exact hTn
        rw [this] at x; cases x
      refine set_ne ?_ ha
      unfold AH.set at x ⊢
      split at x
      · rename_i q; rw [if_pos q]; exact x
      · rename_i q; rw [if_neg q, if_neg q]; exact x
    refine wpAny_mono (turn i vs[i] s'.toks m1 s4 _ _ (by simp [hlt]) hJ (fun a o x => set_new (set_new x hit) (set_ne he hne)) S5) (fun f s5 h5 => ?_) fun _ _ x => x
    have fin : (∃ m2, St w z B ((H.set it (lit l (i + 1))).set e (enu it ((i + 1 : Nat) : Int) vs[i])) L O m2 s5 ∧ J (i + 1) m2) → ∃ m_1, m_1 < vs.length + 1 - i ∧ I' m_1 s5 :=
      fun ⟨m2, S6, hJ'⟩ => ⟨vs.length + 1 - (i + 1), by grind, hI1 _ _ ⟨i + 1, m2, _, S6, hJ', hlt, rfl⟩⟩
    cases f with
    | next => exact fin h5
    | cont => exact fin h5
    | brk => exact hR1 (.ok .next) _ h5
    | ret v => exact hR1 (.ok (.ret v)) _ h5
  · have hin : i = vs.length := by lia
    subst hin
    refine wpAny_pyNext_enum_end hA ge ⟨oi, gi, ri⟩ (S'.isList gL) (by simp) fun h1 hk1 => ?_
    try dsimp only
    refine wpAny_execs_nil (hR1 (.ok .next) _ <| done m1 _ hJ ((S'.lost (t := s'.toks) gIt bi fun b o hb x => hk1 b o hb x).weaken fun a o x => ?_))
    exact del_ne (set_new (set_new x hit) (set_ne he hne)) (by first | exact ne_sn x hit | exact ne_ns x hit | exact ne_sn hit x | exact ne_ns hit x)
end

local macro_rules | `(tactic| walk_at "compareOp Is ref ref") => `(tactic| (first | refine wpAny_is_ref_self ?_ | refine r_isOther ‹_› (by walk_at "hget") (by walk_at "hget") ‹_› ?_))

section
variable {prog : Program} {w : World} {A : Around} {E : Value → Shared → Prop} {z s : Shared} {B : Heap} {H : AH} {L : Addr} {O : List Addr} {m : Str → Option Value} {env : Env} {Q : Value → Shared → Prop}

theorem leaf_ne {ls : List Lf} (hat : ∀ l ∈ ls, LeafAt H l) (hnd : (ls.map (·.dx)).Nodup) {i k : Nat} {a b : Lf} (ha : ls[i]? = some a) (hb : ls[k]? = some b) (hik : i ≠ k) : a.a ≠ b.a ∧ a.dx ≠ b.dx := by
  have hd : a.dx ≠ b.dx := fun e => hik (by
    have h1 : (ls.map (·.dx))[i]? = some a.dx := by simp [ha]
    have h2 : (ls.map (·.dx))[k]? = some a.dx := by simp [hb, e]
    exact (List.getElem?_inj (List.getElem?_eq_some_iff.mp h1).1 hnd).mp (h1.trans h2.symm))
  refine ⟨fun e => hd ?_, hd⟩
  have h1 := (hat a (List.mem_of_getElem? ha)).1
  have h2 := (hat b (List.mem_of_getElem? hb)).1
  rw [e, h2] at h1
  exact AO.noConfusion (Option.some.inj h1) fun q => q.symm

theorem d_index (S : St w z B H L O m s) (G : Gd w z) (hA : Rm 4 A) {l : Addr} {ls : List Lf} {k : Nat} {lf : Lf} (hl : H l = some (.lst (ls.map fun l => .ref l.a))) (hat : ∀ l ∈ ls, LeafAt H l) (hnd : (ls.map (·.dx)).Nodup) (hk : ls[k]? = some lf)
    (q : ∀ t s', St w z B H L O m s' → Q (.int k t) s') :
    wpAny (model prog w) A (call (.ref 95) [.ref l, .ref lf.a]) Q E s := by
  refine enter' S G hA fd95 (binds := [("parts", .ref l), ("cell", .ref lf.a)]) [] ?_ noMs cd95 rfl (BindsTo.of_eq rfl) rfl rfl rfl rfl rfl
  intro A' B' L' s' E' hA' _ hB S'
  clear S
  repeat walk1
  rename St _ _ _ _ _ _ _ _ => S1
  refine r_enum S1 hl fun e it s2 S2 hit he hne bi be => ?_
  refine r_forE hA'.1 (fun i m1 => m1 "cell" = some (.ref lf.a) ∧ i ≤ k) S2 hl hit he hne bi be ⟨rfl, Nat.zero_le _⟩ ?_ ?_
  · intro i v t m1 s1 H1 E'' hv hp8 kk S3
    refine ce fun gl => ?_
    obtain ⟨g1, g2⟩ := hp8
    clear S2 S1
    rw [List.getElem?_map, Option.map_eq_some_iff] at hv
    refine op_EA hv fun l0 hl0 ek1 => ?_
    try clear hv
    subst ek1
    refine gl ?_; clear gl
    have h1 := kk _ _ (hat l0 (List.mem_of_getElem? hl0)).1
    have h2 := kk _ _ (hat lf (List.mem_of_getElem? hk)).1
    refine hq fun Q33 k33 => ?_
    by_cases hik : i = k
    · refine ce fun gl => ?_
      subst hik
      rw [hk] at hl0
      cases hl0
      refine gl ?_; clear gl
      repeat walk1
      refine k33 _ _ ?_
      exact mk_EEA _ _ (St.weaken (by assumption) kk) (fun S => q _ _ S)
    · have hne' := (leaf_ne hat hnd hl0 hk hik).1
      repeat walk1
      refine k33 _ _ ?_
      refine mk_EAA _ (by assumption) (upd_nb (upd_ne g1 (by decide)) rfl) (by lia)
  · intro m1 s1 hp2 S3
    obtain ⟨g1, g2⟩ := hp2
    have := (List.getElem?_eq_some_iff.mp hk).1
    simp at g2
    lia
end

/-! while -/
noncomputable def WEnd (w : World) (z : Shared) (B : Heap) (L : Addr) (O : List Addr) (k : Nat) (J : Nat → AH → (Str → Option Value) → Prop) (Q : Flow → Shared → Prop) (f : Flow) (s : Shared) : Prop :=
  match f with
  | .ret v => Q (.ret v) s
  | .brk => Q .next s
  | _ => ∃ k' H' m', k' < k ∧ St w z B H' L O m' s ∧ J k' H' m'
section
variable {prog : Program} {w : World} {A : Around} {E : Value → Shared → Prop} {z s : Shared} {B : Heap} {H : AH} {L : Addr} {O : List Addr} {m : Str → Option Value} {env : Env} {Q : Flow → Shared → Prop}

theorem r_while {test : Expr} {body : List Stmt} {pos : Pos} (J : Nat → AH → (Str → Option Value) → Prop) (S : St w z B H L O m s) (k0 : Nat) (h0 : J k0 H m)
    (turn : ∀ k H1 m1 s1 E', J k H1 m1 → St w z B H1 L O m1 s1 →
      wpAny (model prog w) A (isTrue test env (eval test env)) (fun b s2 => if b = true then wpAny (model prog w) A (execs body env) (WEnd w z B L O k J Q) E' s2 else Q .next s2) E' s1) :
    wpAny (model prog w) A (exec (.While test body [] pos) env) Q E s := by
  refine wpAny_While (codeAny_whileLoop (fun n s' => ∃ H1 m1, St w z B H1 L O m1 s' ∧ J n H1 m1) ?_ k0 ⟨H, m, S, h0⟩)
  intro n s' hp2
  refine op_EEA hp2 fun H1 m1 S1 hJ => ?_
  try clear hp2
  refine wpAny_mono (turn n H1 m1 s' _ hJ S1) (fun b s2 h2 => ?_) fun _ _ x => x
  cases b with
  | false =>
    simp only [Bool.false_eq_true, if_false] at h2 ⊢
    exact wpAny_execs_nil h2
  | true =>
    simp only [if_true] at h2 ⊢
    refine wpAny_mono h2 (fun f s3 h3 => ?_) fun _ _ x => x
    have fin : (∃ k' H' m', k' < n ∧ St w z B H' L O m' s3 ∧ J k' H' m') → ∃ m, m < n ∧ ∃ H1 m1, St w z B H1 L O m1 s3 ∧ J m H1 m1 :=
      fun ⟨k', H', m', h1, h2, h3⟩ => ⟨k', h1, H', m', h2, h3⟩
    cases f with
    | next => exact fin h3
    | cont => exact fin h3
    | brk => exact h3
    | ret v => exact h3
end
section
variable {prog : Program} {w : World} {A : Around} {E : Value → Shared → Prop} {z s : Shared} {B : Heap} {H : AH} {L : Addr} {O : List Addr} {m : Str → Option Value} {env : Env}
theorem r_load (S : St w z B H L O m s) {x : Str} {v : Value} {Q : Value → Shared → Prop} (hv : m x = some v) (h : Q v s)
    (hL : L = env.locals := by rfl) (hb : true = (okN .local env x) := by rfl) :
    wpAny (model prog w) A (loadName env x) Q E s := wpAny_loadName_local (okN_h hb).1 (okN_h hb).2.1 (hL ▸ S.ns) hv h
end

local macro_rules | `(tactic| walk_at "eval Name") => `(tactic| k_dflt (first | refine r_cell ‹_› (by rfl) (by walk_at "hget") ?_ | refine r_free ‹_› (by rfl) (by walk_at "hget") ?_))
local macro_rules | `(tactic| walk_at "loadName") => `(tactic| k_dflt (refine r_load ‹_› (by walk_at "hname") ?_))

/-! sides and kinds, in ints -/
noncomputable def Lf.side (l : Lf) (r : Bool) : Int := if r then l.w else l.h
noncomputable def Lf.put (r : Bool) (v : Int) (l : Lf) : Lf := if r then { l with w := v } else { l with h := v }
noncomputable def Lf.grow (r : Bool) (c : Int) (l : Lf) : Lf := l.put r (l.side r + c)
theorem put_same (r : Bool) (v : Int) (l : Lf) : (l.put r v).a = l.a ∧ (l.put r v).dx = l.dx ∧ (l.put r v).pl = l.pl ∧ (l.put r v).p = l.p ∧ (l.put r v).x = l.x ∧ (l.put r v).y = l.y ∧ (l.put r v).side r = v ∧ (l.put r v).side (!r) = l.side (!r) := by
  cases r <;> simp [Lf.put, Lf.side]
noncomputable def Out (D : List Addr) (H H' : AH) : Prop := ∀ a, a ∉ D → H' a = H a
theorem Out.rfl {D : List Addr} {H : AH} : Out D H H := fun _ _ => Eq.refl _
theorem Out.trans {D : List Addr} {H H' H'' : AH} (h : Out D H H') (h' : Out D H' H'') : Out D H H'' := fun a ha => (h' a ha).trans (h a ha)
theorem Out.mono {D D' : List Addr} {H H' : AH} (h : Out D H H') (k : ∀ a ∈ D, a ∈ D') : Out D' H H' := fun a ha => h a fun q => ha (k a q)
theorem Out.set {D : List Addr} {H : AH} {a : Addr} {o : AO} (ha : a ∈ D) : Out D H (H.set a o) := fun b hb => set_ne (Eq.refl _) (by rintro rfl; exact hb ha)
theorem leaf_other {H : AH} {l l' : Lf} {o : AO} (h' : LeafAt H l') (h : LeafAt H l) (hne : l'.dx ≠ l.dx) : LeafAt (H.set l.dx o) l' := by
  refine LeafAt.op h' fun h1 t0 t1 t2 t3 t4 t5 h2 h3 => ?_
  try clear h'
  refine LeafAt.op h fun _ _ _ _ _ _ _ g2 _ => ?_
  try clear h
  exact ⟨set_ne h1 (by intro e; rw [e, g2] at h1; cases h1), ⟨t0, t1, t2, t3, t4, t5, set_ne h2 hne⟩, set_ne h3 (by intro e; rw [e, g2] at h3; cases h3)⟩
theorem leaf_same {H : AH} {l : Lf} {r : Bool} {v : Int} {t t0 t1 t2 t3 t4 t5 : Tok} (h : LeafAt H l) :
    LeafAt (H.set l.dx (.cd (.str "pane" t0) (if r then .int v t else .int l.w t1) (if r then .int l.h t2 else .int v t) (.int l.x t3) (.int l.y t4) (.ref l.pl) (.int l.p t5))) (l.put r v) := by
  refine LeafAt.op h fun h1 _ _ _ _ _ _ g2 h3 => ?_
  try clear h
  have a1 : l.a ≠ l.dx := by intro e; rw [e, g2] at h1; cases h1
  have a2 : l.pl ≠ l.dx := by intro e; rw [e, g2] at h3; cases h3
  cases r
  · exact ⟨set_ne h1 a1, ⟨t0, t1, t, t3, t4, t5, set_self⟩, set_ne h3 a2⟩
  · exact ⟨set_ne h1 a1, ⟨t0, t, t2, t3, t4, t5, set_self⟩, set_ne h3 a2⟩
section
variable {prog : Program} {w : World} {A : Around} {E : Value → Shared → Prop} {z s : Shared} {B : Heap} {H : AH} {L : Addr} {O : List Addr} {m : Str → Option Value} {env : Env} {Q : Value → Shared → Prop}

theorem d_sideI (S : St w z B H L O m s) (G : Gd w z) (hA : Rm 2 A) {c dx : Addr} {k x y p n : Value} {a b : Int} {t u : Tok} {r : Bool} (hc : H c = some (.inst dx)) (hd : H dx = some (.cd k (.int a t) (.int b u) x y p n))
    (q : ∀ t s', St w z B H L O m s' → Q (.int (if r then a else b) t) s') : wpAny (model prog w) A (call (.ref 81) [.ref c, .bool r]) Q E s := by
  refine d_side S G hA hc hd rfl rfl fun s' S' => ?_
  cases r
  · exact q _ _ S'
  · exact q _ _ S'
theorem d_sideL (S : St w z B H L O m s) (G : Gd w z) (hA : Rm 2 A) {l : Lf} {r : Bool} (hl : LeafAt H l)
    (q : ∀ t s', St w z B H L O m s' → Q (.int (l.side r) t) s') : wpAny (model prog w) A (call (.ref 81) [.ref l.a, .bool r]) Q E s :=
  let ⟨h1, ⟨_, _, _, _, _, _, h2⟩, _⟩ := hl
  d_sideI S G hA h1 h2 q
theorem d_kindS (S : St w z B H L O m s) (G : Gd w z) (hA : Rm 2 A) {r : Bool} (q : ∀ t s', St w z B H L O m s' → Q (.str (kindS r) t) s') :
    wpAny (model prog w) A (call (.ref 74) [.bool r]) Q E s := d_kind S G hA q
theorem d_setL (S : St w z B H L O m s) (G : Gd w z) (hA : Rm 2 A) {l : Lf} {r : Bool} {v : Int} {t : Tok} (hl : LeafAt H l) (hB : B.get? l.dx = none)
    (q : ∀ o s', LeafAt (H.set l.dx o) (l.put r v) → St w z B (H.set l.dx o) L O m s' → Q .none s') : wpAny (model prog w) A (call (.ref 88) [.ref l.a, .bool r, .int v t]) Q E s :=
  have hl' := hl
  let ⟨h1, ⟨_, _, _, _, _, _, h2⟩, _⟩ := hl
  d_set_side S G hA h1 h2 hB fun s' S' => q _ _ (leaf_same hl') S'
end

local macro_rules | `(tactic| walk_at "rm") => `(tactic| k_dflt (exact rm_lo ‹_›))
local macro_rules | `(tactic| walk_at "call ref") => `(tactic| (first | (refine d_sideI ‹_› ‹_› (by walk_at "rm") (by walk_at "hget") (by walk_at "hget") ?_; walk_at "iS") | (refine d_sideL ‹_› ‹_› (by walk_at "rm") ‹_› ?_; walk_at "iS") | (refine d_kindS ‹_› ‹_› (by walk_at "rm") ?_; walk_at "iS")))

/-! layout_room -/
/-- the room along an axis -/
noncomputable def RoomIs (r : Bool) (t : Tr) (R : Int) : Prop :=
  match t with
  | .leaf l => R = l.side r - 1
  | .node n => if n.row = r then R = (n.ls.map fun l => l.side r - 1).sum else R ∈ (n.ls.map fun l => l.side r - 1) ∧ ∀ x ∈ (n.ls.map fun l => l.side r - 1), R ≤ x
section
variable {prog : Program} {w : World} {A : Around} {E : Value → Shared → Prop} {z s : Shared} {B : Heap} {H : AH} {L : Addr} {O : List Addr} {m : Str → Option Value} {env : Env} {Q : Value → Shared → Prop}

theorem d_roomL (S : St w z B H L O m s) (G : Gd w z) (hA : Rm 6 A) {l : Lf} {r : Bool} (hl : LeafAt H l) (q : ∀ t s', St w z B H L O m s' → Q (.int (l.side r - 1) t) s') :
    wpAny (model prog w) A (call (.ref 100) [.ref l.a, .bool r]) Q E s := by
  refine LeafAt.op hl fun h1 t0 t1 t2 t3 t4 t5 h2 h3 => ?_
  try clear hl
  refine enterC' S G hA fd100 (binds := [("cell", .ref l.a), ("is_row", .bool r)]) [] ?_ noMs cd100 rfl (BindsTo.of_eq rfl) rfl rfl rfl rfl rfl
  intro A' B' H' L' s' E' hA' _ hB hle hc S'
  have c1 := (hc "is_row" _ rfl).1
  change H' _ = some (.cel (some (.bool r))) at c1
  clear S
  have h1 := hle _ _ h1
  have h2 := hle _ _ h2
  refine hq fun Q20 k20 => ?_
  repeat walk1
  refine k20 _ _ ?_
  exact mk_EEA _ _ (by assumption) (fun S => q _ _ (S.weaken hle))

theorem d_roomN (S : St w z B H L O m s) (G : Gd w z) (hA : Rm 10 A) {n : Nd} {r : Bool} (hn : NodeAt H n) (hz : n.ls.length ≤ 1000) (h0 : 0 < n.ls.length) (q : ∀ R t s', RoomIs r (.node n) R → St w z B H L O m s' → Q (.int R t) s') :
    wpAny (model prog w) A (call (.ref 100) [.ref n.a, .bool r]) Q E s := by
  refine NodeAt.op hn fun h1 t0 t1 t2 t3 t4 h2 h3 h4 h5 => ?_
  try clear hn
  refine enterC' S G hA fd100 (binds := [("cell", .ref n.a), ("is_row", .bool r)]) [] ?_ noMs cd100 rfl (BindsTo.of_eq rfl) rfl rfl rfl rfl rfl
  intro A' B' H' L' s' E' hA' _ hB hle hc S'
  have c1 := (hc "is_row" _ rfl).1
  change H' _ = some (.cel (some (.bool r))) at c1
  clear S hc
  have h1 := hle _ _ h1
  have h2 := hle _ _ h2
  have h3 := hle _ _ h3
  refine hq fun Q35 k35 => ?_
  repeat walk1
  rename St _ _ _ _ _ _ _ _ => S1
  refine r_compL hA'.1 (fun i ys H1 => IntsAre ys ((n.ls.take i).map fun l => l.side r - 1) ∧ Le H' H1) S1 h3 (by simp; (refine Nat.le_trans (by with_reducible assumption) ?_; exact Nat.le_of_ble_eq_true rfl)) ⟨.nil, Le.rfl⟩ (by decide) rfl (fun i ys H1 h => h.2 _ _ h3) ?_ (fun y p e => by cases e; exact ⟨rfl, rfl, rfl⟩) ?_
  · intro C D I B'' i v ys H1 m1 s1 E'' hBB hv hp13 hI hD hne hBI hBD S2
    obtain ⟨g1, g2⟩ := hp13
    refine map_op hv fun l hl => ?_
    try clear hv
    have hlm := List.mem_of_getElem? hl
    refine r_asgName S2 (fun s2 S3 => ?_)
    refine wpAny_tests_nil ?_
    rw [if_pos rfl]
    clear S2 S1
    have kk : Le H' ((H1.set I (lit n.pl (i + 1))).set D (.lst ys)) := fun a o e => set_new (set_new (g2 a o e) hI) (set_ne hD hne)
    have c1 := kk _ _ c1
    refine hq fun Q51 k51 => ?_
    repeat walk1
    rename St _ _ _ _ _ _ _ _ => S4
    refine d_roomL S4 G (hA'.lo rfl) ((h4 l hlm).mono (hle.trans kk)) fun t s5 S5 => ?_
    refine k51 _ _ ?_
    refine mk_EEAAAA _ _ S5 (set_ne set_self (Ne.symm hne)) set_self ?_ (le_turn hI hD Le.rfl hne |> g2.trans)
    rw [List.take_add_one, hl, List.map_append]
    exact g1.append (.cons _ _ .nil)
  · intro D ys H1 s1 hp4 hD hDB S2
    obtain ⟨g1, g2⟩ := hp4
    rw [List.take_of_length_le (by simp)] at g1
    have c1 := set_new (o := .lst ys) (g2 _ _ c1) hD
    have h1 := set_new (o := .lst ys) (g2 _ _ h1) hD
    have h2 := set_new (o := .lst ys) (g2 _ _ h2) hD
    have kk : Le H (H1.set D (.lst ys)) := fun a o e => set_new (g2 _ _ (hle a o e)) hD
    dsimp only at S2 ⊢
    by_cases hr : n.row = r
    · subst hr
      repeat walk1
      rename St _ _ _ _ _ _ _ _ => S3
      refine r_sum S3 hA'.1 set_self g1 fun t s4 S4 => ?_
      refine k35 _ _ ?_
      exact mk_EEA _ _ S4 (fun S => q _ _ _ (by simp [RoomIs]) (S.weaken kk))
    · have hkk : ¬ ((kindS n.row == kindS r) = true) := by rw [kindS_eq]; simpa using hr
      repeat walk1
      rename St _ _ _ _ _ _ _ _ => S3
      refine r_minL S3 hA'.1 set_self g1 (by simpa using h0) fun M t s4 p1 p2 S4 => ?_
      refine k35 _ _ ?_
      exact mk_EEA _ _ S4 (fun S => q _ _ _ (by simp only [RoomIs, if_neg hr]; exact ⟨p1, p2⟩) (S.weaken kk))
end

/-! layout_change -/
section
variable {prog : Program} {w : World} {A : Around} {E : Value → Shared → Prop} {z s : Shared} {B : Heap} {H : AH} {L : Addr} {O : List Addr} {m : Str → Option Value} {env : Env} {Q : Value → Shared → Prop}
theorem kindS_pane2 (r : Bool) : (("pane" : Str) != kindS r) = true := by cases r <;> decide

theorem d_changeL (S : St w z B H L O m s) (G : Gd w z) (hA : Rm 6 A) {l : Lf} {r : Bool} {c : Int} {tc : Tok} (hl : LeafAt H l) (hBl : B.get? l.dx = none)
    (q : ∀ o s', LeafAt (H.set l.dx o) (l.grow r c) → St w z B (H.set l.dx o) L O m s' → Q .none s') :
    wpAny (model prog w) A (call (.ref 107) [.ref l.a, .bool r, .int c tc]) Q E s := by
  have hl' := hl
  refine LeafAt.op hl fun h1 t0 t1 t2 t3 t4 t5 h2 h3 => ?_
  try clear hl
  refine enter' S G hA fd107 (binds := [("cell", .ref l.a), ("is_row", .bool r), ("change", .int c tc)]) [l.dx] ?_ (fun d hd => by rw [List.mem_singleton.mp hd]; exact ⟨hBl, _, h2⟩) cd107 rfl (BindsTo.of_eq rfl) rfl rfl rfl rfl rfl
  intro A' B' L' s' E' hA' hM hB S'
  have hBd := hM _ (.head _)
  clear S h1 h2 h3
  refine hq fun Q15 k15 => ?_
  repeat walk1
  rename St _ _ _ _ _ _ _ _ => S1
  refine d_setL S1 G (hA'.lo rfl) hl' hBd fun o s2 hl2 S2 => ?_
  clear S1
  have hl2' := hl2
  refine LeafAt.op hl2 fun h1 t0 t1 t2 t3 t4 t5 h2 h3 => ?_
  try clear hl2
  refine op_AAA (put_same r (l.side r + c) l) fun e1 e2 e3 _ => ?_
  rw [e1, e2] at h1; rw [e2, e3] at h2; rw [e3] at h3
  have hkk := kindS_pane2 r
  repeat walk1
  rename St _ _ _ _ _ _ _ _ => S3
  refine r_forL hA'.1 (fun i H1 m1 => H1 = H.set l.dx o) S3 h3 rfl (fun i H1 m1 h => h ▸ h3) (fun i v H1 m1 s1 I E'' hv => by simp at hv) ?_
  rintro H1 m1 s1 rfl S4
  try dsimp only
  repeat walk1
  refine k15 _ _ ?_
  exact mk_EEA _ _ (by assumption) (fun S => q _ _ hl2' S)
end

/-! layout_change on a row of leaves -/
theorem put_a {r : Bool} {v : Int} {l : Lf} : (l.put r v).a = l.a := (put_same r v l).1
theorem put_dx {r : Bool} {v : Int} {l : Lf} : (l.put r v).dx = l.dx := (put_same r v l).2.1
theorem put_pl {r : Bool} {v : Int} {l : Lf} : (l.put r v).pl = l.pl := (put_same r v l).2.2.1
theorem put_p {r : Bool} {v : Int} {l : Lf} : (l.put r v).p = l.p := (put_same r v l).2.2.2.1
theorem put_side {r : Bool} {v : Int} {l : Lf} : (l.put r v).side r = v := (put_same r v l).2.2.2.2.2.2.1
theorem put_sideN {r : Bool} {v : Int} {l : Lf} : (l.put r v).side (!r) = l.side (!r) := (put_same r v l).2.2.2.2.2.2.2
theorem grow_a {r : Bool} {c : Int} {l : Lf} : (l.grow r c).a = l.a := put_a
theorem grow_dx {r : Bool} {c : Int} {l : Lf} : (l.grow r c).dx = l.dx := put_dx
theorem grow_pl {r : Bool} {c : Int} {l : Lf} : (l.grow r c).pl = l.pl := put_pl
theorem grow_side {r : Bool} {c : Int} {l : Lf} : (l.grow r c).side r = l.side r + c := put_side

noncomputable def Nd.side (n : Nd) (r : Bool) : Int := if r then n.w else n.h
noncomputable def Nd.put (r : Bool) (v : Int) (n : Nd) : Nd := if r then { n with w := v } else { n with h := v }
theorem nput_same (r : Bool) (v : Int) (n : Nd) : (n.put r v).a = n.a ∧ (n.put r v).dx = n.dx ∧ (n.put r v).pl = n.pl ∧ (n.put r v).row = n.row ∧ (n.put r v).x = n.x ∧ (n.put r v).y = n.y ∧ (n.put r v).ls = n.ls ∧ (n.put r v).side r = v ∧ (n.put r v).side (!r) = n.side (!r) := by
  cases r <;> simp [Nd.put, Nd.side]
/-- the leaves of a heap, each at its own place -/
noncomputable def Leaves (H : AH) (ls : List Lf) : Prop := (∀ l ∈ ls, LeafAt H l) ∧ (ls.map (·.dx)).Nodup
theorem leaves_step {H : AH} {pre post : List Lf} {l l' : Lf} {o : AO} (h : Leaves H (pre ++ l :: post)) (hd : l'.dx = l.dx) (hl' : LeafAt (H.set l.dx o) l') : Leaves (H.set l.dx o) (pre ++ l' :: post) := by
  have hnd := h.2
  refine ⟨fun x hx => ?_, by simpa [hd] using h.2⟩
  have hl := h.1 l (by simp)
  rw [List.map_append, List.map_cons, List.nodup_append, List.nodup_cons] at hnd
  refine op_AA hnd fun _ hq1 n2 => ?_
  try clear hnd
  refine op_A hq1 fun n1 _ => ?_
  try clear hq1
  rcases List.mem_append.mp hx with hx | hx
  · exact leaf_other (h.1 x (by simp [hx])) hl fun e => n2 _ (List.mem_map_of_mem hx) _ (by simp) e
  · refine mem_cons_op hx ?_ fun x hx => ?_
    · exact hl'
    · exact leaf_other (h.1 x (by simp [hx])) hl fun e => n1 (by rw [← e]; exact List.mem_map_of_mem hx)
theorem LeafAt.del {H : AH} {I : Addr} {l : Lf} (h : LeafAt H l) (h1 : I ≠ l.a) (h2 : I ≠ l.dx) (h3 : I ≠ l.pl) : LeafAt (H.del I) l :=
  let ⟨a, ⟨t0, t1, t2, t3, t4, t5, b⟩, c⟩ := h; ⟨del_ne a (Ne.symm h1), ⟨t0, t1, t2, t3, t4, t5, del_ne b (Ne.symm h2)⟩, del_ne c (Ne.symm h3)⟩
theorem LeafAt.off {H : AH} {I : Addr} {l : Lf} (h : LeafAt H l) (hI : H I = none) : I ≠ l.a ∧ I ≠ l.dx ∧ I ≠ l.pl :=
  let ⟨a, ⟨_, _, _, _, _, _, b⟩, c⟩ := h; ⟨ne_of_none_some hI a, ne_of_none_some hI b, ne_of_none_some hI c⟩
theorem del_set2 {H : AH} {I d : Addr} {o o' : AO} (hI : H I = none) (hne : I ≠ d) : ((H.set I o).set d o').del I = H.set d o' := by
  funext b
  unfold AH.del AH.set
  by_cases h : b = I
  · subst h; simp [hne, hI]
  · simp [h]
theorem turn_leaf {H1 : AH} {I : Addr} {o o' : AO} {l l' : Lf} (hI : H1 I = none) (hl : LeafAt H1 l) (e1 : l'.a = l.a) (e2 : l'.dx = l.dx) (e3 : l'.pl = l.pl) (h : LeafAt ((H1.set I o).set l.dx o') l') :
    ((H1.set I o).set l.dx o').del I = H1.set l.dx o' ∧ LeafAt (H1.set l.dx o') l' := by
  refine op_AA (hl.off hI) fun q1 q2 q3 => ?_
  refine ⟨del_set2 hI q2, ?_⟩
  rw [← del_set2 (o := o) hI q2]
  exact h.del (by rw [e1]; exact q1) (by rw [e2]; exact q2) (by rw [e3]; exact q3)

noncomputable def turnL (r : Bool) (l : Lf) (c : Int) : Lf × Int := if c > 0 then (l.grow r 1, c - 1) else if c < 0 ∧ l.side r - 1 > 0 then (l.grow r (-1), c + 1) else (l, c)
noncomputable def passL (r : Bool) : List Lf → Int → List Lf × Int
  | [], c => ([], c)
  | l :: ls, c => ((turnL r l c).1 :: (passL r ls (turnL r l c).2).1, (passL r ls (turnL r l c).2).2)
theorem passL_snoc {r : Bool} {ls : List Lf} {l : Lf} {c : Int} : passL r (ls ++ [l]) c = ((passL r ls c).1 ++ [(turnL r l (passL r ls c).2).1], (turnL r l (passL r ls c).2).2) := by
  induction ls generalizing c with
  | nil => simp [passL]
  | cons x ls ih => simp [passL, ih]
inductive Rounds (r : Bool) : List Lf → Int → List Lf → Prop
  | done {ls : List Lf} : Rounds r ls 0 ls
  | step {ls ls' : List Lf} {c : Int} : c ≠ 0 → Rounds r (passL r ls c).1 (passL r ls c).2 ls' → Rounds r ls c ls'
theorem turnL_same (r : Bool) (l : Lf) (c : Int) : (turnL r l c).1.a = l.a ∧ (turnL r l c).1.dx = l.dx ∧ (turnL r l c).1.pl = l.pl := by
  unfold turnL
  split
  · exact ⟨grow_a, grow_dx, grow_pl⟩
  · split
    · exact ⟨grow_a, grow_dx, grow_pl⟩
    · exact ⟨rfl, rfl, rfl⟩
theorem passL_same (r : Bool) (ls : List Lf) (c : Int) : (passL r ls c).1.map (·.a) = ls.map (·.a) ∧ (passL r ls c).1.map (·.dx) = ls.map (·.dx) ∧ (passL r ls c).1.map (·.pl) = ls.map (·.pl) := by
  induction ls generalizing c with
  | nil => simp [passL]
  | cons x ls ih => simp [passL, ih, turnL_same]
theorem Rounds.same {r : Bool} {ls ls' : List Lf} {c : Int} (h : Rounds r ls c ls') : ls'.map (·.a) = ls.map (·.a) ∧ ls'.map (·.dx) = ls.map (·.dx) ∧ ls'.map (·.pl) = ls.map (·.pl) := by
  induction h with
  | done => exact ⟨rfl, rfl, rfl⟩
  | step _ _ ih => obtain ⟨a, b, c⟩ := ih; obtain ⟨a', b', c'⟩ := passL_same r _ _; exact ⟨a.trans a', b.trans b', c.trans c'⟩
noncomputable def room (r : Bool) (ls : List Lf) : Int := (ls.map fun l => l.side r - 1).sum
noncomputable def Can (r : Bool) (ls : List Lf) (c : Int) : Prop := (0 ≤ c ∧ ls ≠ []) ∨ (c ≤ 0 ∧ -c ≤ room r ls ∧ ∀ l ∈ ls, 1 ≤ l.side r)
theorem pass_up {r : Bool} {ls : List Lf} {c : Int} (h : 0 ≤ c) : 0 ≤ (passL r ls c).2 ∧ (passL r ls c).2 ≤ c ∧ (passL r ls c).1.length = ls.length ∧ (0 < c → ls ≠ [] → (passL r ls c).2 < c) := by
  induction ls generalizing c with
  | nil => simp [passL, h]
  | cons l ls ih =>
    simp only [passL]
    by_cases hc : c > 0
    · have e : turnL r l c = (l.grow r 1, c - 1) := by simp [turnL, hc]
      rw [e]
      try dsimp only
      refine op_AAA (ih (c := c - 1) (by omega)) fun a b c' d => ?_
      refine ⟨a, by omega, by simp [c'], fun _ _ => by omega⟩
    · have e : turnL r l c = (l, c) := by simp [turnL, hc]; lia
      rw [e]
      try dsimp only
      refine op_AAA (ih (c := c) (by omega)) fun a b c' d => ?_
      refine ⟨a, by omega, by simp [c'], fun _ _ => by lia⟩
theorem room_cons {r : Bool} {l : Lf} {ls : List Lf} : room r (l :: ls) = (l.side r - 1) + room r ls := by simp [room]
theorem room_nonneg {r : Bool} {ls : List Lf} (h : ∀ l ∈ ls, 1 ≤ l.side r) : 0 ≤ room r ls := by
  induction ls with
  | nil => simp [room]
  | cons l ls ih => rw [room_cons]; have := h l (.head _); have := ih fun x hx => h x (.tail _ hx); lia
theorem pass_down {r : Bool} {ls : List Lf} {c : Int} (h : c ≤ 0) (hs : ∀ l ∈ ls, 1 ≤ l.side r) : (passL r ls c).2 ≤ 0 ∧ c ≤ (passL r ls c).2 ∧ (∀ l ∈ (passL r ls c).1, 1 ≤ l.side r) ∧ room r (passL r ls c).1 = room r ls + (c - (passL r ls c).2) ∧ (c < 0 → 0 < room r ls → c < (passL r ls c).2) := by
  induction ls generalizing c with
  | nil => simp [passL, h, room]
  | cons l ls ih =>
    have hs' : ∀ l ∈ ls, 1 ≤ l.side r := fun x hx => hs x (.tail _ hx)
    have hl := hs l (.head _)
    simp only [passL, room_cons]
    by_cases hc : c < 0 ∧ l.side r - 1 > 0
    · have e : turnL r l c = (l.grow r (-1), c + 1) := by unfold turnL; rw [if_neg (by lia), if_pos hc]
      rw [e]
      try dsimp only
      refine op_AAAA (ih (c := c + 1) (by lia) hs') fun a b c' d f => ?_
      refine ⟨a, by lia, ?_, ?_, fun _ _ => by lia⟩
      · intro x hx
        refine mem_cons_op hx ?_ fun x hx => ?_
        · rw [grow_side]; lia
        · exact c' x hx
      · rw [d, grow_side]; lia
    · have e : turnL r l c = (l, c) := by unfold turnL; rw [if_neg (by lia), if_neg hc]
      rw [e]
      try dsimp only
      refine op_AAAA (ih (c := c) h hs') fun a b c' d f => ?_
      refine ⟨a, by omega, ?_, by rw [d]; lia, fun p q => f p (by lia)⟩
      intro x hx
      refine mem_cons_op hx ?_ fun x hx => ?_
      · exact hl
      · exact c' x hx
theorem pass_can {r : Bool} {ls : List Lf} {c : Int} (h : Can r ls c) (hc : c ≠ 0) : Can r (passL r ls c).1 (passL r ls c).2 ∧ (passL r ls c).2.natAbs < c.natAbs := by
  rcases h with ⟨h1, h2⟩ | ⟨h1, h2, h3⟩
  · refine op_AAA (pass_up (r := r) (ls := ls) h1) fun a b d e => ?_
    have := e (by lia) h2
    exact ⟨.inl ⟨a, fun q => h2 (by rw [q] at d; exact List.eq_nil_of_length_eq_zero d.symm)⟩, by lia⟩
  · refine op_AAAA (pass_down h1 h3) fun a b d e f => ?_
    have := f (by lia) (by lia)
    exact ⟨.inr ⟨a, by lia, d⟩, by lia⟩

/-! .. on a node -/
theorem NodeAt.leaves {H : AH} {n : Nd} (h : NodeAt H n) : Leaves H n.ls := ⟨h.2.2.2.1, h.2.2.2.2⟩
theorem NodeAt.offs {H : AH} {n : Nd} (h : NodeAt H n) : n.a ∉ n.ls.map (·.dx) ∧ n.dx ∉ n.ls.map (·.dx) ∧ n.pl ∉ n.ls.map (·.dx) ∧ n.a ≠ n.dx ∧ n.pl ≠ n.dx ∧ n.a ≠ n.pl := by
  refine NodeAt.op h fun h1 t0 t1 t2 t3 t4 h2 h3 h4 _ => ?_
  try clear h
  refine ⟨fun q => ?_, fun q => ?_, fun q => ?_, fun e => ?_, fun e => ?_, fun e => ?_⟩
  · refine op_EA (List.mem_map.mp q) fun l hl e => ?_
    refine LeafAt.op (h4 l hl) fun _ _ _ _ _ _ _ g _ => ?_
    rw [e, h1] at g; cases g
  · refine op_EA (List.mem_map.mp q) fun l hl e => ?_
    refine LeafAt.op (h4 l hl) fun _ _ _ _ _ _ _ g _ => ?_
    rw [e, h2] at g; injection g with g; injection g with _ _ _ _ _ _ g; cases g
  · refine op_EA (List.mem_map.mp q) fun l hl e => ?_
    refine LeafAt.op (h4 l hl) fun _ _ _ _ _ _ _ g _ => ?_
    rw [e, h3] at g; cases g
  · rw [e, h2] at h1; cases h1
  · rw [e, h2] at h3; cases h3
  · rw [e, h3] at h1; cases h1
theorem node_out {H H' : AH} {n : Nd} {ls' : List Lf} (h : NodeAt H n) (k : Out (n.ls.map (·.dx)) H H') (hl : Leaves H' ls') (e : ls'.map (·.a) = n.ls.map (·.a)) : NodeAt H' { n with ls := ls' } := by
  refine op_AAA h.offs fun o1 o2 o3 _ => ?_
  refine NodeAt.op h fun h1 t0 t1 t2 t3 t4 h2 h3 h4 _ => ?_
  try clear h
  refine ⟨(k _ o1).trans h1, ⟨t0, t1, t2, t3, t4, (k _ o2).trans h2⟩, (k _ o3).trans (h3.trans ?_), hl⟩
  have : n.ls.map (fun l => Value.ref l.a) = ls'.map fun l => Value.ref l.a := by
    have := congrArg (List.map Value.ref) e
    simpa [List.map_map, Function.comp_def] using this.symm
  simp [this]
theorem node_same {H : AH} {n : Nd} {r : Bool} {v : Int} {t t0 t1 t2 t3 t4 : Tok} (h : NodeAt H n) :
    NodeAt (H.set n.dx (.cd (.str (kindS n.row) t0) (if r then .int v t else .int n.w t1) (if r then .int n.h t2 else .int v t) (.int n.x t3) (.int n.y t4) (.ref n.pl) .none)) (n.put r v) := by
  refine op_AAAAA h.offs fun o1 o2 o3 o4 o5 _ => ?_
  refine NodeAt.op h fun h1 u0 u1 u2 u3 u4 h2 h3 h4 h5 => ?_
  try clear h
  have hl : ∀ l ∈ n.ls, LeafAt (H.set n.dx (.cd (.str (kindS n.row) t0) (if r then .int v t else .int n.w t1) (if r then .int n.h t2 else .int v t) (.int n.x t3) (.int n.y t4) (.ref n.pl) .none)) l := fun l hl => by
    refine LeafAt.op (h4 l hl) fun a v0 v1 v2 v3 v4 v5 b c => ?_
    exact ⟨set_ne a (by intro e; rw [e, h2] at a; cases a), ⟨v0, v1, v2, v3, v4, v5, set_ne b (by intro e; exact o2 (e ▸ List.mem_map_of_mem hl))⟩, set_ne c (by intro e; rw [e, h2] at c; cases c)⟩
  cases r
  · exact ⟨set_ne h1 o4, ⟨t0, t1, t, t3, t4, set_self⟩, set_ne h3 o5, hl, h5⟩
  · exact ⟨set_ne h1 o4, ⟨t0, t, t2, t3, t4, set_self⟩, set_ne h3 o5, hl, h5⟩
section
variable {prog : Program} {w : World} {A : Around} {E : Value → Shared → Prop} {z s : Shared} {B : Heap} {H : AH} {L : Addr} {O : List Addr} {m : Str → Option Value} {env : Env} {Q : Value → Shared → Prop}
theorem d_setN (S : St w z B H L O m s) (G : Gd w z) (hA : Rm 2 A) {n : Nd} {r : Bool} {v : Int} {t : Tok} (hn : NodeAt H n) (hB : B.get? n.dx = none)
    (q : ∀ o s', NodeAt (H.set n.dx o) (n.put r v) → St w z B (H.set n.dx o) L O m s' → Q .none s') : wpAny (model prog w) A (call (.ref 88) [.ref n.a, .bool r, .int v t]) Q E s :=
  have hn' := hn
  let ⟨h1, ⟨_, _, _, _, _, h2⟩, _⟩ := hn
  d_set_side S G hA h1 h2 hB fun s' S' => q _ _ (node_same hn') S'
theorem kindS_eq' {r r' : Bool} (h : r = r') : (kindS r != kindS r') = false := by subst h; cases r <;> decide
theorem kindS_ne' {r r' : Bool} (h : ¬ r = r') : (kindS r != kindS r') = true := by cases r <;> cases r' <;> first | exact absurd rfl h | decide

theorem d_changeN (S : St w z B H L O m s) (G : Gd w z) (hA : Rm 14 A) {n : Nd} {r : Bool} {c : Int} {tc : Tok} (hn : NodeAt H n) (hz : n.ls.length ≤ 1000) (hBn : B.get? n.dx = none) (hBl : ∀ l ∈ n.ls, B.get? l.dx = none) (hcan : n.row = r → Can r n.ls c)
    (q : ∀ H' ls' s', Out (n.dx :: n.ls.map (·.dx)) H H' → NodeAt H' { n.put r (n.side r + c) with ls := ls' } → (if n.row = r then Rounds r n.ls c ls' else ls' = n.ls.map (·.grow r c)) → St w z B H' L O m s' → Q .none s') :
    wpAny (model prog w) A (call (.ref 107) [.ref n.a, .bool r, .int c tc]) Q E s := by
  have hn' := hn
  refine NodeAt.op hn fun h1 t0 t1 t2 t3 t4 h2 h3 h4 h5 => ?_
  try clear hn
  refine enter' S G hA fd107 (binds := [("cell", .ref n.a), ("is_row", .bool r), ("change", .int c tc)]) (n.dx :: n.ls.map (·.dx)) ?_ (fun d hd => ?_) cd107 rfl (BindsTo.of_eq rfl) rfl rfl rfl rfl rfl
  · intro A' B' L' s' E' hA' hM hB S'
    have hBd := hM _ (.head _)
    have hBl' : ∀ l ∈ n.ls, B'.get? l.dx = none := fun l hl => hM _ (.tail _ (List.mem_map_of_mem hl))
    clear S h3
    refine hq fun Q59 k59 => ?_
    repeat walk1
    rename St _ _ _ _ _ _ _ _ => S1
    refine d_setN S1 G (hA'.lo rfl) hn' hBd fun o s2 hn2 S2 => ?_
    clear S1 h1 h2
    change NodeAt _ (n.put r (n.side r + c)) at hn2
    have hn2' := hn2
    refine op_AAA hn2 fun h1 hq1 h3 _ => ?_
    try clear hn2
    refine op_EEEEE hq1 fun u0 u1 u2 u3 u4 h2 => ?_
    try clear hq1
    refine op_AAAAAAAA (nput_same r (n.side r + c) n) fun e1 e2 e3 e4 e5 e6 e7 e8 e9 => ?_
    rw [e1, e2] at h1
    rw [e2, e3, e4] at h2
    rw [e3, e7] at h3
    have hsh : n.ls.map (·.dx) = (n.put r (n.side r + c)).ls.map (·.dx) := by rw [e7]
    have fin : ∀ (H1 : AH) (ls' : List Lf) (m1 : Str → Option Value) (s4 : Shared), Leaves H1 ls' → ls'.map (·.a) = n.ls.map (·.a) → Out (n.ls.map (·.dx)) (H.set n.dx o) H1 → (if n.row = r then Rounds r n.ls c ls' else ls' = n.ls.map (·.grow r c)) → St w z B' H1 L' (L :: O) m1 s4 → Lv w z B L O m B' L' Q (.ret .none) s4 := fun H1 ls' m1 s4 p1 p2 p3 p4 S4 =>
      ⟨_, _, S4, fun S => q _ _ _ ((Out.set (.head _)).trans (p3.mono fun a ha => .tail _ ha)) (node_out hn2' (by rw [← hsh]; exact p3) p1 (by rw [e7]; exact p2)) p4 S⟩
    by_cases hr : n.row = r
    · have hkk : ¬ ((kindS n.row != kindS r) = true) := by rw [kindS_eq' hr]; decide
      repeat walk1
      rename St _ _ _ _ _ _ _ _ => S3
      refine r_while (fun k H1 m1 => ∃ cur c' t', m1 "change" = some (.int c' t') ∧ m1 "cell" = some (.ref n.a) ∧ m1 "is_row" = some (.bool r) ∧ k = c'.natAbs ∧ Can r cur c' ∧ Leaves H1 cur ∧ cur.map (·.a) = n.ls.map (·.a) ∧ cur.map (·.dx) = n.ls.map (·.dx) ∧ Out (n.ls.map (·.dx)) (H.set n.dx o) H1 ∧ ∀ ls', Rounds r cur c' ls' → Rounds r n.ls c ls') S3 c.natAbs
        ⟨n.ls, c, _, rfl, rfl, rfl, rfl, hcan hr, by rw [← e7]; exact hn2'.leaves, rfl, rfl, Out.rfl, fun _ x => x⟩ ?_
      intro k H1 m1 s4 E'' hp5 S4
      refine op_EEEAAAAAAAAA hp5 fun cur c' t' g1 g2 g3 ek2 g5 g6 g7 g8 g9 g10 => ?_
      try clear hp5
      subst ek2
      clear S3
      by_cases hc0 : c' = 0
      · repeat walk1
        refine k59 _ _ ?_
        exact fin _ _ _ _ g6 g7 g9 (by rw [if_pos hr]; exact g10 _ (hc0 ▸ .done)) (by assumption)
      · have hno := node_out hn2' (by rw [← hsh]; exact g9) g6 (by rw [e7]; exact g7)
        refine op_AAA hno fun k1 hq3 k3 _ => ?_
        try clear hno
        refine op_EEEEE hq3 fun v0 v1 v2 v3 v4 k2 => ?_
        try clear hq3
        dsimp only at k1 k2 k3
        rw [e1, e2] at k1
        rw [e2, e3, e4] at k2
        rw [e3] at k3
        have hlen : cur.length = n.ls.length := by simpa using congrArg List.length g7
        obtain ⟨pc, pm⟩ := pass_can g5 hc0
        have hoff : n.pl ∉ n.ls.map (·.dx) := hn'.offs.2.2.1
        repeat walk1
        rename St _ _ _ _ _ _ _ _ => S5
        refine r_forL hA'.1 (fun i H2 m2 => ∃ t2, m2 "change" = some (.int (passL r (cur.take i) c').2 t2) ∧ m2 "cell" = some (.ref n.a) ∧ m2 "is_row" = some (.bool r) ∧ Leaves H2 ((passL r (cur.take i) c').1 ++ cur.drop i) ∧ Out (n.ls.map (·.dx)) H1 H2) S5 k3
          ⟨_, g1, g2, g3, g6, Out.rfl⟩ (fun i H2 m2 h => ?_) ?_ ?_
        · refine op_EAAAA h fun _ _ _ _ _ ho => ?_
          try clear h
          exact (ho _ hoff).trans k3
        · intro i v H2 m2 s6 I E3 hv hp8 hI hBI S6
          refine op_EAAAA hp8 fun t2 f1 f2 f3 f4 f5 => ?_
          try clear hp8
          refine map_op hv fun l hl => ?_
          try clear hv
          have hlt := (List.getElem?_eq_some_iff.mp hl).1
          have hdrop : cur.drop i = l :: cur.drop (i + 1) := by rw [List.drop_eq_getElem_cons hlt, (List.getElem?_eq_some_iff.mp hl).2]
          have htake : cur.take (i + 1) = cur.take i ++ [l] := by rw [List.take_add_one, hl]; rfl
          refine r_asgName S6 (fun s7 S7 => ?_)
          clear S5 S6
          have f1 := upd_nb (x := "part") (v := .ref l.a) f1 rfl
          have f2 := upd_nb (x := "part") (v := .ref l.a) f2 rfl
          have f3 := upd_nb (x := "part") (v := .ref l.a) f3 rfl
          rw [hdrop] at f4
          have hla : LeafAt H2 l := f4.1 l (by simp)
          have hla' : LeafAt (H2.set I (lit n.pl (i + 1))) l := hla.mono (Le.set hI)
          have hldx : l.dx ∈ n.ls.map (·.dx) := by rw [← g8]; exact List.mem_map_of_mem (List.mem_of_getElem? hl)
          have hBld : B'.get? l.dx = none := hM _ (.tail _ hldx)
          have post : ∀ (o' : AO) (c2 c3 : Int) (m3 : Str → Option Value) (s8 : Shared) (t3 : Tok), turnL r l (passL r (cur.take i) c').2 = (l.grow r c2, c3) → LeafAt ((H2.set I (lit n.pl (i + 1))).set l.dx o') (l.grow r c2) →
              St w z B' ((H2.set I (lit n.pl (i + 1))).set l.dx o') L' (L :: O) m3 s8 → m3 "change" = some (.int c3 t3) → m3 "cell" = some (.ref n.a) → m3 "is_row" = some (.bool r) →
              ∃ H' m', St w z B' H' L' (L :: O) m' s8 ∧ H' I = some (lit n.pl (i + 1)) ∧ ∃ t2, m' "change" = some (.int (passL r (cur.take (i + 1)) c').2 t2) ∧ m' "cell" = some (.ref n.a) ∧ m' "is_row" = some (.bool r) ∧ Leaves (H'.del I) ((passL r (cur.take (i + 1)) c').1 ++ cur.drop (i + 1)) ∧ Out (n.ls.map (·.dx)) H1 (H'.del I) := by
            intro o' c2 c3 m3 s8 t3 ht hl2 S8 x1 x2 x3
            obtain ⟨y1, y2⟩ := turn_leaf hI hla grow_a grow_dx grow_pl hl2
            refine mk_EEAAEAAAA _ _ S8 (set_ne set_self (hla.off hI).2.1) t3 ?_ x2 x3 ?_ ?_
            · rw [htake, passL_snoc, ht]; exact x1
            · rw [y1, htake, passL_snoc, ht, List.append_assoc]
              exact leaves_step f4 grow_dx y2
            · rw [y1]; exact f5.trans (Out.set hldx)
          refine hq fun Q139 k139 => ?_
          by_cases hc1 : (passL r (cur.take i) c').2 > 0
          · repeat walk1
            rename St _ _ _ _ _ _ _ _ => S8
            refine d_changeL S8 G (hA'.lo rfl) hla' hBld fun o' s9 hl2 S9 => ?_
            clear S8
            repeat walk1
            refine k139 _ _ ?_
            exact post _ 1 _ _ _ _ (by unfold turnL; rw [if_pos hc1]) hl2 (by assumption) upd_self (upd_nb f2 rfl) (upd_nb f3 rfl)
          · by_cases hc2 : (passL r (cur.take i) c').2 < 0 ∧ l.side r - 1 > 0
            · obtain ⟨hc2, hc3⟩ := hc2
              repeat walk1
              rename St _ _ _ _ _ _ _ _ => S8
              refine d_roomL S8 G (hA'.lo rfl) hla' fun t3 s9 S9 => ?_
              clear S8
              repeat walk1
              rename St _ _ _ _ _ _ _ _ => S8
              refine d_changeL S8 G (hA'.lo rfl) hla' hBld fun o' s9 hl2 S9 => ?_
              repeat walk1
              refine k139 _ _ ?_
              exact post _ (-1) _ _ _ _ (by unfold turnL; rw [if_neg hc1, if_pos ⟨hc2, hc3⟩]) hl2 (by assumption) upd_self (upd_nb f2 rfl) (upd_nb f3 rfl)
            · have same : turnL r l (passL r (cur.take i) c').2 = (l, (passL r (cur.take i) c').2) := by unfold turnL; rw [if_neg hc1, if_neg hc2]
              have post' : ∀ (m3 : Str → Option Value) (s8 : Shared) (t3 : Tok), St w z B' (H2.set I (lit n.pl (i + 1))) L' (L :: O) m3 s8 → m3 "change" = some (.int ((passL r (cur.take i) c').2) t3) → m3 "cell" = some (.ref n.a) → m3 "is_row" = some (.bool r) →
                  ∃ H' m', St w z B' H' L' (L :: O) m' s8 ∧ H' I = some (lit n.pl (i + 1)) ∧ ∃ t2, m' "change" = some (.int (passL r (cur.take (i + 1)) c').2 t2) ∧ m' "cell" = some (.ref n.a) ∧ m' "is_row" = some (.bool r) ∧ Leaves (H'.del I) ((passL r (cur.take (i + 1)) c').1 ++ cur.drop (i + 1)) ∧ Out (n.ls.map (·.dx)) H1 (H'.del I) := by
                intro m3 s8 t3 S8 x1 x2 x3
                refine mk_EEAAEAAAA _ _ S8 set_self t3 ?_ x2 x3 ?_ ?_
                · rw [htake, passL_snoc, same]; exact x1
                · rw [del_set hI, htake, passL_snoc, same, List.append_assoc]; exact f4
                · rw [del_set hI]; exact f5
              by_cases hc4 : (passL r (cur.take i) c').2 < 0
              · have hc5 : ¬ l.side r - 1 > 0 := fun q => hc2 ⟨hc4, q⟩
                repeat walk1
                rename St _ _ _ _ _ _ _ _ => S8
                refine d_roomL S8 G (hA'.lo rfl) hla' fun t3 s9 S9 => ?_
                clear S8
                repeat walk1
                refine k139 _ _ ?_
                exact post' _ _ _ (by assumption) f1 f2 f3
              · repeat walk1
                refine k139 _ _ ?_
                exact post' _ _ _ (by assumption) f1 f2 f3
        · intro H2 m2 s6 hp3 S6
          refine op_EAAAA hp3 fun t2 f1 f2 f3 f4 f5 => ?_
          try clear hp3
          try dsimp only
          rw [List.take_of_length_le (by simp)] at f1 f4
          rw [List.drop_of_length_le (by simp), List.append_nil] at f4
          repeat walk1
          refine op_AA (passL_same r cur c') fun z1 z2 z3 => ?_
          exact mk_EEEAAEEEAAAAAAAAA _ _ _ pm (by assumption) _ _ _ f1 f2 f3 rfl pc f4 (z1.trans g7) (z2.trans g8) (g9.trans f5) (fun ls' hr' => g10 _ (.step hc0 hr'))
    · have hkk : (kindS n.row != kindS r) = true := by rw [kindS_ne' hr]
      have hoff : n.pl ∉ n.ls.map (·.dx) := hn'.offs.2.2.1
      repeat walk1
      rename St _ _ _ _ _ _ _ _ => S5
      refine r_forL hA'.1 (fun i H2 m2 => m2 "change" = some (.int c tc) ∧ m2 "is_row" = some (.bool r) ∧ Leaves H2 ((n.ls.take i).map (·.grow r c) ++ n.ls.drop i) ∧ Out (n.ls.map (·.dx)) (H.set n.dx o) H2) S5 h3
        ⟨rfl, rfl, by rw [← e7]; exact hn2'.leaves, Out.rfl⟩ (fun i H2 m2 h => (h.2.2.2 _ hoff).trans h3) ?_ ?_
      · intro i v H2 m2 s6 I E3 hv hp8 hI hBI S6
        refine op_AAA hp8 fun f1 f3 f4 f5 => ?_
        try clear hp8
        refine map_op hv fun l hl => ?_
        try clear hv
        have hlt := (List.getElem?_eq_some_iff.mp hl).1
        have hdrop : n.ls.drop i = l :: n.ls.drop (i + 1) := by rw [List.drop_eq_getElem_cons hlt, (List.getElem?_eq_some_iff.mp hl).2]
        have htake : n.ls.take (i + 1) = n.ls.take i ++ [l] := by rw [List.take_add_one, hl]; rfl
        refine r_asgName S6 (fun s7 S7 => ?_)
        clear S5 S6
        have f1 := upd_nb (x := "part") (v := .ref l.a) f1 rfl
        have f3 := upd_nb (x := "part") (v := .ref l.a) f3 rfl
        rw [hdrop] at f4
        have hla : LeafAt H2 l := f4.1 l (by simp)
        have hla' : LeafAt (H2.set I (lit n.pl (i + 1))) l := hla.mono (Le.set hI)
        have hldx : l.dx ∈ n.ls.map (·.dx) := List.mem_map_of_mem (List.mem_of_getElem? hl)
        have hBld : B'.get? l.dx = none := hM _ (.tail _ hldx)
        refine hq fun Q209 k209 => ?_
        repeat walk1
        rename St _ _ _ _ _ _ _ _ => S8
        refine d_changeL S8 G (hA'.lo rfl) hla' hBld fun o' s9 hl2 S9 => ?_
        repeat walk1
        refine k209 _ _ ?_
        obtain ⟨y1, y2⟩ := turn_leaf hI hla grow_a grow_dx grow_pl hl2
        refine mk_EEAAAAA _ _ (by assumption) (set_ne set_self (hla.off hI).2.1) f1 f3 ?_ ?_
        · rw [y1, htake, List.map_append, List.append_assoc]
          exact leaves_step f4 grow_dx y2
        · rw [y1]; exact f5.trans (Out.set hldx)
      · intro H2 m2 s6 hp3 S6
        refine op_AAA hp3 fun f1 f3 f4 f5 => ?_
        try clear hp3
        try dsimp only
        rw [List.take_of_length_le (by simp), List.drop_of_length_le (by simp), List.append_nil] at f4
        repeat walk1
        refine k59 _ _ ?_
        exact fin _ _ _ _ f4 (by simp [Function.comp_def, grow_a]) f5 (by rw [if_neg hr]) (by assumption)
  · refine mem_cons_op hd ?_ fun d hd => ?_
    · exact mk_AE hBn _ h2
    · refine mem_op hd fun l hl => ?_
      refine LeafAt.op (h4 l hl) fun _ _ _ _ _ _ _ g _ => ?_
      exact mk_AE (hBl l hl) _ g
end

/-! layout_placed -/
theorem set_set {H : AH} {a : Addr} {o o' : AO} : (H.set a o).set a o' = H.set a o' := by
  funext b; unfold AH.set; by_cases h : b = a <;> simp [h]
section
variable {M : Model} {A : Around} {E : Value → Shared → Prop} {s : Shared} {env : Env}
theorem asg_Attr {o : Expr} {attr : Str} {pos : Pos} {v : Value} {Q : Unit → Shared → Prop} (h : wpAny M A (eval o env) (fun ov s₂ => wpAny M A (setAttr ov attr v) Q E s₂) E s) :
    wpAny M A (assign (.Attribute o attr pos) env v) Q E s := by
  rw [assign_Attribute]
  exact wpAny_bind (wpAny_holding (wpAny_mono h (fun ov s2 h2 => wpAny_bind (wpAny_standAt (wpAny_bind (wpAny_holding (wpAny_mono h2 (fun _ _ x => wpAny_release' x) fun _ _ x => x))))) fun _ _ x => x))
end
noncomputable def Lf.to (l : Lf) (p : Int × Int) : Lf := { l with x := p.1, y := p.2 }
noncomputable def adv (row : Bool) (l : Lf) (p : Int × Int) : Int × Int := if row then (p.1 + (l.w + 1), p.2) else (p.1, p.2 + (l.h + 1))
noncomputable def placeL (row : Bool) : List Lf → Int × Int → List Lf × (Int × Int)
  | [], p => ([], p)
  | l :: ls, p => (l.to p :: (placeL row ls (adv row l p)).1, (placeL row ls (adv row l p)).2)
theorem placeL_snoc {row : Bool} {ls : List Lf} {l : Lf} {p : Int × Int} : placeL row (ls ++ [l]) p = ((placeL row ls p).1 ++ [l.to (placeL row ls p).2], adv row l (placeL row ls p).2) := by
  induction ls generalizing p with
  | nil => simp [placeL]
  | cons x ls ih => simp [placeL, ih]
theorem placeL_same (row : Bool) (ls : List Lf) (p : Int × Int) : (placeL row ls p).1.map (·.a) = ls.map (·.a) ∧ (placeL row ls p).1.map (·.dx) = ls.map (·.dx) ∧ (placeL row ls p).1.map (·.w) = ls.map (·.w) ∧ (placeL row ls p).1.map (·.h) = ls.map (·.h) ∧ (placeL row ls p).1.map (·.p) = ls.map (·.p) := by
  induction ls generalizing p with
  | nil => simp [placeL]
  | cons x ls ih => simp [placeL, ih, Lf.to]
section
variable {prog : Program} {w : World} {A : Around} {E : Value → Shared → Prop} {z s : Shared} {B : Heap} {H : AH} {L : Addr} {O : List Addr} {m : Str → Option Value} {env : Env} {Q : Value → Shared → Prop}

theorem leaf_to {H : AH} {l : Lf} {p : Int × Int} {t0 t1 t2 t3 t4 t5 : Tok} (h : LeafAt H l) :
    LeafAt (H.set l.dx (.cd (.str "pane" t0) (.int l.w t1) (.int l.h t2) (.int p.1 t3) (.int p.2 t4) (.ref l.pl) (.int l.p t5))) (l.to p) := by
  refine LeafAt.op h fun h1 _ _ _ _ _ _ g2 h3 => ?_
  try clear h
  have n1 : l.a ≠ l.dx := by intro e; rw [e, g2] at h1; cases h1
  have n2 : l.pl ≠ l.dx := by intro e; rw [e, g2] at h3; cases h3
  exact ⟨set_ne h1 n1, ⟨t0, t1, t2, t3, t4, t5, set_self⟩, set_ne h3 n2⟩

theorem d_placedL (S : St w z B H L O m s) (G : Gd w z) (hA : Rm 6 A) {l : Lf} {p : Int × Int} {tx ty : Tok} (hl : LeafAt H l) (hBl : B.get? l.dx = none)
    (q : ∀ o s', LeafAt (H.set l.dx o) (l.to p) → St w z B (H.set l.dx o) L O m s' → Q (.ref l.a) s') :
    wpAny (model prog w) A (call (.ref 114) [.ref l.a, .int p.1 tx, .int p.2 ty]) Q E s := by
  have hl' := hl
  refine LeafAt.op hl fun h1 t0 t1 t2 t3 t4 t5 h2 h3 => ?_
  try clear hl
  refine enter' S G hA fd114 (binds := [("cell", .ref l.a), ("x", .int p.1 tx), ("y", .int p.2 ty)]) [l.dx] ?_ (fun d hd => by rw [List.mem_singleton.mp hd]; exact ⟨hBl, _, h2⟩) cd114 rfl (BindsTo.of_eq rfl) rfl rfl rfl rfl rfl
  intro A' B' L' s' E' hA' hM hB S'
  have hBd := hM _ (.head _)
  have n1 : l.a ≠ l.dx := by intro e; rw [e, h2] at h1; cases h1
  have n2 : l.pl ≠ l.dx := by intro e; rw [e, h2] at h3; cases h3
  clear S
  refine hq fun Q46 k46 => ?_
  repeat walk1
  rename_i T s1 S1 nT bT
  refine r_asgTup S1 hA'.1 set_self (fun s2 S2 => ?_) rfl rfl
  clear S1
  have nd : T ≠ l.dx := ne_of_none_some nT h2
  refine assignInOrder_cons (asg_Attr ?_)
  repeat walk1
  refine asg_Attr ?_
  walk1
  walk1
  walk1
  rename St _ _ _ _ _ _ _ _ => S3
  replace S3 := S3.weaken (H' := H.set l.dx (.cd (.str "pane" t0) (.int l.w t1) (.int l.h t2) (.int p.1 tx) (.int p.2 ty) (.ref l.pl) (.int l.p t5))) (by rw [set_set]; exact (Le.set nT).set2)
  have hl2 := leaf_to (p := p) (t0 := t0) (t1 := t1) (t2 := t2) (t3 := tx) (t4 := ty) (t5 := t5) hl'
  have hl2' := hl2
  refine LeafAt.op hl2 fun g1 u0 u1 u2 u3 u4 u5 g2 g3 => ?_
  try clear hl2
  repeat walk1
  rename St _ _ _ _ _ _ _ _ => S3
  refine r_forL hA'.1 (fun i H1 m1 => H1 = H.set l.dx _ ∧ m1 "cell" = some (.ref l.a)) S3 g3 ⟨rfl, rfl⟩ (fun i H1 m1 h => h.1 ▸ g3) (fun i v H1 m1 s1 I E'' hv => by simp at hv) ?_
  intro H1 m1 s1 hp3 S4
  obtain ⟨rfl, k1⟩ := hp3
  try dsimp only
  repeat walk1
  refine k46 _ _ ?_
  exact mk_EEA _ _ (by assumption) (fun S => q _ _ hl2' S)

theorem node_to {H : AH} {n : Nd} {p : Int × Int} {t0 t1 t2 t3 t4 : Tok} (h : NodeAt H n) :
    NodeAt (H.set n.dx (.cd (.str (kindS n.row) t0) (.int n.w t1) (.int n.h t2) (.int p.1 t3) (.int p.2 t4) (.ref n.pl) .none)) { n with x := p.1, y := p.2 } := by
  refine ce fun gl => ?_
  refine op_AAAAA h.offs fun o1 o2 o3 o4 o5 _ => ?_
  refine NodeAt.op h fun h1 u0 u1 u2 u3 u4 h2 h3 h4 h5 => ?_
  refine gl ?_; clear gl
  try clear h
  refine ⟨set_ne h1 o4, ⟨t0, t1, t2, t3, t4, set_self⟩, set_ne h3 o5, fun l hl => ?_, h5⟩
  refine LeafAt.op (h4 l hl) fun a v0 v1 v2 v3 v4 v5 b c => ?_
  exact ⟨set_ne a (by intro e; rw [e, h2] at a; cases a), ⟨v0, v1, v2, v3, v4, v5, set_ne b (by intro e; exact o2 (e ▸ List.mem_map_of_mem hl))⟩, set_ne c (by intro e; rw [e, h2] at c; cases c)⟩
theorem d_placedN (S : St w z B H L O m s) (G : Gd w z) (hA : Rm 10 A) {n : Nd} {p : Int × Int} {tx ty : Tok} (hn : NodeAt H n) (hz : n.ls.length ≤ 1000) (hBn : B.get? n.dx = none) (hBl : ∀ l ∈ n.ls, B.get? l.dx = none)
    (q : ∀ H' s', Out (n.dx :: n.ls.map (·.dx)) H H' → NodeAt H' { n with x := p.1, y := p.2, ls := (placeL n.row n.ls p).1 } → St w z B H' L O m s' → Q (.ref n.a) s') :
    wpAny (model prog w) A (call (.ref 114) [.ref n.a, .int p.1 tx, .int p.2 ty]) Q E s := by
  have hn' := hn
  refine NodeAt.op hn fun h1 t0 t1 t2 t3 t4 h2 h3 h4 h5 => ?_
  try clear hn
  refine enter' S G hA fd114 (binds := [("cell", .ref n.a), ("x", .int p.1 tx), ("y", .int p.2 ty)]) (n.dx :: n.ls.map (·.dx)) ?_ (fun d hd => ?_) cd114 rfl (BindsTo.of_eq rfl) rfl rfl rfl rfl rfl
  · intro A' B' L' s' E' hA' hM hB S'
    have hBd := hM _ (.head _)
    have hBl' : ∀ l ∈ n.ls, B'.get? l.dx = none := fun l hl => hM _ (.tail _ (List.mem_map_of_mem hl))
    have n1 : n.a ≠ n.dx := by intro e; rw [e, h2] at h1; cases h1
    have n2 : n.pl ≠ n.dx := by intro e; rw [e, h2] at h3; cases h3
    clear S
    refine hq fun Q95 k95 => ?_
    repeat walk1
    rename_i T s1 S1 nT bT
    refine r_asgTup S1 hA'.1 set_self (fun s2 S2 => ?_) rfl rfl
    clear S1
    have nd : T ≠ n.dx := ne_of_none_some nT h2
    refine assignInOrder_cons (asg_Attr ?_)
    repeat walk1
    refine asg_Attr ?_
    walk1
    walk1
    walk1
    rename St _ _ _ _ _ _ _ _ => S3
    replace S3 := S3.weaken (H' := H.set n.dx (.cd (.str (kindS n.row) t0) (.int n.w t1) (.int n.h t2) (.int p.1 tx) (.int p.2 ty) (.ref n.pl) .none)) (by rw [set_set]; exact (Le.set nT).set2)
    have hl2 := node_to (p := p) (t0 := t0) (t1 := t1) (t2 := t2) (t3 := tx) (t4 := ty) hn'
    clear h1 h2 h3
    generalize (AO.cd (.str (kindS n.row) t0) (.int n.w t1) (.int n.h t2) (.int p.1 tx) (.int p.2 ty) (.ref n.pl) .none) = o at S3 hl2
    have hl2' := hl2
    refine ce fun gl => ?_
    refine op_AAA hl2 fun h1 hq1 h3 _ => ?_
    try clear hl2
    refine op_EEEEE hq1 fun u0 u1 u2 u3 u4 h2 => ?_
    refine gl ?_; clear gl
    try clear hq1
    dsimp only at h1 h2 h3
    repeat walk1
    rename St _ _ _ _ _ _ _ _ => S5
    refine op_AAA hn'.offs fun o1 o2 o3 _ => ?_
    refine r_forL hA'.1 (fun i H2 m2 => (∃ tx ty, m2 "x" = some (.int (placeL n.row (n.ls.take i) p).2.1 tx) ∧ m2 "y" = some (.int (placeL n.row (n.ls.take i) p).2.2 ty)) ∧ m2 "cell" = some (.ref n.a) ∧ Leaves H2 ((placeL n.row (n.ls.take i) p).1 ++ n.ls.drop i) ∧ Out (n.ls.map (·.dx)) (H.set n.dx o) H2) S5 h3
      ⟨⟨_, _, rfl, rfl⟩, rfl, hl2'.leaves, Out.rfl⟩ (fun i H2 m2 h => (h.2.2.2 _ o3).trans h3) ?_ ?_
    · intro i v H2 m2 s6 I E3 hv hp8 hI hBI S6
      refine ce fun gl => ?_
      refine op_AAA hp8 fun hq2 f3 f4 f5 => ?_
      try clear hp8
      refine op_EEA hq2 fun tx ty f1 f2 => ?_
      refine gl ?_; clear gl
      try clear hq2
      refine map_op hv fun l hl => ?_
      try clear hv
      have hlt := (List.getElem?_eq_some_iff.mp hl).1
      have hdrop : n.ls.drop i = l :: n.ls.drop (i + 1) := by rw [List.drop_eq_getElem_cons hlt, (List.getElem?_eq_some_iff.mp hl).2]
      have htake : n.ls.take (i + 1) = n.ls.take i ++ [l] := by rw [List.take_add_one, hl]; rfl
      refine r_asgName S6 (fun s7 S7 => ?_)
      clear S5 S6
      have f0 : upd m2 "part" (.ref l.a) "part" = some (.ref l.a) := upd_self
      have f1 := upd_nb (x := "part") (v := .ref l.a) f1 rfl
      have f2 := upd_nb (x := "part") (v := .ref l.a) f2 rfl
      have f3 := upd_nb (x := "part") (v := .ref l.a) f3 rfl
      rw [hdrop] at f4
      have hla : LeafAt H2 l := f4.1 l (by simp)
      have hla' : LeafAt (H2.set I (lit n.pl (i + 1))) l := hla.mono (Le.set hI)
      have hldx : l.dx ∈ n.ls.map (·.dx) := List.mem_map_of_mem (List.mem_of_getElem? hl)
      have hBld : B'.get? l.dx = none := hM _ (.tail _ hldx)
      have g1 : (H2.set I (lit n.pl (i + 1))) n.a = some (.inst n.dx) := set_new ((f5 _ o1).trans h1) hI
      have g2 := set_new (o := lit n.pl (i + 1)) ((f5 _ o2).trans h2) hI
      refine hq fun Q147 k147 => ?_
      repeat walk1
      rename St _ _ _ _ _ _ _ _ => S8
      refine d_placedL (p := (placeL n.row (n.ls.take i) p).2) S8 G (hA'.lo rfl) hla' hBld fun o' s9 hl3 S9 => ?_
      clear S8
      have hl3' := hl3
      have k1 : ((H2.set I (lit n.pl (i + 1))).set l.dx o') l.a = some (.inst l.dx) := hl3.1
      obtain ⟨v0, v1, v2, v3, v4, v5, k2⟩ : ∃ v0 v1 v2 v3 v4 v5, ((H2.set I (lit n.pl (i + 1))).set l.dx o') l.dx = some (.cd (.str "pane" v0) (.int l.w v1) (.int l.h v2) (.int (placeL n.row (n.ls.take i) p).2.1 v3) (.int (placeL n.row (n.ls.take i) p).2.2 v4) (.ref l.pl) (.int l.p v5)) := hl3.2.1
      have g1 := set_ne (a := l.dx) (o := o') g1 (fun e => o1 (e ▸ hldx))
      have g2 := set_ne (a := l.dx) (o := o') g2 (fun e => o2 (e ▸ hldx))
      have post : ∀ (m3 : Str → Option Value) (s8 : Shared) (t3 t4 : Tok), St w z B' ((H2.set I (lit n.pl (i + 1))).set l.dx o') L' (L :: O) m3 s8 → m3 "x" = some (.int (adv n.row l (placeL n.row (n.ls.take i) p).2).1 t3) → m3 "y" = some (.int (adv n.row l (placeL n.row (n.ls.take i) p).2).2 t4) → m3 "cell" = some (.ref n.a) →
          ∃ H' m', St w z B' H' L' (L :: O) m' s8 ∧ H' I = some (lit n.pl (i + 1)) ∧ (∃ tx ty, m' "x" = some (.int (placeL n.row (n.ls.take (i + 1)) p).2.1 tx) ∧ m' "y" = some (.int (placeL n.row (n.ls.take (i + 1)) p).2.2 ty)) ∧ m' "cell" = some (.ref n.a) ∧ Leaves (H'.del I) ((placeL n.row (n.ls.take (i + 1)) p).1 ++ n.ls.drop (i + 1)) ∧ Out (n.ls.map (·.dx)) (H.set n.dx o) (H'.del I) := by
        intro m3 s8 t3 t4 S8 x1 x2 x3
        obtain ⟨y1, y2⟩ := turn_leaf (l' := l.to (placeL n.row (n.ls.take i) p).2) hI hla rfl rfl rfl hl3'
        refine mk_EEAAAAA _ _ S8 (set_ne set_self (hla.off hI).2.1) ⟨t3, t4, ?_, ?_⟩ x3 ?_ ?_
        · rw [htake, placeL_snoc]; exact x1
        · rw [htake, placeL_snoc]; exact x2
        · rw [y1, htake, placeL_snoc, List.append_assoc]
          exact leaves_step f4 rfl y2
        · rw [y1]; exact f5.trans (Out.set hldx)
      by_cases hrow : n.row = true
      · have hkk : (kindS n.row == ("row" : Str)) = true := by rw [kindS_row, hrow]
        repeat walk1
        refine k147 _ _ ?_
        exact post _ _ _ _ (by assumption) (by rw [upd_self]; unfold adv; rw [if_pos hrow]) (by unfold adv; rw [if_pos hrow]; exact upd_nb f2 rfl) (upd_nb f3 rfl)
      · have hkk : ¬ (kindS n.row == ("row" : Str)) = true := by rw [kindS_row]; exact hrow
        repeat walk1
        refine k147 _ _ ?_
        exact post _ _ _ _ (by assumption) (by unfold adv; rw [if_neg hrow]; exact upd_nb f1 rfl) (by rw [upd_self]; unfold adv; rw [if_neg hrow]) (upd_nb f3 rfl)
    · intro H2 m2 s6 hp3 S6
      refine op_AAA hp3 fun _ f3 f4 f5 => ?_
      try clear hp3
      try dsimp only
      rw [List.length_map, List.take_of_length_le (Nat.le_refl _), List.drop_of_length_le (Nat.le_refl _), List.append_nil] at f4
      repeat walk1
      refine k95 _ _ ?_
      exact mk_EEA _ _ (by assumption) (fun S => q _ _ ((Out.set (.head _)).trans (f5.mono fun a ha => .tail _ ha)) (node_out hl2' f5 f4 (placeL_same n.row n.ls p).1) S)
  · refine mem_cons_op hd ?_ fun d hd => ?_
    · exact mk_AE hBn _ h2
    · refine mem_op hd fun l hl => ?_
      refine LeafAt.op (h4 l hl) fun _ _ _ _ _ _ _ g _ => ?_
      exact mk_AE (hBl l hl) _ g
end

/-! a slice of a list, stored -/
noncomputable def spl (a b : Nat) (new xs : Array Value) : Array Value := xs.extract 0 a ++ new ++ xs.extract b xs.size
section
variable {prog : Program} {w : World} {A : Around} {E : Value → Shared → Prop} {s : Shared}
open PySem.Builtin.List in
theorem wp_setslice {l sl nl : Addr} {items new : Array Value} {vl vu : Value} {lo hi : Option Int} {Q : Unit → Shared → Prop} (hl : s.heap.IsList l items) (hnl : s.heap.IsList nl new) (hne : l ≠ nl)
    (hs : s.heap.IsSliceOf sl vl vu .none) (pl : IsPart vl lo) (pu : IsPart vu hi) (hsz : items.size + new.size ≤ 100000)
    (h : Q () { s with heap := s.heap.update l (Obj.mapSeq (spl (sliceBounds lo hi none items.size).1.toNat (max (sliceBounds lo hi none items.size).1 (sliceBounds lo hi none items.size).2.1).toNat new)) }) :
    wpAny (model prog w) A (setItem (.ref l) (.ref sl) (.ref nl)) Q E s := by
  refine ce fun gl => ?_
  refine op_EAAE (id hl) fun o ho hc ne hd => ?_
  refine op_EAAE (id hnl) fun on hon hcn nn hdn => ?_
  refine op_EAA (id hs) fun os hos hcs hds => ?_
  refine gl ?_; clear gl
  have hTs : s.TypeIs (.ref sl) "slice" := ⟨os, hos, hcs⟩
  unfold setItem
  try with_reducible refine wpAny_holding ?_
  first | refine wpAny_bind (wpAny_pure ?_) | skip
  refine wpAny_bind (wpAny_sequenceKey hl.typeIs (by decide) ?_)
  refine wpAny_bind (wpAny_callSpecial?_slot (name := Str.ofString "__setitem__") hl.typeIs slot_list_setitem
    (wpAny_call_entry slot_list_setitem hl.typeIs entry_list_setitem ?_ (args_list_setitem _ _ _)))
  show wpAny _ _ (Builtin.List.listSubscript? (.ref sl) >>= _) _ _ s
  refine wpAny_bind ?_
  unfold Builtin.List.listSubscript?
  refine wpAny_bind (wpAny_specialOf hTs slice_no_index ?_)
  simp only [Option.isNone_none, if_true]
  refine wpAny_pure ?_
  show wpAny _ _ (typeOf (.ref sl) >>= _) _ _ s
  refine wpAny_bind (wpAny_typeOf hTs ?_)
  rw [if_neg (by decide)]
  rw [listSliceParts_eq]
  refine wpAny_bind (wpAny_bind (wpAny_field hos hds (x := .none) rfl (wpAny_bind (wpAny_listPart .none ?_))))
  rw [if_neg (by decide)]
  refine wpAny_bind (wpAny_field hos hds (x := vl) rfl (wpAny_bind (wpAny_listPart pl ?_)))
  refine wpAny_bind (wpAny_field hos hds (x := vu) rfl (wpAny_bind (wpAny_listPart pu (wpAny_pure ?_))))
  rw [if_neg (by show ¬ ((l == nl) = true); simpa using hne)]
  have items' : ∀ {a : Addr} {o : Obj} {xs : Array Value} {n : Nat} {Q : Array Value → Shared → Prop} (ho : s.heap.get? a = some o) (hd : o.data = .seq xs n) (h : Q xs s), wpAny (model prog w) A.in1 (Builtin.List.listItems (.ref a)) Q (fun e s' => E e s') s := fun ho hd h => by
    unfold Builtin.List.listItems
    exact wpAny_bind (wpAny_seqItems ho hd (wpAny_pure h))
  refine wpAny_bind (m := Builtin.List.listAllItems (.ref nl) _) ?_
  unfold Builtin.List.listAllItems
  refine wpAny_bind (wpAny_typeOf hnl.typeIs ?_)
  rw [if_pos (show (Value.type "list" == Value.type "list" || Value.type "list" == Value.type "tuple") = true from rfl)]
  refine items' hon hdn ?_
  refine wpAny_bind (items' ho hd ?_)
  refine wpAny_bind (wpAny_of_eq (sliceIndices_raw lo hi none items.size (by simp)) ?_)
  rw [if_pos (show ((sliceBounds lo hi none items.size).2.2 == 1) = true from rfl)]
  refine wpAny_bind (wpAny_rule ?_)
  rw [if_neg (by simp only [Builtin.List.listTooLong, decide_eq_true_eq, sizeLine_eq]; lia)]
  show wpAny _ _ (updateSeq l (spl (sliceBounds lo hi none items.size).1.toNat (max (sliceBounds lo hi none items.size).1 (sliceBounds lo hi none items.size).2.1).toNat new) >>= _) _ _ s
  generalize (sliceBounds lo hi none items.size).1.toNat = a, (max (sliceBounds lo hi none items.size).1 (sliceBounds lo hi none items.size).2.1).toNat = b at h
  refine wpAny_bind (wpAny_updateSeq ho hd ?_ (by rw [sizeLine_eq]; lia) (by rw [sizeLine_eq]; unfold spl; simp; omega))
  refine wpAny_bind (wpAny_letGo ?_)
  exact wpAny_pure ⟨.none, rfl, wpAny_pure h⟩
end
theorem spl_at' {vs ws : List Value} {k : Nat} (hk : k < vs.length) :
    spl (sliceBounds (some (k : Int)) (some ((k : Int) + 1)) none vs.toArray.size).1.toNat (max (sliceBounds (some (k : Int)) (some ((k : Int) + 1)) none vs.toArray.size).1 (sliceBounds (some (k : Int)) (some ((k : Int) + 1)) none vs.toArray.size).2.1).toNat ws.toArray = spl k (k + 1) ws.toArray := by
  have e : sliceBounds (some (k : Int)) (some ((k : Int) + 1)) none vs.toArray.size = ((k : Int), (k : Int) + 1, 1) := by
    simp only [sliceBounds, Option.getD_none, List.size_toArray]
    have h1 : ¬ ((k : Int) < 0) := by lia
    have h2 : ¬ ((k : Int) + 1 < 0) := by lia
    simp only [h1, h2, if_false, show (1 : Int) > 0 by decide, if_true]
    congr 1
    · lia
    · congr 1; lia
  rw [e]
  have e2 : (max (k : Int) ((k : Int) + 1)).toNat = k + 1 := by lia
  simp only [e2, Int.toNat_natCast]
theorem spl_run {vs ws : List Value} {k : Nat} (hk : k < vs.length) : spl k (k + 1) ws.toArray vs.toArray = (vs.take k ++ ws ++ vs.drop (k + 1)).toArray := by
  simp only [spl, List.size_toArray]
  simp [List.extract_toArray]
  rw [List.take_of_length_le (by simp)]
theorem spl_obj {P : Params} {vs ws : List Value} {k n : Nat} (hk : k < vs.length) : (AO.lst (vs.take k ++ ws ++ vs.drop (k + 1))).Is P (Obj.mapSeq (spl k (k + 1) ws.toArray) (listOf vs.toArray n)) := by
  show ∃ n', Obj.mapSeq (spl k (k + 1) ws.toArray) (listOf vs.toArray n) = listOf _ n'
  rw [← spl_run hk]
  exact ⟨_, rfl⟩
section
variable {prog : Program} {w : World} {A : Around} {E : Value → Shared → Prop} {z s : Shared} {B : Heap} {H : AH} {L : Addr} {O : List Addr} {m : Str → Option Value} {env : Env}
theorem r_setslice (S : St w z B H L O m s) {l nl : Addr} {vs ws : List Value} {k : Nat} {i j : Int} {t u : Tok} {Q : Unit → Shared → Prop} (hl : H l = some (.lst vs)) (hB : B.get? l = none) (hnl : H nl = some (.lst ws)) (hne : l ≠ nl) (hk : k < vs.length)
    (hi : i = k) (hj : j = i + 1) (hz : vs.length + ws.length ≤ 100000) (q : ∀ s', St w z B (H.set l (.lst (vs.take k ++ ws ++ vs.drop (k + 1)))) L O m s' → Q () s') :
    wpAny (model prog w) A (setItem (.ref l) (.ref s.heap.objs.size) (.ref nl)) Q E { s with heap := s.heap.push { cls := .type "slice", data := .fields #[.int i t, .int j u, .none] } } := by
  subst hi; subst hj
  have S1 : St w z B H L O m { s with heap := s.heap.push { cls := .type "slice", data := .fields #[.int (k : Int) t, .int ((k : Int) + 1) u, .none] } } := S.grown (fun b o e => Heap.get?_push_of_some _ e) ⟨rfl, rfl, rfl⟩
  refine wp_setslice (S1.isList hl) (S1.isList hnl) hne (Heap.IsSliceOf.new ..) (.int _ t) (.int _ u) (by simpa using hz) ?_
  rw [spl_at' hk]
  refine ce fun gl => ?_
  refine op_EAE (S1.real _ _ hl) fun ob h1 n ek1 => ?_
  subst ek1
  refine gl ?_; clear gl
  exact q _ (S1.turnS (t := s.toks) hl hB (fun b o hb x => ((Heap.SameBut.update ..).2 b hb).trans x) (Heap.get?_update_self _ h1 rfl) (spl_obj hk))
end

/-! list.pop(at) -/
theorem cut_at {vs : List Value} {k : Nat} {y : Value} (hy : vs[k]? = some y) : kl_cut vs k = some (vs.take k, y, vs.drop (k + 1)) := by
  induction vs generalizing k with
  | nil => simp at hy
  | cons x vs ih =>
    cases k with
    | zero => simp at hy; subst hy; rfl
    | succ k => simp only [kl_cut, ih (k := k) (by simpa using hy)]; rfl
section
variable {prog : Program} {w : World} {A : Around} {E : Value → Shared → Prop} {z s : Shared} {B : Heap} {H : AH} {L : Addr} {O : List Addr} {m : Str → Option Value} {env : Env} {Q : Value → Shared → Prop}
theorem r_pop (S : St w z B H L O m s) {l : Addr} {vs : List Value} {i : Int} {k : Nat} {u : Tok} {y : Value} (h : H l = some (.lst vs)) (hB : B.get? l = none) (hi : i = k) (hy : vs[k]? = some y) (hz : vs.length ≤ 10000)
    (q : ∀ s', St w z B (H.set l (.lst (vs.take k ++ vs.drop (k + 1)))) L O m s' → Q y s') : wpAny (model prog w) A (call (.builtin "list.pop") [.ref l, .int i u]) Q E s := by
  subst hi
  refine op_EAE (S.real _ _ h) fun ob h1 n ek1 => ?_
  subst ek1
  have hL := S.ne h
  have hk := (List.getElem?_eq_some_iff.mp hy).1
  have hfit : Builtin.List.listFitsIndex (k : Int) = true := by
    simp only [Builtin.List.listFitsIndex, Bool.and_eq_true, decide_eq_true_eq]
    constructor <;> lia
  have hsi : seqIndex? (k : Int) vs.toArray.size = some k := by
    have h1 : ¬ ((k : Int) < 0) := by lia
    simp [seqIndex?, h1, hk]
  exact kl_popAt S.fr (news_all h1 hL (S.znone hB)) hfit hsi (cut_at hy) (upd_all h1 hL (S.znone hB)) (by rw [sizeLine_eq]; simp; (refine Nat.le_trans (by with_reducible assumption) ?_; exact Nat.le_of_ble_eq_true rfl)) fun h' F' N' => q _ (S.turn_uni (t := s.toks) h hB F' N' ⟨n + 1, rfl⟩)
end

/-! rows of panes -/
noncomputable def lotOf (r : Bool) (ls : List Lf) : List (Int × Int) := ls.map fun l => (l.p, l.side r)
noncomputable def total (lot : List (Int × Int)) : Int := (lot.map (·.2)).sum + lot.length - 1
noncomputable def Placed (r : Bool) : List Lf → Int → Prop
  | [], _ => True
  | l :: ls, a => (if r then l.x else l.y) = a ∧ (if r then l.y else l.x) = 0 ∧ Placed r ls (a + l.side r + 1)
/-- a tree that is one row (or column) of the panes of a lot, ac the other way -/
noncomputable def Row (r : Bool) (t : Tr) (lot : List (Int × Int)) (ac : Int) : Prop :=
  match t with
  | .leaf l => lotOf r [l] = lot ∧ l.side (!r) = ac ∧ l.x = 0 ∧ l.y = 0
  | .node n => n.row = r ∧ 2 ≤ n.ls.length ∧ lotOf r n.ls = lot ∧ (∀ l ∈ n.ls, l.side (!r) = ac) ∧ Placed r n.ls 0 ∧ n.side r = total lot ∧ n.side (!r) = ac ∧ n.x = 0 ∧ n.y = 0
theorem to_side {l : Lf} {p : Int × Int} {r : Bool} : (l.to p).side r = l.side r := rfl
theorem placeL_placed (r : Bool) (ls : List Lf) (a : Int) : Placed r (placeL r ls (if r then (a, 0) else (0, a))).1 a := by
  induction ls generalizing a with
  | nil => trivial
  | cons l ls ih =>
    cases r
    · refine ⟨rfl, rfl, ?_⟩
      have h := ih (a + l.h + 1)
      have e : adv false l (0, a) = (0, a + l.h + 1) := by simp [adv]; lia
      show Placed false (placeL false ls (adv false l (0, a))).1 (a + l.h + 1)
      rw [e]; exact h
    · refine ⟨rfl, rfl, ?_⟩
      have h := ih (a + l.w + 1)
      have e : adv true l (a, 0) = (a + l.w + 1, 0) := by simp [adv]; lia
      show Placed true (placeL true ls (adv true l (a, 0))).1 (a + l.w + 1)
      rw [e]; exact h
theorem placeL_lot (r row : Bool) (ls : List Lf) (p : Int × Int) : lotOf r (placeL row ls p).1 = lotOf r ls := by
  induction ls generalizing p with
  | nil => rfl
  | cons l ls ih => simp only [placeL, lotOf, List.map_cons] at ih ⊢; rw [ih]; rfl
theorem placeL_cross (r row : Bool) (ls : List Lf) (p : Int × Int) {ac : Int} (h : ∀ l ∈ ls, l.side r = ac) : ∀ l ∈ (placeL row ls p).1, l.side r = ac := by
  induction ls generalizing p with
  | nil => exact h
  | cons l ls ih =>
    intro x hx
    refine mem_cons_op hx ?_ fun x hx => ?_
    · exact h l (.head _)
    · exact ih _ (fun y hy => h y (.tail _ hy)) x hx
theorem placeL_len (row : Bool) (ls : List Lf) (p : Int × Int) : (placeL row ls p).1.length = ls.length := by
  have := congrArg List.length (placeL_same row ls p).1
  simpa using this
noncomputable def SameDat : Tr → Tr → Prop
  | .leaf l, .leaf l' => l'.dat = l.dat
  | .node n, .node n' => n'.ls.map Lf.dat = n.ls.map Lf.dat ∧ (n'.row, n'.w, n'.h, n'.x, n'.y) = (n.row, n.w, n.h, n.x, n.y)
  | _, _ => False
/-- new and ours, a tree -/
noncomputable def Own (B : Heap) (H : AH) : Tr → Prop
  | .leaf l => Fresh B H l
  | .node n => (∀ l ∈ n.ls, Fresh B H l) ∧ B.get? n.dx = none ∧ B.get? n.pl = none ∧ H n.a = none ∧ H n.dx = none ∧ H n.pl = none
theorem dat_side {l l' : Lf} (h : l'.dat = l.dat) (r : Bool) : l'.side r = l.side r ∧ l'.p = l.p ∧ l'.x = l.x ∧ l'.y = l.y := by
  simp only [Lf.dat, Prod.mk.injEq] at h
  refine op_AAAA h fun a b c d e => ?_
  try clear h
  exact ⟨by cases r <;> simp [Lf.side, a, b], e, c, d⟩
theorem dats_lot {ls ls' : List Lf} (h : ls'.map Lf.dat = ls.map Lf.dat) (r : Bool) : lotOf r ls' = lotOf r ls ∧ ls'.map (·.p) = ls.map (·.p) ∧ ls'.length = ls.length ∧ (∀ q ac, (∀ l ∈ ls, l.side q = ac) → ∀ l ∈ ls', l.side q = ac) ∧ (∀ a, Placed r ls a → Placed r ls' a) ∧ room r ls' = room r ls := by
  induction ls generalizing ls' with
  | nil => simp at h; subst h; exact ⟨rfl, rfl, rfl, fun _ _ h => h, fun _ h => h, rfl⟩
  | cons l ls ih =>
    cases ls' with
    | nil => simp at h
    | cons l' ls' =>
      simp only [List.map_cons, List.cons.injEq] at h
      refine ce fun gl => ?_
      refine op_AAAAA (ih h.2) fun i1 i2 i3 i4 i5 i6 => ?_
      refine op_AAA (dat_side h.1 r) fun e1 e2 e3 e4 => ?_
      refine gl ?_; clear gl
      refine ⟨?_, ?_, by simp [i3], fun q ac hh x hx => ?_, fun a hp => ?_, ?_⟩
      · simp only [lotOf, List.map_cons] at i1 ⊢; rw [i1, e1, e2]
      · simp [i2, e2]
      · refine mem_cons_op hx ?_ fun x hx => ?_
        · rw [(dat_side h.1 q).1]; exact hh l (.head _)
        · exact i4 q ac (fun y hy => hh y (.tail _ hy)) x hx
      · refine op_AA hp fun p1 p2 p3 => ?_
        try clear hp
        refine ⟨?_, ?_, ?_⟩
        · rw [e3, e4]; exact p1
        · rw [e3, e4]; exact p2
        · rw [e1]; exact i5 _ p3
      · rw [room_cons, room_cons, i6, e1]
theorem row_same {r : Bool} {t t' : Tr} {lot : List (Int × Int)} {ac : Int} (h : Row r t lot ac) (k : SameDat t t') : Row r t' lot ac := by
  cases t with
  | leaf l =>
    cases t' with
    | node n => exact k.elim
    | leaf l' =>
      refine ce fun gl => ?_
      refine op_AAA h fun h1 h2 h3 h4 => ?_
      try clear h
      refine op_AAA (dat_side k r) fun e1 e2 e3 e4 => ?_
      refine gl ?_; clear gl
      refine ⟨?_, (dat_side k (!r)).1.trans h2, e3.trans h3, e4.trans h4⟩
      rw [← h1]; simp [lotOf, e1, e2]
  | node n =>
    cases t' with
    | leaf l => exact k.elim
    | node n' =>
      refine ce fun gl => ?_
      refine op_AAAAAAAA h fun h1 h2 h3 h4 h5 h6 h7 h8 h9 => ?_
      try clear h
      obtain ⟨k1, k2⟩ := k
      refine op_AAAAA (dats_lot k1 r) fun i1 i2 i3 i4 i5 _ => ?_
      simp only [Prod.mk.injEq] at k2
      refine op_AAAA k2 fun e1 e2 e3 e4 e5 => ?_
      refine gl ?_; clear gl
      try clear k2
      exact ⟨e1.trans h1, by rw [i3]; exact h2, i1.trans h3, i4 _ _ h4, i5 _ h5, by rw [← h6]; cases r <;> simp [Nd.side, e2, e3], by rw [← h7]; cases r <;> simp [Nd.side, e2, e3], e4.trans h8, e5.trans h9⟩
theorem same_len {t t' : Tr} (k : SameDat t t') : t'.ls.length = t.ls.length ∧ t'.ls.map (·.p) = t.ls.map (·.p) := by
  cases t with
  | leaf l =>
    cases t' with
    | node n => exact k.elim
    | leaf l' => exact ⟨rfl, by simp [Tr.ls, (dat_side k true).2.1]⟩
  | node n =>
    cases t' with
    | leaf l => exact k.elim
    | node n' => exact ⟨(dats_lot k.1 true).2.2.1, (dats_lot k.1 true).2.1⟩
theorem row_lot {r : Bool} {t : Tr} {lot : List (Int × Int)} {ac : Int} (h : Row r t lot ac) : lotOf r t.ls = lot := by
  cases t with
  | leaf l => exact h.1
  | node n => exact h.2.2.1
section
variable {prog : Program} {w : World} {A : Around} {E : Value → Shared → Prop} {z s : Shared} {B : Heap} {H : AH} {L : Addr} {O : List Addr} {m : Str → Option Value} {env : Env} {Q : Value → Shared → Prop}
theorem d_copy (S : St w z B H L O m s) (G : Gd w z) (hA : Rm 12 A) {t : Tr} (ht : TrAt H t)
    (q : ∀ t' s' H', Le H H' → TrAt H' t' → SameDat t t' → Own B H t' → St w z B H' L O m s' → Q (.ref t'.a) s') :
    wpAny (model prog w) A (call (.ref 48) [.ref t.a]) Q E s := by
  cases t with
  | leaf l => exact d_copyL S G (hA.lo rfl) ht fun l' s' H' a b c d e => q (.leaf l') s' H' a b c d e
  | node n => exact d_copyN S G hA ht.1 ht.2 fun n' s' H' a b c d e f g h i j k => q (.node n') s' H' a ⟨b, by have := (dats_lot c true).2.2.1; rw [this]; exact ht.2⟩ ⟨c, d⟩ ⟨e, f, g, h, i, j⟩ k
theorem d_exch1 (S : St w z B H L O m s) (G : Gd w z) (hA : Rm 2 A) {P : Addr} {v : Value} {f : Value} (hP : H P = some (.lst [v]))
    (q : ∀ s', St w z B H L O m s' → Q f s') : wpAny (model prog w) A (call (.ref 121) [.ref P, f]) Q E s := by
  refine enter' S G hA fd121 (binds := [("path", .ref P), ("fresh", f)]) [] ?_ noMs cd121 rfl (BindsTo.of_eq rfl) rfl rfl rfl rfl rfl
  intro A' B' L' s' E' hA' hM hB S'
  clear S
  refine hq fun Q135 k135 => ?_
  repeat walk1
  refine k135 _ _ ?_
  exact mk_EEA _ _ (by assumption) (fun S => q _ S)
end

/-! tuples of names, swapped -/
noncomputable def LeX (D : List Addr) (H H' : AH) : Prop := ∀ a o, a ∉ D → H a = some o → H' a = some o
theorem LeX.of {D : List Addr} {H H' : AH} (h : Le H H') : LeX D H H' := fun a o _ e => h a o e
theorem LeX.out {D : List Addr} {H H' : AH} (h : Out D H H') : LeX D H H' := fun a o ha e => (h a ha).trans e
theorem LeX.set {D : List Addr} {H : AH} {a : Addr} {o : AO} (h : a ∈ D) : LeX D H (H.set a o) := LeX.out (Out.set h)
theorem LeX.trans {D : List Addr} {H H' H'' : AH} (h : LeX D H H') (h' : LeX D H' H'') : LeX D H H'' := fun a o ha e => h' a o ha (h a o ha e)
theorem LeX.le {D : List Addr} {H0 H H' : AH} (h : LeX D H H') (k : Le H0 H) (hD : ∀ d ∈ D, H0 d = none) : Le H0 H' := fun a o e => h a o (fun q => by rw [hD a q] at e; cases e) (k a o e)
theorem Rm.h {n : Nat} {A : Around} (h : Rm n A) : A.handled = none := h.1
section
variable {prog : Program} {w : World} {A : Around} {E : Value → Shared → Prop} {z s : Shared} {B : Heap} {H : AH} {L : Addr} {O : List Addr} {m : Str → Option Value} {env : Env}
theorem r_unpack (S : St w z B H L O m s) {k : Nat} (hA : Rm k A) {t : Addr} {vs : List Value} {n : Nat} {Q : List Value → Shared → Prop} (ht : H t = some (.tup vs)) (q : ∀ s', St w z B H L O m s' → Q vs s') (hn : n = vs.length := by rfl) :
    wpAny (model prog w) A (unpackItems (.ref t) n none) Q E s := by
  subst hn
  have h := S.isTup ht
  have := unpackItems_tuple (prog := prog) (w := w) (E := E) (Q := Q) hA.1 h fun h' he => q _ (S.grown (s' := { s with heap := h' }) (fun b o e => he b o (Nat.ne_of_lt (Heap.lt_size e)) e) ⟨rfl, rfl, rfl⟩)
  simpa using this
theorem c_Cell' (S : St w z B H L O m s) (G : Gd w z) {nn : Nat} (hA : Rm (nn + 4) A) {k wd h x y p n : Value} {Q : Value → Shared → Prop}
    (q : ∀ c dx o s', o = .cd k wd h x y p n → St w z B ((H.set dx o).set c (.inst dx)) L O m s' → H c = none → H dx = none → B.get? c = none → B.get? dx = none → c ≠ dx → Q (.ref c) s') :
    wpAny (model prog w) A (call (.ref 32) [k, wd, h, x, y, p, n]) Q E s :=
  c_Cell S G hA fun c dx s' S' a b d e f => q c dx _ s' rfl S' a b d e f
theorem c_Leaf (S : St w z B H L O m s) (G : Gd w z) (hA : Rm 7 A) {D : Addr} {wd h x y p : Int} {t0 t1 t2 t3 t4 t5 : Tok} {Q : Value → Shared → Prop} (hD : H D = some (.lst []))
    (q : ∀ o s' H', Le H H' → LeafAt H' o → o.dat = (wd, h, x, y, p) → B.get? o.dx = none → H o.dx = none → H o.a = none → St w z B H' L O m s' → Q (.ref o.a) s') :
    wpAny (model prog w) A (call (.ref 32) [.str "pane" t0, .int wd t1, .int h t2, .int x t3, .int y t4, .ref D, .int p t5]) Q E s :=
  c_Cell (nn := 3) S G hA fun c dx s2 S2 n1 n2 b1 b2 hne => q ⟨c, dx, D, wd, h, x, y, p⟩ _ _ (fun b o e => le_cell n1 n2 b o e) (leaf_made hD n1 n2 hne) rfl b2 n2 n1 S2
end
noncomputable def StmtEnd (w : World) (z : Shared) (B : Heap) (L : Addr) (O : List Addr) (J : AH → (Str → Option Value) → Prop) (f : Flow) (s : Shared) : Prop :=
  f = .next ∧ ∃ H' m', St w z B H' L O m' s ∧ J H' m'
section
variable {prog : Program} {w : World} {A : Around} {E : Value → Shared → Prop} {z s : Shared} {B : Heap} {H : AH} {L : Addr} {O : List Addr} {m : Str → Option Value} {env : Env}
/-- one statement, by what stands behind it -/
theorem r_stmt (_S : St w z B H L O m s) {st : Stmt} {rest : List Stmt} {Q : Flow → Shared → Prop} (J : AH → (Str → Option Value) → Prop) (h : wpAny (model prog w) A (exec st env) (StmtEnd w z B L O J) E s)
    (next : ∀ H' m' s', St w z B H' L O m' s' → J H' m' → wpAny (model prog w) A (execs rest env) Q E s') : wpAny (model prog w) A (execs (st :: rest) env) Q E s :=
  wpAny_execs_cons (wpAny_mono h (fun f s' ⟨hf, H', m', S', hJ⟩ => by subst hf; exact next H' m' s' S' hJ) fun _ _ x => x)
end

local macro_rules | `(tactic| walk_at "rf") => `(tactic| with_unfolding_all rfl)
local macro_rules | `(tactic| walk_at "subscriptTail") => `(tactic| with_reducible first | refine r_itemK ‹_› (by walk_at "hget") (by walk_at "rf") (by walk_at "sz") ?_ | refine r_itemTK ‹_› (by walk_at "hget") (by walk_at "rf") (by walk_at "rf") ?_ | refine r_item ‹_› (by walk_at "hget") (by first | with_unfolding_all rfl | assumption) (by k_dflt assumption) (by walk_at "sz") ?_)
local macro_rules | `(tactic| walk_at "binaryOp Mult int int") => `(tactic| k_dflt ((first | refine r_mulL ‹_› ?_ | refine r_mulR ‹_› ?_); walk_at "iS"))
local macro_rules | `(tactic| walk_at "unpackItems") => `(tactic| k_dflt (refine r_unpack ‹_› ‹_› (by walk_at "hget") ?_; walk_at "iS"))

/-! split_layout, from where the two panes stand -/
section
variable {prog : Program} {w : World} {A : Around} {E : Value → Shared → Prop} {z s : Shared} {B : Heap} {H : AH} {L : Addr} {O : List Addr} {m : Str → Option Value} {env : Env} {Q : Flow → Shared → Prop}

theorem split_tailL (S : St w z B H L O m s) (G : Gd w z) (hA : Rm 18 A) {l : Lf} {pre post : List Lf} {P Bl : Addr} {r : Bool} {side many : Int} {ts tm : Tok}
    (gp : m "path" = some (.ref P)) (gl : m "leaf" = some (.ref l.a)) (gb : m "both" = some (.ref Bl)) (gs : m "side" = some (.int side ts)) (gm : m "many" = some (.int many tm)) (gr : m "is_row" = some (.bool r))
    (hP : H P = some (.lst [.ref l.a])) (hls : Leaves H (pre ++ l :: post)) (hBl : H Bl = some (.lst ((pre ++ l :: post).map fun l => .ref l.a))) (hz : (pre ++ l :: post).length ≤ 1000)
    (hb : ∀ x ∈ pre ++ l :: post, B.get? x.dx = none)
    (q : ∀ H' n s', LeX ((pre ++ l :: post).map (·.dx)) H H' → NodeAt H' n → n.row = r → n.w = l.w → n.h = l.h → n.x = 0 → n.y = 0 → n.ls = (placeL r (pre ++ l.put r (side - 1 - many) :: post) (0, 0)).1 → ∀ m', St w z B H' L O m' s' → Q (.ret (.ref n.a)) s') :
    wpAny (model prog w) A (execs ((bodyOf fd129.1).drop 10) (callEnv fd129.1 L 129)) Q E s := by
  have hl := hls.1 l (by simp)
  have hl' := hl
  refine LeafAt.op hl fun h1 t0 t1 t2 t3 t4 t5 h2 h3 => ?_
  try clear hl
  show wpAny _ _ (execs [_, _, _, _] _) _ _ _
  repeat walk1
  rename H _ = none => nT
  rename St _ _ _ _ _ _ _ _ => S1
  replace S1 := S1.weaken (Le.set nT)
  refine c_Cell' (nn := 3) S1 G (hA.lo rfl) fun c dx oc s2 hoc S2 n1 n2 b1 b2 hne => ?_
  clear S1
  repeat walk1
  rename St _ _ _ _ _ _ _ _ => S1
  have kc := le_cell (o := oc) (o' := .inst dx) n1 n2
  refine d_exch1 S1 G (hA.lo rfl) (kc _ _ hP) fun s3 S3 => ?_
  clear S1
  repeat walk1
  rename St _ _ _ _ _ _ _ _ => S1
  refine d_setL S1 G (hA.lo rfl) (hl'.mono kc) (hb l (by simp)) fun o s4 hl4 S4 => ?_
  clear S1
  have hls4 := leaves_step (l' := l.put r (side - 1 - many)) (o := o) (H := ((H.set dx oc).set c (.inst dx))) ⟨fun x hx => (hls.1 x hx).mono kc, hls.2⟩ put_dx hl4
  repeat walk1
  rename St _ _ _ _ _ _ _ _ => S1
  have ndx : dx ≠ l.dx := ne_of_none_some n2 h2
  have nc : c ≠ l.dx := ne_of_none_some n1 h2
  have nB : Bl ≠ l.dx := by intro e; rw [e, h2] at hBl; cases hBl
  have hnode : NodeAt (((H.set dx oc).set c (.inst dx)).set l.dx o) ⟨c, dx, Bl, r, l.w, l.h, 0, 0, pre ++ l.put r (side - 1 - many) :: post⟩ :=
    ⟨set_ne set_self nc, ⟨_, _, _, _, _, set_ne ((set_ne set_self (Ne.symm hne)).trans (by rw [hoc])) ndx⟩, set_ne ((kc _ _ hBl).trans (by simp [put_a])) nB, hls4⟩
  refine d_placedN (p := (0, 0)) S1 G (hA.lo rfl) hnode (by simpa using hz) b2 (fun x hx => ?_) fun H' s5 o5 hn5 S5 => ?_
  · rcases List.mem_append.mp hx with h | h
    · exact hb x (by simp [h])
    · rcases List.mem_cons.mp h with rfl | h
      · rw [put_dx]; exact hb l (by simp)
      · exact hb x (by simp [h])
  have hmap : (pre ++ l.put r (side - 1 - many) :: post).map (·.dx) = (pre ++ l :: post).map (·.dx) := by simp [put_dx]
  refine q H' ⟨c, dx, Bl, r, l.w, l.h, 0, 0, (placeL r (pre ++ l.put r (side - 1 - many) :: post) (0, 0)).1⟩ s5 (fun a x ha e => ?_) hn5 rfl rfl rfl rfl rfl rfl _ S5
  have hadx : a ≠ dx := by first | exact ne_sn e n2 | exact ne_ns e n2 | exact ne_sn n2 e | exact ne_ns n2 e
  refine (o5 a ?_).trans (set_ne (kc _ _ e) (by rintro rfl; exact ha (List.mem_map.mpr ⟨l, by simp, rfl⟩)))
  try dsimp only
  rw [hmap]
  intro hm
  rcases List.mem_cons.mp hm with h | h
  · exact hadx h
  · exact ha h
end

theorem leaf_list {H : AH} {n : Nd} {vs : List Value} {l : Lf} (h : NodeAt H n) (hne : n.ls ≠ []) (hl : LeafAt H l) : LeafAt (H.set n.pl (.lst vs)) l := by
  have hp := h.2.2.1
  refine LeafAt.op hl fun a v0 v1 v2 v3 v4 v5 b c => ?_
  try clear hl
  refine ⟨set_ne a (by intro e; rw [e, hp] at a; cases a), ⟨v0, v1, v2, v3, v4, v5, set_ne b (by intro e; rw [e, hp] at b; cases b)⟩, set_ne c (fun e => ?_)⟩
  rw [e, hp] at c
  injection c with c; injection c with c
  exact hne (List.map_eq_nil_iff.mp c)
theorem node_list {H : AH} {n : Nd} {ls' : List Lf} (h : NodeAt H n) (hne : n.ls ≠ []) (hl : Leaves H ls') : NodeAt (H.set n.pl (.lst (ls'.map fun l => .ref l.a))) { n with ls := ls' } := by
  refine op_AAAAA h.offs fun _ _ _ _ o5 o6 => ?_
  have h' := h
  refine op_AAA h fun h1 hq1 h3 _ => ?_
  try clear h
  refine op_EEEEE hq1 fun u0 u1 u2 u3 u4 h2 => ?_
  try clear hq1
  exact ⟨set_ne h1 o6, ⟨u0, u1, u2, u3, u4, set_ne h2 (Ne.symm o5)⟩, set_self, fun l hl' => leaf_list h' hne (hl.1 l hl'), hl.2⟩
section
variable {prog : Program} {w : World} {A : Around} {E : Value → Shared → Prop} {z s : Shared} {B : Heap} {H : AH} {L : Addr} {O : List Addr} {m : Str → Option Value} {env : Env} {Q : Flow → Shared → Prop}

theorem split_tailN (S : St w z B H L O m s) (G : Gd w z) (hA : Rm 18 A) {l : Lf} {n : Nd} {pre post pre0 post0 : List Lf} {P Bl : Addr} {r : Bool} {side many : Int} {ts tm : Tok}
    (gp : m "path" = some (.ref P)) (gl : m "leaf" = some (.ref l.a)) (gb : m "both" = some (.ref Bl)) (gs : m "side" = some (.int side ts)) (gm : m "many" = some (.int many tm)) (gr : m "is_row" = some (.bool r))
    (hP : H P = some (.lst [.ref n.a, .ref l.a])) (hn : NodeAt H n) (hrow : n.row = r) (hnl : n.ls = pre0 ++ l :: post0) (hls : Leaves H (pre0 ++ (pre ++ l :: post) ++ post0)) (hBl : H Bl = some (.lst ((pre ++ l :: post).map fun l => .ref l.a))) (hz : (pre0 ++ (pre ++ l :: post) ++ post0).length ≤ 1000)
    (hb : ∀ x ∈ pre0 ++ (pre ++ l :: post) ++ post0, B.get? x.dx = none) (hbn : B.get? n.dx = none) (hbp : B.get? n.pl = none) (hne : n.pl ≠ Bl)
    (q : ∀ H' n' s', LeX (n.dx :: n.pl :: (pre0 ++ (pre ++ l :: post) ++ post0).map (·.dx)) H H' → NodeAt H' n' → n'.row = r → n'.w = n.w → n'.h = n.h → n'.x = 0 → n'.y = 0 → n'.ls = (placeL r (pre0 ++ (pre ++ l.put r (side - 1 - many) :: post) ++ post0) (0, 0)).1 → ∀ m', St w z B H' L O m' s' → Q (.ret (.ref n'.a)) s') :
    wpAny (model prog w) A (execs ((bodyOf fd129.1).drop 10) (callEnv fd129.1 L 129)) Q E s := by
  have hl := hls.1 l (by simp)
  have hl' := hl
  have hn' := hn
  refine LeafAt.op hl fun h1 t0 t1 t2 t3 t4 t5 h2 h3 => ?_
  try clear hl
  refine NodeAt.op hn fun i1 u0 u1 u2 u3 u4 i2 i3 i4 i5 => ?_
  try clear hn
  have hkk : (kindS n.row == kindS r) = true := by rw [hrow]; simp
  show wpAny _ _ (execs [_, _, _, _] _) _ _ _
  repeat walk1
  rename H _ = none => nT
  rename St _ _ _ _ _ _ _ _ => S1
  replace S1 := S1.weaken (Le.set nT)
  refine d_index (ls := n.ls) (k := pre0.length) S1 G (hA.lo rfl) i3 i4 i5 (by rw [hnl]; simp) fun ta s2 S2 => ?_
  clear S1
  repeat walk1
  rename St _ _ _ _ _ _ _ _ => S1
  have hk : pre0.length < (n.ls.map fun l => Value.ref l.a).length := by rw [hnl]; simp
  refine r_setslice (k := pre0.length) (ws := (pre ++ l :: post).map fun l => .ref l.a) S1 i3 hbp hBl hne hk rfl rfl (by have := hz; simp [hnl] at this ⊢; lia) fun s3 S3 => ?_
  clear S1
  have elist : (n.ls.map fun l => Value.ref l.a).take pre0.length ++ ((pre ++ l :: post).map fun l => Value.ref l.a) ++ (n.ls.map fun l => Value.ref l.a).drop (pre0.length + 1) = (pre0 ++ (pre ++ l :: post) ++ post0).map fun l => Value.ref l.a := by
    rw [hnl]; simp [List.drop_append]
  rw [elist] at S3
  have hnz : n.ls ≠ [] := by rw [hnl]; simp
  have hn2 := node_list hn' hnz hls
  have hl2 : LeafAt (H.set n.pl (.lst ((pre0 ++ (pre ++ l :: post) ++ post0).map fun l => .ref l.a))) l := leaf_list hn' hnz hl'
  try dsimp only
  repeat walk1
  rename St _ _ _ _ _ _ _ _ => S1
  refine d_setL S1 G (hA.lo rfl) hl2 (hb l (by simp)) fun o s4 hl4 S4 => ?_
  clear S1
  have hall : pre0 ++ (pre ++ l :: post) ++ post0 = (pre0 ++ pre) ++ l :: (post ++ post0) := by simp
  have hall' : pre0 ++ (pre ++ l.put r (side - 1 - many) :: post) ++ post0 = (pre0 ++ pre) ++ l.put r (side - 1 - many) :: (post ++ post0) := by simp
  have hls4 := leaves_step (l' := l.put r (side - 1 - many)) (o := o) (pre := pre0 ++ pre) (post := post ++ post0) (by rw [← hall]; exact hn2.leaves) put_dx hl4
  rw [← hall'] at hls4
  repeat walk1
  rename St _ _ _ _ _ _ _ _ => S1
  have hldx : l.dx ∈ (pre0 ++ (pre ++ l :: post) ++ post0).map (·.dx) := List.mem_map.mpr ⟨l, by simp, rfl⟩
  have hn4 := node_out hn2 (Out.set (H := _) (o := o) hldx) hls4 (by simp [put_a])
  dsimp only at hn4
  refine d_placedN (p := (0, 0)) (n := { n with ls := pre0 ++ (pre ++ l.put r (side - 1 - many) :: post) ++ post0 }) S1 G (hA.lo rfl) hn4 (by simpa using hz) hbn (fun x hx => ?_) fun H' s5 o5 hn5 S5 => ?_
  · change x ∈ pre0 ++ (pre ++ l.put r (side - 1 - many) :: post) ++ post0 at hx
    rw [hall'] at hx
    rcases List.mem_append.mp hx with h | h
    · exact hb x (by rw [hall]; simp only [List.mem_append] at h ⊢; exact .inl h)
    · rcases List.mem_cons.mp h with rfl | h
      · rw [put_dx]; exact hb l (by simp)
      · exact hb x (by rw [hall]; exact List.mem_append.mpr (.inr (.tail _ h)))
  have hmap : (pre0 ++ (pre ++ l.put r (side - 1 - many) :: post) ++ post0).map (·.dx) = (pre0 ++ (pre ++ l :: post) ++ post0).map (·.dx) := by simp [put_dx]
  refine q H' { n with x := 0, y := 0, ls := (placeL n.row (pre0 ++ (pre ++ l.put r (side - 1 - many) :: post) ++ post0) (0, 0)).1 } s5 ?_ hn5 hrow rfl rfl rfl rfl (by rw [hrow]) _ S5
  refine (LeX.trans (LeX.set (.tail _ (.head _))) (LeX.trans (LeX.set (.tail _ (.tail _ hldx))) (LeX.out (o5.mono ?_))))
  try dsimp only
  rw [hmap]
  intro a ha
  refine mem_cons_op ha ?_ fun a ha => ?_
  · exact .head _
  · exact .tail _ (.tail _ ha)
end

/-! split_layout: the middle and the whole -/
noncomputable def manyOf (side : Int) (size : Option Int) : Int :=
  let wish := match size with | none => (side + 1).fdiv 2 - 1 | some s => s
  let m := if side - 1 - 1 < wish then side - 1 - 1 else wish
  if m > 1 then m else 1
noncomputable def optV : Option Int → Tok → Value
  | none, _ => .none
  | some s, t => .int s t
noncomputable def bothOf (p f : Int) (side many : Int) (before : Bool) : List (Int × Int) := if before then [(f, many), (p, side - 1 - many)] else [(p, side - 1 - many), (f, many)]
noncomputable def pairOf {α : Type} (before : Bool) (o l : α) : List α := if before then [o, l] else [l, o]
section
variable {prog : Program} {w : World} {A : Around} {E : Value → Shared → Prop} {z s : Shared} {B : Heap} {H : AH} {L : Addr} {O : List Addr} {m : Str → Option Value} {env : Env} {Q : Flow → Shared → Prop}

theorem split_mid2 (S : St w z B H L O m s) (G : Gd w z) (hA : Rm 18 A) {l : Lf} {P : Addr} {r before : Bool} {f many : Int} {tf tm t1 : Tok}
    (gp : m "path" = some (.ref P)) (gl : m "leaf" = some (.ref l.a)) (gm : m "many" = some (.int many tm)) (gs : m "side" = some (.int (l.side r) t1)) (gf : m "fresh" = some (.int f tf)) (gb : m "is_before" = some (.bool before)) (gr : m "is_row" = some (.bool r))
    (hl : LeafAt H l)
    (qs : ∀ o Bl H' m' s' t1 t2, Le H H' → LeafAt H' o → o.p = f → o.side r = many → o.side (!r) = l.side (!r) → B.get? o.dx = none → H o.dx = none → H Bl = none → H' Bl = some (.lst ((pairOf before o l).map fun l => .ref l.a)) → St w z B H' L O m' s' →
      m' "path" = some (.ref P) → m' "leaf" = some (.ref l.a) → m' "both" = some (.ref Bl) → m' "side" = some (.int (l.side r) t1) → m' "many" = some (.int many t2) → m' "is_row" = some (.bool r) →
      wpAny (model prog w) A (execs ((bodyOf fd129.1).drop 10) (callEnv fd129.1 L 129)) Q E s') :
    wpAny (model prog w) A (execs ((bodyOf fd129.1).drop 7) (callEnv fd129.1 L 129)) Q E s := by
  have hl' := hl
  refine LeafAt.op hl fun h1 t0 t1 t2 t3 t4 t5 h2 h3 => ?_
  try clear hl
  show wpAny _ _ (execs [_, _, _, _, _, _, _] _) _ _ _
  repeat walk1
  rename H _ = none => nT
  rename St _ _ _ _ _ _ _ _ => S1
  refine c_Leaf S1 G (hA.lo rfl) set_self fun o s2 H2 k2 a2 d2 b2 n2 n2' S2 => ?_
  clear S1
  replace k2 := (Le.set nT).trans k2
  replace n2 := (Le.set nT).none n2
  replace n2' := (Le.set nT).none n2'
  simp only [Lf.dat, Prod.mk.injEq] at d2
  refine op_AAAA d2 fun d1 d2 _ _ d5 => ?_
  repeat walk1
  rename St _ _ _ _ _ _ _ _ => S1
  refine d_setL S1 G (hA.lo rfl) a2 b2 fun o3 s3 hl3 S3 => ?_
  clear S1
  have k3 : Le H (H2.set o.dx o3) := fun a x e => set_ne (k2 a x e) (by first | exact ne_sn e n2 | exact ne_ns e n2 | exact ne_sn n2 e | exact ne_ns n2 e)
  have side2 : ∀ v, (o.put r v).side (!r) = l.side (!r) := fun v => by rw [put_sideN]; cases r <;> simp [Lf.side, d1, d2]
  refine r_stmt S3 (fun H' m' => ∃ Bl, H' = (H2.set o.dx o3).set Bl (.lst ((pairOf before o l).map fun l => .ref l.a)) ∧ (H2.set o.dx o3) Bl = none ∧ m' = upd (upd m "other" (.ref o.a)) "both" (.ref Bl)) ?_ ?_
  · cases before
    all_goals
      refine hq fun Q43 k43 => ?_
      repeat walk1
      refine k43 _ _ ?_
      exact mk_AEEAEAA rfl _ _ (by assumption) _ rfl (by assumption) rfl
  intro H' m' s4 S4 hp4
  refine op_EAA hp4 fun Bl ek1 nB ek2 => ?_
  try clear hp4
  subst ek1
  subst ek2
  exact qs (o.put r _) _ _ _ _ _ _ (k3.trans (Le.set nB)) (hl3.mono (Le.set nB)) (put_p.trans d5) put_side (side2 _) (by rw [put_dx]; exact b2) (by rw [put_dx]; exact n2) (k3.none nB) (set_self.trans (by cases before <;> simp [pairOf, put_a])) S4
    (by walk_at "hname") (by walk_at "hname") (by walk_at "hname") (by walk_at "hname") (by walk_at "hname") (by walk_at "hname")

theorem split_mid (S : St w z B H L O m s) (G : Gd w z) (hA : Rm 18 A) {l : Lf} {P : Addr} {r before : Bool} {f : Int} {tf ts : Tok} {size : Option Int}
    (gp : m "path" = some (.ref P)) (gl : m "leaf" = some (.ref l.a)) (gz : m "size" = some (optV size ts)) (gf : m "fresh" = some (.int f tf)) (gb : m "is_before" = some (.bool before)) (gr : m "is_row" = some (.bool r))
    (hl : LeafAt H l)
    (qn : l.side r < 3 → ∀ m' s', St w z B H L O m' s' → Q (.ret .none) s')
    (qs : 3 ≤ l.side r → ∀ o Bl H' m' s' t1 t2, Le H H' → LeafAt H' o → o.p = f → o.side r = manyOf (l.side r) size → o.side (!r) = l.side (!r) → B.get? o.dx = none → H o.dx = none → H Bl = none → H' Bl = some (.lst ((pairOf before o l).map fun l => .ref l.a)) → St w z B H' L O m' s' →
      m' "path" = some (.ref P) → m' "leaf" = some (.ref l.a) → m' "both" = some (.ref Bl) → m' "side" = some (.int (l.side r) t1) → m' "many" = some (.int (manyOf (l.side r) size) t2) → m' "is_row" = some (.bool r) →
      wpAny (model prog w) A (execs ((bodyOf fd129.1).drop 10) (callEnv fd129.1 L 129)) Q E s') :
    wpAny (model prog w) A (execs ((bodyOf fd129.1).drop 3) (callEnv fd129.1 L 129)) Q E s := by
  have hl' := hl
  refine LeafAt.op hl fun h1 t0 t1 t2 t3 t4 t5 h2 h3 => ?_
  try clear hl
  show wpAny _ _ (execs [_, _, _, _, _, _, _, _, _, _, _] _) _ _ _
  by_cases hs3 : l.side r < 3
  · have hs3' : (if r = true then l.w else l.h) < 2 * 1 + 1 := by show l.side r < _; lia
    repeat walk1
    exact qn hs3 _ _ (by assumption)
  have hs3' : ¬ (if r = true then l.w else l.h) < 2 * 1 + 1 := by show ¬ l.side r < _; omega
  refine r_stmt S (fun H' m' => ∃ t, H = H' ∧ m' = upd m "side" (.int (l.side r) t)) ?_ ?_
  · refine hq fun Q71 k71 => ?_
    repeat walk1
    refine k71 _ _ ?_
    exact mk_AEEAEA rfl _ _ (by assumption) _ rfl rfl
  intro _ _ s4 S4 hp4
  refine op_EA hp4 fun ts4 ek3 ek4 => ?_
  try clear hp4
  subst ek3
  subst ek4
  clear S
  have hs3' : ¬ l.side r < 2 * 1 + 1 := by omega
  refine r_stmt S4 (fun H' m' => H = H' ∧ m' = upd m "side" (.int (l.side r) ts4)) ?_ ?_
  · refine hq fun Q81 k81 => ?_
    repeat walk1
    refine k81 _ _ ?_
    exact mk_AEEAA rfl _ _ (by assumption) rfl rfl
  intro _ _ s5 S5 hp4
  obtain ⟨rfl, rfl⟩ := hp4
  clear S4
  refine r_stmt S5 (fun H' m' => ∃ t, H = H' ∧ m' = upd (upd m "side" (.int (l.side r) ts4)) "wish" (.int (match size with | none => (l.side r + 1).fdiv 2 - 1 | some s => s) t)) ?_ ?_
  · rcases size with _ | sz <;> simp only [optV] at gz
    all_goals
      refine hq fun Q89 k89 => ?_
      repeat walk1
      refine k89 _ _ ?_
      exact mk_AEEAEA rfl _ _ (by assumption) _ rfl rfl
  intro _ _ s6 S6 hp4
  refine op_EA hp4 fun ts6 ek5 ek6 => ?_
  try clear hp4
  subst ek5
  subst ek6
  clear S5
  refine r_stmt S6 (fun H' m' => ∃ t, H = H' ∧ m' = upd (upd (upd m "side" (.int (l.side r) ts4)) "wish" (.int (match size with | none => (l.side r + 1).fdiv 2 - 1 | some s => s) ts6)) "many" (.int (manyOf (l.side r) size) t)) ?_ ?_
  · refine hq fun Q98 k98 => ?_
    repeat walk1
    refine k98 _ _ ?_
    exact mk_AEEAEA rfl _ _ (by assumption) _ rfl rfl
  intro _ _ s7 S7 hp4
  refine op_EA hp4 fun ts7 ek7 ek8 => ?_
  try clear hp4
  subst ek7
  subst ek8
  clear S6
  exact split_mid2 S7 G hA (by walk_at "hname") (by walk_at "hname") (by walk_at "hname") (by walk_at "hname") (by walk_at "hname") (by walk_at "hname") (by walk_at "hname") hl' (qs (by lia))
end

/-! split_layout, whole -/
theorem lotOf_append {r : Bool} {a b : List Lf} : lotOf r (a ++ b) = lotOf r a ++ lotOf r b := by simp [lotOf]
theorem lot_cut {α : Type} {lot : List α} {k : Nat} {x : α} (h : lot[k]? = some x) : lot = lot.take k ++ x :: lot.drop (k + 1) := by
  obtain ⟨h1, h2⟩ := List.getElem?_eq_some_iff.mp h
  rw [← h2, ← List.drop_eq_getElem_cons h1, List.take_append_drop]
theorem total_two {a c : List (Int × Int)} {p x y : Int} {u v : Int} : total (a ++ [(x, u), (y, v)] ++ c) = total (a ++ (p, u + v + 1) :: c) := by
  simp [total, List.sum_append]; lia
noncomputable def splitLot (lot : List (Int × Int)) (k : Nat) (p f along many : Int) (before : Bool) : List (Int × Int) := lot.take k ++ bothOf p f along many before ++ lot.drop (k + 1)
theorem total_split {lot : List (Int × Int)} {k : Nat} {p f along many : Int} {before : Bool} (h : lot[k]? = some (p, along)) : total (splitLot lot k p f along many before) = total lot := by
  have e := lot_cut h
  have hx : total lot = total (lot.take k ++ (p, along) :: lot.drop (k + 1)) := by rw [← e]
  rw [hx]
  unfold splitLot bothOf
  cases before
  · have := total_two (a := lot.take k) (c := lot.drop (k + 1)) (p := p) (x := p) (y := f) (u := along - 1 - many) (v := many)
    rw [show along - 1 - many + many + 1 = along by lia] at this
    exact this
  · have := total_two (a := lot.take k) (c := lot.drop (k + 1)) (p := p) (x := f) (y := p) (u := many) (v := along - 1 - many)
    rw [show many + (along - 1 - many) + 1 = along by lia] at this
    exact this
theorem nodup_at {lot : List (Int × Int)} {i j : Nat} {p a b : Int} (hnd : (lot.map (·.1)).Nodup) (hi : lot[i]? = some (p, a)) (hj : lot[j]? = some (p, b)) : i = j := by
  have h1 : (lot.map (·.1))[i]? = some p := by simp [hi]
  have h2 : (lot.map (·.1))[j]? = some p := by simp [hj]
  exact (List.getElem?_inj (List.getElem?_eq_some_iff.mp h1).1 hnd).mp (h1.trans h2.symm)
theorem lotOf_at {r : Bool} {ls : List Lf} {k : Nat} {l : Lf} (h : ls[k]? = some l) : (lotOf r ls)[k]? = some (l.p, l.side r) := by simp [lotOf, h]
theorem lotOf_fst {r : Bool} {ls : List Lf} : (lotOf r ls).map (·.1) = ls.map (·.p) := by simp [lotOf]
theorem row_placed' {n : Nd} {r : Bool} {X : List Lf} {lot : List (Int × Int)} {ac : Int} (h1 : n.row = r) (hx : n.x = 0) (hy : n.y = 0) (hl : n.ls = (placeL r X (0, 0)).1) (h2 : 2 ≤ X.length) (h3 : lotOf r X = lot) (h4 : ∀ l ∈ X, l.side (!r) = ac) (h5 : n.side r = total lot) (h6 : n.side (!r) = ac) :
    Row r (.node n) lot ac := by
  refine ⟨h1, by rw [hl, placeL_len]; exact h2, by rw [hl, placeL_lot]; exact h3, by rw [hl]; exact placeL_cross _ _ _ _ h4, ?_, h5, h6, hx, hy⟩
  rw [hl]
  have := placeL_placed r X 0
  cases r <;> simpa using this
theorem pair_split {α : Type} (b : Bool) (o : α) : ∃ pre post : List α, ∀ l, pre ++ l :: post = pairOf b o l := by
  cases b
  · exact mk_EE ([]) ([o]) (fun l => rfl)
  · exact mk_EE ([o]) ([]) (fun l => rfl)
theorem pair_mem {α : Type} {b : Bool} {o l x : α} : x ∈ pairOf b o l ↔ x = o ∨ x = l := by
  cases b
  · simp [pairOf, or_comm]
  · simp [pairOf]
theorem row_cross {r : Bool} {t : Tr} {lot : List (Int × Int)} {ac : Int} (h : Row r t lot ac) : ∀ l ∈ t.ls, l.side (!r) = ac := by
  cases t with
  | leaf l => intro x hx; rw [List.mem_singleton.mp hx]; exact h.2.1
  | node n => exact h.2.2.2.1
theorem own_leaves {B : Heap} {H : AH} {t : Tr} (h : Own B H t) : ∀ l ∈ t.ls, Fresh B H l := by
  cases t with
  | leaf l => intro x hx; rw [List.mem_singleton.mp hx]; exact h
  | node n => exact h.1
theorem TrAt.lv {H : AH} {t : Tr} (h : TrAt H t) : Leaves H t.ls := by
  cases t with
  | leaf l => exact ⟨h.leaves, by simp [Tr.ls]⟩
  | node n => exact h.1.leaves
theorem leaves_pair {H : AH} {ls : List Lf} {k : Nat} {l o : Lf} {b : Bool} (h : Leaves H ls) (hk : ls[k]? = some l) (ho : LeafAt H o) (hn : o.dx ∉ ls.map (·.dx)) : Leaves H (ls.take k ++ pairOf b o l ++ ls.drop (k + 1)) := by
  have e := lot_cut hk
  rw [e] at h hn
  have hmem : ∀ x ∈ ls.take k ++ pairOf b o l ++ ls.drop (k + 1), x = o ∨ x ∈ ls.take k ++ l :: ls.drop (k + 1) := by
    intro x hx
    simp only [List.mem_append, pair_mem, List.mem_cons] at hx ⊢
    rcases hx with (hx | hx | hx) | hx <;> simp [hx]
  refine ⟨fun x hx => ?_, ?_⟩
  · rcases hmem x hx with rfl | hx
    · exact ho
    · exact h.1 x hx
  · have hnd := h.2
    cases b
    · have e1 : ls.take k ++ pairOf false o l ++ ls.drop (k + 1) = (ls.take k ++ [l]) ++ o :: ls.drop (k + 1) := by simp [pairOf]
      have e2 : ls.take k ++ l :: ls.drop (k + 1) = (ls.take k ++ [l]) ++ ls.drop (k + 1) := by simp
      rw [e2] at hnd hn
      rw [e1]
      generalize ls.take k ++ [l] = a, ls.drop (k + 1) = c at *
      simp only [List.map_append, List.map_cons, List.nodup_append, List.nodup_cons, List.mem_append, List.mem_map, not_or, List.mem_cons] at *
      refine ⟨hnd.1, ⟨hn.2, hnd.2.1⟩, fun x hx y hy => ?_⟩
      rcases hy with rfl | hy
      · rintro rfl; exact hn.1 hx
      · exact hnd.2.2 x hx y hy
    · have e1 : ls.take k ++ pairOf true o l ++ ls.drop (k + 1) = ls.take k ++ o :: (l :: ls.drop (k + 1)) := by simp [pairOf]
      rw [e1]
      generalize ls.take k = a, l :: ls.drop (k + 1) = c at *
      simp only [List.map_append, List.map_cons, List.nodup_append, List.nodup_cons, List.mem_append, List.mem_map, not_or, List.mem_cons] at *
      refine ⟨hnd.1, ⟨hn.2, hnd.2.1⟩, fun x hx y hy => ?_⟩
      rcases hy with rfl | hy
      · rintro rfl; exact hn.1 hx
      · exact hnd.2.2 x hx y hy
section
variable {prog : Program} {w : World} {A : Around} {E : Value → Shared → Prop} {z s : Shared} {B : Heap} {H : AH} {L : Addr} {O : List Addr} {m : Str → Option Value} {env : Env} {Q : Value → Shared → Prop}

/-- what a split gives, in the lot: from the panes of the row -/
theorem lot_split {r before : Bool} {ls : List Lf} {lot : List (Int × Int)} {k : Nat} {l o : Lf} {p f along many : Int} (h : lotOf r ls = lot) (hk : ls[k]? = some l) (hp : l.p = p) (hs : l.side r = along) (ho : o.p = f) (hm : o.side r = many) :
    lotOf r (ls.take k ++ pairOf before o (l.put r (along - 1 - many)) ++ ls.drop (k + 1)) = splitLot lot k p f along many before := by
  rw [lotOf_append, lotOf_append]
  unfold splitLot
  have e1 : lotOf r (ls.take k) = lot.take k := by rw [← h]; simp [lotOf]
  have e2 : lotOf r (ls.drop (k + 1)) = lot.drop (k + 1) := by rw [← h]; simp [lotOf]
  rw [e1, e2]
  congr 2
  cases before <;> simp [pairOf, bothOf, lotOf, put_side, put_p, hp, ho, hm]

theorem d_split (S : St w z B H L O m s) (G : Gd w z) (hA : Rm 20 A) {t : Tr} {lot : List (Int × Int)} {ac : Int} {k : Nat} {p along f : Int} {tp tf ts : Tok} {r before : Bool} {size : Option Int}
    (ht : TrAt H t) (hrow : Row r t lot ac) (hk : lot[k]? = some (p, along)) (hnd : (lot.map (·.1)).Nodup) (hf : f ∉ lot.map (·.1)) (hz : lot.length ≤ 900)
    (qn : along < 3 → ∀ s', St w z B H L O m s' → Q .none s')
    (qs : 3 ≤ along → ∀ t' H' s', Le H H' → TrAt H' t' → Row r t' (splitLot lot k p f along (manyOf along size) before) ac → St w z B H' L O m s' → Q (.ref t'.a) s') :
    wpAny (model prog w) A (call (.ref 129) [.ref t.a, .int p tp, .int f tf, .bool r, optV size ts, .bool before]) Q E s := by
  refine enter' S G hA fd129 (binds := [("root", .ref t.a), ("pane", .int p tp), ("fresh", .int f tf), ("is_row", .bool r), ("size", optV size ts), ("is_before", .bool before)]) [] ?_ noMs cd129 rfl (binds_K (S.K G) rfl rfl rfl rfl rfl) rfl rfl rfl rfl rfl
  intro A' B' L' s' E' hA' hM hB S'
  clear S
  repeat walk1
  rename St _ _ _ _ _ _ _ _ => S1
  refine d_copy S1 G (hA'.lo rfl) ht fun t' s2 H1 le1 ht1 sd1 ow1 S2 => ?_
  clear S1
  have hrow1 := row_same hrow sd1
  have hlot1 := row_lot hrow1
  have hlen : t'.ls.length = lot.length := by rw [← hlot1]; simp [lotOf]
  obtain ⟨l, hl⟩ : ∃ l, t'.ls[k]? = some l := by
    have := (List.getElem?_eq_some_iff.mp hk).1
    exact ⟨_, List.getElem?_eq_getElem (by lia)⟩
  have hlk := lotOf_at (r := r) hl
  rw [hlot1, hk] at hlk
  simp only [Option.some.injEq, Prod.mk.injEq] at hlk
  obtain ⟨hlp, hls⟩ := hlk
  repeat walk1
  rename St _ _ _ _ _ _ _ _ => S1
  refine d_path S1 G (hA'.lo rfl) ht1 (fun hn => absurd hlp.symm (hn l (List.mem_of_getElem? hl))) fun k' l1 P s3 hk' hpl S3 hP bP => ?_
  clear S1
  have hkk : k = k' := (nodup_at hnd (by rw [← hlot1]; rw [lotOf_at hk', hpl]) hk).symm
  refine ce fun gl => ?_
  subst hkk
  rw [hl] at hk'
  cases hk'
  refine gl ?_; clear gl
  repeat walk1
  rename St _ _ _ _ _ _ _ _ => S1
  refine d_panes S1 G (hA'.lo rfl) (ht.mono (le1.trans (Le.set hP))) fun Pn vs s4 hvs S4 hPn bPn => ?_
  clear S1
  refine in_list_ints (S4.isList set_self) hvs ?_
  have hfr : (t.ls.map (·.p)).any (fun x => x == f) = false := by
    rw [← (same_len sd1).2, ← lotOf_fst (r := r), hlot1]
    rw [List.any_eq_false]
    intro x hx
    simp only [beq_iff_eq]
    intro e; rw [e] at hx
    exact hf hx
  rw [hfr]
  replace S4 := S4.weaken (H' := H1.set P (.lst (t'.path l))) (Le.set hPn)
  have hlm := List.mem_of_getElem? hl
  have hla : LeafAt (H1.set P (.lst (t'.path l))) l := (ht1.leaves l hlm).mono (Le.set hP)
  refine op_EAAAAA (⟨_, S4, rfl, rfl, rfl, rfl, rfl⟩ : ∃ m4, St w z B' (H1.set P (.lst (t'.path l))) L' (L :: O) m4 s4 ∧ m4 "path" = some (.ref P) ∧ m4 "fresh" = some (.int f tf) ∧ m4 "is_row" = some (.bool r) ∧ m4 "size" = some (optV size ts) ∧ m4 "is_before" = some (.bool before)) fun m4 S4 f1 f2 f3 f4 f5 => ?_
  walk1
  walk1
  walk1
  walk1
  walk1
  try dsimp only
  rename St _ _ _ _ _ _ _ _ => S4
  refine r_stmt S4 (fun H' m' => H1.set P (.lst (t'.path l)) = H' ∧ m' = upd m4 "leaf" (.ref l.a)) ?_ ?_
  · cases t'
    all_goals
      refine hq fun Q154 k154 => ?_
      repeat walk1
      refine k154 _ _ ?_
      exact mk_AEEAA rfl _ _ (by assumption) rfl rfl
  intro _ _ s5 S5 hp4
  obtain ⟨rfl, rfl⟩ := hp4
  clear S4
  have done : ∀ (H' : AH) (t2 : Tr) (m' : Str → Option Value) (s' : Shared), 3 ≤ along → Le H H' → TrAt H' t2 → Row r t2 (splitLot lot k p f along (manyOf along size) before) ac → St w z B' H' L' (L :: O) m' s' → Lv w z B L O m B' L' Q (.ret (.ref t2.a)) s' :=
    fun H' t2 m' s' a b c d S => ⟨_, _, S, fun S => qs a _ _ _ b c d S⟩
  refine split_mid S5 G (hA'.lo rfl) (by walk_at "hname") (by walk_at "hname") (by walk_at "hname") (by walk_at "hname") (by walk_at "hname") (by walk_at "hname") hla (fun h m' s' S => ⟨_, _, S, fun S => qn (by lia) _ (S.weaken (le1.trans (Le.set hP)))⟩) ?_
  intro h3 o Bl H2 m2 s6 t1 t2 k2 a2 c1 c2 c3 c4 c5 c6 c7 S6 g1 g2 g3 g4 g5 g6
  rw [← hls] at h3 c2 g4 g5
  have k12 : Le H1 H2 := (Le.set hP).trans k2
  have le2 : Le H H2 := le1.trans k12
  have ho1 : H1 o.dx = none := (Le.set hP).none c5
  have hP2 := k2 _ _ (set_self (H := H1) (a := P) (o := .lst (t'.path l)))
  have hlotS := lot_split (before := before) hlot1 hl hpl hls.symm c1 c2
  have htot := total_split (f := f) (many := manyOf along size) (before := before) hk
  have hcr := row_cross hrow1
  have hfr' := own_leaves ow1
  have hX1 : Leaves H2 (t'.ls.take k ++ pairOf before o l ++ t'.ls.drop (k + 1)) := leaves_pair ⟨fun x hx => (ht1.leaves x hx).mono k12, ht1.lv.2⟩ hl a2 (fun hm => by
    refine op_EA (List.mem_map.mp hm) fun x hx e => ?_
    refine LeafAt.op (ht1.leaves x hx) fun _ _ _ _ _ _ _ g _ => ?_
    rw [e, ho1] at g; cases g)
  have hmem : ∀ x ∈ t'.ls.take k ++ pairOf before o l ++ t'.ls.drop (k + 1), x = o ∨ x ∈ t'.ls := by
    intro x hx
    simp only [List.mem_append, pair_mem] at hx
    rcases hx with (hx | e | e) | hx
    · exact .inr (List.mem_of_mem_take hx)
    · exact .inl e
    · rw [e]; exact .inr hlm
    · exact .inr (List.mem_of_mem_drop hx)
  have hX3 : ∀ x ∈ t'.ls.take k ++ pairOf before o (l.put r (along - 1 - manyOf along size)) ++ t'.ls.drop (k + 1), x.side (!r) = ac := by
    intro x hx
    simp only [List.mem_append, pair_mem] at hx
    rcases hx with (hx | e | e) | hx
    · exact hcr x (List.mem_of_mem_take hx)
    · rw [e, c3]; exact hcr l hlm
    · rw [e, put_sideN]; exact hcr l hlm
    · exact hcr x (List.mem_of_mem_drop hx)
  have hX4 : ∀ y, (t'.ls.take k ++ pairOf before o y ++ t'.ls.drop (k + 1)).length = lot.length + 1 := by
    intro y
    have h1 := (List.getElem?_eq_some_iff.mp hl).1
    have h2 : (pairOf before o y).length = 2 := by cases before <;> rfl
    simp only [List.length_append, List.length_take, List.length_drop, h2]
    grind
  have hX5 : ∀ x ∈ t'.ls.take k ++ pairOf before o l ++ t'.ls.drop (k + 1), B'.get? x.dx = none ∧ H x.dx = none := by
    intro x hx
    rcases hmem x hx with e | hx
    · rw [e]; exact ⟨c4, le1.none ho1⟩
    · exact ⟨(hfr' x hx).1, (hfr' x hx).2.1⟩
  refine op_EE (pair_split before o) fun pre post hpp => ?_
  clear hvs hfr hf hnd hPn hlm hla hcr hfr' hmem S5
  cases t' with
  | leaf l' =>
    cases k with
    | succ k0 => simp [Tr.ls] at hl
    | zero =>
    simp only [Tr.ls, List.getElem?_cons_zero, Option.some.injEq] at hl
    refine ce fun gl => ?_
    subst hl
    simp only [Tr.ls, List.take_zero, List.nil_append, Nat.zero_add, List.drop_succ_cons, List.drop_zero, List.append_nil] at hX1 hX3 hX4 hX5 hlotS
    simp only [← hpp] at hX1 hX3 hX4 hX5 hlotS c7
    refine op_AAA hrow1 fun r1 r2 r3 r4 => ?_
    refine gl ?_; clear gl
    try clear hrow1
    refine split_tailL S6 G (hA'.lo rfl) g1 g2 g3 g4 g5 g6 hP2 hX1 c7 (by rw [hX4]; lia) (fun x hx => (hX5 x hx).1) ?_
    intro H' n s' lx hn q1 q2 q3 q4 q5 q6 m' S
    have hs : n.side r = l'.side r := by simp only [Nd.side, Lf.side, q2, q3]
    have hs' : n.side (!r) = l'.side (!r) := by simp only [Nd.side, Lf.side, q2, q3]
    have hl0 : total lot = l'.side r := by rw [← r1]; simp [lotOf, total]
    refine done H' (.node n) m' s' h3 (lx.le le2 fun d hd => ?_) ⟨hn, by rw [q6, placeL_len, hX4]; lia⟩ (row_placed' q1 q4 q5 q6 (by rw [hX4]; have := (List.getElem?_eq_some_iff.mp hk).1; lia) hlotS hX3 (by rw [hs, htot, hl0]) (by rw [hs', r2])) S
    refine mem_op hd fun x hx => ?_
    exact (hX5 x hx).2
  | node n =>
    simp only [Tr.ls] at hX1 hX3 hX4 hX5 hlotS hl
    simp only [← hpp] at hX1 hX3 hX4 hX5 hlotS c7
    refine ce fun gl => ?_
    refine op_AAAAAAAA hrow1 fun r1 r2 r3 r4 r5 r6 r7 r8 r9 => ?_
    try clear hrow1
    refine op_AAAAA ow1 fun w1 w2 w3 w4 w5 w6 => ?_
    refine gl ?_; clear gl
    try clear ow1
    refine split_tailN S6 G (hA'.lo rfl) g1 g2 g3 g4 g5 g6 hP2 (ht1.1.mono k12) r1 (lot_cut hl) hX1 c7 (by rw [hX4]; lia) (fun x hx => (hX5 x hx).1) w2 w3 (fun e => ?_) ?_
    · have := (Le.set hP).none c6
      rw [← e, ht1.1.2.2.1] at this; cases this
    intro H' n' s' lx hn q1 q2 q3 q4 q5 q6 m' S
    have hs : n'.side r = n.side r := by simp only [Nd.side, q2, q3]
    have hs' : n'.side (!r) = n.side (!r) := by simp only [Nd.side, q2, q3]
    refine done H' (.node n') m' s' h3 (lx.le le2 fun d hd => ?_) ⟨hn, by rw [q6, placeL_len, hX4]; lia⟩ (row_placed' q1 q4 q5 q6 (by rw [hX4]; have := (List.getElem?_eq_some_iff.mp hk).1; lia) hlotS hX3 (by rw [hs, htot, r6]) (by rw [hs', r7])) S
    refine mem_cons_op hd ?_ fun d hd => ?_
    · exact w5
    · refine mem_cons_op hd ?_ fun d hd => ?_
      · exact w6
      · refine mem_op hd fun x hx => ?_
        exact (hX5 x hx).2
end

/-! close_pane -/
section
variable {prog : Program} {w : World} {A : Around} {E : Value → Shared → Prop} {z s : Shared} {B : Heap} {H : AH} {L : Addr} {O : List Addr} {m : Str → Option Value} {env : Env} {Q : Value → Shared → Prop}
theorem d_splitNone (S : St w z B H L O m s) (G : Gd w z) (hA : Rm 20 A) {t : Tr} {p f : Int} {tp tf : Tok} {r : Bool}
    (ht : TrAt H t) (hp : ∀ x ∈ t.ls.map (·.p), x ≠ p) (q : ∀ s', St w z B H L O m s' → Q .none s') :
    wpAny (model prog w) A (call (.ref 129) [.ref t.a, .int p tp, .int f tf, .bool r]) Q E s := by
  refine enter' S G hA fd129 (binds := [("root", .ref t.a), ("pane", .int p tp), ("fresh", .int f tf), ("is_row", .bool r), ("size", _), ("is_before", _)]) [] ?_ noMs cd129 rfl (binds_K (S.K G) rfl rfl rfl rfl rfl) rfl rfl rfl rfl rfl
  intro A' B' L' s' E' hA' hM hB S'
  clear S
  refine hq fun Q9 k9 => ?_
  repeat walk1
  rename St _ _ _ _ _ _ _ _ => S1
  refine d_copy S1 G (hA'.lo rfl) ht fun t' s2 H1 le1 ht1 sd1 ow1 S2 => ?_
  clear S1
  repeat walk1
  rename St _ _ _ _ _ _ _ _ => S1
  refine d_path S1 G (hA'.lo rfl) ht1 (fun hn s3 S3 => ?_) fun k l1 P s3 hk hpl S3 hP bP => ?_
  · clear S1
    repeat walk1
    refine k9 _ _ ?_
    rename St _ _ _ _ _ _ _ _ => S1
    exact mk_EEA _ _ S1 (fun S => q _ (S.weaken le1))
  · exact absurd hpl (hp _ (by rw [← (same_len sd1).2]; exact List.mem_map_of_mem (List.mem_of_getElem? hk)))

theorem d_closeNone (S : St w z B H L O m s) (G : Gd w z) (hA : Rm 20 A) {t : Tr} {p : Int} {tp : Tok}
    (ht : TrAt H t) (hp : (∀ x ∈ t.ls.map (·.p), x ≠ p) ∨ ∃ l, t = .leaf l) (q : ∀ s', St w z B H L O m s' → Q .none s') :
    wpAny (model prog w) A (call (.ref 143) [.ref t.a, .int p tp]) Q E s := by
  refine enter' S G hA fd143 (binds := [("root", .ref t.a), ("pane", .int p tp)]) [] ?_ noMs cd143 rfl (BindsTo.of_eq rfl) rfl rfl rfl rfl rfl
  intro A' B' L' s' E' hA' hM hB S'
  clear S
  refine hq fun Q28 k28 => ?_
  repeat walk1
  rename St _ _ _ _ _ _ _ _ => S1
  refine d_copy S1 G (hA'.lo rfl) ht fun t' s2 H1 le1 ht1 sd1 ow1 S2 => ?_
  clear S1
  repeat walk1
  rename St _ _ _ _ _ _ _ _ => S1
  refine d_path S1 G (hA'.lo rfl) ht1 (fun hn s3 S3 => ?_) fun k l1 P s3 hk hpl S3 hP bP => ?_
  · clear S1
    repeat walk1
    refine k28 _ _ ?_
    rename St _ _ _ _ _ _ _ _ => S1
    exact mk_EEA _ _ S1 (fun S => q _ (S.weaken le1))
  · rcases hp with hp | ⟨l, rfl⟩
    · exact absurd hpl (hp _ (by rw [← (same_len sd1).2]; exact List.mem_map_of_mem (List.mem_of_getElem? hk)))
    · cases t' with
      | node n => exact sd1.elim
      | leaf l' =>
        clear S1
        simp only [Tr.path] at S3
        repeat walk1
        refine k28 _ _ ?_
        rename St _ _ _ _ _ _ _ _ => S1
        exact mk_EEA _ _ S1 (fun S => q _ (S.weaken (le1.trans (Le.set hP))))
end

local macro_rules | `(tactic| walk_at "getMethod ref") => `(tactic| k_dflt (refine r_method ‹_› (by walk_at "hget") PySem.F.slot_list_pop PySem.F.type_list_pop ?_))
local macro_rules | `(tactic| walk_at "callWith builtin:list.pop") => `(tactic| k_dflt (refine r_callMeth ?_))

theorem pick_front2 (a b : Value) : slicePick #[a, b] none (some (-1)) none = #[a] := by
  have e1 : sliceBounds none (some (-1)) none 2 = (0, 1, 1) := by decide
  have e2 : sliceRange 0 1 1 = [0] := by decide
  unfold slicePick
  show ((sliceRange (sliceBounds none (some (-1)) none 2).1 (sliceBounds none (some (-1)) none 2).2.1 (sliceBounds none (some (-1)) none 2).2.2).filterMap _).toArray = _
  rw [e1]
  show ((sliceRange 0 1 1).filterMap _).toArray = _
  rw [e2]
  rfl
noncomputable def closeLot (lot : List (Int × Int)) (k : Nat) (along : Int) : List (Int × Int) :=
  (lot.take k ++ lot.drop (k + 1)).take (k - 1) ++ ((lot.take k ++ lot.drop (k + 1))[k - 1]?.map fun x => (x.1, x.2 + (along + 1))).toList ++ (lot.take k ++ lot.drop (k + 1)).drop (k - 1 + 1)
section
variable {prog : Program} {w : World} {A : Around} {E : Value → Shared → Prop} {z s : Shared} {B : Heap} {H : AH} {L : Addr} {O : List Addr} {m : Str → Option Value} {env : Env} {Q : Value → Shared → Prop}
/-- from the pop on -/
theorem close_tail (S : St w z B H L O m s) (G : Gd w z) (hA : Rm 18 A) {Q : Flow → Shared → Prop} {l x : Lf} {n : Nd} {k : Nat} {P : Addr} {ta : Tok}
    (gp : m "path" = some (.ref P)) (gl : m "leaf" = some (.ref l.a)) (gn : m "parent" = some (.ref n.a)) (gr : m "is_row" = some (.bool n.row)) (ga : m "at" = some (.int k ta))
    (hP : H P = some (.lst [.ref n.a, .ref l.a])) (hn : NodeAt H n) (hk : n.ls[k]? = some l) (hx : (n.ls.take k ++ n.ls.drop (k + 1))[k - 1]? = some x) (hz : n.ls.length ≤ 1000)
    (hb : ∀ x ∈ n.ls, B.get? x.dx = none) (hbn : B.get? n.dx = none) (hbp : B.get? n.pl = none) (hPn : P ≠ n.pl)
    (q1 : (n.ls.take k ++ n.ls.drop (k + 1)).length = 1 → ∀ H' s', LeX (n.dx :: n.pl :: n.ls.map (·.dx)) H H' → LeafAt H' ((x.grow n.row (l.side n.row + 1)).to (0, 0)) → ∀ m', St w z B H' L O m' s' → Q (.ret (.ref (x.grow n.row (l.side n.row + 1)).a)) s')
    (q2 : 1 < (n.ls.take k ++ n.ls.drop (k + 1)).length → ∀ H' n' s', LeX (n.dx :: n.pl :: n.ls.map (·.dx)) H H' → NodeAt H' n' → n'.row = n.row → n'.w = n.w → n'.h = n.h → n'.x = 0 → n'.y = 0 → n'.ls = (placeL n.row ((n.ls.take k ++ n.ls.drop (k + 1)).take (k - 1) ++ x.grow n.row (l.side n.row + 1) :: (n.ls.take k ++ n.ls.drop (k + 1)).drop (k - 1 + 1)) (0, 0)).1 → ∀ m', St w z B H' L O m' s' → Q (.ret (.ref n'.a)) s') :
    wpAny (model prog w) A (execs ((bodyOf fd143.1).drop 5) (callEnv fd143.1 L 143)) Q E s := by
  have hn' := hn
  refine NodeAt.op hn fun i1 u0 u1 u2 u3 u4 i2 i3 i4 i5 => ?_
  try clear hn
  have hl' := i4 l (List.mem_of_getElem? hk)
  have hnz : n.ls ≠ [] := by intro e; rw [e] at hk; simp at hk
  generalize hrs : n.ls.take k ++ n.ls.drop (k + 1) = rs at hx q1 q2
  have hsub : ∀ y ∈ rs, y ∈ n.ls := fun y hy => by
    rw [← hrs] at hy
    rcases List.mem_append.mp hy with h | h
    · exact List.mem_of_mem_take h
    · exact List.mem_of_mem_drop h
  have hlrs : Leaves H rs := by
    refine ⟨fun y hy => i4 y (hsub y hy), ?_⟩
    have : rs.Sublist n.ls := by
      rw [← hrs]
      have := (List.Sublist.refl (n.ls.take k)).append (List.drop_sublist_drop_left n.ls (Nat.le_succ k))
      rwa [List.take_append_drop] at this
    exact (this.map _).nodup i5
  have evs : (n.ls.map fun l => Value.ref l.a).take k ++ (n.ls.map fun l => Value.ref l.a).drop (k + 1) = rs.map fun l => Value.ref l.a := by rw [← hrs]; simp
  show wpAny _ _ (execs [_, _, _, _, _, _] _) _ _ _
  repeat walk1
  rename St _ _ _ _ _ _ _ _ => S1
  refine r_pop (k := k) (y := .ref l.a) S1 i3 hbp rfl (by simp [hk]) (by simp; (refine Nat.le_trans (by with_reducible assumption) ?_; exact Nat.le_of_ble_eq_true rfl)) fun s2 S2 => ?_
  clear S1
  rw [evs] at S2
  have hn2 := node_list hn' hnz hlrs
  have hl2 : LeafAt (H.set n.pl (.lst (rs.map fun l => .ref l.a))) l := leaf_list hn' hnz hl'
  generalize hH2 : H.set n.pl (.lst (rs.map fun l => .ref l.a)) = H2 at S2 hn2 hl2
  have lx2 : LeX (n.dx :: n.pl :: n.ls.map (·.dx)) H H2 := by rw [← hH2]; exact LeX.set (.tail _ (.head _))
  have hP2 : H2 P = some (.lst [.ref n.a, .ref l.a]) := by
    rw [← hH2]
    exact set_ne hP hPn
  have hn2' := hn2
  clear i2 i3 i4 i5 i1
  refine NodeAt.op hn2 fun i1 v0 v1 v2 v3 v4 i2 i3 i4 i5 => ?_
  try clear hn2
  dsimp only at i1 i2 i3 i4 i5
  have hxm : (rs.map fun l => Value.ref l.a)[k - 1]? = some (.ref x.a) := by simp [hx]
  have hidx : (if (k : Int) - 1 > 0 then (k : Int) - 1 else 0) = ((k - 1 : Nat) : Int) := by split <;> omega
  have hrl : rs.length ≤ 1000 := by have := congrArg List.length hrs; simp at this; grind
  try dsimp only
  repeat walk1
  rename St _ _ _ _ _ _ _ _ => S1
  have hxr : x ∈ rs := List.mem_of_getElem? hx
  have hcut := lot_cut hx
  refine d_changeL S1 G (hA.lo rfl) (i4 x hxr) (hb x (hsub x hxr)) fun o s3 hx3 S3 => ?_
  clear S1
  have hls3 : Leaves (H2.set x.dx o) (rs.take (k - 1) ++ x.grow n.row (l.side n.row + 1) :: rs.drop (k - 1 + 1)) := leaves_step (by rw [← hcut]; exact ⟨i4, i5⟩) grow_dx hx3
  have hxd : x.dx ∈ rs.map (·.dx) := List.mem_map_of_mem hxr
  have hae : (rs.take (k - 1) ++ x.grow n.row (l.side n.row + 1) :: rs.drop (k - 1 + 1)).map (·.a) = rs.map (·.a) := by
    conv => rhs; rw [hcut]
    simp [grow_a]
  have hde : (rs.take (k - 1) ++ x.grow n.row (l.side n.row + 1) :: rs.drop (k - 1 + 1)).map (·.dx) = rs.map (·.dx) := by
    conv => rhs; rw [hcut]
    simp [grow_dx]
  have hrsd : ∀ a ∈ rs.map (·.dx), a ∈ n.ls.map (·.dx) := fun a ha => by
    refine mem_op ha fun y hy => ?_
    exact List.mem_map_of_mem (hsub y hy)
  have hn3 := node_out hn2' (Out.set (o := o) hxd) hls3 hae
  dsimp only at hn3
  have lx3 : LeX (n.dx :: n.pl :: n.ls.map (·.dx)) H (H2.set x.dx o) := lx2.trans (LeX.set (.tail _ (.tail _ (hrsd _ hxd))))
  generalize hX : rs.take (k - 1) ++ x.grow n.row (l.side n.row + 1) :: rs.drop (k - 1 + 1) = X at hls3 hae hde hn3 q2
  have hXl : X.length = rs.length := by simpa using congrArg List.length hae
  have hP3 : (H2.set x.dx o) P = some (.lst [.ref n.a, .ref l.a]) := by
    refine set_ne hP2 (fun e => ?_)
    refine LeafAt.op (i4 x hxr) fun _ _ _ _ _ _ _ g _ => ?_
    rw [e, g] at hP2; cases hP2
  have hn3' := hn3
  clear i1 i2 i3 i4 i5
  refine NodeAt.op hn3 fun i1 y0 y1 y2 y3 y4 i2 i3 i4 i5 => ?_
  try clear hn3
  dsimp only at i1 i2 i3 i4 i5
  by_cases h1 : 1 < rs.length
  · have hcond : (1 : Int) < ((X.map fun l => Value.ref l.a).length : Int) := by simp [hXl]; lia
    try dsimp only
    repeat walk1
    rename St _ _ _ _ _ _ _ _ => S1
    refine d_placedN (p := (0, 0)) (n := { n with ls := X }) S1 G (hA.lo rfl) hn3' (by simp [hXl]; omega) hbn (fun y hy => ?_) fun H' s5 o5 hn5 S5 => ?_
    · have : y.dx ∈ rs.map (·.dx) := by rw [← hde]; exact List.mem_map_of_mem hy
      refine op_EA (List.mem_map.mp this) fun y' hy' e => ?_
      rw [← e]; exact hb y' (hsub y' hy')
    refine q2 h1 H' { n with x := 0, y := 0, ls := (placeL n.row X (0, 0)).1 } s5 (lx3.trans (LeX.out (o5.mono ?_))) hn5 rfl rfl rfl rfl rfl rfl _ S5
    intro a ha
    refine mem_cons_op ha ?_ fun a ha => ?_
    · exact .head _
    · exact .tail _ (.tail _ (hrsd _ (by rw [← hde]; exact ha)))
  · have hlen1 : rs.length = 1 := by have := (List.getElem?_eq_some_iff.mp hx).1; lia
    have hcond : ¬ (1 : Int) < ((X.map fun l => Value.ref l.a).length : Int) := by simp [hXl]; lia
    try dsimp only
    repeat walk1
    rename St _ _ _ _ _ _ _ _ => S1
    refine r_slice (ws := [.ref n.a]) S1 hP3 .none (.int _ _) .none (pick_front2 _ _) (by simp) (Nat.le_of_ble_eq_true rfl) (fun P2 s4 S4 nP2 bP2 => ?_) (by with_unfolding_all rfl) (by intro _; with_unfolding_all rfl)
    clear S1
    refine ce fun gl => ?_
    obtain ⟨y, rfl⟩ : ∃ y, rs = [y] := List.length_eq_one_iff.mp hlen1
    have hk0 : k - 1 = 0 := by have := (List.getElem?_eq_some_iff.mp hx).1; simp at this; omega
    rw [hk0] at hx hX
    simp only [List.getElem?_cons_zero, Option.some.injEq] at hx
    subst hx
    simp only [List.take_zero, List.nil_append, Nat.zero_add, List.drop_succ_cons, List.drop_nil] at hX
    subst hX
    refine gl ?_; clear gl
    repeat walk1
    rename St _ _ _ _ _ _ _ _ => S1
    refine d_exch1 S1 G (hA.lo rfl) set_self fun s5 S5 => ?_
    clear S1
    repeat walk1
    rename St _ _ _ _ _ _ _ _ => S1
    refine d_placedL (p := (0, 0)) S1 G (hA.lo rfl) (LeafAt.mono (i4 _ (.head _)) (Le.set nP2)) (by rw [grow_dx]; exact hb y (hsub y (.head _))) fun o5 s6 hl6 S6 => ?_
    exact q1 rfl _ _ (lx3.trans ((LeX.of (Le.set nP2)).trans (LeX.set (.tail _ (.tail _ (hrsd _ (by rw [grow_dx]; exact .head _))))))) hl6 _ S6
end

/-! close_pane, whole -/
theorem lot_close {r : Bool} {ls : List Lf} {lot : List (Int × Int)} {k : Nat} {along : Int} {x : Lf} (h : lotOf r ls = lot) (hx : (ls.take k ++ ls.drop (k + 1))[k - 1]? = some x) :
    lotOf r ((ls.take k ++ ls.drop (k + 1)).take (k - 1) ++ x.grow r (along + 1) :: (ls.take k ++ ls.drop (k + 1)).drop (k - 1 + 1)) = closeLot lot k along := by
  have e : lot.take k ++ lot.drop (k + 1) = lotOf r (ls.take k ++ ls.drop (k + 1)) := by rw [← h]; simp [lotOf]
  unfold closeLot
  rw [e]
  generalize ls.take k ++ ls.drop (k + 1) = rs at hx
  rw [lotOf_at hx]
  simp [lotOf, Lf.grow, put_p, put_side]
theorem total_append {a b : List (Int × Int)} : total (a ++ b) = total a + total b + 1 := by simp [total, List.sum_append]; lia
theorem total_cons {x : Int × Int} {b : List (Int × Int)} : total (x :: b) = x.2 + total b + 1 := by simp [total]; lia
theorem total_close {lot : List (Int × Int)} {k : Nat} {p along : Int} (hk : lot[k]? = some (p, along)) (h2 : 2 ≤ lot.length) : total (closeLot lot k along) = total lot := by
  have e := lot_cut hk
  have hx : total lot = total (lot.take k ++ (p, along) :: lot.drop (k + 1)) := by rw [← e]
  have hkl := (List.getElem?_eq_some_iff.mp hk).1
  have hl : k - 1 < (lot.take k ++ lot.drop (k + 1)).length := by simp; omega
  obtain ⟨y, hy⟩ : ∃ y, (lot.take k ++ lot.drop (k + 1))[k - 1]? = some y := ⟨_, List.getElem?_eq_getElem hl⟩
  have e2 := lot_cut hy
  have hx2 : total (lot.take k ++ lot.drop (k + 1)) = total ((lot.take k ++ lot.drop (k + 1)).take (k - 1) ++ y :: (lot.take k ++ lot.drop (k + 1)).drop (k - 1 + 1)) := by rw [← e2]
  rw [hx]
  unfold closeLot
  rw [hy]
  rw [total_append] at hx2
  rw [total_append (b := _ :: _), total_cons] at hx2 ⊢
  simp only [Option.map_some, Option.toList_some, List.append_assoc, List.singleton_append]
  rw [total_append, total_cons]
  try dsimp only
  lia
section
variable {prog : Program} {w : World} {A : Around} {E : Value → Shared → Prop} {z s : Shared} {B : Heap} {H : AH} {L : Addr} {O : List Addr} {m : Str → Option Value} {env : Env} {Q : Value → Shared → Prop}

theorem d_close (S : St w z B H L O m s) (G : Gd w z) (hA : Rm 20 A) {t : Tr} {lot : List (Int × Int)} {ac : Int} {k : Nat} {p along : Int} {tp : Tok} {r : Bool}
    (ht : TrAt H t) (hrow : Row r t lot ac) (hk : lot[k]? = some (p, along)) (hnd : (lot.map (·.1)).Nodup) (hz : lot.length ≤ 900) (h2 : 2 ≤ lot.length)
    (qs : ∀ t' H' s', Le H H' → TrAt H' t' → Row r t' (closeLot lot k along) ac → St w z B H' L O m s' → Q (.ref t'.a) s') :
    wpAny (model prog w) A (call (.ref 143) [.ref t.a, .int p tp]) Q E s := by
  refine enter' S G hA fd143 (binds := [("root", .ref t.a), ("pane", .int p tp)]) [] ?_ noMs cd143 rfl (BindsTo.of_eq rfl) rfl rfl rfl rfl rfl
  intro A' B' L' s' E' hA' hM hB S'
  clear S
  repeat walk1
  rename St _ _ _ _ _ _ _ _ => S1
  refine d_copy S1 G (hA'.lo rfl) ht fun t' s2 H1 le1 ht1 sd1 ow1 S2 => ?_
  clear S1
  have hrow1 := row_same hrow sd1
  have hlot1 := row_lot hrow1
  have hlen : t'.ls.length = lot.length := by rw [← hlot1]; simp [lotOf]
  obtain ⟨l, hl⟩ : ∃ l, t'.ls[k]? = some l := by
    have := (List.getElem?_eq_some_iff.mp hk).1
    exact ⟨_, List.getElem?_eq_getElem (by lia)⟩
  have hlk := lotOf_at (r := r) hl
  rw [hlot1, hk] at hlk
  simp only [Option.some.injEq, Prod.mk.injEq] at hlk
  obtain ⟨hlp, hls⟩ := hlk
  repeat walk1
  rename St _ _ _ _ _ _ _ _ => S1
  refine d_path S1 G (hA'.lo rfl) ht1 (fun hn => absurd hlp.symm (hn l (List.mem_of_getElem? hl))) fun k' l1 P s3 hk' hpl S3 hP bP => ?_
  clear S1
  have hkk : k' = k := nodup_at hnd (by rw [← hlot1]; rw [lotOf_at hk', hpl]) hk
  refine ce fun gl => ?_
  subst hkk
  rw [hl] at hk'
  cases hk'
  refine gl ?_; clear gl
  cases t' with
  | leaf l' => simp [Tr.ls] at hlen; lia
  | node n =>
  simp only [Tr.path, Tr.ls] at S3 hl hlen hlot1
  refine ce fun gl => ?_
  obtain ⟨hn, hnz⟩ := ht1
  refine op_AAAAAAAA hrow1 fun r1 r2 r3 r4 r5 r6 r7 r8 r9 => ?_
  try clear hrow1
  refine op_AAAAA ow1 fun w1 w2 w3 w4 w5 w6 => ?_
  try clear ow1
  have hn2 : NodeAt (H1.set P (.lst [.ref n.a, .ref l.a])) n := hn.mono (Le.set hP)
  have hn2' := hn2
  refine NodeAt.op hn2 fun i1 u0 u1 u2 u3 u4 i2 i3 i4 i5 => ?_
  try clear hn2
  have hlm := List.mem_of_getElem? hl
  have done : ∀ (H' : AH) (t2 : Tr) (m' : Str → Option Value) (s' : Shared), Le H H' → TrAt H' t2 → Row r t2 (closeLot lot k' along) ac → St w z B' H' L' (L :: O) m' s' → Lv w z B L O m B' L' Q (.ret (.ref t2.a)) s' :=
    fun H' t2 m' s' b c d S => ⟨_, _, S, fun S => qs _ _ _ b c d S⟩
  refine op_EA (⟨_, S3, trivial⟩ : ∃ m4, St w z B' (H1.set P (.lst [.ref n.a, .ref l.a])) L' (L :: O) m4 s3 ∧ True) fun m4 S4 f1 => ?_
  refine gl ?_; clear gl
  clear S3
  repeat walk1
  rename St _ _ _ _ _ _ _ _ => S5
  rw [kindS_row] at S5
  rename AH.set H1 P _ _ = none => nT
  replace S5 := S5.weaken (Le.set nT)
  refine d_index S5 G (hA'.lo rfl) i3 i4 i5 hl fun ta s6 S6 => ?_
  clear S5
  walk1
  try dsimp only
  rename St _ _ _ _ _ _ _ _ => S7
  have hl0 : k' - 1 < (n.ls.take k' ++ n.ls.drop (k' + 1)).length := by have := (List.getElem?_eq_some_iff.mp hl).1; simp; omega
  obtain ⟨x, hx⟩ : ∃ x, (n.ls.take k' ++ n.ls.drop (k' + 1))[k' - 1]? = some x := ⟨_, List.getElem?_eq_getElem hl0⟩
  have hxm : x ∈ n.ls := by
    rcases List.mem_append.mp (List.mem_of_getElem? hx) with h | h
    · exact List.mem_of_mem_take h
    · exact List.mem_of_mem_drop h
  have hside : l.side n.row = along := by rw [r1, hls]
  have hlc := lot_close (along := along) hlot1 hx
  have htc := total_close hk h2
  have hD : ∀ d ∈ n.dx :: n.pl :: n.ls.map (·.dx), H d = none := by
    intro d hd
    refine mem_cons_op hd ?_ fun d hd => ?_
    · exact w5
    · refine mem_cons_op hd ?_ fun d hd => ?_
      · exact w6
      · refine mem_op hd fun y hy => ?_
        exact (w1 y hy).2.1
  have hPn : P ≠ n.pl := ne_of_none_some hP hn.2.2.1
  refine close_tail S7 G (hA'.lo rfl) (by walk_at "hname") (by walk_at "hname") (by walk_at "hname") (by walk_at "hname") (by walk_at "hname") set_self hn2' hl hx hnz (fun y hy => (w1 y hy).1) w2 w3 hPn ?_ ?_
  · intro h1 H' s' lx hleaf m' S
    rw [hside, r1] at hleaf
    rw [hside, r1]
    refine ce fun gl => ?_
    obtain ⟨y, hy⟩ := List.length_eq_one_iff.mp h1
    rw [hy] at hx hlc
    have hk0 : k' - 1 = 0 := by have := (List.getElem?_eq_some_iff.mp hx).1; simp at this; omega
    rw [hk0] at hx hlc
    simp only [List.getElem?_cons_zero, Option.some.injEq] at hx
    subst hx
    refine gl ?_; clear gl
    simp only [List.take_zero, List.nil_append, Nat.zero_add, List.drop_succ_cons, List.drop_nil] at hlc
    refine done H' (.leaf ((y.grow r (along + 1)).to (0, 0))) m' s' (lx.le (le1.trans (Le.set hP)) hD) hleaf ⟨?_, ?_, rfl, rfl⟩ S
    · rw [← hlc]; rfl
    · rw [to_side]; exact put_sideN.trans (r4 y hxm)
  · intro h1 H' n' s' lx hn5 q1 q2 q3 q4 q5 q6 m' S
    rw [hside, r1] at q6
    rw [r1] at q1
    generalize hX : (n.ls.take k' ++ n.ls.drop (k' + 1)).take (k' - 1) ++ x.grow r (along + 1) :: (n.ls.take k' ++ n.ls.drop (k' + 1)).drop (k' - 1 + 1) = X at q6 hlc
    have hXl : X.length = (n.ls.take k' ++ n.ls.drop (k' + 1)).length := by
      rw [← hX]
      conv => rhs; rw [lot_cut hx]
      simp only [List.length_append, List.length_cons]
    have hXc : ∀ y ∈ X, y.side (!r) = ac := by
      intro y hy
      rw [← hX] at hy
      have hmem : ∀ y ∈ n.ls.take k' ++ n.ls.drop (k' + 1), y ∈ n.ls := fun y hy => by
        rcases List.mem_append.mp hy with h | h
        · exact List.mem_of_mem_take h
        · exact List.mem_of_mem_drop h
      rcases List.mem_append.mp hy with h | h
      · exact r4 y (hmem y (List.mem_of_mem_take h))
      · rcases List.mem_cons.mp h with rfl | h
        · exact put_sideN.trans (r4 x hxm)
        · exact r4 y (hmem y (List.mem_of_mem_drop h))
    have hs : n'.side r = n.side r := by simp only [Nd.side, q2, q3]
    have hs' : n'.side (!r) = n.side (!r) := by simp only [Nd.side, q2, q3]
    refine done H' (.node n') m' s' (lx.le (le1.trans (Le.set hP)) hD) ⟨hn5, by rw [q6, placeL_len, hXl]; simp; grind⟩ (row_placed' q1 q4 q5 q6 (by rw [hXl]; lia) hlc hXc (by rw [hs, htc, r6]) (by rw [hs', r7])) S
end

/-! layout_border -/
section
variable {prog : Program} {w : World} {A : Around} {E : Value → Shared → Prop} {z s : Shared} {B : Heap} {H : AH} {L : Addr} {O : List Addr} {m : Str → Option Value} {env : Env} {Q : Value → Shared → Prop}
theorem d_borderL (S : St w z B H L O m s) (G : Gd w z) (hA : Rm 8 A) {P : Addr} {v : Value} {r : Bool} (hP : H P = some (.lst [v])) (q : ∀ s', St w z B H L O m s' → Q .none s') :
    wpAny (model prog w) A (call (.ref 150) [.ref P, .bool r]) Q E s := by
  refine enter' S G hA fd150 (binds := [("path", .ref P), ("is_row", .bool r)]) [] ?_ noMs cd150 rfl (BindsTo.of_eq rfl) rfl rfl rfl rfl rfl
  intro A' B' L' s' E' hA' hM hB S'
  clear S
  refine hq fun Q8 k8 => ?_
  repeat walk1
  rename St _ _ _ _ _ _ _ _ => S1
  refine r_range3 S1 fun R s2 S2 nR bR => ?_
  clear S1
  refine r_forR hA'.1 (n := 0) (fun i H1 m1 => Le H H1) S2 set_self (show Builtin.Range.small 0 0 (-1) = true by decide) (show Builtin.Range.rangeSize 0 0 (-1) = 0 by decide) (Le.set nR) (fun i t H1 m1 s1 I E' hi => absurd hi (by lia)) fun H1 m1 s1 hJ S3 => ?_
  clear S2
  repeat walk1
  refine k8 _ _ ?_
  rename St _ _ _ _ _ _ _ _ => S1
  exact mk_EEA _ _ S1 (fun S => q _ (S.weaken hJ))
theorem d_borderN (S : St w z B H L O m s) (G : Gd w z) (hA : Rm 8 A) {P : Addr} {n : Nd} {l : Lf} {k : Nat} (hP : H P = some (.lst [.ref n.a, .ref l.a])) (hn : NodeAt H n) (hk : n.ls[k]? = some l) (hz : n.ls.length ≤ 1000)
    (q : ∀ T t s', St w z B (H.set T (.tup [.ref n.pl, .int (if (n.ls.length : Int) - 2 < k then (n.ls.length : Int) - 2 else k) t])) L O m s' → H T = none → B.get? T = none → Q (.ref T) s') :
    wpAny (model prog w) A (call (.ref 150) [.ref P, .bool n.row]) Q E s := by
  refine enter' S G hA fd150 (binds := [("path", .ref P), ("is_row", .bool n.row)]) [] ?_ noMs cd150 rfl (BindsTo.of_eq rfl) rfl rfl rfl rfl rfl
  intro A' B' L' s' E' hA' hM hB S'
  clear S
  repeat walk1
  rename St _ _ _ _ _ _ _ _ => S1
  refine r_range3 S1 fun R s2 S2 nR bR => ?_
  clear S1
  refine r_forR hA'.1 (n := 1) (fun i H1 m1 => i = 0 ∧ Le H H1 ∧ m1 "path" = some (.ref P) ∧ m1 "is_row" = some (.bool n.row)) S2 set_self (show Builtin.Range.small 1 0 (-1) = true by decide) (show Builtin.Range.rangeSize 1 0 (-1) = 1 by decide) ⟨rfl, Le.set nR, rfl, rfl⟩ ?_ (fun H1 m1 s1 hJ => absurd hJ.1 (by decide))
  intro i t H1 m1 s1 I E'' hi hp8 hI hBI S3
  refine op_AAA hp8 fun ek1 k1 g1 g2 => ?_
  try clear hp8
  subst ek1
  clear S2
  refine r_asgName S3 (fun s4 S4 => ?_)
  clear S3
  have g1 := upd_ne (x := "depth") (v := .int (((([Value.ref n.a, Value.ref l.a]).length : Nat) : Int) - 1 + ((0 : Nat) : Int) * -1) t) g1 (by decide)
  have g2 := upd_ne (x := "depth") (v := .int (((([Value.ref n.a, Value.ref l.a]).length : Nat) : Int) - 1 + ((0 : Nat) : Int) * -1) t) g2 (by decide)
  have k2 := fun a o e => set_new (o := rit ((([Value.ref n.a, Value.ref l.a]).length : Int) - 1 + ((0 + 1 : Nat) : Int) * -1) (((1 : Nat) : Int) - ((0 + 1 : Nat) : Int)) (-1)) (k1 a o e) hI
  have hP2 := k2 _ _ hP
  have hn' := hn.mono k2
  refine NodeAt.op hn' fun i1 u0 u1 u2 u3 u4 i2 i3 i4 i5 => ?_
  try clear hn'
  refine hq fun Q42 k42 => ?_
  repeat walk1
  rename St _ _ _ _ _ _ _ _ => S1
  refine d_index S1 G (hA'.lo rfl) i3 i4 i5 hk fun ta s5 S5 => ?_
  clear S1
  repeat walk1
  refine k42 _ _ ?_
  rename_i T s6 S6 nT bT
  simp only [List.length_map] at S6
  exact mk_EEA _ _ (S6.weaken (Le.set2 k2)) (fun S => q T _ _ S (Le.none k2 nT) (hB _ bT))
end

/-! resize_pane: the giving -/
theorem modify_cut {α : Type} {ls : List α} {k : Nat} {l : α} {f : α → α} (h : ls[k]? = some l) : ls.modify k f = ls.take k ++ f l :: ls.drop (k + 1) := by
  induction ls generalizing k with
  | nil => simp at h
  | cons x ls ih =>
    cases k with
    | zero => simp at h; subst h; simp
    | succ k => simp [ih (k := k) (by simpa using h)]
noncomputable def giveStep (r : Bool) (ti : Nat) (st : List Lf × Int) (g : Nat) : List Lf × Int :=
  match st.1[g]? with
  | some l =>
    let many := if l.side r - 1 < st.2 then l.side r - 1 else st.2
    ((st.1.modify g (Lf.grow r (-many))).modify ti (Lf.grow r many), st.2 - many)
  | none => st
noncomputable def gives (r : Bool) (ti : Nat) (gs : List Nat) (st : List Lf × Int) : List Lf × Int := gs.foldl (giveStep r ti) st
theorem modify_same {r : Bool} {ls : List Lf} {k : Nat} {c : Int} : (ls.modify k (Lf.grow r c)).map (·.a) = ls.map (·.a) ∧ (ls.modify k (Lf.grow r c)).map (·.dx) = ls.map (·.dx) ∧ (ls.modify k (Lf.grow r c)).map (·.p) = ls.map (·.p) ∧ (ls.modify k (Lf.grow r c)).map (·.side (!r)) = ls.map (·.side (!r)) := by
  cases h : ls[k]? with
  | none => rw [List.modify_eq_self (by simpa using h)]; simp
  | some l =>
    rw [modify_cut h]
    conv => rhs; rhs; rhs; rhs; rw [lot_cut h]
    have e := lot_cut h
    refine ⟨?_, ?_, ?_, by simp [Lf.grow, put_sideN]⟩
    · conv => rhs; rw [e]
      simp [grow_a]
    · conv => rhs; rw [e]
      simp [grow_dx]
    · conv => rhs; rw [e]
      simp [Lf.grow, put_p]
theorem giveStep_same {r : Bool} {ti g : Nat} {st : List Lf × Int} : (giveStep r ti st g).1.map (·.a) = st.1.map (·.a) ∧ (giveStep r ti st g).1.map (·.dx) = st.1.map (·.dx) ∧ (giveStep r ti st g).1.map (·.p) = st.1.map (·.p) ∧ (giveStep r ti st g).1.map (·.side (!r)) = st.1.map (·.side (!r)) := by
  unfold giveStep
  split
  · dsimp only
    refine op_AAA (modify_same (r := r) (ls := st.1.modify g (Lf.grow r (-(if (‹Lf›).side r - 1 < st.2 then (‹Lf›).side r - 1 else st.2)))) (k := ti) (c := (if (‹Lf›).side r - 1 < st.2 then (‹Lf›).side r - 1 else st.2))) fun a b c d => ?_
    refine op_AAA (modify_same (r := r) (ls := st.1) (k := g) (c := -(if (‹Lf›).side r - 1 < st.2 then (‹Lf›).side r - 1 else st.2))) fun a' b' c' d' => ?_
    exact ⟨a.trans a', b.trans b', c.trans c', d.trans d'⟩
  · exact ⟨rfl, rfl, rfl, rfl⟩
theorem gives_same {r : Bool} {ti : Nat} {gs : List Nat} {st : List Lf × Int} : (gives r ti gs st).1.map (·.a) = st.1.map (·.a) ∧ (gives r ti gs st).1.map (·.dx) = st.1.map (·.dx) ∧ (gives r ti gs st).1.map (·.p) = st.1.map (·.p) ∧ (gives r ti gs st).1.map (·.side (!r)) = st.1.map (·.side (!r)) := by
  induction gs generalizing st with
  | nil => exact ⟨rfl, rfl, rfl, rfl⟩
  | cons g gs ih =>
    refine op_AAA (ih (st := giveStep r ti st g)) fun a b c d => ?_
    refine op_AAA (giveStep_same (r := r) (ti := ti) (g := g) (st := st)) fun a' b' c' d' => ?_
    exact ⟨a.trans a', b.trans b', c.trans c', d.trans d'⟩
theorem leaves_mod {H : AH} {ls : List Lf} {k : Nat} {l : Lf} {r : Bool} {c : Int} {o : AO} (h : Leaves H ls) (hk : ls[k]? = some l) (hl : LeafAt (H.set l.dx o) (l.grow r c)) : Leaves (H.set l.dx o) (ls.modify k (Lf.grow r c)) := by
  rw [modify_cut hk]
  exact leaves_step (by rw [← lot_cut hk]; exact h) grow_dx hl

theorem set_comm {H : AH} {I d : Addr} {o o' : AO} (hne : I ≠ d) : (H.set I o).set d o' = (H.set d o').set I o := by
  funext b
  unfold AH.set
  by_cases h1 : b = I
  · subst h1; simp [hne]
  · by_cases h2 : b = d
    · subst h2; simp [h1]
    · simp [h1, h2]
section
variable {prog : Program} {w : World} {A : Around} {E : Value → Shared → Prop} {z s : Shared} {B : Heap} {H : AH} {L : Addr} {O : List Addr} {m : Str → Option Value} {env : Env} {Q : Flow → Shared → Prop}

theorem resize_tail (S : St w z B H L O m s) (G : Gd w z) (hA : Rm 18 A) {l tk : Lf} {n : Nd} {gs : List Nat} {gl : List Lf} {ti : Nat} {P Gl : Addr} {c : Int} {tc : Tok}
    (gp : m "path" = some (.ref P)) (gg : m "givers" = some (.ref Gl)) (gt : m "taker" = some (.ref tk.a)) (gc : m "change" = some (.int c tc)) (gr : m "is_row" = some (.bool n.row))
    (hP : H P = some (.lst [.ref n.a, .ref l.a])) (hn : NodeAt H n) (hG : H Gl = some (.lst (gl.map fun l => .ref l.a))) (hti : n.ls[ti]? = some tk) (hlen : gl.length = gs.length) (hgs : ∀ (i : Nat) g, gs[i]? = some g → ∃ x, n.ls[g]? = some x ∧ gl[i]? = some x) (hz : n.ls.length ≤ 1000)
    (hb : ∀ x ∈ n.ls, B.get? x.dx = none) (hbn : B.get? n.dx = none)
    (q : ∀ H' n' s', LeX (n.dx :: n.ls.map (·.dx)) H H' → NodeAt H' n' → n'.row = n.row → n'.w = n.w → n'.h = n.h → n'.x = 0 → n'.y = 0 → n'.ls = (placeL n.row (gives n.row ti gs (n.ls, if c < 0 then -c else c)).1 (0, 0)).1 → ∀ m', St w z B H' L O m' s' → Q (.ret (.ref n'.a)) s') :
    wpAny (model prog w) A (execs ((bodyOf fd157.1).drop 6) (callEnv fd157.1 L 157)) Q E s := by
  have hn' := hn
  refine op_AAA hn.offs fun o1 o2 o3 _ => ?_
  show wpAny _ _ (execs [_, _, _] _) _ _ _
  refine r_stmt S (fun H' m' => H = H' ∧ ∃ t, m' = upd m "left" (.int (if c < 0 then -c else c) t)) ?_ ?_
  · refine hq fun Q21 k21 => ?_
    repeat walk1
    refine k21 _ _ ?_
    exact mk_AEEAAE rfl _ _ (by assumption) rfl _ rfl
  intro _ _ s1 S1 hp4
  refine op_AE hp4 fun ek1 tl ek2 => ?_
  try clear hp4
  subst ek1
  subst ek2
  clear S
  generalize (if c < 0 then -c else c) = c0 at S1 q
  refine r_stmt S1 (fun H' m' => m' "path" = some (.ref P) ∧ Leaves H' (gives n.row ti gs (n.ls, c0)).1 ∧ Out (n.ls.map (·.dx)) H H') ?_ ?_
  · have gGl : ∀ {d}, d ∈ n.ls.map (·.dx) → Gl ≠ d := by
      rintro d hd rfl
      refine op_EA (List.mem_map.mp hd) fun x hx e => ?_
      refine LeafAt.op (hn.2.2.2.1 x hx) fun _ _ _ _ _ _ _ g _ => ?_
      rw [e, hG] at g; cases g
    refine hq fun Q36 k36 => ?_
    repeat walk1
    rename St _ _ _ _ _ _ _ _ => S2
    refine r_forL hA.1 (fun i H1 m1 => ∃ t1, m1 "left" = some (.int (gives n.row ti (gs.take i) (n.ls, c0)).2 t1) ∧ m1 "taker" = some (.ref tk.a) ∧ m1 "is_row" = some (.bool n.row) ∧ m1 "path" = some (.ref P) ∧ Leaves H1 (gives n.row ti (gs.take i) (n.ls, c0)).1 ∧ Out (n.ls.map (·.dx)) H H1) S2 hG
      ⟨_, upd_self, by walk_at "hname", by walk_at "hname", by walk_at "hname", hn.leaves, Out.rfl⟩ (fun i H1 m1 h => ?_) ?_ ?_
    · refine op_EAAAAA h fun _ _ _ _ _ _ ho => ?_
      try clear h
      exact (ho _ fun hd => gGl hd rfl).trans hG
    · intro i v H1 m1 s3 I E3 hv hp8 hI hBI S3
      refine op_EAAAAA hp8 fun t1 f1 f2 f3 f4 f5 f6 => ?_
      try clear hp8
      refine map_op hv fun x0 hx0 => ?_
      try clear hv
      have hi : i < gs.length := by rw [← hlen]; exact (List.getElem?_eq_some_iff.mp hx0).1
      refine op_EA (hgs i gs[i] (List.getElem?_eq_getElem hi)) fun x0' hg1 hg2 => ?_
      rw [hx0] at hg2; cases hg2
      have htake : gs.take (i + 1) = gs.take i ++ [gs[i]] := by rw [List.take_add_one, List.getElem?_eq_getElem hi]; rfl
      have hstep : gives n.row ti (gs.take (i + 1)) (n.ls, c0) = giveStep n.row ti (gives n.row ti (gs.take i) (n.ls, c0)) gs[i] := by rw [htake]; unfold gives; rw [List.foldl_append]; rfl
      refine op_AAA (gives_same (r := n.row) (ti := ti) (gs := gs.take i) (st := (n.ls, c0))) fun e1 e2 e3 e4 => ?_
      rw [hstep]
      generalize gives n.row ti (gs.take i) (n.ls, c0) = st at *
      obtain ⟨cur, left⟩ := st
      dsimp only at f1 f5 e1 e2 e3 e4
      -- the giver and the taker as they stand
      have hgl : gs[i] < cur.length := by have h1 := congrArg List.length e1; simp at h1; have := (List.getElem?_eq_some_iff.mp hg1).1; lia
      obtain ⟨x, hx⟩ : ∃ x, cur[gs[i]]? = some x := ⟨_, List.getElem?_eq_getElem hgl⟩
      have hxa : x.a = x0.a := by
        have h1 : (cur.map (·.a))[gs[i]]? = some x.a := by simp [hx]
        rw [e1] at h1; simp [hg1] at h1; exact h1.symm
      have hxd : x.dx ∈ n.ls.map (·.dx) := by rw [← e2]; exact List.mem_map_of_mem (List.mem_of_getElem? hx)
      have hla := f5.1 x (List.mem_of_getElem? hx)
      have hla' : LeafAt (H1.set I (lit Gl (i + 1))) x := hla.mono (Le.set hI)
      refine r_asgName S3 (fun s4 S4 => ?_)
      clear S3 S2
      rw [← hxa] at S4
      have f1 := upd_nb (x := "giver") (v := .ref x.a) f1 rfl
      have f2 := upd_nb (x := "giver") (v := .ref x.a) f2 rfl
      have f3 := upd_nb (x := "giver") (v := .ref x.a) f3 rfl
      have f4 := upd_nb (x := "giver") (v := .ref x.a) f4 rfl
      have f0 : upd m1 "giver" (.ref x.a) "giver" = some (.ref x.a) := upd_self
      repeat walk1
      rename St _ _ _ _ _ _ _ _ => S5
      refine d_roomL S5 G (hA.lo rfl) hla' fun t3 s6 S6 => ?_
      clear S5
      repeat walk1
      rename St _ _ _ _ _ _ _ _ => S5
      refine d_changeL S5 G (hA.lo rfl) hla' (by obtain ⟨y, hy, e⟩ := List.mem_map.mp hxd; rw [← e]; exact hb y hy) fun o1 s7 hl1 S7 => ?_
      clear S5
      obtain ⟨y1, y2⟩ := turn_leaf hI hla grow_a grow_dx grow_pl hl1
      have hlv1 := leaves_mod f5 hx y2
      have hne1 : I ≠ x.dx := (hla.off hI).2.1
      rw [set_comm hne1] at S7
      have hK : (H1.set x.dx o1) I = none := set_ne hI hne1
      have hstep2 : giveStep n.row ti (cur, left) gs[i] = ((cur.modify gs[i] (Lf.grow n.row (-if x.side n.row - 1 < left then x.side n.row - 1 else left))).modify ti (Lf.grow n.row (if x.side n.row - 1 < left then x.side n.row - 1 else left)), left - if x.side n.row - 1 < left then x.side n.row - 1 else left) := by
        simp only [giveStep, hx]
      rw [hstep2]
      have hOut1 : Out (n.ls.map (·.dx)) H (H1.set x.dx o1) := f6.trans (Out.set hxd)
      clear hstep hstep2 y1 y2 hl1
      refine op_AAA (modify_same (r := n.row) (ls := cur) (k := gs[i]) (c := -if x.side n.row - 1 < left then x.side n.row - 1 else left)) fun z1 z2 z3 z4 => ?_
      generalize (if x.side n.row - 1 < left then x.side n.row - 1 else left) = many at *
      generalize cur.modify gs[i] (Lf.grow n.row (-many)) = cur1 at *
      generalize H1.set x.dx o1 = K at *
      have htl : ti < cur1.length := by
        have h1 := congrArg List.length z1
        have h2 := congrArg List.length e1
        simp at h1 h2
        have := (List.getElem?_eq_some_iff.mp hti).1
        lia
      obtain ⟨y, hy⟩ : ∃ y, cur1[ti]? = some y := ⟨_, List.getElem?_eq_getElem htl⟩
      have hya : y.a = tk.a := by
        have h1 : (cur1.map (·.a))[ti]? = some y.a := by simp [hy]
        rw [z1, e1] at h1; simp [hti] at h1; exact h1.symm
      have hyd : y.dx ∈ n.ls.map (·.dx) := by rw [← e2, ← z2]; exact List.mem_map_of_mem (List.mem_of_getElem? hy)
      have hly := hlv1.1 y (List.mem_of_getElem? hy)
      have hly' : LeafAt (K.set I (lit Gl (i + 1))) y := hly.mono (Le.set hK)
      rw [← hya] at f2
      repeat walk1
      rename St _ _ _ _ _ _ _ _ => S5
      refine d_changeL S5 G (hA.lo rfl) hly' (by obtain ⟨y', hy', e⟩ := List.mem_map.mp hyd; rw [← e]; exact hb y' hy') fun o2 s8 hl2 S8 => ?_
      clear S5
      obtain ⟨y1, y2⟩ := turn_leaf hK hly grow_a grow_dx grow_pl hl2
      repeat walk1
      refine mk_EEAAEAAAAA _ _ (by assumption) (set_ne set_self (hly.off hK).2.1) _ upd_self (by rw [← hya]; exact upd_nb (upd_ne f2 (by decide)) rfl) (upd_nb (upd_ne f3 (by decide)) rfl) (upd_nb (upd_ne f4 (by decide)) rfl) ?_ ?_
      · rw [y1]; exact leaves_mod hlv1 hy y2
      · rw [y1]; exact hOut1.trans (Out.set hyd)
    · intro H1 m1 s3 hp3 S3
      refine op_EAAAAA hp3 fun t1 f1 f2 f3 f4 f5 f6 => ?_
      refine k36 _ _ ?_
      try clear hp3
      rw [List.length_map, hlen, List.take_of_length_le (Nat.le_refl _)] at f5
      exact mk_AEEAAA rfl _ _ S3 f4 f5 f6
  intro H1 m1 s2 S2 hp4
  refine op_AA hp4 fun g1 g2 g3 => ?_
  try clear hp4
  clear S1
  refine op_AAA (gives_same (r := n.row) (ti := ti) (gs := gs) (st := (n.ls, c0))) fun e1 e2 e3 e4 => ?_
  dsimp only at e1 e2 e3 e4
  have hn2 := node_out hn g3 g2 e1
  have hP2 : H1 P = some (.lst [.ref n.a, .ref l.a]) := by
    refine (g3 _ fun hd => ?_).trans hP
    refine op_EA (List.mem_map.mp hd) fun x hx e => ?_
    refine LeafAt.op (hn.2.2.2.1 x hx) fun _ _ _ _ _ _ _ g _ => ?_
    rw [e, hP] at g; cases g
  repeat walk1
  rename St _ _ _ _ _ _ _ _ => S1
  have hl2 : (gives n.row ti gs (n.ls, c0)).1.length = n.ls.length := by simpa using congrArg List.length e1
  refine d_placedN (p := (0, 0)) (n := { n with ls := (gives n.row ti gs (n.ls, c0)).1 }) S1 G (hA.lo rfl) hn2 (by rw [hl2]; exact hz) hbn (fun y hy => ?_) fun H' s5 o5 hn5 S5 => ?_
  · have : y.dx ∈ n.ls.map (·.dx) := by rw [← e2]; exact List.mem_map_of_mem hy
    refine op_EA (List.mem_map.mp this) fun y' hy' e => ?_
    rw [← e]; exact hb y' hy'
  refine q H' { n with x := 0, y := 0, ls := (placeL n.row (gives n.row ti gs (n.ls, c0)).1 (0, 0)).1 } s5 ((LeX.out (g3.mono fun a ha => .tail _ ha)).trans (LeX.out (o5.mono ?_))) hn5 rfl rfl rfl rfl rfl rfl _ S5
  try dsimp only
  rw [e2]
  exact fun a ha => ha
end

/-! resize_pane, whole -/
noncomputable def bump (c : Int) (y : Int × Int) : Int × Int := (y.1, y.2 + c)
noncomputable def giveLot (ti : Nat) (st : List (Int × Int) × Int) (g : Nat) : List (Int × Int) × Int :=
  match st.1[g]? with
  | some x =>
    let many := if x.2 - 1 < st.2 then x.2 - 1 else st.2
    ((st.1.modify g (bump (-many))).modify ti (bump many), st.2 - many)
  | none => st
noncomputable def givesLot (ti : Nat) (gs : List Nat) (st : List (Int × Int) × Int) : List (Int × Int) × Int := gs.foldl (giveLot ti) st
theorem lotOf_modify {r : Bool} {ls : List Lf} {k : Nat} {c : Int} : lotOf r (ls.modify k (Lf.grow r c)) = (lotOf r ls).modify k (bump c) := by
  unfold lotOf
  cases h : ls[k]? with
  | none => rw [List.modify_eq_self (by simpa using h), List.modify_eq_self (by simpa using h)]
  | some l =>
    rw [modify_cut h, modify_cut (by simp [h] : (ls.map fun l => (l.p, l.side r))[k]? = some (l.p, l.side r))]
    simp [bump, Lf.grow, put_p, put_side]
theorem gives_lot {r : Bool} {ti : Nat} {gs : List Nat} {ls : List Lf} {c : Int} : lotOf r (gives r ti gs (ls, c)).1 = (givesLot ti gs (lotOf r ls, c)).1 := by
  induction gs generalizing ls c with
  | nil => rfl
  | cons g gs ih =>
    show lotOf r (gives r ti gs (giveStep r ti (ls, c) g)).1 = (givesLot ti gs (giveLot ti (lotOf r ls, c) g)).1
    cases h : ls[g]? with
    | none =>
      have h2 : (lotOf r ls)[g]? = none := by simpa [lotOf] using h
      simp only [giveStep, giveLot, h, h2]
      exact ih
    | some l =>
      have h2 := lotOf_at (r := r) h
      simp only [giveStep, giveLot, h, h2]
      rw [ih, lotOf_modify, lotOf_modify]
theorem total_modify {lot : List (Int × Int)} {k : Nat} {c : Int} (hk : k < lot.length) : total (lot.modify k (bump c)) = total lot + c := by
  have h := List.getElem?_eq_getElem hk
  have e := lot_cut h
  rw [modify_cut h]
  have : total lot = total (lot.take k ++ lot[k] :: lot.drop (k + 1)) := by rw [← e]
  rw [this, total_append, total_append, total_cons, total_cons]
  simp only [bump]
  lia
theorem givesLot_total {ti : Nat} {gs : List Nat} {lot : List (Int × Int)} {c : Int} (ht : ti < lot.length) : total (givesLot ti gs (lot, c)).1 = total lot ∧ (givesLot ti gs (lot, c)).1.length = lot.length := by
  induction gs generalizing lot c with
  | nil => exact ⟨rfl, rfl⟩
  | cons g gs ih =>
    show total (givesLot ti gs (giveLot ti (lot, c) g)).1 = total lot ∧ (givesLot ti gs (giveLot ti (lot, c) g)).1.length = lot.length
    cases h : lot[g]? with
    | none => simp only [giveLot, h]; exact ih ht
    | some x =>
      simp only [giveLot, h]
      have hg := (List.getElem?_eq_some_iff.mp h).1
      obtain ⟨a, b⟩ := ih (lot := (lot.modify g (bump (-(if x.2 - 1 < c then x.2 - 1 else c)))).modify ti (bump (if x.2 - 1 < c then x.2 - 1 else c))) (c := c - (if x.2 - 1 < c then x.2 - 1 else c)) (by simpa using ht)
      refine ⟨a.trans ?_, b.trans (by simp)⟩
      rw [total_modify (by simpa using ht), total_modify hg]
      lia
noncomputable def resizeLot (lot : List (Int × Int)) (k : Nat) (c : Int) : List (Int × Int) :=
  if lot.length < 2 then lot
  else (givesLot (if c > 0 then min k (lot.length - 2) else min k (lot.length - 2) + 1)
    (if c > 0 then (List.range (lot.length - (min k (lot.length - 2) + 1))).map (min k (lot.length - 2) + 1 + ·) else (List.range (min k (lot.length - 2) + 1)).map (min k (lot.length - 2) - ·))
    (lot, if c < 0 then -c else c)).1
section
variable {prog : Program} {w : World} {A : Around} {E : Value → Shared → Prop} {z s : Shared} {B : Heap} {H : AH} {L : Addr} {O : List Addr} {m : Str → Option Value} {env : Env} {Q : Value → Shared → Prop}

theorem resize_mid (S5 : St w z B H L O m s) {Q : Flow → Shared → Prop} (G : Gd w z) (hA : Rm 18 A) {n : Nd} {a : Nat} {c : Int} {tc tt : Tok} {P : Addr}
    (g1 : m "path" = some (.ref P)) (g2 : m "parts" = some (.ref n.pl)) (g3 : m "at" = some (.int (a : Int) tt)) (g4 : m "change" = some (.int c tc)) (g5 : m "is_row" = some (.bool n.row)) (hn : NodeAt H n) (hnz : n.ls.length ≤ 1000) (ha1 : a + 1 < n.ls.length)
    (last : ∀ (H2 : AH) (m6 : Str → Option Value) (s7 : Shared) (tk : Lf) (gl : List Lf) (gs : List Nat) (ti : Nat) (Gl : Addr), Le H H2 → St w z B H2 L O m6 s7 → m6 "path" = some (.ref P) → m6 "givers" = some (.ref Gl) → m6 "taker" = some (.ref tk.a) → m6 "change" = some (.int c tc) → m6 "is_row" = some (.bool n.row) →
        H2 Gl = some (.lst (gl.map fun l => .ref l.a)) → n.ls[ti]? = some tk → gl.length = gs.length → (∀ (i : Nat) g, gs[i]? = some g → ∃ x, n.ls[g]? = some x ∧ gl[i]? = some x) →
        ti = (if c > 0 then a else a + 1) → gs = (if c > 0 then (List.range (n.ls.length - (a + 1))).map (a + 1 + ·) else (List.range (a + 1)).map (a - ·)) →
        wpAny (model prog w) A (execs ((bodyOf fd157.1).drop 6) (callEnv fd157.1 L 157)) Q E s7) :
    wpAny (model prog w) A (execs ((bodyOf fd157.1).drop 5) (callEnv fd157.1 L 157)) Q E s := by
  refine NodeAt.op hn fun i1 u0 u1 u2 u3 u4 i2 i3 i4 i5 => ?_
  try clear hn
  show wpAny _ _ (execs [_, _, _, _] _) _ _ _
  refine r_stmt S5 (fun H2 m6 => Le H H2 ∧ m6 "path" = some (.ref P) ∧ m6 "change" = some (.int c tc) ∧ m6 "is_row" = some (.bool n.row) ∧ ∃ tk gl gs ti Gl, m6 "givers" = some (.ref Gl) ∧ m6 "taker" = some (.ref tk.a) ∧ H2 Gl = some (.lst ((gl : List Lf).map fun l => .ref l.a)) ∧ n.ls[ti]? = some tk ∧ gl.length = gs.length ∧ (∀ (i : Nat) g, gs[i]? = some g → ∃ x, n.ls[g]? = some x ∧ gl[i]? = some x) ∧ ti = (if c > 0 then a else a + 1) ∧ gs = (if c > 0 then (List.range (n.ls.length - (a + 1))).map (a + 1 + ·) else (List.range (a + 1)).map (a - ·))) ?_ ?_
  · refine hq fun Q71 k71 => ?_
    by_cases hc : c > 0
    · obtain ⟨tk, htk⟩ : ∃ tk, n.ls[a]? = some tk := ⟨_, List.getElem?_eq_getElem (by lia)⟩
      have htk' : (n.ls.map fun l => Value.ref l.a)[a]? = some (.ref tk.a) := by simp [htk]
      repeat walk1
      rename St _ _ _ _ _ _ _ _ => S6
      refine r_slice (ws := (n.ls.drop (a + 1)).map fun l => Value.ref l.a) (lo := some ((a : Int) + 1)) (hi := none) (st := none) S6 i3 (.int _ _) .none .none (by have := pick_from (n.ls.map fun l => Value.ref l.a) (a + 1); simpa using this) (by simp) (by rw [sizeLine_eq]; simp; (refine Nat.le_trans (by with_reducible assumption) ?_; exact Nat.le_of_ble_eq_true rfl)) (fun Gl s7 S7 nG bG => ?_) (by with_unfolding_all rfl) (by intro _; with_unfolding_all rfl)
      clear S6
      repeat walk1
      rename AH.set H Gl _ _ = none => nX
      rename St _ _ _ _ _ _ _ _ => S8
      refine r_asgTup2 S8 hA.1 set_self (fun s9 S9 => ?_)
      clear S8
      refine k71 _ _ ?_
      refine mk_AEEAAAAAEEEEEAAAAAAA rfl _ _ S9 ((Le.set nG).trans (Le.set nX)) (by walk_at "hname") (by walk_at "hname") (by walk_at "hname") tk (n.ls.drop (a + 1)) ((List.range (n.ls.length - (a + 1))).map (a + 1 + ·)) a Gl (by walk_at "hname") (by walk_at "hname") (set_new set_self nX) htk (by simp) (fun i g hg => ?_) (by rw [if_pos hc]) (by rw [if_pos hc])
      · refine map_op hg fun j hj => ?_
        try clear hg
        refine ce fun gl => ?_
        obtain ⟨hj1, hj2⟩ := List.getElem?_eq_some_iff.mp hj
        simp at hj1 hj2
        subst hj2
        refine gl ?_; clear gl
        have hlt : a + 1 + i < n.ls.length := by omega
        exact mk_EA (n.ls[a + 1 + i]) (List.getElem?_eq_getElem hlt) (by rw [List.getElem?_drop]; exact List.getElem?_eq_getElem hlt)
    · obtain ⟨tk, htk⟩ : ∃ tk, n.ls[a + 1]? = some tk := ⟨_, List.getElem?_eq_getElem (by omega)⟩
      have htk' : (n.ls.map fun l => Value.ref l.a)[a + 1]? = some (.ref tk.a) := by simp [htk]
      have hidx : (a : Int) + 1 = ((a + 1 : Nat) : Int) := by lia
      repeat walk1
      rename St _ _ _ _ _ _ _ _ => S6
      refine r_slice (ws := (n.ls.take (a + 1)).map fun l => Value.ref l.a) (lo := none) (hi := some ((a : Int) + 1)) (st := none) S6 i3 .none (.int _ _) .none (by have := pick_upto (n.ls.map fun l => Value.ref l.a) (a + 1); simpa using this) (by simp) (by rw [sizeLine_eq]; simp; (refine Nat.le_trans (by with_reducible assumption) ?_; exact Nat.le_of_ble_eq_true rfl)) (fun Gl0 s7 S7 nG0 bG0 => ?_) (by with_unfolding_all rfl) (by intro _; with_unfolding_all rfl)
      clear S6
      iterate 7 walk1
      rename St _ _ _ _ _ _ _ _ => S6
      refine kba_turn (value' := .Name "x" ⟨0, 0, 0, 0⟩) (fun _ => rfl) ?_
      refine r_slice (ws := ((n.ls.take (a + 1)).reverse).map fun l => Value.ref l.a) (lo := none) (hi := none) (st := some (-1)) S6 set_self .none .none (.int _ _) (by rw [pick_rev, List.map_reverse]) (by decide) (by rw [sizeLine_eq]; simp; grind) (fun Gl s7 S7 nG bG => ?_) (by with_unfolding_all rfl) (by intro _; with_unfolding_all rfl)
      clear S6
      repeat walk1
      rename AH.set (AH.set H Gl0 _) Gl _ _ = none => nX
      rename St _ _ _ _ _ _ _ _ => S8
      refine r_asgTup2 S8 hA.1 set_self (fun s9 S9 => ?_)
      clear S8
      refine k71 _ _ ?_
      refine mk_AEEAAAAAEEEEEAAAAAAA rfl _ _ S9 (((Le.set nG0).trans (Le.set nG)).trans (Le.set nX)) (by walk_at "hname") (by walk_at "hname") (by walk_at "hname") tk ((n.ls.take (a + 1)).reverse) ((List.range (a + 1)).map (a - ·)) (a + 1) Gl (by walk_at "hname") (by walk_at "hname") (set_new set_self nX) htk (by simp; lia) (fun i g hg => ?_) (by rw [if_neg hc]) (by rw [if_neg hc])
      · refine map_op hg fun j hj => ?_
        try clear hg
        refine ce fun gl => ?_
        obtain ⟨hj1, hj2⟩ := List.getElem?_eq_some_iff.mp hj
        simp at hj1 hj2
        subst hj2
        refine gl ?_; clear gl
        have hlt : a - i < n.ls.length := by grind
        refine mk_EA (n.ls[a - i]) (List.getElem?_eq_getElem hlt) ?_
        rw [List.getElem?_reverse (by simp; lia)]
        have e1 : (n.ls.take (a + 1)).length - 1 - i = a - i := by simp; grind
        rw [e1, List.getElem?_take_of_lt (by grind)]
        exact List.getElem?_eq_getElem hlt
  · intro H2 m6 s7 S7 hp4
    refine op_AAAAEEEEEAAAAAAA hp4 fun k2 q1 q4 q5 tk gl gs ti Gl q2 q3 q6 q7 q8 q9 q10 q11 => ?_
    try clear hp4
    exact last H2 m6 s7 tk gl gs ti Gl k2 S7 q1 q2 q3 q4 q5 q6 q7 q8 q9 q10 q11

theorem d_resizeNone (S : St w z B H L O m s) (G : Gd w z) (hA : Rm 20 A) {t : Tr} {p c : Int} {tp tc : Tok} {r : Bool}
    (ht : TrAt H t) (hp : ∀ x ∈ t.ls.map (·.p), x ≠ p) (q : ∀ s', St w z B H L O m s' → Q .none s') :
    wpAny (model prog w) A (call (.ref 157) [.ref t.a, .int p tp, .bool r, .int c tc]) Q E s := by
  refine enter' S G hA fd157 (binds := [("root", .ref t.a), ("pane", .int p tp), ("is_row", .bool r), ("change", .int c tc)]) [] ?_ noMs cd157 rfl (BindsTo.of_eq rfl) rfl rfl rfl rfl rfl
  intro A' B' L' s' E' hA' hM hB S'
  clear S
  refine hq fun Q135 k135 => ?_
  repeat walk1
  rename St _ _ _ _ _ _ _ _ => S1
  refine d_copy S1 G (hA'.lo rfl) ht fun t' s2 H1 le1 ht1 sd1 ow1 S2 => ?_
  clear S1
  repeat walk1
  rename St _ _ _ _ _ _ _ _ => S1
  refine d_path S1 G (hA'.lo rfl) ht1 (fun hn s3 S3 => ?_) fun k l1 P s3 hk hpl S3 hP bP => ?_
  · clear S1
    repeat walk1
    refine k135 _ _ ?_
    rename St _ _ _ _ _ _ _ _ => S1
    exact mk_EEA _ _ S1 (fun S => q _ (S.weaken le1))
  · exact absurd hpl (hp _ (by rw [← (same_len sd1).2]; exact List.mem_map_of_mem (List.mem_of_getElem? hk)))

theorem d_resize (S : St w z B H L O m s) (G : Gd w z) (hA : Rm 20 A) {t : Tr} {lot : List (Int × Int)} {ac : Int} {k : Nat} {p along c : Int} {tp tc : Tok} {r : Bool}
    (ht : TrAt H t) (hrow : Row r t lot ac) (hk : lot[k]? = some (p, along)) (hnd : (lot.map (·.1)).Nodup) (hz : lot.length ≤ 900)
    (qs : ∀ t' H' s', Le H H' → TrAt H' t' → Row r t' (resizeLot lot k c) ac → St w z B H' L O m s' → Q (.ref t'.a) s') :
    wpAny (model prog w) A (call (.ref 157) [.ref t.a, .int p tp, .bool r, .int c tc]) Q E s := by
  refine enter' S G hA fd157 (binds := [("root", .ref t.a), ("pane", .int p tp), ("is_row", .bool r), ("change", .int c tc)]) [] ?_ noMs cd157 rfl (BindsTo.of_eq rfl) rfl rfl rfl rfl rfl
  intro A' B' L' s' E' hA' hM hB S'
  clear S
  repeat walk1
  rename St _ _ _ _ _ _ _ _ => S1
  refine d_copy S1 G (hA'.lo rfl) ht fun t' s2 H1 le1 ht1 sd1 ow1 S2 => ?_
  clear S1
  have hrow1 := row_same hrow sd1
  have hlot1 := row_lot hrow1
  have hlen : t'.ls.length = lot.length := by rw [← hlot1]; simp [lotOf]
  obtain ⟨l, hl⟩ : ∃ l, t'.ls[k]? = some l := by
    have := (List.getElem?_eq_some_iff.mp hk).1
    exact ⟨_, List.getElem?_eq_getElem (by lia)⟩
  have hlk := lotOf_at (r := r) hl
  rw [hlot1, hk] at hlk
  simp only [Option.some.injEq, Prod.mk.injEq] at hlk
  obtain ⟨hlp, hls⟩ := hlk
  repeat walk1
  rename St _ _ _ _ _ _ _ _ => S1
  refine d_path S1 G (hA'.lo rfl) ht1 (fun hn => absurd hlp.symm (hn l (List.mem_of_getElem? hl))) fun k' l1 P s3 hk' hpl S3 hP bP => ?_
  clear S1
  have hkk : k' = k := nodup_at hnd (by rw [← hlot1]; rw [lotOf_at hk', hpl]) hk
  refine ce fun gl => ?_
  subst hkk
  rw [hl] at hk'
  cases hk'
  refine gl ?_; clear gl
  have done : ∀ (H' : AH) (t2 : Tr) (m' : Str → Option Value) (s' : Shared), Le H H' → TrAt H' t2 → Row r t2 (resizeLot lot k' c) ac → St w z B' H' L' (L :: O) m' s' → Lv w z B L O m B' L' Q (.ret (.ref t2.a)) s' :=
    fun H' t2 m' s' b c d S => ⟨_, _, S, fun S => qs _ _ _ b c d S⟩
  cases t' with
  | leaf l' =>
    simp only [Tr.ls, List.length_singleton] at hlen
    simp only [Tr.path] at S3
    have hrs : resizeLot lot k' c = lot := by unfold resizeLot; rw [if_pos (by lia)]
    have hll : l = l' := by simpa [Tr.ls] using List.mem_of_getElem? hl
    subst hll
    repeat walk1
    rename St _ _ _ _ _ _ _ _ => S1
    refine d_borderL S1 G (hA'.lo rfl) set_self fun s5 S5 => ?_
    clear S1
    repeat walk1
    rename St _ _ _ _ _ _ _ _ => S1
    exact done _ (.leaf l) _ _ (le1.trans (Le.set hP)) (LeafAt.mono ht1 (Le.set hP)) (by rw [hrs]; exact hrow1) S1
  | node n =>
    simp only [Tr.path, Tr.ls] at S3 hl hlen hlot1
    refine ce fun gl => ?_
    obtain ⟨hn, hnz⟩ := ht1
    refine op_AAAAAAAA hrow1 fun r1 r2 r3 r4 r5 r6 r7 r8 r9 => ?_
    try clear hrow1
    refine op_AAAAA ow1 fun w1 w2 w3 w4 w5 w6 => ?_
    try clear ow1
    have hn2 : NodeAt (H1.set P (.lst [.ref n.a, .ref l.a])) n := hn.mono (Le.set hP)
    subst r1
    refine gl ?_; clear gl
    repeat walk1
    rename St _ _ _ _ _ _ _ _ => S1
    refine d_borderN S1 G (hA'.lo rfl) set_self hn2 hl hnz fun T tt s5 S5 nT bT => ?_
    clear S1
    have hat : (if (n.ls.length : Int) - 2 < (k' : Int) then (n.ls.length : Int) - 2 else (k' : Int)) = ((min k' (n.ls.length - 2) : Nat) : Int) := by split <;> grind
    rw [hat] at S5
    repeat walk1
    rename St _ _ _ _ _ _ _ _ => S1
    refine r_asgTup2 S1 hA'.1 set_self (fun s6 S6 => ?_)
    clear S1
    replace S6 := S6.weaken (Le.set nT)
    refine ce fun gl => ?_
    obtain ⟨a, ha⟩ : ∃ a, a = min k' (n.ls.length - 2) := ⟨_, rfl⟩
    rw [← ha] at S6
    have ha1 : a + 1 < n.ls.length := by lia
    refine op_EAAAAA (⟨_, S6, rfl, rfl, rfl, rfl, rfl⟩ : ∃ m5, St w z B' (H1.set P (.lst [.ref n.a, .ref l.a])) L' (L :: O) m5 s6 ∧ m5 "path" = some (.ref P) ∧ m5 "parts" = some (.ref n.pl) ∧ m5 "at" = some (.int (a : Int) tt) ∧ m5 "change" = some (.int c tc) ∧ m5 "is_row" = some (.bool n.row)) fun m5 S5 g1 g2 g3 g4 g5 => ?_
    clear S6
    have hn2' := hn2
    refine NodeAt.op hn2 fun i1 u0 u1 u2 u3 u4 i2 i3 i4 i5 => ?_
    refine gl ?_; clear gl
    try clear hn2
    have hD : ∀ d ∈ n.dx :: n.ls.map (·.dx), H d = none := by
      intro d hd
      refine mem_cons_op hd ?_ fun d hd => ?_
      · exact w5
      · refine mem_op hd fun y hy => ?_
        exact (w1 y hy).2.1
    have h2l : ¬ lot.length < 2 := by lia
    have last : ∀ (H2 : AH) (m6 : Str → Option Value) (s7 : Shared) (tk : Lf) (gl : List Lf) (gs : List Nat) (ti : Nat) (Gl : Addr), Le (H1.set P (.lst [.ref n.a, .ref l.a])) H2 → St w z B' H2 L' (L :: O) m6 s7 → m6 "path" = some (.ref P) → m6 "givers" = some (.ref Gl) → m6 "taker" = some (.ref tk.a) → m6 "change" = some (.int c tc) → m6 "is_row" = some (.bool n.row) →
        H2 Gl = some (.lst (gl.map fun l => .ref l.a)) → n.ls[ti]? = some tk → gl.length = gs.length → (∀ (i : Nat) g, gs[i]? = some g → ∃ x, n.ls[g]? = some x ∧ gl[i]? = some x) → ti = (if c > 0 then a else a + 1) → gs = (if c > 0 then (List.range (n.ls.length - (a + 1))).map (a + 1 + ·) else (List.range (a + 1)).map (a - ·)) →
        wpAny (model prog w) A' (execs ((bodyOf fd157.1).drop 6) (callEnv fd157.1 L' 157)) (Lv w z B L O m B' L' Q) E' s7 := by
      intro H2 m6 s7 tk gl gs ti Gl k2 S7 q1 q2 q3 q4 q5 q6 q7 q8 q9 x1 x2
      have q10 : resizeLot lot k' c = (givesLot ti gs (lot, if c < 0 then -c else c)).1 := by rw [x1, x2]; unfold resizeLot; rw [if_neg h2l, ← hlen, ← ha]
      have q11 : ti < lot.length := by rw [x1]; split <;> grind
      refine resize_tail S7 G (hA'.lo rfl) q1 q2 q3 q4 q5 (k2 _ _ set_self) (hn2'.mono k2) q6 q7 q8 q9 hnz (fun y hy => (w1 y hy).1) w2 ?_
      intro H' n' s' lx hn5 p1 p2 p3 p4 p5 p6 m' S
      refine op_AAA (gives_same (r := n.row) (ti := ti) (gs := gs) (st := (n.ls, if c < 0 then -c else c))) fun v1 v2 v3 v4 => ?_
      dsimp only at v1 v2 v3 v4
      have hl3 : (gives n.row ti gs (n.ls, if c < 0 then -c else c)).1.length = n.ls.length := by simpa using congrArg List.length v1
      have hs : n'.side n.row = n.side n.row := by cases n.row <;> simp [Nd.side, p2, p3]
      have hs' : n'.side (!n.row) = n.side (!n.row) := by cases n.row <;> simp [Nd.side, p2, p3]
      refine done H' (.node n') m' s' (lx.le (le1.trans ((Le.set hP).trans k2)) hD) ⟨hn5, by rw [p6, placeL_len, hl3]; exact hnz⟩
        (row_placed' p1 p4 p5 p6 (by rw [hl3]; exact r2) (by rw [gives_lot, hlot1, q10]) ?_ (by rw [hs, q10, (givesLot_total q11).1, r6]) (by rw [hs', r7])) S
      intro y hy
      have : y.side (!n.row) ∈ n.ls.map (·.side (!n.row)) := by rw [← v4]; exact List.mem_map_of_mem hy
      refine op_EA (List.mem_map.mp this) fun y' hy' e => ?_
      rw [← e]; exact r4 y' hy'
    exact resize_mid S5 G (hA'.lo rfl) g1 g2 g3 g4 g5 hn2' hnz ha1 last
end

/-! resize_pane_to -/
section
variable {prog : Program} {w : World} {A : Around} {E : Value → Shared → Prop} {z s : Shared} {B : Heap} {H : AH} {L : Addr} {O : List Addr} {m : Str → Option Value} {env : Env} {Q : Value → Shared → Prop}
theorem d_resizeTo (S : St w z B H L O m s) (G : Gd w z) (hA : Rm 24 A) {t : Tr} {lot : List (Int × Int)} {ac : Int} {k : Nat} {p along side : Int} {tp ts : Tok} {r : Bool}
    (ht : TrAt H t) (hrow : Row r t lot ac) (hk : lot[k]? = some (p, along)) (hnd : (lot.map (·.1)).Nodup) (hz : lot.length ≤ 900)
    (qs : ∀ t' H' s', Le H H' → TrAt H' t' → Row r t' (resizeLot lot k (if k + 1 < lot.length then (if side > 1 then side else 1) - along else -((if side > 1 then side else 1) - along))) ac → St w z B H' L O m s' → Q (.ref t'.a) s') :
    wpAny (model prog w) A (call (.ref 164) [.ref t.a, .int p tp, .bool r, .int side ts]) Q E s := by
  refine enter' S G hA fd164 (binds := [("root", .ref t.a), ("pane", .int p tp), ("is_row", .bool r), ("side", .int side ts)]) [] ?_ noMs cd164 rfl (BindsTo.of_eq rfl) rfl rfl rfl rfl rfl
  intro A' B' L' s' E' hA' hM hB S'
  clear S
  have hlot1 := row_lot hrow
  have hlen : t.ls.length = lot.length := by rw [← hlot1]; simp [lotOf]
  obtain ⟨l, hl⟩ : ∃ l, t.ls[k]? = some l := by
    have := (List.getElem?_eq_some_iff.mp hk).1
    exact ⟨_, List.getElem?_eq_getElem (by lia)⟩
  have hlk := lotOf_at (r := r) hl
  rw [hlot1, hk] at hlk
  simp only [Option.some.injEq, Prod.mk.injEq] at hlk
  obtain ⟨hlp, hls⟩ := hlk
  refine hq fun Q19 k19 => ?_
  repeat walk1
  rename St _ _ _ _ _ _ _ _ => S1
  refine d_path S1 G (hA'.lo rfl) ht (fun hn => absurd hlp.symm (hn l (List.mem_of_getElem? hl))) fun k' l1 P s3 hk' hpl S3 hP bP => ?_
  clear S1
  have hkk : k' = k := nodup_at hnd (by rw [← hlot1]; rw [lotOf_at hk', hpl]) hk
  refine ce fun gl => ?_
  subst hkk
  rw [hl] at hk'
  cases hk'
  refine gl ?_; clear gl
  have hla : LeafAt (H.set P (.lst (t.path l))) l := (ht.leaves l (List.mem_of_getElem? hl)).mono (Le.set hP)
  cases t with
  | leaf l' =>
    simp only [Tr.ls, List.length_singleton] at hlen
    simp only [Tr.path] at S3 hla
    have hll : l = l' := by simpa [Tr.ls] using List.mem_of_getElem? hl
    subst hll
    have hrs : ∀ c, resizeLot lot k' c = lot := fun c => by unfold resizeLot; rw [if_pos (by lia)]
    repeat walk1
    rename St _ _ _ _ _ _ _ _ => S1
    refine d_borderL S1 G (hA'.lo rfl) set_self fun s5 S5 => ?_
    clear S1
    repeat walk1
    rename St _ _ _ _ _ _ _ _ => S1
    refine d_resize (t := .leaf l) S1 G (hA'.lo rfl) (TrAt.mono ht (Le.set hP)) hrow hk hnd hz fun t' H' s6 k6 ht6 hr6 S6 => ?_
    refine k19 _ _ ?_
    exact mk_EEA _ _ S6 (fun S => qs t' H' _ ((Le.set hP).trans k6) ht6 (by rw [hrs] at hr6 ⊢; exact hr6) S)
  | node n =>
    simp only [Tr.path, Tr.ls] at S3 hl hlen hlot1 hla
    refine ce fun gl => ?_
    obtain ⟨hn, hnz⟩ := ht
    refine op_AAAAAAAA (id hrow) fun r1 r2 r3 r4 r5 r6 r7 r8 r9 => ?_
    have hn2 : NodeAt (H.set P (.lst [.ref n.a, .ref l.a])) n := hn.mono (Le.set hP)
    subst r1
    refine gl ?_; clear gl
    repeat walk1
    rename St _ _ _ _ _ _ _ _ => S1
    refine d_borderN S1 G (hA'.lo rfl) set_self hn2 hl hnz fun T tt s5 S5 nT bT => ?_
    clear S1
    have hat : (if (n.ls.length : Int) - 2 < (k' : Int) then (n.ls.length : Int) - 2 else (k' : Int)) = ((min k' (n.ls.length - 2) : Nat) : Int) := by split <;> grind
    rw [hat] at S5
    refine ce fun gl => ?_
    obtain ⟨a, ha⟩ : ∃ a, a = min k' (n.ls.length - 2) := ⟨_, rfl⟩
    rw [← ha] at S5
    have ha1 : a + 1 < n.ls.length := by lia
    obtain ⟨tk, htk⟩ : ∃ tk, n.ls[a]? = some tk := ⟨_, List.getElem?_eq_getElem (by grind)⟩
    have htk' : (n.ls.map fun l => Value.ref l.a)[a]? = some (.ref tk.a) := by simp [htk]
    have hla2 : LeafAt ((H.set P (.lst [.ref n.a, .ref l.a])).set T (.tup [.ref n.pl, .int (a : Int) tt])) l := hla.mono (Le.set nT)
    refine LeafAt.op hla2 fun h1 t0 t1 t2 t3 t4 t5 h2 h3 => ?_
    try clear hla2
    have hn3 := hn2.mono (Le.set (o := .tup [.ref n.pl, .int (a : Int) tt]) nT)
    refine NodeAt.op hn3 fun i1 u0 u1 u2 u3 u4 i2 i3 i4 i5 => ?_
    refine gl ?_; clear gl
    try clear hn3
    repeat walk1
    rename St _ _ _ _ _ _ _ _ => S1
    refine d_pathL S1 G (hA'.lo rfl) (i4 tk (List.mem_of_getElem? htk)) (fun hne s6 S6 => ?_) (fun heq D s6 S6 nD bD => ?_)
    · clear S1
      repeat walk1
      rename St _ _ _ _ _ _ _ _ => S1
      have hw : (if n.row = true then l.w else l.h) = along := hls.symm
      rw [hw] at S1 ⊢
      have hka : ¬ k' + 1 < lot.length := fun q => by
        have : a = k' := by grind
        subst this
        rw [hl] at htk; cases htk
        exact hne hpl
      refine d_resize (t := .node n) S1 G (hA'.lo rfl) ⟨hn.mono ((Le.set hP).trans (Le.set nT)), hnz⟩ hrow hk hnd hz fun t' H' s7 k7 ht7 hr7 S7 => ?_
      refine k19 _ _ ?_
      exact mk_EEA _ _ S7 (fun S => qs t' H' _ (((Le.set hP).trans (Le.set nT)).trans k7) ht7 (by rw [if_neg hka]; exact hr7) S)
    · clear S1
      repeat walk1
      rename St _ _ _ _ _ _ _ _ => S1
      have hw : (if n.row = true then l.w else l.h) = along := hls.symm
      rw [hw] at S1 ⊢
      have hka : k' + 1 < lot.length := by
        have h1 := lotOf_at (r := n.row) htk
        rw [hlot1, heq] at h1
        have := nodup_at hnd h1 hk
        grind
      refine d_resize (t := .node n) S1 G (hA'.lo rfl) ⟨hn.mono (((Le.set hP).trans (Le.set nT)).trans (Le.set nD)), hnz⟩ hrow hk hnd hz fun t' H' s7 k7 ht7 hr7 S7 => ?_
      refine k19 _ _ ?_
      exact mk_EEA _ _ S7 (fun S => qs t' H' _ ((((Le.set hP).trans (Le.set nT)).trans (Le.set nD)).trans k7) ht7 (by rw [if_pos hka]; exact hr7) S)
end

/-! for over a tuple -/
noncomputable def tit (t : Addr) (i : Nat) : AO := .opq fun o => o.cls = .type "tuple_iterator" ∧ o.data = .fields #[.ref t, .int i 0]
section
variable {prog : Program} {w : World} {A : Around} {E : Value → Shared → Prop} {z s : Shared} {B : Heap} {H : AH} {L : Addr} {O : List Addr} {m : Str → Option Value} {env : Env}
theorem src_tup (I l : Addr) (vs : List Value) : Src prog w I vs.length (fun i v => vs[i]? = some v) (tit l) (fun H => H l = some (.tup vs)) where
  next := fun {z s B H L O m A Q E i} hh S hI hB hl hi q => by
    refine op_EA (S.real _ _ hI) fun ob g e => ?_
    refine wpAny_pyNext_tuple_item ⟨ob, g, e⟩ (S.isTup hl) (x := vs[i]) (by simp [hi]) fun h' hit hs => ?_
    refine op_EA hit fun ob' g' e' => ?_
    try clear hit
    exact q _ _ (by simp [hi]) (S.turnS (t := s.toks) hI hB (fun b o hb x => (hs.2 b hb).trans x) g' e')
  done := fun {z s B H L O m A Q E} hh S hI hB hl q => by
    refine op_EA (S.real _ _ hI) fun ob g e => ?_
    exact wpAny_pyNext_tuple_end hh ⟨ob, g, e⟩ (S.isTup hl) (by simp) fun h' he => q _ (S.lost (t := s.toks) hI hB fun b o hb x => he b o hb x)
  self := fun {z s B H L O m A Q E} hh S hI q => by
    refine op_EA (S.real _ _ hI) fun ob g e => ?_
    exact wpAny_pyIter_tupleiter (i := 0) ⟨ob, g, e⟩ q
  let' := fun {z s B H L O m A Q E i} target v S hI q => by
    refine op_EAA (S.real _ _ hI) fun ob g e1 e2 => ?_
    have main : wpAny (model prog w) A (do
        let (.ref r, .ref a) := ((Value.ref I, v) : Value × Value) | return
        let o ← load r
        match o.cls, o.data with
        | .type n, .fields vs =>
          if ["enumerate", "zip", "dict_itemiterator", "dict_reverseitemiterator", "odict_iterator", "itertools.zip_longest", "itertools.pairwise"].contains n && vs[0]? == some (rawInt a) then
            rule "for.unpacks-the-owned-tuple"
            updateField r 0 .none
        | _, _ => pure ()) Q E s := by
      cases v <;> first | exact wpAny_pure q | skip
      refine wpAny_bind (wpAny_load g ?_)
      rw [e1, e2]
      exact wpAny_pure q
    unfold letOwnedTupleGo
    split <;> first | exact main | exact wpAny_pure q

/-- .. over a tuple -/
theorem r_forT (hA : A.handled = none) {target : Expr} {body : List Stmt} {Q : Flow → Shared → Prop} {l : Addr} {vs : List Value}
    (J : Nat → AH → (Str → Option Value) → Prop) (S : St w z B H L O m s) (hl : H l = some (.tup vs)) (h0 : J 0 H m) (hfx : ∀ i H m, J i H m → H l = some (.tup vs))
    (turn : ∀ i v H1 m1 s1 I E', vs[i]? = some v → J i H1 m1 → H1 I = none → B.get? I = none → St w z B (H1.set I (tit l (i + 1))) L O m1 s1 →
      wpAny (model prog w) A (assign target env v) (fun _ s2 => wpAny (model prog w) A (execs body env) (TurnEnd w z B L O I (tit l (i + 1)) (J (i + 1)) Q) E' s2) E' s1)
    (done : ∀ H1 m1 s1, J vs.length H1 m1 → St w z B H1 L O m1 s1 → Q .next s1) :
    wpAny (model prog w) A (pyIter (.ref l)) (fun it s₂ => codeAny (model prog w) A (.forLoop target it body [] env) (fun r s' => match r with | .ok f => Q f s' | .error e => cameBackBy (model prog w) A env E e s') s₂) E s := by
  refine wpAny_pyIter_tuple (S.isTup hl) ?_
  refine op_AA (S.new (s' := { s with heap := s.heap.push { cls := .type "tuple_iterator", data := .fields #[.ref l, .int 0 0] } }) (o := tit l 0) (Heap.get?_none_of_le (Nat.le_refl _)) (fun b o e => Heap.get?_push_of_some _ e) ⟨rfl, rfl, rfl⟩ (Heap.get?_push_size _ rfl) ⟨rfl, rfl⟩) fun S1 n1 b1 => ?_
  exact r_loop (src_tup _ l vs) hA J S1 set_self b1 (by rw [del_set n1]; exact h0) (fun i H m o hJ hn => set_new (hfx i H m hJ) hn) (fun i v H1 m1 s1 E' hi hP hJ hn S' => turn i v H1 m1 s1 _ E' hP hJ hn b1 S')
    fun H1 m1 s1 hJ _ S' => done H1 m1 s1 hJ S'
end
/-! the rounds, of a lot -/
noncomputable def turnLot (x : Int × Int) (c : Int) : (Int × Int) × Int := if c > 0 then (bump 1 x, c - 1) else if c < 0 ∧ x.2 - 1 > 0 then (bump (-1) x, c + 1) else (x, c)
noncomputable def passLot : List (Int × Int) → Int → List (Int × Int) × Int
  | [], c => ([], c)
  | x :: lot, c => ((turnLot x c).1 :: (passLot lot (turnLot x c).2).1, (passLot lot (turnLot x c).2).2)
inductive RoundsLot : List (Int × Int) → Int → List (Int × Int) → Prop
  | done {lot : List (Int × Int)} : RoundsLot lot 0 lot
  | step {lot lot' : List (Int × Int)} {c : Int} : c ≠ 0 → RoundsLot (passLot lot c).1 (passLot lot c).2 lot' → RoundsLot lot c lot'
theorem turn_lot {r : Bool} {l : Lf} {c : Int} : ((turnL r l c).1.p, (turnL r l c).1.side r) = (turnLot (l.p, l.side r) c).1 ∧ (turnL r l c).2 = (turnLot (l.p, l.side r) c).2 := by
  unfold turnL turnLot
  by_cases h1 : c > 0
  · simp [h1, bump, Lf.grow, put_p, put_side]
  · by_cases h2 : c < 0 ∧ l.side r - 1 > 0
    · rw [if_neg h1, if_neg h1, if_pos h2, if_pos h2]; simp [bump, Lf.grow, put_p, put_side]
    · rw [if_neg h1, if_neg h1, if_neg h2, if_neg h2]; simp
theorem pass_lot {r : Bool} {ls : List Lf} {c : Int} : lotOf r (passL r ls c).1 = (passLot (lotOf r ls) c).1 ∧ (passL r ls c).2 = (passLot (lotOf r ls) c).2 := by
  induction ls generalizing c with
  | nil => exact ⟨rfl, rfl⟩
  | cons l ls ih =>
    obtain ⟨a, b⟩ := turn_lot (r := r) (l := l) (c := c)
    obtain ⟨i1, i2⟩ := ih (c := (turnL r l c).2)
    simp only [passL, lotOf, List.map_cons, passLot] at i1 i2 ⊢
    rw [← b]
    exact ⟨by rw [i1, a], i2⟩
theorem Rounds.lot {r : Bool} {ls ls' : List Lf} {c : Int} (h : Rounds r ls c ls') : RoundsLot (lotOf r ls) c (lotOf r ls') := by
  induction h with
  | done => exact .done
  | step hc _ ih => exact .step hc (by rw [pass_lot.1, pass_lot.2] at ih; exact ih)
theorem pass_total (lot : List (Int × Int)) (c : Int) : total (passLot lot c).1 = total lot + (c - (passLot lot c).2) ∧ (passLot lot c).1.length = lot.length := by
  induction lot generalizing c with
  | nil => simp [passLot]
  | cons x lot ih =>
    obtain ⟨i1, i2⟩ := ih (turnLot x c).2
    simp only [passLot, List.length_cons, i2, and_true]
    rw [total_cons, total_cons, i1]
    have : (turnLot x c).1.2 = x.2 + (c - (turnLot x c).2) := by
      unfold turnLot
      split
      · simp only [bump]; lia
      · split
        · simp only [bump]; lia
        · dsimp only; lia
    lia
theorem RoundsLot.total {lot lot' : List (Int × Int)} {c : Int} (h : RoundsLot lot c lot') : Mine.total lot' = Mine.total lot + c ∧ lot'.length = lot.length := by
  induction h with
  | done => exact ⟨by lia, rfl⟩
  | @step lot lot' c hc _ ih =>
    obtain ⟨a, b⟩ := pass_total lot c
    exact ⟨by lia, ih.2.trans b⟩

/-! fit_layout: one axis -/
noncomputable def Shape (r : Bool) (t : Tr) (lot : List (Int × Int)) (ac : Int) : Prop :=
  match t with
  | .leaf l => lotOf r [l] = lot ∧ l.side (!r) = ac
  | .node n => n.row = r ∧ 2 ≤ n.ls.length ∧ lotOf r n.ls = lot ∧ (∀ l ∈ n.ls, l.side (!r) = ac) ∧ n.side r = total lot ∧ n.side (!r) = ac
noncomputable def mx (v : Int) : Int := if v > 1 then v else 1
noncomputable def roomLot (lot : List (Int × Int)) : Int := (lot.map fun x => x.2 - 1).sum
noncomputable def chg (side t room : Int) : Int := if -room > side - t then -room else side - t
noncomputable def FitL (lot : List (Int × Int)) (side : Int) (lot' : List (Int × Int)) : Prop :=
  (lot.length = 1 → lot' = lot.map fun x => (x.1, mx side)) ∧ (2 ≤ lot.length → RoundsLot lot (chg side (total lot) (roomLot lot)) lot')
noncomputable def Tr.dxs : Tr → List Addr | .leaf l => [l.dx] | .node n => n.dx :: n.ls.map (·.dx)
theorem grow_p {r : Bool} {c : Int} {l : Lf} : (l.grow r c).p = l.p := put_p
theorem grow_sideN {r : Bool} {c : Int} {l : Lf} : (l.grow r c).side (!r) = l.side (!r) := put_sideN
theorem grow_sideN' {r : Bool} {c : Int} {l : Lf} : (l.grow (!r) c).side r = l.side r := by cases r <;> simp [Lf.grow, Lf.put, Lf.side]
theorem rounds_cross {r : Bool} {ls ls' : List Lf} {c : Int} (h : Rounds r ls c ls') : ls'.map (·.side (!r)) = ls.map (·.side (!r)) := by
  have turn : ∀ l c, (turnL r l c).1.side (!r) = l.side (!r) := fun l c => by
    unfold turnL
    split
    · exact grow_sideN
    · split
      · exact grow_sideN
      · rfl
  have pass : ∀ ls c, (passL r ls c).1.map (·.side (!r)) = ls.map (·.side (!r)) := fun ls => by
    induction ls with
    | nil => intro c; rfl
    | cons l ls ih => intro c; simp only [passL, List.map_cons, ih, turn]
  induction h with
  | done => rfl
  | step _ _ ih => exact ih.trans (pass _ _)
theorem roomLot_eq {r : Bool} {ls : List Lf} : roomLot (lotOf r ls) = room r ls := by simp [roomLot, lotOf, room, Function.comp_def]
theorem grow_mx {s side : Int} : s + chg side s (s - 1) = mx side := by unfold chg mx; split <;> split <;> lia
noncomputable def fitBody : List Stmt := forAt (bodyOf fd171.1) 1
section
variable {prog : Program} {w : World} {A : Around} {E : Value → Shared → Prop} {z s : Shared} {B : Heap} {H : AH} {L : Addr} {O : List Addr} {m : Str → Option Value} {env : Env} {Q : Flow → Shared → Prop}

theorem fit_body (S : St w z B H L O m s) (G : Gd w z) (hA : Rm 20 A) {t : Tr} {r q : Bool} {lot : List (Int × Int)} {ac side : Int} {ts : Tok}
    (gf : m "found" = some (.ref t.a)) (gr : m "is_row" = some (.bool q)) (gs : m "side" = some (.int side ts)) (ht : TrAt H t) (hB : ∀ d ∈ t.dxs, B.get? d = none) (hsh : Shape r t lot ac) (hpos : ∀ x ∈ lot, 1 ≤ x.2) (hac : 1 ≤ ac)
    (k : ∀ H' t' s' v, t'.a = t.a → t'.dxs = t.dxs → LeX t.dxs H H' → TrAt H' t' → (if q = r then ∃ lot', FitL lot side lot' ∧ Shape r t' lot' ac else Shape r t' lot (mx side)) → St w z B H' L O (upd m "change" v) s' → Q .next s') :
    wpAny (model prog w) A (execs fitBody (callEnv fd171.1 L 171)) Q E s := by
  show wpAny _ _ (execs [_, _] _) _ _ _
  cases t with
  | leaf l =>
    have hl : LeafAt H l := ht
    change m "found" = some (.ref l.a) at gf
    repeat walk1
    rename St _ _ _ _ _ _ _ _ => S1
    refine d_roomL S1 G (hA.lo rfl) hl fun t2 s2 S2 => ?_
    clear S1
    repeat walk1
    rename St _ _ _ _ _ _ _ _ => S1
    refine d_changeL S1 G (hA.lo rfl) hl (hB _ (.head _)) fun o s3 hl3 S3 => ?_
    clear S1
    repeat walk1
    have hc : l.side q + (if -(l.side q - 1) > side - l.side q then -(l.side q - 1) else side - l.side q) = mx side := grow_mx
    obtain ⟨h1, h2⟩ := hsh
    refine k _ (.leaf (l.grow q _)) _ _ grow_a (by simp [Tr.dxs, grow_dx]) (LeX.set (.head _)) hl3 ?_ (by assumption)
    split
    · rename_i hq
      clear k
      subst hq
      refine mk_EAA _ ⟨fun _ => rfl, fun h => by rw [← h1] at h; simp [lotOf] at h⟩ ?_ (grow_sideN.trans h2)
      rw [← h1]
      simp only [lotOf, List.map_cons, List.map_nil, grow_p, grow_side, hc]
    · rename_i hq
      have hq' : q = !r := bnot_of hq
      clear k
      subst hq'
      refine ⟨?_, by rw [grow_side, hc]⟩
      rw [← h1]
      simp only [lotOf, List.map_cons, List.map_nil, grow_p, grow_sideN']
  | node n =>
    obtain ⟨hn, hz⟩ := ht
    have hn' := hn
    refine NodeAt.op hn fun h1 t0 t1 t2 t3 t4 h2 h3 h4 h5 => ?_
    try clear hn
    refine op_AAAAA hsh fun r1 r2 r3 r4 r5 r6 => ?_
    try clear hsh
    change m "found" = some (.ref n.a) at gf
    repeat walk1
    rename St _ _ _ _ _ _ _ _ => S1
    refine d_roomN S1 G (hA.lo rfl) hn' hz (by lia) fun R t2 s2 hR S2 => ?_
    clear S1
    repeat walk1
    rename St _ _ _ _ _ _ _ _ => S1
    have hpl : ∀ l ∈ n.ls, 1 ≤ l.side r := fun l hl => hpos (l.p, l.side r) (by rw [← r3]; exact List.mem_map_of_mem (f := fun l : Lf => (l.p, l.side r)) hl)
    change St w z B H L O (upd m "change" (.int (chg side (n.side q) R) _)) _ at S1
    show wpAny _ _ (call (.ref 107) [.ref n.a, .bool q, .int (chg side (n.side q) R) _]) _ _ _
    refine d_changeN S1 G (hA.lo rfl) hn' hz (hB _ (.head _)) (fun l hl => hB _ (.tail _ (List.mem_map_of_mem hl))) (fun hq => ?_) fun H' ls' s3 o3 hn3 hr3 S3 => ?_
    · clear k
      subst hq
      simp only [RoomIs, if_true] at hR
      have hrm : 0 ≤ R := by rw [hR]; exact room_nonneg (fun l hl => by rw [r1]; exact hpl l hl)
      by_cases hc0 : 0 ≤ chg side (n.side n.row) R
      · exact .inl ⟨hc0, fun e => by rw [e] at r2; simp at r2⟩
      · refine .inr ⟨by lia, ?_, fun l hl => by rw [r1]; exact hpl l hl⟩
        show -chg side (n.side n.row) R ≤ room n.row n.ls
        unfold room
        rw [← hR]
        unfold chg
        split <;> lia
    clear S1
    repeat walk1
    refine op_AAAAAAAA (nput_same q (n.side q + chg side (n.side q) R) n) fun e1 e2 e3 e4 e5 e6 e7 e8 e9 => ?_
    rename St _ _ _ _ _ _ _ _ => S1
    have hRe : q = r → R = roomLot lot := fun hq => by
      clear k
      subst hq
      simp only [RoomIs, r1, if_true] at hR
      rw [hR, ← r3, roomLot_eq]; rfl
    have hdx : n.dx :: ls'.map (·.dx) = n.dx :: n.ls.map (·.dx) := by
      split at hr3
      · rw [hr3.same.2.1]
      · rw [hr3]; simp [Function.comp_def, grow_dx]
    have hln : ls'.length = n.ls.length := by have := congrArg List.length hdx; simpa using this
    refine k H' (.node { n.put q (n.side q + chg side (n.side q) R) with ls := ls' }) _ _ e1 (by show (n.put q _).dx :: ls'.map (·.dx) = _; rw [e2]; exact hdx) (LeX.out o3) ⟨hn3, by show ls'.length ≤ 1000; lia⟩ ?_ S1
    by_cases hq : q = r
    · rw [if_pos hq]
      have hR' := hRe hq
      clear k
      subst hq
      rw [if_pos r1] at hr3
      have hrl := hr3.lot
      rw [r3, r5, hR'] at hrl
      have htl := hrl.total.1
      refine mk_EAAAAAA _ ⟨fun h => by rw [← r3] at h; simp [lotOf] at h; lia, fun _ => hrl⟩ (e4.trans r1) (by show 2 ≤ ls'.length; lia) rfl ?_ ?_ ?_
      · intro y hy
        have : y.side (!q) ∈ n.ls.map (·.side (!q)) := by rw [← rounds_cross hr3]; exact List.mem_map_of_mem hy
        refine op_EA (List.mem_map.mp this) fun y' hy' e => ?_
        rw [← e]; exact r4 y' hy'
      · show (n.put q _).side q = _
        rw [e8, r5, hR', htl]
      · show (n.put q _).side (!q) = _
        rw [e9, r6]
    · rw [if_neg hq]
      have hq' : q = !r := bnot_of hq
      have hne : ¬ n.row = q := fun e => hq (e.symm.trans r1)
      rw [if_neg hne] at hr3
      subst hr3
      subst hq'
      have hRm : R = ac - 1 := by
        simp only [RoomIs, if_neg hne] at hR
        refine op_EA (List.mem_map.mp hR.1) fun l hl e => ?_
        rw [← e, r4 l hl]
      have hc : n.side (!r) + chg side (n.side (!r)) R = mx side := by rw [hRm, r6]; exact grow_mx
      refine ⟨e4.trans r1, by simpa using r2, ?_, ?_, ?_, ?_⟩
      · rw [← r3]; simp [lotOf, Function.comp_def, grow_p, grow_sideN']
      · intro y hy
        refine op_EA (List.mem_map.mp hy) fun y' hy' ek1 => ?_
        subst ek1
        rw [grow_side, r4 y' hy', ← r6, hc]
      · show (n.put (!r) _).side r = _
        rw [← r5]; cases r <;> simp [Nd.put, Nd.side]
      · show (n.put (!r) _).side (!r) = _
        rw [e8, hc]
end

/-! fit_layout -/
theorem leafAt_del {H : AH} {I : Addr} {P : Obj → Prop} {l : Lf} (h : LeafAt H l) (hI : H I = some (.opq P)) : LeafAt (H.del I) l := by
  refine LeafAt.op h fun a t0 t1 t2 t3 t4 t5 b c => ?_
  try clear h
  exact ⟨del_ne a (by rintro e; rw [e, hI] at a; cases a), ⟨t0, t1, t2, t3, t4, t5, del_ne b (by rintro e; rw [e, hI] at b; cases b)⟩, del_ne c (by rintro e; rw [e, hI] at c; cases c)⟩
theorem trAt_del {H : AH} {I : Addr} {P : Obj → Prop} {t : Tr} (h : TrAt H t) (hI : H I = some (.opq P)) : TrAt (H.del I) t := by
  cases t with
  | leaf l => exact leafAt_del h hI
  | node n =>
    refine op_A h fun hq1 hz => ?_
    try clear h
    refine NodeAt.op hq1 fun a t0 t1 t2 t3 t4 b c d e => ?_
    try clear hq1
    exact ⟨⟨del_ne a (by rintro e; rw [e, hI] at a; cases a), ⟨t0, t1, t2, t3, t4, del_ne b (by rintro e; rw [e, hI] at b; cases b)⟩, del_ne c (by rintro e; rw [e, hI] at c; cases c), fun l hl => leafAt_del (d l hl) hI, e⟩, hz⟩
theorem TrAt.dx_cd {H : AH} {t : Tr} (h : TrAt H t) : ∀ d ∈ t.dxs, ∃ k w h' x y p n, H d = some (.cd k w h' x y p n) := by
  cases t with
  | leaf l =>
    refine op_AA h fun _ hq2 _ => ?_
    try clear h
    refine op_EEEEEE hq2 fun _ _ _ _ _ _ g => ?_
    try clear hq2
    intro d hd; rw [List.mem_singleton.mp hd]; exact ⟨_, _, _, _, _, _, _, g⟩
  | node n =>
    refine op_A h fun hq3 _ => ?_
    try clear h
    refine NodeAt.op hq3 fun _ _ _ _ _ _ g _ h4 _ => ?_
    try clear hq3
    intro d hd
    refine mem_cons_op hd ?_ fun d hd => ?_
    · exact mk_EEEEEEE _ _ _ _ _ _ _ g
    · refine mem_op hd fun l hl => ?_
      refine LeafAt.op (h4 l hl) fun _ _ _ _ _ _ _ g _ => ?_
      exact mk_EEEEEEE _ _ _ _ _ _ _ g
theorem roundsLot_pos {lot lot' : List (Int × Int)} {c : Int} (h : RoundsLot lot c lot') (hp : ∀ x ∈ lot, 1 ≤ x.2) : ∀ x ∈ lot', 1 ≤ x.2 := by
  have pass : ∀ (lot : List (Int × Int)) (c : Int), (∀ x ∈ lot, 1 ≤ x.2) → ∀ x ∈ (passLot lot c).1, 1 ≤ x.2 := fun lot => by
    induction lot with
    | nil => intro c h; exact h
    | cons y lot ih =>
      intro c h x hx
      refine mem_cons_op hx ?_ fun x hx => ?_
      · have hy := h y (.head _)
        unfold turnLot
        split
        · simp only [bump]; lia
        · split
          · simp only [bump]; lia
          · exact hy
      · exact ih _ (fun z hz => h z (.tail _ hz)) x hx
  induction h with
  | done => exact hp
  | step _ _ ih => exact ih (pass _ _ hp)
theorem mx_pos (v : Int) : 1 ≤ mx v := by unfold mx; split <;> lia
theorem FitL.pos {lot lot' : List (Int × Int)} {side : Int} (h : FitL lot side lot') (hl : 1 ≤ lot.length) (hp : ∀ x ∈ lot, 1 ≤ x.2) : ∀ x ∈ lot', 1 ≤ x.2 := by
  by_cases h1 : lot.length = 1
  · rw [h.1 h1]
    intro x hx
    refine mem_op hx fun y _ => ?_
    exact mx_pos side
  · exact roundsLot_pos (h.2 (by lia)) hp
theorem shape_len {r : Bool} {t : Tr} {lot : List (Int × Int)} {ac : Int} (h : Shape r t lot ac) : lot.length = t.ls.length ∧ 1 ≤ lot.length := by
  cases t with
  | leaf l => rw [← h.1]; exact ⟨rfl, by simp [lotOf]⟩
  | node n => rw [← h.2.2.1]; exact ⟨by simp [lotOf, Tr.ls], by simp [lotOf]; have := h.2.1; lia⟩
theorem Row.shape {r : Bool} {t : Tr} {lot : List (Int × Int)} {ac : Int} (h : Row r t lot ac) : Shape r t lot ac := by
  cases t with
  | leaf l => exact ⟨h.1, h.2.1⟩
  | node n => obtain ⟨a, b, c, d, _, e, f, _⟩ := h; exact ⟨a, b, c, d, e, f⟩
noncomputable def Ph (r : Bool) (lot : List (Int × Int)) (ac width height : Int) : Nat → List (Int × Int) → Int → Prop
  | 0, l, a => l = lot ∧ a = ac
  | 1, l, a => if r then FitL lot width l ∧ a = ac else l = lot ∧ a = mx width
  | _, l, a => if r then FitL lot width l ∧ a = mx height else FitL lot height l ∧ a = mx width
theorem own_dxs {B : Heap} {H : AH} {t : Tr} (h : Own B H t) : ∀ d ∈ t.dxs, B.get? d = none ∧ H d = none := by
  cases t with
  | leaf l => intro d hd; rw [List.mem_singleton.mp hd]; exact ⟨h.1, h.2.1⟩
  | node n =>
    refine op_AAAAA h fun w1 w2 w3 w4 w5 w6 => ?_
    try clear h
    intro d hd
    refine mem_cons_op hd ?_ fun d hd => ?_
    · exact ⟨w2, w5⟩
    · refine mem_op hd fun y hy => ?_
      exact ⟨(w1 y hy).1, (w1 y hy).2.1⟩
section
variable {prog : Program} {w : World} {A : Around} {E : Value → Shared → Prop} {z s : Shared} {B : Heap} {H : AH} {L : Addr} {O : List Addr} {m : Str → Option Value} {env : Env} {Q : Value → Shared → Prop}
theorem d_placed0 (S : St w z B H L O m s) (G : Gd w z) (hA : Rm 10 A) {t : Tr} {r : Bool} {lot : List (Int × Int)} {ac : Int} {tx ty : Tok} (ht : TrAt H t) (hB : ∀ d ∈ t.dxs, B.get? d = none) (hsh : Shape r t lot ac)
    (q : ∀ H' t' s', t'.a = t.a → LeX t.dxs H H' → TrAt H' t' → Row r t' lot ac → St w z B H' L O m s' → Q (.ref t.a) s') :
    wpAny (model prog w) A (call (.ref 114) [.ref t.a, .int 0 tx, .int 0 ty]) Q E s := by
  cases t with
  | leaf l => exact d_placedL (p := (0, 0)) S G (hA.lo rfl) ht (hB _ (.head _)) fun o s' h S' => q _ (.leaf (l.to (0, 0))) s' rfl (LeX.set (.head _)) h ⟨hsh.1, hsh.2, rfl, rfl⟩ S'
  | node n =>
    refine op_AAAAA hsh fun r1 r2 r3 r4 r5 r6 => ?_
    try clear hsh
    refine d_placedN (p := (0, 0)) S G hA ht.1 ht.2 (hB _ (.head _)) (fun l hl => hB _ (.tail _ (List.mem_map_of_mem hl))) fun H' s' o h S' => q H' (.node { n with x := 0, y := 0, ls := (placeL n.row n.ls (0, 0)).1 }) s' rfl (LeX.out o) ⟨h, by show (placeL n.row n.ls (0, 0)).1.length ≤ 1000; rw [placeL_len]; exact ht.2⟩ ?_ S'
    exact row_placed' r1 rfl rfl (by rw [r1]) r2 r3 r4 r5 r6

theorem d_fit (S : St w z B H L O m s) (G : Gd w z) (hA : Rm 24 A) {t : Tr} {lot : List (Int × Int)} {ac width height : Int} {tw th : Tok} {r : Bool}
    (ht : TrAt H t) (hrow : Row r t lot ac) (hpos : ∀ x ∈ lot, 1 ≤ x.2) (hac : 1 ≤ ac)
    (qs : ∀ t' H' s' lot' ac', Ph r lot ac width height 2 lot' ac' → Le H H' → TrAt H' t' → Row r t' lot' ac' → St w z B H' L O m s' → Q (.ref t'.a) s') :
    wpAny (model prog w) A (call (.ref 171) [.ref t.a, .int width tw, .int height th]) Q E s := by
  refine enter' S G hA fd171 (binds := [("root", .ref t.a), ("width", .int width tw), ("height", .int height th)]) [] ?_ noMs cd171 rfl (BindsTo.of_eq rfl) rfl rfl rfl rfl rfl
  intro A' B' L' s' E' hA' hM hB S'
  clear S
  refine hq fun Q105 k105 => ?_
  repeat walk1
  rename St _ _ _ _ _ _ _ _ => S1
  refine d_copy S1 G (hA'.lo rfl) ht fun t' s2 H1 le1 ht1 sd1 ow1 S2 => ?_
  clear S1
  have hrow1 := row_same hrow sd1
  have hod := own_dxs ow1
  repeat walk1
  rename_i s0 T1 s1 n1 b1 T2 s2' n2 b2 T s3 S3 n3 b3
  obtain ⟨HT, hHT⟩ : ∃ HT, HT = (((H1.set T1 (.tup [.bool true, .int width tw])).set T2 (.tup [.bool false, .int height th])).set T (.tup [.ref T1, .ref T2])) := ⟨_, rfl⟩
  have k0 : Le H1 HT := by rw [hHT]; exact ((Le.set n1).trans (Le.set n2)).trans (Le.set n3)
  have hT : HT T = some (.tup [.ref T1, .ref T2]) := by rw [hHT]; exact set_self
  have hT1 : HT T1 = some (.tup [.bool true, .int width tw]) := by rw [hHT]; exact set_new (set_new set_self n2) n3
  have hT2 : HT T2 = some (.tup [.bool false, .int height th]) := by rw [hHT]; exact set_new set_self n3
  rw [← hHT] at S3
  clear hHT n1 n2 n3
  refine r_forT hA'.1 (fun i H2 m2 => ∃ t2 lot2 ac2, t2.a = t'.a ∧ t2.dxs = t'.dxs ∧ LeX t'.dxs HT H2 ∧ TrAt H2 t2 ∧ Shape r t2 lot2 ac2 ∧ Ph r lot ac width height i lot2 ac2 ∧ (∀ x ∈ lot2, 1 ≤ x.2) ∧ 1 ≤ ac2 ∧ m2 "found" = some (.ref t'.a)) S3 hT
    ⟨t', lot, ac, rfl, rfl, LeX.of Le.rfl, ht1.mono k0, hrow1.shape, ⟨rfl, rfl⟩, hpos, hac, rfl⟩ (fun i H2 m2 h => ?_) ?_ ?_
  · refine op_EEEAAA h fun t2 _ _ _ hd hx _ => ?_
    try clear h
    refine hx _ _ (fun q => ?_) hT
    refine op_EEEEEEE ((ht1.mono k0).dx_cd _ q) fun _ _ _ _ _ _ _ g => ?_
    rw [hT] at g; cases g
  · intro i v H2 m2 s4 I E3 hv hp8 hI hBI S4
    refine op_EEEAAAAAAAA hp8 fun t2 lot2 ac2 e1 e2 hx ht2 hsh hph hp2 ha2 g1 => ?_
    try clear hp8
    have tupOk : ∀ a vs, HT a = some (.tup vs) → (H2.set I (tit T (i + 1))) a = some (.tup vs) := fun a vs h => by
      refine set_new (hx _ _ (fun q => ?_) h) hI
      refine op_EEEEEEE ((ht1.mono k0).dx_cd _ q) fun _ _ _ _ _ _ _ g => ?_
      rw [h] at g; cases g
    suffices key : ∃ q side tk Ta, v = .ref Ta ∧ HT Ta = some (.tup [.bool q, .int side tk]) ∧ ∀ lot3 ac3, (if q = r then FitL lot2 side lot3 ∧ ac3 = ac2 else lot3 = lot2 ∧ ac3 = mx side) → Ph r lot ac width height (i + 1) lot3 ac3 by
      refine op_EEEEAA key fun q side tk Ta ek7 hTa hnext => ?_
      try clear key
      subst ek7
      refine r_asgTup2 S4 hA'.1 (tupOk _ _ hTa) (fun s5 S5 => ?_)
      clear S4 S3
      have ht2' : TrAt (H2.set I (tit T (i + 1))) t2 := ht2.mono (Le.set hI)
      refine fit_body (q := q) S5 G (hA'.lo rfl) (by rw [e1]; exact upd_nb (upd_ne g1 (by decide)) rfl) (upd_nb upd_self rfl) upd_self ht2' (fun d hd => (hod d (by rw [← e2]; exact hd)).1) hsh hp2 ha2 fun H' t3 s6 v3 a3 d3 x3 ht3 hs3 S6 => ?_
      have hId : I ∉ t2.dxs := fun q => by
        refine op_EEEEEEE (ht2.dx_cd _ q) fun _ _ _ _ _ _ _ g => ?_
        rw [hI] at g; cases g
      have hI' : H' I = some (tit T (i + 1)) := x3 _ _ hId set_self
      refine mk_EEAA H' _ S6 hI' ?_
      have hx' : LeX t'.dxs HT (H'.del I) := fun a o ha e => by
        have h1 := hx a o ha e
        have hne : a ≠ I := by first | exact ne_sn h1 hI | exact ne_ns h1 hI | exact ne_sn hI h1 | exact ne_ns hI h1
        exact del_ne (x3 a o (by rw [e2]; exact ha) (set_ne h1 hne)) hne
      have ht3' := trAt_del ht3 hI'
      have hf : upd (upd (upd m2 "is_row" (.bool q)) "side" (.int side tk)) "change" v3 "found" = some (.ref t'.a) := upd_ne (upd_nb (upd_ne g1 (by decide)) rfl) (by decide)
      by_cases hq : q = r
      · rw [if_pos hq] at hs3
        refine op_EA hs3 fun lot3 f3 sh3 => ?_
        try clear hs3
        exact mk_EEEAAAAAAAA t3 lot3 ac2 (a3.trans e1) (d3.trans e2) hx' ht3' sh3 (hnext _ _ (by rw [if_pos hq]; exact ⟨f3, rfl⟩)) (f3.pos (shape_len hsh).2 hp2) ha2 hf
      · rw [if_neg hq] at hs3
        exact mk_EEEAAAAAAAA t3 lot2 (mx side) (a3.trans e1) (d3.trans e2) hx' ht3' hs3 (hnext _ _ (by rw [if_neg hq]; exact ⟨rfl, rfl⟩)) hp2 (mx_pos side) hf
    match i, hv with
    | 0, hv =>
      simp at hv
      subst hv
      obtain ⟨rfl, rfl⟩ := hph
      refine mk_EEEEAA true width tw T1 rfl hT1 (fun lot3 ac3 h => ?_)
      cases r
      · simpa [Ph] using h
      · simpa [Ph] using h
    | 1, hv =>
      simp at hv
      subst hv
      refine mk_EEEEAA false height th T2 rfl hT2 (fun lot3 ac3 h => ?_)
      cases r
      · simp only [Ph, Bool.false_eq_true, if_false, if_true] at hph h ⊢
        obtain ⟨rfl, rfl⟩ := hph
        exact h
      · simp only [Ph, Bool.false_eq_true, if_false, if_true] at hph h ⊢
        obtain ⟨h1, rfl⟩ := hph
        obtain ⟨rfl, rfl⟩ := h
        exact ⟨h1, rfl⟩
    | k + 2, hv => simp at hv
  · intro H2 m2 s4 hp3 S4
    refine op_EEEAAAAAAAA hp3 fun t2 lot2 ac2 e1 e2 hx ht2 hsh hph hp2 ha2 g1 => ?_
    try clear hp3
    try dsimp only
    repeat walk1
    rename St _ _ _ _ _ _ _ _ => S5
    rw [← e1]
    refine d_placed0 S5 G (hA'.lo rfl) ht2 (fun d hd => (hod d (by rw [← e2]; exact hd)).1) hsh fun H5 t5 s5 e5 x5 ht5 hr5 S6 => ?_
    refine k105 _ _ ?_
    rw [← e5]
    refine mk_EEA _ _ S6 (fun S => qs t5 H5 _ lot2 ac2 hph ?_ ht5 hr5 S)
    rw [e2] at x5
    exact (hx.trans x5).le (le1.trans k0) fun d hd => (hod d hd).2
end

/-! data compared -/
mutual
inductive HDat (H : AH) : Value → Dat → Prop
  | none : HDat H .none .none
  | int (i : Int) (t : Tok) : HDat H (.int i t) (.int i)
  | str (x : Str) (t : Tok) : HDat H (.str x t) (.str x)
  | tuple {a : Addr} {vs : List Value} {ds : List Dat} : H a = some (.tup vs) → HDats H vs ds → HDat H (.ref a) (.tuple ds)
  | list {a : Addr} {vs : List Value} {ds : List Dat} : H a = some (.lst vs) → HDats H vs ds → HDat H (.ref a) (.list ds)
inductive HDats (H : AH) : List Value → List Dat → Prop
  | nil : HDats H [] []
  | cons {v : Value} {vs : List Value} {d : Dat} {ds : List Dat} : HDat H v d → HDats H vs ds → HDats H (v :: vs) (d :: ds)
end
mutual
theorem HDat.mono {H H' : AH} (k : Le H H') : ∀ {v : Value} {d : Dat}, HDat H v d → HDat H' v d
  | _, _, .none => .none
  | _, _, .int i t => .int i t
  | _, _, .str x t => .str x t
  | _, _, .tuple h r => .tuple (k _ _ h) (HDats.mono k r)
  | _, _, .list h r => .list (k _ _ h) (HDats.mono k r)
theorem HDats.mono {H H' : AH} (k : Le H H') : ∀ {vs : List Value} {ds : List Dat}, HDats H vs ds → HDats H' vs ds
  | _, _, .nil => .nil
  | _, _, .cons h r => .cons (HDat.mono k h) (HDats.mono k r)
end
section
variable {prog : Program} {w : World} {A : Around} {E : Value → Shared → Prop} {z s : Shared} {B : Heap} {H : AH} {L : Addr} {O : List Addr} {m : Str → Option Value} {env : Env}
mutual
theorem St.reads (S : St w z B H L O m s) : ∀ {v : Value} {d : Dat}, HDat H v d → ∃ as, Reads s.heap v (kqdP d) as
  | _, _, .none => ⟨_, Reads.none⟩
  | _, _, .int i t => ⟨_, Reads.int i t⟩
  | _, _, .str x t => ⟨_, Reads.str x t⟩
  | _, _, .tuple h r => by
    refine ce fun gl => ?_
    obtain ⟨as, q⟩ := St.readsAll S r
    refine op_EAE (S.real _ _ h) fun ob g n ek1 => ?_
    subst ek1
    refine gl ?_; clear gl
    rw [kqdP]
    exact ⟨as, reads_tuple_at g rfl rfl (by simpa using q)⟩
  | _, _, .list h r => by
    refine ce fun gl => ?_
    obtain ⟨as, q⟩ := St.readsAll S r
    refine op_EAE (S.real _ _ h) fun ob g n ek2 => ?_
    subst ek2
    refine gl ?_; clear gl
    rw [kqdP]
    exact ⟨_, reads_list_at g rfl rfl (by simpa using q)⟩
theorem St.readsAll (S : St w z B H L O m s) : ∀ {vs : List Value} {ds : List Dat}, HDats H vs ds → ∃ as, ReadsAll s.heap vs (kqdPs ds) as
  | _, _, .nil => ⟨_, ReadsAll.nil⟩
  | _, _, .cons h r => by
    refine ce fun gl => ?_
    obtain ⟨as, q⟩ := St.reads S h
    obtain ⟨bs, p⟩ := St.readsAll S r
    refine gl ?_; clear gl
    rw [kqdPs]
    exact ⟨_, ReadsAll.cons q p⟩
end
theorem dat_shaped {d : Dat} (hd : kqdOk 8 d = true) : SeqAt.shaped (kqdP d) = true := by
  have la := kqd_lay 8 d hd
  unfold SeqAt.shaped
  rw [la.1, Bool.true_and]
  exact decide_eq_true (Nat.le_trans la.2 (by decide))
theorem r_eqD (S : St w z B H L O m s) {n : Nat} (hA : Rm n A) {a b : Value} {d e : Dat} {Q : Value → Shared → Prop} (ha : HDat H a d) (hb : HDat H b e) (hd : kqdOk 8 d = true) (he : kqdOk 8 e = true)
    (q1 : d = e → Q (.bool true) s) (q2 : d ≠ e → Q (.bool false) s) : wpAny (model prog w) A (compareOp .Eq a b) Q E s := by
  refine ce fun gl => ?_
  obtain ⟨as, ra⟩ := S.reads ha
  obtain ⟨bs, rb⟩ := S.reads hb
  refine gl ?_; clear gl
  refine eq_dataH ra rb (dat_shaped hd) (dat_shaped he) (by have := hA.2.2; show A.units + 64 < 9900; lia) ?_
  by_cases h : d = e
  · have := (kqd_eqv 8 d e 8 hd he).mpr h
    rw [this]; exact q1 h
  · have : (kqdP d).eqv (kqdP e) = false := Bool.eq_false_iff.mpr fun x => h ((kqd_eqv 8 d e 8 hd he).mp x)
    rw [this]; exact q2 h
theorem r_neD (S : St w z B H L O m s) {n : Nat} (hA : Rm n A) {a b : Value} {d e : Dat} {Q : Value → Shared → Prop} (ha : HDat H a d) (hb : HDat H b e) (hd : kqdOk 8 d = true) (he : kqdOk 8 e = true)
    (q1 : d = e → Q (.bool false) s) (q2 : d ≠ e → Q (.bool true) s) : wpAny (model prog w) A (compareOp .NotEq a b) Q E s := by
  refine ce fun gl => ?_
  obtain ⟨as, ra⟩ := S.reads ha
  obtain ⟨bs, rb⟩ := S.reads hb
  refine gl ?_; clear gl
  refine ne_dataH ra rb (dat_shaped hd) (dat_shaped he) (by have := hA.2.2; show A.units + 64 < 9900; lia) ?_
  by_cases h : d = e
  · have := (kqd_eqv 8 d e 8 hd he).mpr h
    rw [this]; exact q1 h
  · have : (kqdP d).eqv (kqdP e) = false := Bool.eq_false_iff.mpr fun x => h ((kqd_eqv 8 d e 8 hd he).mp x)
    rw [this]; exact q2 h
end

/-! layout_is_right -/
section
variable {prog : Program} {w : World} {A : Around} {E : Value → Shared → Prop} {z s : Shared} {B : Heap} {H : AH} {L : Addr} {O : List Addr} {m : Str → Option Value} {env : Env} {Q : Value → Shared → Prop}
theorem d_rightL (S : St w z B H L O m s) (G : Gd w z) (hA : Rm 6 A) {l : Lf} {x y : Int} {tx ty : Tok} (hl : LeafAt H l) (hx : l.x = x) (hy : l.y = y) (hw : 1 ≤ l.w) (hh : 1 ≤ l.h)
    (q : ∀ s', St w z B H L O m s' → Q (.bool true) s') : wpAny (model prog w) A (call (.ref 183) [.ref l.a, .int x tx, .int y ty]) Q E s := by
  refine LeafAt.op hl fun h1 t0 t1 t2 t3 t4 t5 h2 h3 => ?_
  try clear hl
  refine enterC' S G hA fd183 (binds := [("cell", .ref l.a), ("x", .int x tx), ("y", .int y ty)]) [] ?_ noMs cd183 rfl (BindsTo.of_eq rfl) rfl rfl rfl rfl rfl
  intro A' B' H' L' s' E' hA' _ hB hle hc S'
  clear S hc
  have h1 := hle _ _ h1
  have h2 := hle _ _ h2
  have h3 := hle _ _ h3
  have hmin : ¬ (if l.h < l.w then l.h else l.w) < 1 := by split <;> lia
  refine hq fun Q14 k14 => ?_
  repeat walk1
  rename_i T1 _ n1 b1 T2 s2 S2 n2 b2
  refine r_neD (d := .tuple [.int l.x, .int l.y]) (e := .tuple [.int x, .int y]) S2 hA' (.tuple (set_new set_self n2) (.cons (.int _ _) (.cons (.int _ _) .nil))) (.tuple set_self (.cons (.int _ _) (.cons (.int _ _) .nil))) rfl rfl (fun _ => ?_) (fun h => absurd (by rw [hx, hy]) h)
  replace S2 := S2.weaken ((Le.set n1).trans (Le.set n2))
  repeat walk1
  rename_i D s3 S3 nD bD
  refine r_eqD (d := .list []) (e := .list []) S3 hA' (.list (set_new h3 nD) .nil) (.list set_self .nil) rfl rfl (fun _ => ?_) (fun h => absurd rfl h)
  repeat walk1
  refine k14 _ _ ?_
  exact mk_EEA _ _ S3 (fun S => q _ (S.weaken (hle.trans (Le.set nD))))
end

/-! layout_is_right of a row -/
noncomputable def posAt (r : Bool) (ls : List Lf) (i : Nat) : Int := ((ls.take i).map fun l => l.side r + 1).sum
theorem placed_at {r : Bool} {ls : List Lf} {a : Int} (h : Placed r ls a) {i : Nat} {l : Lf} (hl : ls[i]? = some l) : (if r then l.x else l.y) = a + posAt r ls i ∧ (if r then l.y else l.x) = 0 := by
  induction ls generalizing a i with
  | nil => simp at hl
  | cons y ls ih =>
    refine op_AA h fun h1 h2 h3 => ?_
    try clear h
    cases i with
    | zero => simp at hl; subst hl; exact ⟨by simp [posAt, h1], h2⟩
    | succ i =>
      obtain ⟨a1, a2⟩ := ih h3 (i := i) (by simpa using hl)
      refine ⟨?_, a2⟩
      rw [a1]
      simp only [posAt, List.take_succ_cons, List.map_cons, List.sum_cons]
      lia
theorem posAt_succ {r : Bool} {ls : List Lf} {i : Nat} {l : Lf} (hl : ls[i]? = some l) : posAt r ls (i + 1) = posAt r ls i + (l.side r + 1) := by
  unfold posAt
  rw [List.take_add_one, hl]
  simp
section
variable {prog : Program} {w : World} {A : Around} {E : Value → Shared → Prop} {z s : Shared} {B : Heap} {H : AH} {L : Addr} {O : List Addr} {m : Str → Option Value} {env : Env} {Q : Value → Shared → Prop}
theorem d_rightN (S : St w z B H L O m s) (G : Gd w z) (hA : Rm 12 A) {n : Nd} {lot : List (Int × Int)} {ac : Int} {tx ty : Tok} (hn : NodeAt H n) (hz : n.ls.length ≤ 1000) (hrow : Row n.row (.node n) lot ac) (hpos : ∀ x ∈ lot, 1 ≤ x.2) (hac : 1 ≤ ac)
    (q : ∀ s', St w z B H L O m s' → Q (.bool true) s') : wpAny (model prog w) A (call (.ref 183) [.ref n.a, .int 0 tx, .int 0 ty]) Q E s := by
  refine ce fun gl => ?_
  refine op_AAAAAAAA hrow fun r1 r2 r3 r4 r5 r6 r7 r8 r9 => ?_
  try clear hrow
  have hn' := hn
  refine NodeAt.op hn fun h1 t0 t1 t2 t3 t4 h2 h3 h4 h5 => ?_
  refine gl ?_; clear gl
  try clear hn
  have hpl : ∀ l ∈ n.ls, 1 ≤ l.side n.row := fun l hl => hpos (l.p, l.side n.row) (by rw [← r3]; exact List.mem_map_of_mem (f := fun l : Lf => (l.p, l.side n.row)) hl)
  have htot : n.side n.row = (n.ls.map fun l => l.side n.row).sum + n.ls.length - 1 := by rw [r6, ← r3]; simp [total, lotOf, Function.comp_def]
  have hsum : (n.ls.length : Int) ≤ (n.ls.map fun l => l.side n.row).sum := by
    clear htot r2 r3 r4 r5 h3 h4 h5 hn' hz
    generalize n.ls = ls at hpl
    induction ls with
    | nil => simp
    | cons l ls ih => have := hpl l (.head _); have := ih fun x hx => hpl x (.tail _ hx); simp; lia
  refine enterC' S G hA fd183 (binds := [("cell", .ref n.a), ("x", .int 0 tx), ("y", .int 0 ty)]) [] ?_ noMs cd183 rfl (BindsTo.of_eq rfl) rfl rfl rfl rfl rfl
  intro A' B' H' L' s' E' hA' _ hB hle hc S'
  refine op_AA (hc "is_row" _ rfl) fun c1 c2 c3 => ?_
  clear S hc
  have ca : n.a ≠ L' + 1 := Ne.symm (ne_of_none_some c3 h1)
  have cb : n.dx ≠ L' + 1 := Ne.symm (ne_of_none_some c3 h2)
  have cc : n.pl ≠ L' + 1 := Ne.symm (ne_of_none_some c3 h3)
  have h1 := hle _ _ h1
  have h2 := hle _ _ h2
  have h3 := hle _ _ h3
  have hmin : ¬ (if n.h < n.w then n.h else n.w) < 1 := by
    have e1 : (n.w = n.side n.row ∧ n.h = ac) ∨ (n.h = n.side n.row ∧ n.w = ac) := by cases hr : n.row <;> simp [Nd.side, hr] at r7 ⊢ <;> simp [r7]
    split <;> lia
  refine hq fun Q50 k50 => ?_
  repeat walk1
  rename_i T1 _ n1 b1 T2 s2 S2 n2 b2
  refine r_neD (d := .tuple [.int n.x, .int n.y]) (e := .tuple [.int 0, .int 0]) S2 hA' (.tuple (set_new set_self n2) (.cons (.int _ _) (.cons (.int _ _) .nil))) (.tuple set_self (.cons (.int _ _) (.cons (.int _ _) .nil))) rfl rfl (fun _ => ?_) (fun h => absurd (by rw [r8, r9]) h)
  replace S2 := S2.weaken ((Le.set n1).trans (Le.set n2))
  have hlen2 : ¬ ((n.ls.map fun l => Value.ref l.a).length : Int) < 2 := by simp; lia
  repeat walk1
  rename St _ _ _ _ _ _ _ _ => S3
  rw [kindS_row] at S3
  refine ce fun gl => ?_
  obtain ⟨HC, hHC⟩ : ∃ HC, HC = H'.set (L' + 1) (.cel (some (.bool n.row))) := ⟨_, rfl⟩
  rw [← hHC] at S3
  have kC : Le H HC := fun a o e => by rw [hHC]; exact set_ne (hle a o e) (Ne.symm (ne_of_none_some c3 e))
  have gc : HC (L' + 1) = some (.cel (some (.bool n.row))) := by rw [hHC]; exact set_self
  refine NodeAt.op (hn'.mono kC) fun i1 u0 u1 u2 u3 u4 i2 i3 i4 i5 => ?_
  refine gl ?_; clear gl
  clear h1 h2 h3 h4 h5 c1 hHC
  refine r_forL hA'.1 (fun i H1 m1 => Le HC H1 ∧ m1 "cell" = some (.ref n.a) ∧ ∃ tx ty, m1 "x" = some (.int (if n.row = true then posAt n.row n.ls i else 0) tx) ∧ m1 "y" = some (.int (if n.row = true then 0 else posAt n.row n.ls i) ty)) S3 i3
    ⟨Le.rfl, rfl, _, _, by cases n.row <;> rfl, by cases n.row <;> rfl⟩ (fun i H1 m1 h => h.1 _ _ i3) ?_ ?_
  · intro i v H1 m1 s4 I E3 hv hp8 hI hBI S4
    refine op_AAEEA hp8 fun k1 g1 tx ty g2 g3 => ?_
    try clear hp8
    refine map_op hv fun l hl => ?_
    try clear hv
    have hlm := List.mem_of_getElem? hl
    refine r_asgName S4 (fun s5 S5 => ?_)
    clear S4 S3
    have kk : Le HC (H1.set I (lit n.pl (i + 1))) := k1.trans (Le.set hI)
    have g1 := upd_nb (x := "part") (v := .ref l.a) g1 rfl
    have g2 := upd_nb (x := "part") (v := .ref l.a) g2 rfl
    have g3 := upd_nb (x := "part") (v := .ref l.a) g3 rfl
    have gc := kk _ _ gc
    have i1 := kk _ _ i1
    have i2 := kk _ _ i2
    have hla := (i4 l hlm).mono kk
    have hla' := hla
    refine ce fun gl => ?_
    refine LeafAt.op hla fun j1 w0 w1 w2 w3 w4 w5 j2 j3 => ?_
    try clear hla
    have hcmp : (if (!n.row) = true then l.w else l.h) = (if (!n.row) = true then n.w else n.h) := (r4 l hlm).trans r7.symm
    obtain ⟨p1, p2⟩ := placed_at r5 hl
    refine gl ?_; clear gl
    have hlx : l.x = (if n.row = true then posAt n.row n.ls i else 0) ∧ l.y = (if n.row = true then 0 else posAt n.row n.ls i) := by
      cases hr : n.row <;> simp [hr] at p1 p2 ⊢ <;> exact ⟨by assumption, by assumption⟩
    have hwh : 1 ≤ l.w ∧ 1 ≤ l.h := by
      have a1 := hpl l hlm
      have a2 := r4 l hlm
      cases hr : n.row <;> simp [Lf.side, hr] at a1 a2 <;> lia
    have hps := posAt_succ (r := n.row) hl
    by_cases hr : n.row = true
    · have hpx : posAt n.row n.ls (i + 1) = posAt n.row n.ls i + l.w + 1 := by rw [hps]; simp [Lf.side, hr]; lia
      simp only [if_pos hr] at g2 g3 hlx ⊢
      rw [hpx]
      refine hq fun Q100 k100 => ?_
      repeat walk1
      rename St _ _ _ _ _ _ _ _ => S6
      refine d_rightL S6 G (hA'.lo rfl) hla' hlx.1 hlx.2 hwh.1 hwh.2 fun s7 S7 => ?_
      clear S6
      repeat walk1
      rename (H1.set I (lit n.pl (i + 1))) _ = none => nT
      rename St _ _ _ _ _ _ _ _ => S8
      refine r_asgTup2 S8 hA'.1 set_self (fun s9 S9 => ?_)
      clear S8
      try dsimp only
      repeat walk1
      refine k100 _ _ ?_
      rename St _ _ _ _ _ _ _ _ => S9
      refine mk_EEAAAAEEA _ _ (S9.weaken (Le.set nT)) set_self (by rw [del_set hI]; exact k1) (by walk_at "hname") _ _ (by walk_at "hname") (by walk_at "hname")
    · have hpx : posAt n.row n.ls (i + 1) = posAt n.row n.ls i + l.h + 1 := by rw [hps]; simp [Lf.side, hr]; lia
      simp only [if_neg hr] at g2 g3 hlx ⊢
      rw [hpx]
      refine hq fun Q116 k116 => ?_
      repeat walk1
      rename St _ _ _ _ _ _ _ _ => S6
      refine d_rightL S6 G (hA'.lo rfl) hla' hlx.1 hlx.2 hwh.1 hwh.2 fun s7 S7 => ?_
      clear S6
      repeat walk1
      rename (H1.set I (lit n.pl (i + 1))) _ = none => nT
      rename St _ _ _ _ _ _ _ _ => S8
      refine r_asgTup2 S8 hA'.1 set_self (fun s9 S9 => ?_)
      clear S8
      try dsimp only
      repeat walk1
      refine k116 _ _ ?_
      rename St _ _ _ _ _ _ _ _ => S9
      refine mk_EEAAAAEEA _ _ (S9.weaken (Le.set nT)) set_self (by rw [del_set hI]; exact k1) (by walk_at "hname") _ _ (by walk_at "hname") (by walk_at "hname")
  · intro H1 m1 s4 hp3 S4
    refine op_AAEEA hp3 fun k1 g1 tx ty g2 g3 => ?_
    try clear hp3
    have gc := k1 _ _ gc
    have i1 := k1 _ _ i1
    have i2 := k1 _ _ i2
    have i3 := k1 _ _ i3
    clear S3
    try dsimp only
    repeat walk1
    rename St _ _ _ _ _ _ _ _ => S5
    refine r_compL hA'.1 (fun i ys H2 => IntsAre ys ((n.ls.take i).map fun l => l.side n.row) ∧ Le H1 H2) S5 i3 (by simp; (refine Nat.le_trans (by with_reducible assumption) ?_; exact Nat.le_of_ble_eq_true rfl)) ⟨.nil, Le.rfl⟩ (by decide) rfl (fun i ys H2 h => h.2 _ _ i3) ?_ (fun y p e => by cases e) ?_
    · intro C D I B'' i v ys H2 m2 s6 E'' hBB hv hp13 hI hD hne hBI hBD S6
      obtain ⟨f1, f2⟩ := hp13
      refine map_op hv fun l hl => ?_
      try clear hv
      have hlm := List.mem_of_getElem? hl
      refine r_asgName S6 (fun s7 S7 => ?_)
      refine wpAny_tests_nil ?_
      rw [if_pos rfl]
      clear S5 S6
      have kk : Le H1 ((H2.set I (lit n.pl (i + 1))).set D (.lst ys)) := fun a o e => set_new (set_new (f2 a o e) hI) (set_ne hD hne)
      have gc := kk _ _ gc
      have hla := (i4 l hlm).mono (k1.trans kk)
      refine LeafAt.op hla fun j1 w0 w1 w2 w3 w4 w5 j2 j3 => ?_
      try clear hla
      refine hq fun Q157 k157 => ?_
      repeat walk1
      refine k157 _ _ ?_
      refine mk_EEAAAA _ _ (by assumption) (set_ne set_self (Ne.symm hne)) set_self ?_ (le_turn hI hD Le.rfl hne |> f2.trans)
      rw [List.take_add_one, hl, List.map_append]
      exact f1.append (.cons _ _ .nil)
    · intro D ys H2 s6 hp4 hD hDB S6
      obtain ⟨f1, f2⟩ := hp4
      rw [List.take_of_length_le (by simp)] at f1
      have kk : Le H1 (H2.set D (.lst ys)) := f2.trans (Le.set hD)
      have gc := kk _ _ gc
      have i1 := kk _ _ i1
      have i2 := kk _ _ i2
      have i3 := kk _ _ i3
      dsimp only at S6 ⊢
      repeat walk1
      rename St _ _ _ _ _ _ _ _ => S8
      refine r_sum S8 hA'.1 set_self f1 fun t7 s7 S7 => ?_
      clear S8
      have hlm : ((n.ls.map fun l => Value.ref l.a).length : Int) = n.ls.length := by simp
      have hfin : ((n.ls.map fun l => l.side n.row).sum + ((n.ls.map fun l => Value.ref l.a).length : Int) - 1 == (if n.row = true then n.w else n.h)) = true := by rw [hlm]; exact beq_iff_eq.mpr htot.symm
      repeat walk1
      refine k50 _ _ ?_
      rw [hfin]
      rename St _ _ _ _ _ _ _ _ => S9
      exact mk_EEA _ _ S9 (fun S => q _ (S.weaken (kC.trans (k1.trans kk))))
end

/-! is_tiling -/
section
variable {prog : Program} {w : World} {A : Around} {E : Value → Shared → Prop} {z s : Shared} {B : Heap} {H : AH} {L : Addr} {O : List Addr} {m : Str → Option Value} {env : Env} {Q : Value → Shared → Prop}
theorem d_tiling (S : St w z B H L O m s) (G : Gd w z) (hA : Rm 14 A) {t : Tr} {r : Bool} {lot : List (Int × Int)} {ac : Int} (ht : TrAt H t) (hrow : Row r t lot ac) (hpos : ∀ x ∈ lot, 1 ≤ x.2) (hac : 1 ≤ ac)
    (q : ∀ s', St w z B H L O m s' → Q (.bool true) s') : wpAny (model prog w) A (call (.ref 178) [.ref t.a]) Q E s := by
  refine enter' S G hA fd178 (binds := [("root", .ref t.a)]) [] ?_ noMs cd178 rfl (BindsTo.of_eq rfl) rfl rfl rfl rfl rfl
  intro A' B' L' s' E' hA' hM hB S'
  clear S
  repeat walk1
  rename St _ _ _ _ _ _ _ _ => S1
  cases t with
  | leaf l =>
    refine op_AAA hrow fun h1 h2 h3 h4 => ?_
    try clear hrow
    have h5 : 1 ≤ l.side r := hpos (l.p, l.side r) (by rw [← h1]; simp [lotOf])
    have hwh : 1 ≤ l.w ∧ 1 ≤ l.h := by cases r <;> simp [Lf.side] at h2 h5 <;> lia
    exact d_rightL S1 G (hA'.lo rfl) ht h3 h4 hwh.1 hwh.2 fun s2 S2 => ⟨_, _, S2, fun S => q _ S⟩
  | node n =>
    have hr := hrow.1
    subst hr
    exact d_rightN S1 G (hA'.lo rfl) ht.1 ht.2 hrow hpos hac fun s2 S2 => ⟨_, _, S2, fun S => q _ S⟩
end

/-! the plain law of fitting -/
noncomputable def capS (k : Int) (lot : List (Int × Int)) : Int := (lot.map fun x => if k < x.2 - 1 then k else x.2 - 1).sum
noncomputable def shr (R : Int) : List (Int × Int) → Int → List (Int × Int)
  | [], _ => []
  | x :: lot, left => (x.1, x.2 - (if R < x.2 - 1 then R else x.2 - 1) - (if left > 0 ∧ x.2 - 1 > R then 1 else 0)) :: shr R lot (left - (if left > 0 ∧ x.2 - 1 > R then 1 else 0))
theorem capS_cons {k : Int} {x : Int × Int} {lot : List (Int × Int)} : capS k (x :: lot) = (if k < x.2 - 1 then k else x.2 - 1) + capS k lot := by simp [capS]
theorem capS_nonneg {k : Int} {lot : List (Int × Int)} (hk : 0 ≤ k) (hp : ∀ x ∈ lot, 1 ≤ x.2) : 0 ≤ capS k lot := by
  induction lot with
  | nil => simp [capS]
  | cons x lot ih =>
    have h1 := hp x (.head _)
    have h2 := ih fun y hy => hp y (.tail _ hy)
    rw [capS_cons]
    split <;> lia
theorem pass_part {lot : List (Int × Int)} {m : Int} (hp : ∀ x ∈ lot, 1 ≤ x.2) (h0 : 0 ≤ m) (h1 : m ≤ capS 1 lot) : passLot lot (-m) = (shr 0 lot m, 0) := by
  induction lot generalizing m with
  | nil => simp [capS] at h1; have : m = 0 := by lia
           subst this; rfl
  | cons x lot ih =>
    have hx := hp x (.head _)
    have hp' : ∀ y ∈ lot, 1 ≤ y.2 := fun y hy => hp y (.tail _ hy)
    rw [capS_cons] at h1
    have hc := capS_nonneg (k := 1) (by lia) hp'
    simp only [passLot, shr]
    by_cases hm : m > 0 ∧ x.2 - 1 > 0
    · have e : turnLot x (-m) = (bump (-1) x, -(m - 1)) := by
        unfold turnLot
        rw [if_neg (by omega), if_pos ⟨by omega, by omega⟩]
        congr 1; lia
      rw [e]
      rw [ih hp' (m := m - 1) (by omega) (by split at h1 <;> lia)]
      simp only [if_pos hm, bump]
      congr 2
      congr 1
      rw [if_pos (by omega)]; lia
    · have e : turnLot x (-m) = (x, -m) := by
        unfold turnLot
        rw [if_neg (by lia), if_neg (by omega)]
      rw [e]
      rw [ih hp' (m := m) h0 (by split at h1 <;> lia)]
      simp only [if_neg hm]
      congr 2
      · obtain ⟨a, b⟩ := x
        dsimp only at hx hm ⊢
        congr 1
        split <;> lia
      · congr 1; lia
noncomputable def full1 (x : Int × Int) : Int × Int := (x.1, x.2 - (if 1 < x.2 - 1 then 1 else x.2 - 1))
theorem pass_full {lot : List (Int × Int)} {m : Int} (hp : ∀ x ∈ lot, 1 ≤ x.2) (h1 : capS 1 lot ≤ m) : passLot lot (-m) = (lot.map full1, -(m - capS 1 lot)) := by
  induction lot generalizing m with
  | nil => simp [capS, passLot]
  | cons x lot ih =>
    have hx := hp x (.head _)
    have hp' : ∀ y ∈ lot, 1 ≤ y.2 := fun y hy => hp y (.tail _ hy)
    rw [capS_cons] at h1 ⊢
    have hc := capS_nonneg (k := 1) (by lia) hp'
    simp only [passLot, List.map_cons]
    by_cases hm : x.2 - 1 > 0
    · have hmm : m > 0 := by split at h1 <;> lia
      have e : turnLot x (-m) = (full1 x, -(m - 1)) := by
        unfold turnLot
        rw [if_neg (by lia), if_pos ⟨by lia, by omega⟩]
        simp only [bump, full1]
        congr 1
        · congr 1; split <;> lia
        · lia
      rw [e]
      rw [ih hp' (m := m - 1) (by split at h1 <;> lia)]
      congr 1
      split <;> lia
    · have e : turnLot x (-m) = (full1 x, -m) := by
        unfold turnLot
        have : 0 ≤ m := by split at h1 <;> lia
        rw [if_neg (by lia), if_neg (by omega)]
        obtain ⟨a, b⟩ := x
        dsimp only at hx hm ⊢
        simp only [full1]
        congr 2
        split <;> lia
      rw [e]
      rw [ih hp' (m := m) (by split at h1 <;> lia)]
      congr 1
      split <;> lia
theorem capS_full {lot : List (Int × Int)} {k : Int} (hk : 0 ≤ k) (hp : ∀ x ∈ lot, 1 ≤ x.2) : capS k (lot.map full1) = capS (k + 1) lot - capS 1 lot := by
  induction lot with
  | nil => simp [capS]
  | cons x lot ih =>
    have hx := hp x (.head _)
    rw [List.map_cons, capS_cons, capS_cons, capS_cons, ih fun y hy => hp y (.tail _ hy)]
    simp only [full1]
    (repeat' split) <;> grind
theorem shr_full {lot : List (Int × Int)} {R left : Int} (hk : 1 ≤ R) (hp : ∀ x ∈ lot, 1 ≤ x.2) : shr (R - 1) (lot.map full1) left = shr R lot left := by
  induction lot generalizing left with
  | nil => rfl
  | cons x lot ih =>
    have hx := hp x (.head _)
    simp only [List.map_cons, shr]
    have e1 : (left > 0 ∧ (full1 x).2 - 1 > R - 1) ↔ (left > 0 ∧ x.2 - 1 > R) := by
      simp only [full1]
      constructor
      · rintro ⟨a, b⟩; refine ⟨a, ?_⟩; split at b <;> lia
      · rintro ⟨a, b⟩; refine ⟨a, ?_⟩; split <;> lia
    rw [ih fun y hy => hp y (.tail _ hy)]
    have e2 : (if left > 0 ∧ (full1 x).2 - 1 > R - 1 then (1 : Int) else 0) = if left > 0 ∧ x.2 - 1 > R then 1 else 0 := by
      by_cases h : left > 0 ∧ x.2 - 1 > R
      · rw [if_pos h, if_pos (e1.mpr h)]
      · rw [if_neg h, if_neg (fun q => h (e1.mp q))]
    rw [e2]
    congr 2
    simp only [full1]
    (repeat' split) <;> grind
theorem shr_zero {lot : List (Int × Int)} {R : Int} (hR : 0 ≤ R) (hp : ∀ x ∈ lot, 1 ≤ x.2) (h : capS R lot = 0) : shr R lot 0 = lot := by
  induction lot with
  | nil => rfl
  | cons x lot ih =>
    have hx := hp x (.head _)
    have hp' : ∀ y ∈ lot, 1 ≤ y.2 := fun y hy => hp y (.tail _ hy)
    have hc := capS_nonneg hR hp'
    rw [capS_cons] at h
    have h1 : ¬ ((0 : Int) > 0 ∧ x.2 - 1 > R) := by omega
    simp only [shr, if_neg h1]
    have h2 : (if R < x.2 - 1 then R else x.2 - 1) = 0 := by split at h <;> split <;> grind
    rw [h2, Int.sub_zero, Int.sub_zero, Int.sub_zero, ih hp' (by omega)]
theorem full1_pos {lot : List (Int × Int)} (hp : ∀ x ∈ lot, 1 ≤ x.2) : ∀ x ∈ lot.map full1, 1 ≤ x.2 := by
  intro x hx
  refine mem_op hx fun y hy => ?_
  have := hp y hy
  simp only [full1]
  split <;> lia
noncomputable def Good (lot : List (Int × Int)) (m R : Int) : Prop := 0 ≤ R ∧ capS R lot ≤ m ∧ (capS R lot = m ∨ m < capS (R + 1) lot)
theorem capS_zero {lot : List (Int × Int)} (hp : ∀ x ∈ lot, 1 ≤ x.2) : capS 0 lot = 0 := by
  induction lot with
  | nil => rfl
  | cons x lot ih =>
    have hx := hp x (.head _)
    rw [capS_cons, ih fun y hy => hp y (.tail _ hy)]
    split <;> lia
theorem capS_mono {lot : List (Int × Int)} {j k : Int} (h : j ≤ k) : capS j lot ≤ capS k lot := by
  induction lot with
  | nil => simp [capS]
  | cons x lot ih => rw [capS_cons, capS_cons]; (repeat' split) <;> lia
theorem rounds_down {lot lot' : List (Int × Int)} {c : Int} (h : RoundsLot lot c lot') : ∀ m R : Int, c = -m → 0 ≤ m → (∀ x ∈ lot, 1 ≤ x.2) → Good lot m R → lot' = shr R lot (m - capS R lot) := by
  induction h with
  | @done lot =>
    intro m R hc h0 hp hp5
    refine op_AA hp5 fun g1 g2 g3 => ?_
    try clear hp5
    have hm : m = 0 := by lia
    subst hm
    have hc := capS_nonneg g1 hp
    have e : capS R lot = 0 := by lia
    rw [e]
    exact (shr_zero g1 hp e).symm
  | @step lot lot' c hc hr ih =>
    intro m R ek2 h0 hp hp5
    subst ek2
    refine op_AA hp5 fun g1 g2 g3 => ?_
    try clear hp5
    have hm : m ≠ 0 := by lia
    by_cases hR : R = 0
    · subst hR
      rw [capS_zero hp] at g2 g3 ⊢
      have hpart := pass_part hp h0 (m := m) (by have : (0 : Int) + 1 = 1 := rfl
                                                 rw [this] at g3; lia)
      rw [hpart] at hr
      dsimp only at hr
      have e : lot' = shr 0 lot m := by
        cases hr with
        | done => rfl
        | step h _ => exact absurd rfl h
      rw [e]; congr 1; lia
    · have h1 : capS 1 lot ≤ m := Int.le_trans (capS_mono (by lia)) g2
      have hfull := pass_full hp h1
      rw [hfull] at ih
      dsimp only at ih
      have e1 := capS_full (lot := lot) (k := R - 1) (by lia) hp
      have e2 := capS_full (lot := lot) (k := R) (by omega) hp
      have e3 : R - 1 + 1 = R := by lia
      rw [e3] at e1
      rw [ih (m - capS 1 lot) (R - 1) rfl (by lia) (full1_pos hp) ⟨by lia, by lia, by rw [e3]; lia⟩, shr_full (by lia) hp, e1]
      congr 1
      lia
theorem good_max {lot : List (Int × Int)} {m R : Int} (hp : ∀ x ∈ lot, 1 ≤ x.2) (h0 : 0 ≤ R) (h1 : R ≤ m) (h2 : capS R lot ≤ m) (h3 : ∀ k, 0 ≤ k → k ≤ m → capS k lot ≤ m → k ≤ R) (hroom : m ≤ roomLot lot) : Good lot m R := by
  refine ⟨h0, h2, ?_⟩
  by_cases e : R = m
  · left
    have hm : 0 ≤ m := by lia
    have key : m ≤ capS m lot ∨ capS m lot = roomLot lot := by
      clear h1 h2 h3 hroom e
      induction lot with
      | nil => right; rfl
      | cons x lot ih =>
        have hx := hp x (.head _)
        have hp' : ∀ y ∈ lot, 1 ≤ y.2 := fun y hy => hp y (.tail _ hy)
        have hc := capS_nonneg hm hp'
        have hr : roomLot (x :: lot) = (x.2 - 1) + roomLot lot := by simp [roomLot]
        rw [capS_cons, hr]
        rcases ih hp' with h | h
        · left; split <;> lia
        · by_cases hxm : m < x.2 - 1
          · left; rw [if_pos hxm]; lia
          · right; rw [if_neg hxm, h]
    subst e
    lia
  · right
    by_cases hq : capS (R + 1) lot ≤ m
    · have := h3 (R + 1) (by lia) (by lia) hq
      lia
    · lia
/-! growth -/
noncomputable def up : Int → List (Int × Int) → List (Int × Int)
  | _, [] => []
  | c, x :: lot => (x.1, x.2 + if 0 < c then 1 else 0) :: up (c - 1) lot
theorem up_get {c : Int} {lot : List (Int × Int)} {j : Nat} : (up c lot)[j]? = (lot[j]?).map fun x => (x.1, x.2 + if (j : Int) < c then 1 else 0) := by
  induction lot generalizing c j with
  | nil => simp [up]
  | cons x lot ih =>
    cases j with
    | zero => simp [up]
    | succ j =>
      simp only [up, List.getElem?_cons_succ]
      rw [ih]
      congr 1
      funext y
      have : ((j : Int) < c - 1) ↔ (((j + 1 : Nat) : Int) < c) := by lia
      simp only [this]
theorem up_len {c : Int} {lot : List (Int × Int)} : (up c lot).length = lot.length := by
  induction lot generalizing c with
  | nil => rfl
  | cons x lot ih => simp [up, ih]
theorem up_zero {c : Int} {lot : List (Int × Int)} (h : c ≤ 0) : up c lot = lot := by
  induction lot generalizing c with
  | nil => rfl
  | cons x lot ih => simp only [up]; rw [ih (by lia), if_neg (by lia)]; simp
theorem pass_grow {lot : List (Int × Int)} {c : Int} (h : 0 ≤ c) : passLot lot c = (up c lot, if c > lot.length then c - lot.length else 0) := by
  induction lot generalizing c with
  | nil =>
    simp only [passLot, up, List.length_nil]
    split
    · simp
    · congr 1; lia
  | cons x lot ih =>
    simp only [passLot, up]
    by_cases hc : c > 0
    · have e : turnLot x c = (bump 1 x, c - 1) := by unfold turnLot; rw [if_pos hc]
      rw [e, ih (by lia)]
      simp only [bump, if_pos hc, List.length_cons]
      congr 1
      split <;> split <;> grind
    · have hc0 : c = 0 := by lia
      subst hc0
      have e : turnLot x 0 = (x, 0) := by unfold turnLot; rw [if_neg (by omega), if_neg (by omega)]
      rw [e, ih (by omega), up_zero (by omega), up_zero (by lia)]
      simp only [List.length_cons]
      rw [if_neg (by lia), if_neg (by omega), if_neg (by lia)]
      simp
noncomputable def growL (lot : List (Int × Int)) (need : Int) : List (Int × Int) := lot.mapIdx fun j x => (x.1, x.2 + need.fdiv lot.length + if (j : Int) < need.fmod lot.length then 1 else 0)
theorem rounds_up {lot lot' : List (Int × Int)} {c : Int} (h : RoundsLot lot c lot') : 0 ≤ c → lot ≠ [] → lot' = growL lot c := by
  induction h with
  | @done lot =>
    intro _ hne
    apply List.ext_getElem?
    intro j
    unfold growL
    rw [List.getElem?_mapIdx]
    have h1 : (0 : Int).fdiv lot.length = 0 := Int.zero_fdiv _
    have h2 : (0 : Int).fmod lot.length = 0 := Int.zero_fmod _
    rw [h1, h2]
    have h3 : ¬ ((j : Int) < 0) := by lia
    simp only [if_neg h3, Int.add_zero]
    cases lot[j]? <;> rfl
  | @step lot lot' c hc hr ih =>
    intro h0 hne
    rw [pass_grow h0] at ih
    dsimp only at ih
    have hn : 0 < (lot.length : Int) := by have := List.length_pos_iff.mpr hne; lia
    have ih := ih (by split <;> lia) (fun e => hne (by have := congrArg List.length e; rw [up_len] at this; exact List.length_eq_zero_iff.mp (by simpa using this)))
    rw [ih]
    apply List.ext_getElem?
    intro j
    unfold growL
    rw [List.getElem?_mapIdx, List.getElem?_mapIdx, up_get, up_len, Option.map_map]
    cases hj : lot[j]? with
    | none => rfl
    | some x =>
      have hjl := (List.getElem?_eq_some_iff.mp hj).1
      simp only [Option.map_some, Function.comp]
      congr 2
      have f1 : ∀ a : Int, a.fdiv lot.length = a / lot.length := fun a => Int.fdiv_eq_ediv_of_nonneg _ (by lia)
      have f2 : ∀ a : Int, a.fmod lot.length = a % lot.length := fun a => Int.fmod_eq_emod_of_nonneg _ (by lia)
      rw [f1, f1, f2, f2]
      by_cases h1 : c > lot.length
      · rw [if_pos h1, if_pos (by lia : (j : Int) < c)]
        have e1 : (c - lot.length) / (lot.length : Int) = c / lot.length - 1 := by
          rw [Int.sub_ediv_of_dvd _ (Int.dvd_refl _), Int.ediv_self (by lia)]
        have e2 : (c - lot.length) % (lot.length : Int) = c % lot.length := by simp
        rw [e1, e2]
        lia
      · rw [if_neg h1]
        simp only [Int.zero_ediv, Int.zero_emod]
        by_cases h2 : c = lot.length
        · rw [h2, Int.ediv_self (by lia), Int.emod_self]
          rw [if_pos (by lia)]
          lia
        · have e3 : c / (lot.length : Int) = 0 := Int.ediv_eq_zero_of_lt (by omega) (by lia)
          have e4 : c % (lot.length : Int) = c := Int.emod_eq_of_lt (by omega) (by lia)
          have h3 : ¬ ((j : Int) < 0) := by lia
          simp only [e3, e4, if_neg h3]
          lia
/-! the law's own reckoning -/
noncomputable def sumA (lot : List (Int × Int)) : Int := (lot.map (·.2)).sum
noncomputable def needOf (lot : List (Int × Int)) (whole : Int) : Int := (if 2 * (lot.length : Int) - 1 > whole then 2 * (lot.length : Int) - 1 else whole) - sumA lot - lot.length + 1
theorem room_sum {lot : List (Int × Int)} : roomLot lot = sumA lot - lot.length := by
  induction lot with
  | nil => rfl
  | cons x lot ih => simp only [roomLot, sumA, List.map_cons, List.sum_cons, List.length_cons] at ih ⊢; lia
theorem chg_need {lot : List (Int × Int)} {whole : Int} : chg whole (total lot) (roomLot lot) = needOf lot whole := by
  unfold chg needOf
  rw [room_sum]
  simp only [total, sumA]
  (repeat' split) <;> lia
theorem fit_one {lot lot' : List (Int × Int)} {whole : Int} (h : FitL lot whole lot') (h1 : lot.length = 1) (hp : ∀ x ∈ lot, 1 ≤ x.2) : RoundsLot lot (needOf lot whole) lot' := by
  obtain ⟨x, rfl⟩ : ∃ x, lot = [x] := List.length_eq_one_iff.mp h1
  have e := h.1 h1
  subst e
  have hx := hp x (.head _)
  have hn : needOf [x] whole = mx whole - x.2 := by
    simp only [needOf, sumA, mx, List.length_cons, List.length_nil, List.map_cons, List.map_nil, List.sum_cons, List.sum_nil]
    split <;> split <;> lia
  have hm : 1 ≤ mx whole := by unfold mx; split <;> lia
  rw [hn]
  generalize mx whole = v at hm
  have key : ∀ (n : Nat) (x : Int × Int), (v - x.2).natAbs = n → 1 ≤ x.2 → RoundsLot [x] (v - x.2) [(x.1, v)] := by
    intro n
    induction n with
    | zero =>
      intro x hn hx
      have : v = x.2 := by lia
      subst this
      rw [Int.sub_self]
      exact .done
    | succ n ih =>
      intro x hn hx
      refine .step (by lia) ?_
      by_cases h1 : v - x.2 > 0
      · have e : passLot [x] (v - x.2) = ([bump 1 x], v - (bump 1 x).2) := by
          simp only [passLot, turnLot, if_pos h1, bump]
          congr 1; lia
        rw [e]
        exact ih (bump 1 x) (by simp only [bump]; grind) (by simp only [bump]; lia)
      · have e : passLot [x] (v - x.2) = ([bump (-1) x], v - (bump (-1) x).2) := by
          simp only [passLot, turnLot, if_neg h1, bump]
          rw [if_pos ⟨by lia, by grind⟩]
          try dsimp only
          congr 1; lia
        rw [e]
        exact ih (bump (-1) x) (by simp only [bump]; omega) (by simp only [bump]; grind)
  exact key _ x rfl hx
theorem fit_rounds {lot lot' : List (Int × Int)} {whole : Int} (h : FitL lot whole lot') (h1 : 1 ≤ lot.length) (hp : ∀ x ∈ lot, 1 ≤ x.2) : RoundsLot lot (needOf lot whole) lot' := by
  by_cases e : lot.length = 1
  · exact fit_one h e hp
  · rw [← chg_need]; exact h.2 (by lia)
theorem fit_up {lot lot' : List (Int × Int)} {whole : Int} (h : FitL lot whole lot') (h1 : 1 ≤ lot.length) (hp : ∀ x ∈ lot, 1 ≤ x.2) (hn : needOf lot whole ≥ 0) : lot' = growL lot (needOf lot whole) :=
  rounds_up (fit_rounds h h1 hp) hn (by rintro rfl; simp at h1)
theorem fit_down {lot lot' : List (Int × Int)} {whole R : Int} (h : FitL lot whole lot') (h1 : 1 ≤ lot.length) (hp : ∀ x ∈ lot, 1 ≤ x.2) (hn : needOf lot whole < 0) (r0 : 0 ≤ R) (r1 : R ≤ -needOf lot whole) (r2 : capS R lot ≤ -needOf lot whole)
    (r3 : ∀ k, 0 ≤ k → k ≤ -needOf lot whole → capS k lot ≤ -needOf lot whole → k ≤ R) : lot' = shr R lot (-needOf lot whole - capS R lot) := by
  refine rounds_down (fit_rounds h h1 hp) _ _ (by lia) (by lia) hp (good_max hp r0 r1 r2 r3 ?_)
  rw [← chg_need]
  unfold chg
  split <;> lia

/-! the plain law of moving a border -/
noncomputable def unitL (ti : Nat) (gs : List Nat) (lot : List (Int × Int)) : List (Int × Int) :=
  match gs.find? (fun g => decide (1 < (lot.getD g (0, 0)).2)) with
  | none => lot
  | some g => (lot.modify g (bump (-1))).modify ti (bump 1)
noncomputable def iterU (ti : Nat) (gs : List Nat) : Nat → List (Int × Int) → List (Int × Int)
  | 0, l => l
  | n + 1, l => iterU ti gs n (unitL ti gs l)
theorem iterU_succ {ti : Nat} {gs : List Nat} {n : Nat} {l : List (Int × Int)} : iterU ti gs (n + 1) l = unitL ti gs (iterU ti gs n l) := by
  induction n generalizing l with
  | zero => rfl
  | succ n ih => show iterU ti gs (n + 1) (unitL ti gs l) = _; rw [ih]; rfl
theorem bump_zero {y : Int × Int} : bump 0 y = y := by simp [bump]
theorem getD_of {lot : List (Int × Int)} {g : Nat} {x : Int × Int} (h : lot[g]? = some x) : lot.getD g (0, 0) = x := by simp [List.getD, h]
theorem unit_len {ti : Nat} {gs : List Nat} {l : List (Int × Int)} : (unitL ti gs l).length = l.length := by
  unfold unitL; split <;> simp
theorem unit_pos {ti : Nat} {gs : List Nat} {l : List (Int × Int)} (hp : ∀ x ∈ l, 1 ≤ x.2) : ∀ x ∈ unitL ti gs l, 1 ≤ x.2 := by
  unfold unitL
  split
  · exact hp
  · rename_i g hg
    have h1 := List.find?_some hg
    simp only [decide_eq_true_eq] at h1
    intro x hx
    obtain ⟨i, hi⟩ := List.getElem?_of_mem hx
    rw [List.getElem?_modify, List.getElem?_modify] at hi
    cases hl : l[i]? with
    | none => rw [hl] at hi; split at hi <;> split at hi <;> simp at hi
    | some y =>
      rw [hl] at hi
      have hy := hp y (List.mem_of_getElem? hl)
      have hd : g = i → 1 < y.2 := by rintro rfl; rw [getD_of hl] at h1; exact h1
      by_cases e1 : g = i
      · have := hd e1
        by_cases e2 : ti = i
        · simp [e1, e2, bump] at hi; subst hi; dsimp only; lia
        · simp [e1, e2, bump] at hi; subst hi; dsimp only; lia
      · by_cases e2 : ti = i
        · simp [e1, e2, bump] at hi; subst hi; dsimp only; lia
        · simp [e1, e2] at hi; subst hi; exact hy
theorem unit_fst {ti : Nat} {gs : List Nat} {l : List (Int × Int)} : (unitL ti gs l).map (·.1) = l.map (·.1) := by
  have key : ∀ (k : Nat) (c : Int) (l : List (Int × Int)), (l.modify k (bump c)).map (·.1) = l.map (·.1) := by
    intro k c l
    apply List.ext_getElem?
    intro i
    rw [List.getElem?_map, List.getElem?_map, List.getElem?_modify]
    cases l[i]? with
    | none => simp
    | some y => by_cases e : k = i <;> simp [e, bump]
  unfold unitL
  split
  · rfl
  · rw [key, key]
theorem iterU_len {ti : Nat} {gs : List Nat} {n : Nat} {l : List (Int × Int)} : (iterU ti gs n l).length = l.length := by
  induction n generalizing l with
  | zero => rfl
  | succ n ih => show (iterU ti gs n (unitL ti gs l)).length = _; rw [ih, unit_len]
theorem iterU_pos {ti : Nat} {gs : List Nat} {n : Nat} {l : List (Int × Int)} (hp : ∀ x ∈ l, 1 ≤ x.2) : ∀ x ∈ iterU ti gs n l, 1 ≤ x.2 := by
  induction n generalizing l with
  | zero => exact hp
  | succ n ih => exact ih (unit_pos hp)
theorem iterU_fst {ti : Nat} {gs : List Nat} {n : Nat} {l : List (Int × Int)} : (iterU ti gs n l).map (·.1) = l.map (·.1) := by
  induction n generalizing l with
  | zero => rfl
  | succ n ih => show (iterU ti gs n (unitL ti gs l)).map (·.1) = _; rw [ih, unit_fst]
theorem giveLot_zero {ti g : Nat} {lot : List (Int × Int)} {x : Int × Int} {c : Int} (hx : lot[g]? = some x) (h : (if x.2 - 1 < c then x.2 - 1 else c) = 0) : giveLot ti (lot, c) g = (lot, c) := by
  have key : ∀ (k : Nat) (l : List (Int × Int)), l.modify k (bump 0) = l := by
    intro k l
    apply List.ext_getElem?
    intro i
    rw [List.getElem?_modify]
    cases l[i]? with
    | none => simp
    | some y => by_cases e : k = i <;> simp [e, bump]
  simp only [giveLot, hx, h]
  rw [Int.neg_zero, key, key, Int.sub_zero]
theorem gives_zero {ti : Nat} {gs : List Nat} {lot : List (Int × Int)} (hp : ∀ x ∈ lot, 1 ≤ x.2) : (givesLot ti gs (lot, 0)).1 = lot := by
  induction gs with
  | nil => rfl
  | cons g gs ih =>
    show (givesLot ti gs (giveLot ti (lot, 0) g)).1 = lot
    cases h : lot[g]? with
    | none => simp only [giveLot, h]; exact ih
    | some x =>
      have := hp x (List.mem_of_getElem? h)
      rw [giveLot_zero h (by split <;> lia)]
      exact ih
theorem unit_gives {ti : Nat} {gs : List Nat} {lot : List (Int × Int)} {n : Nat} (hp : ∀ x ∈ lot, 1 ≤ x.2) (hti : ti ∉ gs) (hnd : gs.Nodup) (hg : ∀ g ∈ gs, g < lot.length) :
    (givesLot ti gs (lot, ((n + 1 : Nat) : Int))).1 = (givesLot ti gs (unitL ti gs lot, (n : Int))).1 := by
  induction gs with
  | nil => rfl
  | cons g gs ih =>
    have hgl := hg g (.head _)
    have hx := List.getElem?_eq_getElem hgl
    generalize hxx : lot[g] = x at hx
    clear hxx
    have hxp := hp x (List.mem_of_getElem? hx)
    have hne : ti ≠ g := fun e => hti (e ▸ .head _)
    have hgn : g ∉ gs := (List.nodup_cons.mp hnd).1
    show (givesLot ti gs (giveLot ti (lot, ((n + 1 : Nat) : Int)) g)).1 = (givesLot ti gs (giveLot ti (unitL ti (g :: gs) lot, (n : Int)) g)).1
    by_cases h1 : 1 < x.2
    · have e : unitL ti (g :: gs) lot = (lot.modify g (bump (-1))).modify ti (bump 1) := by
        unfold unitL
        rw [List.find?_cons_of_pos (by rw [getD_of hx]; simpa using h1)]
      rw [e]
      have hx1 : ((lot.modify g (bump (-1))).modify ti (bump 1))[g]? = some (bump (-1) x) := by
        rw [List.getElem?_modify, List.getElem?_modify, hx]
        simp [hne]
      congr 2
      simp only [giveLot, hx, hx1]
      have em : (if (bump (-1) x).2 - 1 < (n : Int) then (bump (-1) x).2 - 1 else (n : Int)) = (if x.2 - 1 < ((n + 1 : Nat) : Int) then x.2 - 1 else ((n + 1 : Nat) : Int)) - 1 := by
        have hb : (bump (-1) x).2 = x.2 + -1 := rfl
        generalize (bump (-1) x).2 = y at hb
        split <;> split <;> lia
      rw [em]
      generalize (if x.2 - 1 < ((n + 1 : Nat) : Int) then x.2 - 1 else ((n + 1 : Nat) : Int)) = q
      congr 1
      · apply List.ext_getElem?
        intro i
        simp only [List.getElem?_modify]
        cases lot[i]? with
        | none => simp
        | some y =>
          by_cases e1 : g = i
          · have e2 : ti ≠ i := fun e => hne (e.trans e1.symm)
            simp [e1, e2, bump]; lia
          · by_cases e2 : ti = i
            · simp [e1, e2, bump]; lia
            · simp [e1, e2]
      · push_cast; lia
    · have e : unitL ti (g :: gs) lot = unitL ti gs lot := by
        unfold unitL
        rw [List.find?_cons_of_neg (by rw [getD_of hx]; simpa using h1)]
      rw [e]
      have hx1 : (unitL ti gs lot)[g]? = some x := by
        unfold unitL
        split
        · exact hx
        · rename_i j hj
          have hjm := List.mem_of_find?_eq_some hj
          have : j ≠ g := fun e => hgn (e ▸ hjm)
          rw [List.getElem?_modify, List.getElem?_modify, hx]
          simp [hne, this]
      rw [giveLot_zero hx (by split <;> lia), giveLot_zero hx1 (by split <;> lia)]
      exact ih (fun q => hti (.tail _ q)) (List.nodup_cons.mp hnd).2 fun g q => hg g (.tail _ q)
theorem iter_gives {ti : Nat} {gs : List Nat} {lot : List (Int × Int)} {n : Nat} (hp : ∀ x ∈ lot, 1 ≤ x.2) (hti : ti ∉ gs) (hnd : gs.Nodup) (hg : ∀ g ∈ gs, g < lot.length) :
    iterU ti gs n lot = (givesLot ti gs (lot, (n : Int))).1 := by
  induction n generalizing lot with
  | zero => exact (gives_zero hp).symm
  | succ n ih =>
    show iterU ti gs n (unitL ti gs lot) = _
    rw [ih (unit_pos hp) (by rw [unit_len]; exact hg), unit_gives hp hti hnd hg]
noncomputable def takerOf (n k : Nat) (c : Int) : Nat := if c > 0 then min k (n - 2) else min k (n - 2) + 1
noncomputable def giversOf (n k : Nat) (c : Int) : List Nat := if c > 0 then (List.range (n - (min k (n - 2) + 1))).map (min k (n - 2) + 1 + ·) else (List.range (min k (n - 2) + 1)).map (min k (n - 2) - ·)
theorem resize_iter {lot : List (Int × Int)} {k : Nat} {c : Int} (hp : ∀ x ∈ lot, 1 ≤ x.2) :
    resizeLot lot k c = if lot.length < 2 then lot else iterU (takerOf lot.length k c) (giversOf lot.length k c) c.natAbs lot := by
  unfold resizeLot
  split
  · rfl
  · rename_i h2
    have hn : (if c < 0 then -c else c) = (c.natAbs : Int) := by split <;> grind
    rw [hn]
    symm
    refine iter_gives (ti := takerOf lot.length k c) (gs := giversOf lot.length k c) hp ?_ ?_ ?_ <;> unfold giversOf <;> try unfold takerOf
    · split
      · simp only [List.mem_map, List.mem_range, not_exists, not_and]; intro x hx; lia
      · simp only [List.mem_map, List.mem_range, not_exists, not_and]; intro x hx; grind
    · split
      · exact List.Pairwise.map _ (fun a b (h : a ≠ b) => by lia) List.nodup_range
      · rw [List.Nodup, List.pairwise_map]
        exact List.Pairwise.imp_of_mem (fun {a b} ha hb (h : a ≠ b) => by have := List.mem_range.mp ha; have := List.mem_range.mp hb; grind) List.nodup_range
    · split
      · simp only [List.mem_map, List.mem_range]; rintro g ⟨x, hx, rfl⟩; lia
      · simp only [List.mem_map, List.mem_range]; rintro g ⟨x, hx, rfl⟩; omega

/-! dicts of written keys; an item of a list put; list(range), sorted -/
noncomputable def dct (prog : Program) (w : World) (kvs : List (Str × Value)) : AO := .opq fun o => o.IsDictOf (PySem.strKind prog w) kvs
noncomputable def DEnd (prog : Program) (w : World) (z : Shared) (B : Heap) (L : Addr) (O : List Addr) (D : Addr) (Q : Value → Shared → Prop) (vs : List (Value × Value)) (s1 : Shared) : Prop :=
  ∃ H1 m1, St w z B H1 L O m1 s1 ∧ H1 D = some (dct prog w []) ∧ B.get? D = none ∧ allStrKeys vs = true ∧ ((strPairs vs).map (·.1)).Nodup ∧ ∀ s', St w z B (H1.set D (dct prog w (strPairs vs))) L O m1 s' → Q (.ref D) s'
section
variable {prog : Program} {w : World} {A : Around} {E : Value → Shared → Prop} {z s : Shared} {B : Heap} {H : AH} {L : Addr} {O : List Addr} {m : Str → Option Value} {env : Env}
theorem St.dict (S : St w z B H L O m s) {d : Addr} {kvs : List (Str × Value)} (h : H d = some (dct prog w kvs)) : s.heap.DictOf (PySem.strKind prog w) d kvs :=
  let ⟨o, g, e⟩ := S.real _ _ h; Heap.dictOf_iff.mpr ⟨o, g, e⟩
theorem r_dget (S : St w z B H L O m s) {value slice : Expr} {d : Addr} {kvs : List (Str × Value)} {k : Str} {tk : Tok} {v : Value} {Q : Value → Shared → Prop} (h : H d = some (dct prog w kvs)) (hl : valueAt kvs k = some v) (q : ∀ s', St w z B H L O m s' → Q v s')
    (hs : subscripted slice false (.ref d) (.str k tk) = operate [.ref d, .str k tk] (getItem (.ref d) (.str k tk)) := by with_unfolding_all rfl) (hg : ∀ r, letTemporaryGo value (.ref d) r = pure () := by intro _; with_unfolding_all rfl) :
    wpAny (model prog w) A (subscriptTail value slice (.ref d) (.str k tk)) Q E s :=
  have hD := S.dict h
  subscriptTail_builtin hD.typeIs slot_dict_getitem.lookup (wpAny_getItem_of (strKind_is _ _ _ _) hD.mapOf hl (q _ (S.toks _))) hs hg
theorem r_dset (S : St w z B H L O m s) {d : Addr} {kvs : List (Str × Value)} {k : Str} {tk : Tok} {v : Value} {Q : Unit → Shared → Prop} (h : H d = some (dct prog w kvs)) (hB : B.get? d = none) (hsz : kvs.length ≤ 100) (q : ∀ s', St w z B (H.set d (dct prog w (stored kvs k v))) L O m s' → Q () s') :
    wpAny (model prog w) A (setItem (.ref d) (.str k tk) v) Q E s := by
  refine wpAny_setItem_pairs (hsz := by rw [sizeLine_eq]; (refine Nat.le_trans (by with_reducible assumption) ?_; exact Nat.le_of_ble_eq_true rfl)) (strKind_is _ _ _ _) (S.dict h) fun h' hmm hs => ?_
  refine op_EA (Heap.dictOf_iff.mp hmm) fun o' ho' hd' => ?_
  exact q _ (S.turnS (t := s.toks + 1) h hB (fun b o hb x => (hs.2 b hb).trans x) ho' hd')
noncomputable def okD (keys : List (Option Expr)) (n : Nat) : Bool := decide (keys.all (·.isSome) = true ∧ keys.length = n ∧ 0 < keys.length ∧ keys.length ≤ 15)
theorem r_dnew (S : St w z B H L O m s) {keys : List (Option Expr)} {values : List Expr} {pos : Pos} {Q : Value → Shared → Prop}
    (h : ∀ D s', St w z B (H.set D (dct prog w [])) L O m s' → H D = none → B.get? D = none → wpAny (model prog w) A (evalPairs (pairTrees keys values env pos)) (DEnd prog w z B L O D Q) E s')
    (hb : true = okD keys values.length := by with_unfolding_all rfl) :
    wpAny (model prog w) A (eval (.Dict keys values pos) env) Q E s := by
  have hb := of_decide_eq_true hb.symm
  refine Dict_made (knd := PySem.strKind prog w) S.fr hb.1 hb.2.1 (fun e => by have := hb.2.2.1; rw [e] at this; exact Nat.lt_irrefl _ this) hb.2.2.2 fun F' => ?_
  refine op_EA (Heap.dictOf_iff.mp (Heap.DictOf.new (knd := PySem.strKind prog w) s.heap)) fun o1 g1 d1 => ?_
  refine op_AA (S.new (s' := { s with heap := s.heap.push { cls := .type "dict", data := .dict #[] } }) (o := dct prog w []) (Heap.get?_none_of_le (Nat.le_refl _)) (fun b o e => Heap.get?_push_of_some _ e) ⟨rfl, rfl, rfl⟩ g1 d1) fun S1 n1 b1 => ?_
  refine wpAny_mono (h _ _ S1 n1 b1) (fun vs s1 ⟨H1, m1, S2, e1, e2, hk, hn, q⟩ => ?_) fun _ _ x => x
  refine display_done_str hk hn (S2.dict e1) fun h' hm hs => ?_
  refine op_EA (Heap.dictOf_iff.mp hm) fun o' ho' hd' => ?_
  exact q _ (S2.turnS (t := s1.toks + vs.length) e1 e2 (fun b o hb x => (hs.2 b hb).trans x) ho' hd')
theorem r_lset (S : St w z B H L O m s) {l : Addr} {vs : List Value} {k : Int} {i : Nat} {tk : Tok} {v : Value} {Q : Unit → Shared → Prop} (h : H l = some (.lst vs)) (hB : B.get? l = none) (hk : k = i) (hi : i < vs.length) (hz : vs.length ≤ 10000)
    (q : ∀ s', St w z B (H.set l (.lst (vs.set i v))) L O m s' → Q () s') : wpAny (model prog w) A (setItem (.ref l) (.int k tk) v) Q E s := by
  subst hk
  refine op_EAE (S.real _ _ h) fun ob h1 n ek1 => ?_
  subst ek1
  refine ki_setAt h1 (by lia) (by lia) (by simpa using hi) ?_
  refine q _ (S.turnS (t := s.toks) h hB (fun b o hb x => ((Heap.SameBut.update ..).2 b hb).trans x) (Heap.get?_update_self _ h1 rfl) ?_)
  show ∃ n', Obj.mapSeq _ (listOf vs.toArray n) = listOf _ n'
  rw [Int.toNat_natCast]
  have e : (vs.set i v).toArray = vs.toArray.setIfInBounds i v := by simp
  rw [e]
  exact ⟨_, rfl⟩
noncomputable def rInts (a c : Int) (n : Nat) : List Int := (List.range n).map fun i : Nat => a + (i : Int) * c
theorem ints_of_items {acc : Array Value} {n : Nat} {a c : Int} (h : ItemsOf (fun i v => ∃ t, v = Value.int (a + i * c) t) acc n) : IntsAre acc.toList (rInts a c n) := by
  obtain ⟨h1, h2⟩ := h
  have key : ∀ (vs : List Value) (k : Nat), (∀ j v, vs[j]? = some v → ∃ t, v = Value.int (a + ((k + j : Nat) : Int) * c) t) → IntsAre vs ((List.range' k vs.length).map fun i : Nat => a + (i : Int) * c) := by
    intro vs
    induction vs with
    | nil => intro k _; exact .nil
    | cons v vs ih =>
      intro k hv
      obtain ⟨t, rfl⟩ := hv 0 v rfl
      simp only [List.length_cons, List.range'_succ, List.map_cons]
      refine .cons _ _ (ih (k + 1) fun j v e => ?_)
      obtain ⟨t, rfl⟩ := hv (j + 1) v (by simpa using e)
      exact ⟨t, by congr 3; lia⟩
  have := key acc.toList 0 fun j v e => by
    obtain ⟨t, rfl⟩ := h2 j v (by simpa using e)
    exact ⟨t, by simp⟩
  unfold rInts
  rw [List.range_eq_range']
  simpa [h1] using this
theorem r_listR (S : St w z B H L O m s) (hA : A.handled = none) {r : Addr} {a b c : Int} {n : Nat} {Q : Value → Shared → Prop} (hr : H r = some (rng a b c)) (hs : Builtin.Range.small a b c = true) (hn : Builtin.Range.rangeSize a b c = n) (hz : n ≤ 10000)
    (q : ∀ l vs s', IntsAre vs (rInts a c n) → St w z B (H.set l (.lst vs)) L O m s' → H l = none → B.get? l = none → Q (.ref l) s') : wpAny (model prog w) A (call (.type "list") [.ref r]) Q E s := by
  refine op_EAEEE (S.real _ _ hr) fun ob g t u v ek2 => ?_
  subst ek2
  refine call_list_range hA g hs hn (Nat.le_trans hz (by decide)) fun h' tk acc' c' hk hS' hacc => ?_
  refine op_AA (S.new (s' := { s with heap := h', toks := tk }) (o := .lst acc'.toList) (Heap.get?_none_of_le (Nat.le_refl _)) hk ⟨rfl, rfl, rfl⟩ hS' ⟨c', by simp⟩) fun S1 n1 b1 => ?_
  exact q _ _ _ (ints_of_items hacc) S1 n1 b1
theorem r_sorted (S : St w z B H L O m s) {l : Addr} {vs : List Value} {ns : List Int} {Q : Value → Shared → Prop} (h : H l = some (.lst vs)) (hi : IntsAre vs ns) (h64 : vs.length < 64)
    (q : ∀ l' vs' ns' s', IntsAre vs' ns' → ns'.Perm ns → ns'.Pairwise (· ≤ ·) → St w z B (H.set l' (.lst vs')) L O m s' → H l' = none → B.get? l' = none → Q (.ref l') s') : wpAny (model prog w) A (call (.builtin "sorted") [.ref l]) Q E s := by
  refine sorted_N S.fr all_news (S.isList h) hi h64 fun h' vs' ns' e F' N' hI hp hs => ?_
  refine op_AA (S.new_uni (t := s.toks) (o := .lst vs') (Heap.get?_none_of_le (Nat.le_succ _)) F' N' ⟨e, rfl⟩) fun x y v => ?_
  exact q _ _ _ _ hI hp hs x y v
end

/-! a for over the zip of two lists -/
noncomputable def zipO (TI TO : Addr) (f0 : Value) : Obj := { cls := .type "zip", dict := none, data := .fields #[f0, .bool false, .bool false, .ref TI, .ref TO], slots := #[] }
noncomputable def pairO (a b : Value) : Obj := { cls := .type "tuple", data := .seq #[a, b] }
structure ZA where
  zp : Addr
  TI : Addr
  TO : Addr
  i1 : Addr
  i2 : Addr
  l1 : Addr
  l2 : Addr
noncomputable def ZA.map (q : ZA) (f0 : Option Value) (k : Nat) : AH := fun b =>
  if b = q.zp then (match f0 with | some v => some (.obj (zipO q.TI q.TO v)) | none => some (.opq fun _ => True)) else if b = q.TI then some (.obj (pairO (.ref q.i1) (.ref q.i2))) else if b = q.TO then some (.opq fun o => ∃ a b, o = pairO a b)
  else if b = q.i1 then some (lit q.l1 k) else if b = q.i2 then some (lit q.l2 k) else none
noncomputable abbrev ZA.Ok (q : ZA) : Prop := ZipApart q.zp q.TI q.TO q.i1 q.i2 q.l1 q.l2
noncomputable def AH.over (H Z : AH) : AH := fun b => match Z b with | some o => some o | none => H b
noncomputable def AH.minus (H Z : AH) : AH := fun b => match Z b with | some _ => none | none => H b
theorem over_new {H Z : AH} {b : Addr} {o : AO} (h : H b = some o) (hz : ∀ b, Z b ≠ none → H b = none) : (H.over Z) b = some o := by
  unfold AH.over
  cases q : Z b with
  | none => exact h
  | some o' => rw [hz b (by rw [q]; simp)] at h; cases h
theorem over_le {H Z : AH} (hz : ∀ b, Z b ≠ none → H b = none) : Le H (H.over Z) := fun _ _ e => over_new e hz
theorem over_in {H Z : AH} {b : Addr} {o : AO} (h : Z b = some o) : (H.over Z) b = some o := by unfold AH.over; rw [h]
theorem over_none {H Z : AH} {b : Addr} (h : (H.over Z) b = none) : Z b = none ∧ H b = none := by
  unfold AH.over at h
  cases q : Z b with
  | none => rw [q] at h; exact ⟨rfl, h⟩
  | some o => rw [q] at h; cases h
theorem minus_over {H Z : AH} (h : ∀ b o, Z b = some o → H b = some o) : (H.minus Z).over Z = H := by
  funext b
  unfold AH.over AH.minus
  cases q : Z b with
  | none => rfl
  | some o => exact (h b o q).symm
theorem minus_none {H Z : AH} : ∀ b, Z b ≠ none → (H.minus Z) b = none := fun b hb => by
  unfold AH.minus
  cases q : Z b with
  | none => exact absurd q hb
  | some o => rfl
theorem minus_get {H Z : AH} {b : Addr} {o : AO} (h : H b = some o) (hz : Z b = none) : (H.minus Z) b = some o := by unfold AH.minus; rw [hz]; exact h
theorem ZA.map_off {q : ZA} {f : Option Value} {k : Nat} {b : Addr} (h : q.map f k b = none) : b ≠ q.zp ∧ b ≠ q.TI ∧ b ≠ q.TO ∧ b ≠ q.i1 ∧ b ≠ q.i2 := by
  unfold ZA.map at h
  refine ⟨?_, ?_, ?_, ?_, ?_⟩
  all_goals
    intro e
    subst e
    revert h
    (repeat' split) <;> simp_all
theorem ZA.map_dom {q : ZA} {f f' : Option Value} {k k' : Nat} {b : Addr} (h : q.map f k b = none) : q.map f' k' b = none := by
  refine op_AAAA (ZA.map_off h) fun a c d e g => ?_
  simp [ZA.map, a, c, d, e, g]
theorem ZA.map_at {q : ZA} (D : q.Ok) {f : Option Value} {k : Nat} : q.map (f) k q.TI = some (.obj (pairO (.ref q.i1) (.ref q.i2))) ∧ q.map f k q.TO = some (.opq fun o => ∃ a b, o = pairO a b) ∧ q.map f k q.i1 = some (lit q.l1 k) ∧ q.map f k q.i2 = some (lit q.l2 k) := by
  refine ⟨?_, ?_, ?_, ?_⟩
  · simp [ZA.map, D.TIz]
  · simp [ZA.map, D.TOz, Ne.symm D.TITO]
  · simp [ZA.map, D.i1z, Ne.symm D.TIi1, Ne.symm D.TOi1]
  · simp [ZA.map, D.i2z, Ne.symm D.TIi2, Ne.symm D.TOi2, Ne.symm D.i12]
theorem ZA.map_z {q : ZA} {v : Value} {k : Nat} : q.map (some v) k q.zp = some (.obj (zipO q.TI q.TO v)) := by simp [ZA.map]
theorem ZA.map_cases {q : ZA} {f : Option Value} {k : Nat} {b : Addr} {o : AO} (h : q.map f k b = some o) :
    (b = q.zp) ∨ (b = q.TI ∧ o = .obj (pairO (.ref q.i1) (.ref q.i2))) ∨ (b = q.TO ∧ o = .opq fun o => ∃ a b, o = pairO a b) ∨ (b = q.i1 ∧ o = lit q.l1 k) ∨ (b = q.i2 ∧ o = lit q.l2 k) := by
  unfold ZA.map at h
  split at h
  · exact .inl ‹_›
  · split at h
    · exact .inr (.inl ⟨‹_›, by cases h; rfl⟩)
    · split at h
      · exact .inr (.inr (.inl ⟨‹_›, by cases h; rfl⟩))
      · split at h
        · exact .inr (.inr (.inr (.inl ⟨‹_›, by cases h; rfl⟩)))
        · split at h
          · exact .inr (.inr (.inr (.inr ⟨‹_›, by cases h; rfl⟩)))
          · cases h
noncomputable def ZEnd (w : World) (z : Shared) (B : Heap) (L : Addr) (O : List Addr) (Z : AH) (J : AH → (Str → Option Value) → Prop) (Q : Flow → Shared → Prop) (f : Flow) (s : Shared) : Prop :=
  match f with
  | .ret v => Q (.ret v) s
  | .brk => Q .next s
  | _ => ∃ H' m', St w z B H' L O m' s ∧ (∀ b o, Z b = some o → H' b = some o) ∧ J (H'.minus Z) m'
section
variable {prog : Program} {w : World} {A : Around} {E : Value → Shared → Prop} {z s : Shared} {B : Heap} {H : AH} {L : Addr} {O : List Addr} {m : Str → Option Value} {env : Env}
theorem St.fresh (S : St w z B H L O m s) {a : Addr} (h : s.heap.objs.size ≤ a) : H a = none ∧ B.get? a = none ∧ a ≠ L ∧ a ∉ O := by
  have hg : s.heap.get? a = none := Heap.get?_none_of_le h
  refine ⟨?_, ?_, ?_, ?_⟩
  · cases q : H a with
    | none => rfl
    | some o => obtain ⟨_, x, _⟩ := S.real _ _ q; rw [hg] at x; cases x
  · cases q : B.get? a with
    | none => rfl
    | some o => have := S.keep _ _ q; rw [hg] at this; cases this
  · rintro rfl; obtain ⟨o, _, _, x, _⟩ := S.ns; rw [hg] at x; cases x
  · intro hm; obtain ⟨_, o, y⟩ := S.outs a hm; have := S.keep _ _ y; rw [hg] at this; cases this
theorem r_zip (S : St w z B H L O m s) {l1 l2 : Addr} {vs ws : List Value} {Q : Value → Shared → Prop} (h1 : H l1 = some (.lst vs)) (h2 : H l2 = some (.lst ws))
    (q : ∀ (x : ZA) s', x.l1 = l1 → x.l2 = l2 → x.Ok → (∀ b, x.map (some .none) 0 b ≠ none → H b = none ∧ B.get? b = none) → St w z B (H.over (x.map (some .none) 0)) L O m s' → Q (.ref x.zp) s') :
    wpAny (model prog w) A (call (.type "zip") [.ref l1, .ref l2]) Q E s := by
  have a1 : l1 < s.heap.objs.size := by obtain ⟨_, e, _⟩ := S.real _ _ h1; exact Heap.lt_size e
  have a2 : l2 < s.heap.objs.size := by obtain ⟨_, e, _⟩ := S.real _ _ h2; exact Heap.lt_size e
  refine call_zip_2 (S.isList h1) (S.isList h2) fun h' hz hTI hTO hi1 hi2 _ hk => ?_
  let x : ZA := ⟨s.heap.objs.size + 4, s.heap.objs.size + 2, s.heap.objs.size + 3, s.heap.objs.size, s.heap.objs.size + 1, l1, l2⟩
  have big : ∀ b, x.map (some .none) 0 b ≠ none → s.heap.objs.size ≤ b := fun b hb => by
    cases e : x.map (some .none) 0 b with
    | none => exact absurd e hb
    | some o =>
      rcases ZA.map_cases e with h | ⟨h, _⟩ | ⟨h, _⟩ | ⟨h, _⟩ | ⟨h, _⟩
      · exact h ▸ Nat.le_add_right _ 4
      · exact h ▸ Nat.le_add_right _ 2
      · exact h ▸ Nat.le_add_right _ 3
      · exact h ▸ Nat.le_refl _
      · exact h ▸ Nat.le_add_right _ 1
  have off : ∀ b, s.heap.objs.size > b → x.map (some .none) 0 b = none := fun b hb => by
    cases e : x.map (some .none) 0 b with
    | none => rfl
    | some o => have := big b (by rw [e]; simp); lia
  have hL : L < s.heap.objs.size := by obtain ⟨o, _, _, y, _⟩ := S.ns; exact Heap.lt_size y
  have S1 := S.grown (s' := { s with heap := h' }) hk ⟨rfl, rfl, rfl⟩
  refine q x _ rfl rfl (zipApart_new a1 a2) (fun b hb => ⟨(S.fresh (big b hb)).1, (S.fresh (big b hb)).2.1⟩) ⟨S1.ns, S1.keep, S1.gnd, S1.offB, ?_, fun a o e => ?_, S1.above, fun a ha => ⟨?_, (S1.outs a ha).2⟩, S1.same⟩
  · unfold AH.over; rw [off L hL]; exact S.offH
  · unfold AH.over at e
    cases r : x.map (some .none) 0 a with
    | none => rw [r] at e; exact S1.real a o e
    | some o' =>
      rw [r] at e; cases e
      rcases ZA.map_cases r with h | ⟨h, ho⟩ | ⟨h, ho⟩ | ⟨h, ho⟩ | ⟨h, ho⟩
      · subst h; rw [ZA.map_z] at r; cases r; exact ⟨_, hz, rfl⟩
      · subst h; subst ho; exact ⟨_, hTI, rfl⟩
      · subst h; subst ho; exact ⟨_, hTO, _, _, rfl⟩
      · subst h; subst ho; exact hi1
      · subst h; subst ho; exact hi2
  · unfold AH.over
    have : x.map (some .none) 0 a = none := by
      refine op_AE (S.outs a ha) fun _ o y => ?_
      exact off a (Heap.lt_size (S.keep _ _ y))
    rw [this]; exact (S.outs a ha).1
theorem r_forZ (hA : A.handled = none) {xa xb : Str} {pa pb pt : Pos} {kk : Nat} {body : List Stmt} {Q : Flow → Shared → Prop} {x : ZA} {vs ws : List Value} (hlen : vs.length = ws.length) (D : x.Ok)
    (J : Nat → AH → (Str → Option Value) → Prop) (S : St w z B (H.over (x.map (some .none) 0)) L O m s) (hz : ∀ b, x.map (some .none) 0 b ≠ none → H b = none ∧ B.get? b = none)
    (h0 : J 0 H m) (hfx : ∀ i H m, J i H m → H x.l1 = some (.lst vs) ∧ H x.l2 = some (.lst ws))
    (turn : ∀ Z i v u m1 H1 s1 E', vs[i]? = some v → ws[i]? = some u → J i H1 m1 → (∀ b, Z b ≠ none → H1 b = none) → St w z B (H1.over Z) L O (upd (upd m1 xa v) xb u) s1 →
      wpAny (model prog w) A (execs body env) (ZEnd w z B L O Z (J (i + 1)) Q) E' s1)
    (done : ∀ H1 m1 s1, J vs.length H1 m1 → St w z B H1 L O m1 s1 → Q .next s1)
    (hL : L = env.locals := by rfl) (hxa : true = (okN .local env xa) := by rfl) (hxb : true = (okN .local env xb) := by rfl) :
    wpAny (model prog w) A (pyIter (.ref x.zp)) (fun it s₂ => codeAny (model prog w) A (.forLoop (.Tuple [.Name xa pa, .Name xb pb] kk pt) it body [] env) (fun r s' => match r with | .ok f => Q f s' | .error e => cameBackBy (model prog w) A env E e s') s₂) E s := by
  have hBx : ∀ b f k, x.map f k b ≠ none → B.get? b = none := fun b f k hb => (hz b fun q => hb (ZA.map_dom q)).2
  refine ce fun gl => ?_
  refine op_EA (S.real _ _ (over_in ZA.map_z)) fun oz gz rz => ?_
  cases rz
  refine gl ?_; clear gl
  refine wpAny_pyIter_zip gz ?_
  refine forL_any (fun k' s' => ∃ i H1 m1, St w z B (H1.over (x.map (some .none) i)) L O m1 s' ∧ J i H1 m1 ∧ (∀ b, x.map (some .none) i b ≠ none → H1 b = none) ∧ i ≤ vs.length ∧ k' = vs.length + 1 - i) ?_ (vs.length + 1) ⟨0, H, m, S, h0, fun b hb => (hz b hb).1, Nat.zero_le _, rfl⟩
  intro I' R' E1 hI1 hR1 k' s' hp2
  refine ce fun gl => ?_
  refine op_EEEAAAA hp2 fun i H1 m1 S' hJ hH1 hi ek1 => ?_
  try clear hp2
  subst ek1
  refine op_AAA (ZA.map_at D (f := some .none) (k := i)) fun mTI mTO mi1 mi2 => ?_
  refine op_EA (S'.real _ _ (over_in ZA.map_z)) fun oz gz rz => ?_
  cases rz
  refine op_EA (S'.real _ _ (over_in mTI)) fun oti gti rti => ?_
  cases rti
  refine op_EAEE (S'.real _ _ (over_in mTO)) fun oto gto ta tb rto => ?_
  cases rto
  refine op_EA (S'.real _ _ (over_in mi1)) fun o1 g1 r1 => ?_
  refine op_EA (S'.real _ _ (over_in mi2)) fun o2 g2 r2 => ?_
  obtain ⟨hl1, hl2⟩ := hfx i H1 m1 hJ
  refine gl ?_; clear gl
  have L1 := S'.isList (over_new hl1 hH1)
  have L2 := S'.isList (over_new hl2 hH1)
  have hLx : ∀ f k, x.map f k L = none := fun f k => ZA.map_dom (over_none S'.offH).1
  have hOx : ∀ a ∈ O, ∀ f k, x.map f k a = none := fun a ha f k => ZA.map_dom (over_none (S'.outs a ha).1).1
  by_cases hlt : i < vs.length
  · refine wpAny_pyNext_zip_item D gz gti gto ⟨o1, g1, r1⟩ ⟨o2, g2, r2⟩ L1 L2 (x := vs[i]) (y := ws[i]) (by simp [hlt]) (by simp) fun h1 hz1 hto1 hi1 hi2 ht1 hsz hk1 => ?_
    try dsimp only
    have hT : s'.heap.get? s'.heap.objs.size = none := Heap.get?_none_of_le (Nat.le_refl _)
    have hTx : ∀ f k, x.map f k s'.heap.objs.size = none := fun f k => by
      cases q : x.map (some .none) i s'.heap.objs.size with
      | none => exact ZA.map_dom q
      | some o => obtain ⟨_, y, _⟩ := S'.real _ _ (over_in q); rw [hT] at y; cases y
    have hT1 : H1 s'.heap.objs.size = none := by
      cases q : H1 s'.heap.objs.size with
      | none => rfl
      | some o => obtain ⟨_, y, _⟩ := S'.real _ _ (over_new q hH1); rw [hT] at y; cases y
    refine wpAny_letOwnedTupleGo_zip hz1 fun h2 hz2 hs2 => ?_
    have keep : ∀ b o, x.map (some .none) i b = none → s'.heap.get? b = some o → h2.get? b = some o := fun b o hb e => by
      refine op_AAAA (ZA.map_off hb) fun n1 n2 n3 n4 n5 => ?_
      exact (hs2.2 b n1).trans (hk1 b o n1 n3 n4 n5 e)
    have gTI : h2.get? x.TI = some (pairO (.ref x.i1) (.ref x.i2)) := (hs2.2 _ D.TIz).trans (hk1 _ _ D.TIz D.TITO D.TIi1 D.TIi2 gti)
    refine ce fun gl => ?_
    refine op_EA hi1 fun o1' g1' r1' => ?_
    try clear hi1
    refine op_EA hi2 fun o2' g2' r2' => ?_
    refine gl ?_; clear gl
    try clear hi2
    have S2 : St w z B ((H1.over (x.map (some .none) (i + 1))).set s'.heap.objs.size (.tup [vs[i], ws[i]])) L O m1 { s' with heap := h2 } := by
      refine ⟨S'.ns.at' fun o e => keep _ o (hLx _ _) e, fun b o e => keep b o ?_ (S'.keep b o e), S'.gnd, S'.offB, ?_, fun a o e => ?_, S'.above, fun a ha => ⟨?_, (S'.outs a ha).2⟩, S'.same⟩
      · cases q : x.map (some .none) i b with
        | none => rfl
        | some o' => rw [hBx b _ _ (by rw [q]; simp)] at e; cases e
      · refine set_ne ?_ (by rintro e; have := hT; rw [← e] at this; obtain ⟨_, _, _, y, _⟩ := S'.ns; rw [this] at y; cases y)
        unfold AH.over; rw [hLx]; exact (over_none S'.offH).2
      · unfold AH.set at e
        split at e
        · rename_i q; subst q; cases e
          exact mk_EAE _ ((hs2.2 _ (by rintro q; rw [← q] at gz; rw [hT] at gz; cases gz)).trans ht1) 0 rfl
        · unfold AH.over at e
          cases r : x.map (some .none) (i + 1) a with
          | none =>
            rw [r] at e
            refine op_EA (S'.real a o (over_new e hH1)) fun ob y1 y2 => ?_
            exact mk_EA ob (keep a ob (ZA.map_dom r) y1) y2
          | some o' =>
            rw [r] at e; cases e
            rcases ZA.map_cases r with h | ⟨h, ho⟩ | ⟨h, ho⟩ | ⟨h, ho⟩ | ⟨h, ho⟩
            · subst h; rw [ZA.map_z] at r; cases r; exact ⟨_, hz2, rfl⟩
            · subst h; subst ho; exact ⟨_, gTI, rfl⟩
            · subst h; subst ho; exact ⟨_, (hs2.2 _ D.TOz).trans hto1, _, _, rfl⟩
            · subst h; subst ho; exact ⟨_, (hs2.2 _ D.i1z).trans g1', r1'⟩
            · subst h; subst ho; exact ⟨_, (hs2.2 _ D.i2z).trans g2', r2'⟩
      · refine set_ne ?_ (by rintro rfl; obtain ⟨o, y⟩ := (S'.outs _ ha).2; have := S'.keep _ _ y; rw [hT] at this; cases this)
        unfold AH.over; rw [hOx a ha]; exact (over_none (S'.outs a ha).1).2
    refine r_asgTup2 S2 hA set_self (fun s4 S4 => ?_) hL hxa hxb
    have S5 := S4.weaken (H' := H1.over (x.map (some .none) (i + 1))) fun a o e => by
      refine set_ne e ?_
      rintro rfl
      unfold AH.over at e
      rw [hTx, hT1] at e; cases e
    have hH1' : ∀ b, x.map (some .none) (i + 1) b ≠ none → H1 b = none := fun b hb => hH1 b fun q => hb (ZA.map_dom q)
    refine wpAny_mono (turn _ i vs[i] ws[i] m1 H1 s4 _ (by simp [hlt]) (List.getElem?_eq_getElem (by lia)) hJ hH1' S5) (fun f s5 h5 => ?_) fun _ _ x => x
    have fin : (∃ H' m', St w z B H' L O m' s5 ∧ (∀ b o, x.map (some .none) (i + 1) b = some o → H' b = some o) ∧ J (i + 1) (H'.minus (x.map (some .none) (i + 1))) m') → ∃ m_1, m_1 < vs.length + 1 - i ∧ I' m_1 s5 :=
      fun ⟨H', m', S6, hZ, hJ'⟩ => ⟨vs.length + 1 - (i + 1), by grind, hI1 _ _ ⟨i + 1, _, m', by rw [minus_over hZ]; exact S6, hJ', minus_none, hlt, rfl⟩⟩
    cases f with
    | next => exact fin h5
    | cont => exact fin h5
    | brk => exact hR1 (.ok .next) _ h5
    | ret v => exact hR1 (.ok (.ret v)) _ h5
  · have hin : i = vs.length := by lia
    subst hin
    refine wpAny_pyNext_zip_end hA D gz gti gto ⟨o1, g1, r1⟩ ⟨o2, g2, r2⟩ L1 L2 (by simp) fun h1 hk1 => ?_
    try dsimp only
    have keep : ∀ b o, x.map (some .none) vs.length b = none → s'.heap.get? b = some o → h1.get? b = some o := fun b o hb e => by
      refine op_AAAA (ZA.map_off hb) fun n1 n2 n3 n4 n5 => ?_
      exact hk1 b o n1 n3 n4 n5 e
    have offx : ∀ b o, H1 b = some o → x.map (some .none) vs.length b = none := fun b o e => by
      cases q : x.map (some .none) vs.length b with
      | none => rfl
      | some o' => rw [hH1 b (by rw [q]; simp)] at e; cases e
    refine wpAny_execs_nil (hR1 (.ok .next) _ <| done H1 m1 _ hJ ⟨S'.ns.at' fun o e => keep _ o (hLx _ _) e, fun b o e => keep b o ?_ (S'.keep b o e), S'.gnd, S'.offB, (over_none S'.offH).2, fun a o e => ?_, S'.above, fun a ha => ⟨(over_none (S'.outs a ha).1).2, (S'.outs a ha).2⟩, S'.same⟩)
    · cases q : x.map (some .none) vs.length b with
      | none => rfl
      | some o' => rw [hBx b _ _ (by rw [q]; simp)] at e; cases e
    · refine op_EA (S'.real a o (over_new e hH1)) fun ob y1 y2 => ?_
      exact mk_EA ob (keep a ob (offx a o e) y1) y2
end

/-! a comprehension whose own name stands in a cell -/
section
variable {prog : Program} {w : World} {A : Around} {E : Value → Shared → Prop} {R : Result → Shared → Prop} {z s : Shared} {B : Heap} {H : AH} {L C : Addr} {O : List Addr} {m : Str → Option Value} {env : Env}
noncomputable def JC (c : Addr) (J : Nat → List Value → AH → Prop) (i : Nat) (ys : List Value) (H : AH) : Prop := ∃ cv, H c = some (.cel cv) ∧ J i ys (H.del c)
theorem r_compSC {I : Addr} {n : Nat} {P : Nat → Value → Prop} {it : Nat → AO} {fx : AH → Prop} (X : Src prog w I n P it fx) (hA : A.handled = none) {elt target iter : Expr} {ifs : List Expr} {scope : Scope} {cl : List (Str × Addr)} {pos : Pos} {Q : Value → Shared → Prop} (x0 : Str)
    (J : Nat → List Value → AH → Prop) (S : St w z B H L O m s) (hI : H I = some (it 0)) (hBI : B.get? I = none) (hn : n ≤ 10000) (h0 : J 0 [] (H.del I))
    (hcl : ∀ a, cellsFrom a scope.names cl = (x0, a) :: cl) (hpc : ∀ h : Heap, pushCells h scope.names = h.push { cls := .type "cell", data := .cell none })
    (hfx : ∀ H, fx H)
    (turn : ∀ (C D c : Addr) (B' : Heap) (i : Nat) (v : Value) (ys : List Value) (H1 : AH) (m1 : Str → Option Value) (s1 : Shared) (E' : Value → Shared → Prop) (cv : Option Value), (∀ b, B'.get? b = none → B.get? b = none) → i < n → P i v → H1 c = some (.cel cv) → J i ys (H1.del c) → H1 I = none → H1 D = none → D ≠ I → B'.get? I = none → B'.get? D = none → B'.get? c = none → St w z B' ((H1.set I (it (i + 1))).set D (.lst ys)) C (L :: O) m1 s1 →
      wpAny (model prog w) A (assign target (compEnvC scope ((x0, c) :: cl) C env) v) (fun _ s2 => wpAny (model prog w) A (testsOf ifs (compEnvC scope ((x0, c) :: cl) C env)) (fun ok s3 =>
        if ok = true then wpAny (model prog w) A (eval elt (compEnvC scope ((x0, c) :: cl) C env)) (fun y s4 => CEnd w z B' C (L :: O) I D (it (i + 1)) ys (JC c J (i + 1)) (ys ++ [y]) s4) E' s3 else CEnd w z B' C (L :: O) I D (it (i + 1)) ys (JC c J (i + 1)) ys s3) E' s2) E' s1)
    (done : ∀ D ys H1 s1, J n ys H1 → H1 I = none → H1 D = none → B.get? D = none → St w z B (H1.set D (.lst ys)) L O m s1 → Q (.ref D) s1) :
    CompK prog w A env (.ListComp elt [⟨target, iter, ifs, 0⟩] scope pos) scope cl E none Q (.ref I) s := by
  refine r_newList S (by rw [sizeLine_eq]; simp) fun D s3 S3 nD bD => ?_
  have hne : D ≠ I := by first | exact ne_sn hI nD | exact ne_ns hI nD | exact ne_sn nD hI | exact ne_ns nD hI
  have hI3 : (H.set D (.lst [])) I = some (it 0) := set_new hI nD
  simp only [newFunctionEnv, Option.isSome_some, if_true]
  refine wpAny_bind (wpAny_alloc ?_)
  refine wpAny_bind (wpAny_layCells _ (fun name kind cells => by cases hkc : kind == NameKind.cell <;> simp [hkc]) _ _ _ _ ?_)
  rw [show ({ s3 with heap := s3.heap.push { cls := .type "dict", data := .dict #[] } } : Shared).heap.objs.size = s3.heap.objs.size + 1 from Heap.size_push ..]
  rw [hcl, hpc]
  refine wpAny_bind ?_
  rw [List.forIn_nil]
  refine wpAny_pure (wpAny_pure ?_)
  have hk : ∀ b o, s3.heap.get? b = some o → ((s3.heap.push { cls := .type "dict", data := .dict #[] }).push { cls := .type "cell", data := .cell none }).get? b = some o := fun b o e => Heap.get?_push_of_some _ (Heap.get?_push_of_some _ e)
  have hns : ((s3.heap.push { cls := .type "dict", data := .dict #[] }).push { cls := .type "cell", data := .cell none }).Ns s3.heap.objs.size (fun _ => none) := (Heap.Ns.new s3.heap (.type "dict")).keeps fun b o e => Heap.get?_push_of_some _ e
  have hM : ∀ d ∈ [I, D], B.get? d = none ∧ ∃ o, (H.set D (.lst [])) d = some o := fun d hd => by
    refine mem_cons_op hd ?_ fun d hd => ?_
    · exact mk_AE hBI _ hI3
    · rw [List.mem_singleton.mp hd]; exact ⟨bD, _, set_self⟩
  have S4 := S3.enter hM (Nat.le_refl _) hns hk (t := s3.toks)
  refine op_AAA (S3.fresh (Nat.le_succ s3.heap.objs.size)) fun f1 f2 f3 f4 => ?_
  have f5 : (hideAll s3.heap [I, D]).get? (s3.heap.objs.size + 1) = none := by
    cases q : (hideAll s3.heap [I, D]).get? (s3.heap.objs.size + 1) with
    | none => rfl
    | some o => have := of_hideAll _ q; rw [Heap.get?_none_of_le (Nat.le_succ _)] at this; cases this
  have hgc : ((s3.heap.push { cls := .type "dict", data := .dict #[] }).push { cls := .type "cell", data := .cell none }).get? (s3.heap.objs.size + 1) = some { cls := .type "cell", data := .cell none } := by
    have := Heap.get?_push_size (o := { cls := .type "cell", data := .cell none }) (s3.heap.push { cls := .type "dict", data := .dict #[] }) rfl
    rwa [Heap.size_push] at this
  have S5 : St w z (hideAll s3.heap [I, D]) ((H.set D (.lst [])).set (s3.heap.objs.size + 1) (.cel none)) s3.heap.objs.size (L :: O) (fun _ => none) { s3 with heap := (s3.heap.push { cls := .type "dict", data := .dict #[] }).push { cls := .type "cell", data := .cell none }, toks := s3.toks } := by
    refine ⟨S4.ns, S4.keep, S4.gnd, S4.offB, set_ne S4.offH (Nat.ne_of_lt (Nat.lt_succ_self _)), fun a o e => ?_, S4.above, fun a ha => ⟨set_ne (S4.outs a ha).1 ?_, (S4.outs a ha).2⟩, S4.same⟩
    · unfold AH.set at e
      split at e
      · rename_i q; subst q; cases e; exact ⟨_, hgc, rfl⟩
      · exact S4.real a o e
    · refine mem_cons_op ha ?_ fun a ha => ?_
      · exact Ne.symm f3
      · rintro rfl; exact f4 ha
  clear S4
  have hBI' : (hideAll s3.heap [I, D]).get? I = none := hideAll_none _ (.head _)
  have hBD' : (hideAll s3.heap [I, D]).get? D = none := hideAll_none _ (.tail _ (.head _))
  have hBB : ∀ b, (hideAll s3.heap [I, D]).get? b = none → B.get? b = none := fun b e => by
    cases q : B.get? b with
    | none => rfl
    | some o =>
      have := hideAll_get [I, D] (S3.keep _ _ q) (fun x => by rw [(hM _ x).1] at q; cases q)
      rw [e] at this; cases this
  have hcI : s3.heap.objs.size + 1 ≠ I := ne_of_none_some f1 hI3
  have hcD : s3.heap.objs.size + 1 ≠ D := ne_of_none_some f1 set_self
  have hHc : H (s3.heap.objs.size + 1) = none := (Le.set nD).none f1
  have hd0 : (((((H.set D (.lst [])).set (s3.heap.objs.size + 1) (.cel none)).del I).del D).del (s3.heap.objs.size + 1)) = H.del I := by
    funext b; simp only [AH.set, AH.del]
    by_cases e0 : b = s3.heap.objs.size + 1
    · subst e0; simp [hHc]
    · by_cases e1 : b = D
      · subst e1; simp [hne, nD, e0]
      · simp [e1, e0]
  have loop : codeAny (model prog w) A (.compLoop (.ListComp elt [⟨target, iter, ifs, 0⟩] scope pos) 0 (.ref I) (.ref D) (compEnvC scope ((x0, s3.heap.objs.size + 1) :: cl) s3.heap.objs.size env)) (compPost (model prog w) A E none Q (.ref D) s3.heap.objs.size) { s3 with heap := (s3.heap.push { cls := .type "dict", data := .dict #[] }).push { cls := .type "cell", data := .cell none }, toks := s3.toks } := by
    refine r_compLoop X hA (JC (s3.heap.objs.size + 1) J) S5 (set_ne hI3 (Ne.symm hcI)) (set_ne set_self (Ne.symm hcD)) hne hBI' hBD' hn ⟨none, del_ne (del_ne set_self hcI) hcD, by rw [hd0]; exact h0⟩ (fun i ys H o o' a b c => hfx _)
      (fun i v ys H1 m1 s1 E' a b c d e f => by
        refine op_EA c fun cv c1 c2 => ?_
        try clear c
        exact turn _ D _ _ i v ys H1 m1 s1 E' cv hBB a b c1 c2 d e hne hBI' hBD' f5 f) fun ys H1 m1 s1 a b c S6 => ?_
    have hL := S3.leave hM (fun b o e q => hideAll_get _ e q) S6
    have hC : L ≠ s3.heap.objs.size := by
      refine op_EEEA S3.ns fun o _ _ x _ => ?_
      exact Nat.ne_of_lt (Heap.lt_size x)
    refine op_EA a fun cv a1 a2 => ?_
    try clear a
    have hnD : ∀ {b}, H1 b = none → (H1.del (s3.heap.objs.size + 1)) b = none := fun e => del_le.none e
    refine mk_EA m1 S6.ns (fun h' hs => done D ys (H1.del (s3.heap.objs.size + 1)) _ a2 (hnD b) (hnD c) bD ?_)
    exact (hL.sameBut hs hC S6.offH (hBB _ S6.offB)).weaken del_le.set2
  exact codeAny_compStart_list loop (X.self hA S5 (set_ne hI3 (Ne.symm hcI)) loop)
end

/-! lists of tuples; a lot on the heap -/
noncomputable def LeT (H H' : AH) : Prop := ∀ a vs, H a = some (.tup vs) → H' a = some (.tup vs)
theorem Le.t {H H' : AH} (h : Le H H') : LeT H H' := fun a vs e => h a _ e
theorem LeT.rfl {H : AH} : LeT H H := fun _ _ e => e
theorem LeT.trans {H H' H'' : AH} (h : LeT H H') (h' : LeT H' H'') : LeT H H'' := fun a vs e => h' a vs (h a vs e)
theorem LeT.lst {H : AH} {D : Addr} {ys : List Value} {o : AO} (h : H D = some (.lst ys)) : LeT H (H.set D o) := fun a vs e => set_ne e (by first | exact ne_ss e h (fun q => nomatch q) | exact ne_sn e h | exact ne_ns e h | exact ne_sn h e | exact ne_ns h e)
theorem LeT.fresh {H : AH} {D : Addr} {o : AO} (h : H D = none) : LeT H (H.set D o) := (Le.set h).t
theorem LeT.delO {H : AH} {I : Addr} {p : Obj → Prop} (h : H I = some (.opq p)) : LeT H (H.del I) := fun a vs e => del_ne e (by first | exact ne_ss e h (fun q => nomatch q) | exact ne_sn e h | exact ne_ns e h | exact ne_sn h e | exact ne_ns h e)
inductive Tups (H : AH) : List Value → List Dat → Prop
  | nil : Tups H [] []
  | cons {a : Addr} {vs rest : List Value} {ds drest : List Dat} : H a = some (.tup vs) → HDats (fun _ => none) vs ds → Tups H rest drest → Tups H (.ref a :: rest) (.tuple ds :: drest)
theorem Tups.mono {H H' : AH} {vs : List Value} {ds : List Dat} (h : Tups H vs ds) (k : LeT H H') : Tups H' vs ds := by
  induction h with
  | nil => exact .nil
  | cons a b _ ih => exact .cons (k _ _ a) b ih
theorem Tups.append {H : AH} {vs ws : List Value} {ds es : List Dat} (h : Tups H vs ds) (h' : Tups H ws es) : Tups H (vs ++ ws) (ds ++ es) := by
  induction h with
  | nil => exact h'
  | cons a b _ ih => exact .cons a b ih
theorem Tups.dats {H : AH} {vs : List Value} {ds : List Dat} (h : Tups H vs ds) : HDats H vs ds := by
  induction h with
  | nil => exact .nil
  | cons a b _ ih => exact .cons (.tuple a (b.mono fun _ _ e => by cases e)) ih
theorem Tups.len {H : AH} {vs : List Value} {ds : List Dat} (h : Tups H vs ds) : vs.length = ds.length := by
  induction h with
  | nil => rfl
  | cons _ _ _ ih => simp [ih]
inductive LotVs (H : AH) : List Value → List (Int × Int) → Prop
  | nil : LotVs H [] []
  | cons {a : Addr} {p c : Int} {t u : Tok} {vs : List Value} {lot : List (Int × Int)} : H a = some (.tup [.int p t, .int c u]) → LotVs H vs lot → LotVs H (.ref a :: vs) ((p, c) :: lot)
theorem LotVs.mono {H H' : AH} {vs : List Value} {lot : List (Int × Int)} (h : LotVs H vs lot) (k : LeT H H') : LotVs H' vs lot := by
  induction h with
  | nil => exact .nil
  | cons a _ ih => exact .cons (k _ _ a) ih
theorem LotVs.append {H : AH} {vs ws : List Value} {lot lot' : List (Int × Int)} (h : LotVs H vs lot) (h' : LotVs H ws lot') : LotVs H (vs ++ ws) (lot ++ lot') := by
  induction h with
  | nil => exact h'
  | cons a _ ih => exact .cons a ih
theorem LotVs.len {H : AH} {vs : List Value} {lot : List (Int × Int)} (h : LotVs H vs lot) : vs.length = lot.length := by
  induction h with
  | nil => rfl
  | cons _ _ ih => simp [ih]
theorem LotVs.take {H : AH} {vs : List Value} {lot : List (Int × Int)} (h : LotVs H vs lot) (n : Nat) : LotVs H (vs.take n) (lot.take n) := by
  induction h generalizing n with
  | nil => simp; exact .nil
  | cons a _ ih => cases n with
    | zero => exact .nil
    | succ n => exact .cons a (ih n)
theorem LotVs.drop {H : AH} {vs : List Value} {lot : List (Int × Int)} (h : LotVs H vs lot) (n : Nat) : LotVs H (vs.drop n) (lot.drop n) := by
  induction h generalizing n with
  | nil => simp; exact .nil
  | cons a b ih => cases n with
    | zero => exact .cons a b
    | succ n => exact ih n
theorem LotVs.get {H : AH} {vs : List Value} {lot : List (Int × Int)} (h : LotVs H vs lot) {k : Nat} {p c : Int} (hk : lot[k]? = some (p, c)) : ∃ a t u, vs[k]? = some (.ref a) ∧ H a = some (.tup [.int p t, .int c u]) := by
  induction h generalizing k with
  | nil => simp at hk
  | cons a _ ih => cases k with
    | zero => simp at hk; obtain ⟨rfl, rfl⟩ := hk; exact ⟨_, _, _, rfl, a⟩
    | succ k => exact ih (k := k) (by simpa using hk)
theorem LotVs.get' {H : AH} {vs : List Value} {lot : List (Int × Int)} (h : LotVs H vs lot) {k : Nat} {v : Value} (hk : vs[k]? = some v) : ∃ a p c t u, v = .ref a ∧ lot[k]? = some (p, c) ∧ H a = some (.tup [.int p t, .int c u]) := by
  have hl : k < lot.length := by rw [← h.len]; exact (List.getElem?_eq_some_iff.mp hk).1
  refine op_EEEA (h.get (k := k) (p := lot[k].1) (c := lot[k].2) (List.getElem?_eq_getElem hl)) fun a t u e1 e2 => ?_
  rw [hk] at e1; cases e1
  exact mk_EEEEEAA a _ _ t u rfl (List.getElem?_eq_getElem hl) e2
noncomputable def LotAt (H : AH) (l : Addr) (lot : List (Int × Int)) : Prop := ∃ vs, H l = some (.lst vs) ∧ LotVs H vs lot
theorem LotAt.mono {H H' : AH} {l : Addr} {lot : List (Int × Int)} (h : LotAt H l lot) (k : Le H H') : LotAt H' l lot := let ⟨vs, a, b⟩ := h; ⟨vs, k _ _ a, b.mono k.t⟩
/-- what the law tells of a row -/
noncomputable def rowDat (p along ac a b : Int) : Dat := .tuple [.str "pane", .int p, .int along, .int ac, .int a, .int b]
noncomputable def toldL : List (Int × Int) → Int → Int → List Dat
  | [], _, _ => []
  | x :: lot, ac, a => rowDat x.1 x.2 ac a 0 :: toldL lot ac (a + x.2 + 1)
noncomputable def leafDat (r : Bool) (l : Lf) : Dat := rowDat l.p (l.side r) (l.side (!r)) (if r then l.x else l.y) (if r then l.y else l.x)
theorem placed_dats {r : Bool} {ls : List Lf} {a ac : Int} (h : Placed r ls a) (hc : ∀ l ∈ ls, l.side (!r) = ac) : ls.map (leafDat r) = toldL (lotOf r ls) ac a := by
  induction ls generalizing a with
  | nil => rfl
  | cons l ls ih =>
    refine op_AA h fun h1 h2 h3 => ?_
    try clear h
    have := ih h3 fun x hx => hc x (.tail _ hx)
    simp only [List.map_cons, lotOf, toldL] at this ⊢
    rw [this]
    unfold leafDat
    rw [h1, h2, hc l (.head _)]
theorem row_dats {r : Bool} {t : Tr} {lot : List (Int × Int)} {ac : Int} (h : Row r t lot ac) : t.ls.map (leafDat r) = toldL lot ac 0 := by
  cases t with
  | leaf l =>
    refine op_AAA h fun h1 h2 h3 h4 => ?_
    try clear h
    rw [← h1]
    refine placed_dats (ls := [l]) ⟨?_, ?_, trivial⟩ fun x hx => by rw [List.mem_singleton.mp hx]; exact h2
    · cases r <;> assumption
    · cases r <;> assumption
  | node n =>
    refine op_AAAAA h fun _ _ h3 h4 h5 _ => ?_
    try clear h
    rw [← h3]
    exact placed_dats h5 h4
theorem toldL_append {a b : List (Int × Int)} {ac p : Int} : toldL (a ++ b) ac p = toldL a ac p ++ toldL b ac (p + (a.map fun x => x.2 + 1).sum) := by
  induction a generalizing p with
  | nil => simp [toldL]
  | cons x a ih => simp only [List.cons_append, toldL, ih, List.map_cons, List.sum_cons]; congr 3; lia
theorem toldL_ok (lot : List (Int × Int)) (ac a : Int) : kqdOk 8 (.list (toldL lot ac a)) = true := by
  show (toldL lot ac a).all (kqdOk 7) = true
  induction lot generalizing a with
  | nil => rfl
  | cons x lot ih => simp only [toldL, List.all_cons, ih, Bool.and_true]; simp only [rowDat, kqdOk, List.all_cons, List.all_nil, Bool.and_true]; decide +kernel
/-! ranges -/
theorem rsmall {a b : Int} (h1 : -10000 ≤ a) (h2 : a ≤ 10000) (h3 : -10000 ≤ b) (h4 : b ≤ 10000) : Builtin.Range.small a b 1 = true := small_one (by lia) (by lia) (by lia) (by lia)
theorem rsize {a b : Int} {n : Nat} (h : b - a = n) : Builtin.Range.rangeSize a b 1 = n := by rw [rangeSize_nat, h]; simp
theorem rsizeD {a : Int} {n : Nat} (h : a + 1 = n) : Builtin.Range.rangeSize a (-1) (-1) = n := by
  unfold Builtin.Range.rangeSize
  rw [if_neg (by decide)]
  split
  · simp; omega
  · lia
theorem rsmallD {a : Int} (h1 : -1 ≤ a) (h2 : a ≤ 10000) : Builtin.Range.small a (-1) (-1) = true := by
  unfold Builtin.Range.small
  rw [rsizeD (a := a) (n := (a + 1).toNat) (by lia)]
  simp only [Builtin.Range.rangeFitsLong, Bool.and_eq_true, Bool.or_eq_true, decide_eq_true_eq, beq_iff_eq, show ¬ ((-1 : Int) > 0) by decide, if_false]
  lia
theorem ints_get {vs : List Value} {ns : List Int} (h : IntsAre vs ns) {i : Nat} {v : Value} (hv : vs[i]? = some v) : ∃ x t, v = .int x t ∧ ns[i]? = some x := by
  induction h generalizing i with
  | nil => simp at hv
  | cons x t _ ih => cases i with
    | zero => simp at hv; subst hv; exact ⟨_, _, rfl, rfl⟩
    | succ i => exact ih (i := i) (by simpa using hv)
theorem ints_len {vs : List Value} {ns : List Int} (h : IntsAre vs ns) : vs.length = ns.length := by
  induction h with
  | nil => rfl
  | cons _ _ _ ih => simp [ih]
theorem leaf_monoX {H H' : AH} {D : Addr} {l : Lf} {ys : List Value} (h : LeafAt H l) (hD : H D = some (.lst ys)) (k : LeX [D] H H') (hp : l.pl ≠ D) : LeafAt H' l := by
  refine LeafAt.op h fun h1 t0 t1 t2 t3 t4 t5 h2 h3 => ?_
  try clear h
  refine ⟨k _ _ (fun q => ?_) h1, ⟨t0, t1, t2, t3, t4, t5, k _ _ (fun q => ?_) h2⟩, k _ _ (fun q => ?_) h3⟩
  · rw [List.mem_singleton.mp q, hD] at h1; cases h1
  · rw [List.mem_singleton.mp q, hD] at h2; cases h2
  · exact hp (List.mem_singleton.mp q)

local macro_rules | `(tactic| walk_at "call type:range") => `(tactic| k_dflt ((first | refine r_range1 ‹_› ?_ | refine r_range2 ‹_› ?_ | refine r_range3 ‹_› ?_); walk_at "iS"))
local macro_rules | `(tactic| walk_at "setItem ref str") => `(tactic| k_dflt (refine r_dset ‹_› (by walk_at "hget") ‹_› (by walk_at "sz") ?_; walk_at "iS"))
local macro_rules | `(tactic| walk_at "eval Dict") => `(tactic| k_dflt (refine r_dnew ‹_› ?_; walk_at "iS"))
local macro_rules | `(tactic| walk_at "subscriptTail") => `(tactic| with_reducible (refine r_dget ‹_› (by walk_at "hget") (by first | rfl | with_unfolding_all rfl) ?_; walk_at "iS"))
local macro_rules | `(tactic| walk_at "call type:int") => `(tactic| k_dflt (refine r_intb ‹_› ?_; walk_at "iS"))

/-! _law_told -/
noncomputable def toldBody : List Stmt := forAt (bodyOf fd227.1) 1
section
variable {prog : Program} {w : World} {A : Around} {E : Value → Shared → Prop} {z s : Shared} {B : Heap} {H : AH} {L : Addr} {O : List Addr} {m : Str → Option Value} {env : Env}
theorem told_loop (S : St w z B H L O m s) (G : Gd w z) {n : Nat} (hA : Rm n A) {Q : Flow → Shared → Prop} {X D : Addr} {ls : List Lf} {r : Bool} {pp : Pos} (hX : H X = some (.lst (ls.map fun l => .ref l.a))) (hD : H D = some (.lst [])) (bD : B.get? D = none) (hXD : X ≠ D) (hls : ∀ l ∈ ls, LeafAt H l) (hpl : ∀ l ∈ ls, l.pl ≠ D) (hz : ls.length ≤ 1000)
    (g1 : m "found" = some (.ref D)) (g2 : m "is_row" = some (.bool r))
    (q : ∀ H' m' s' ys, m' "found" = some (.ref D) → LeX [D] H H' → H' D = some (.lst ys) → Tups H' ys (ls.map (leafDat r)) → St w z B H' L O m' s' → Q .next s') :
    wpAny (model prog w) A (pyIter (.ref X)) (fun it s₂ => codeAny (model prog w) A (.forLoop (.Name "part" pp) it toldBody [] (callEnv fd227.1 L 227)) (fun r s' => match r with | .ok f => Q f s' | .error e => cameBackBy (model prog w) A (callEnv fd227.1 L 227) E e s') s₂) E s := by
  have hXn : X ∉ [D] := fun q => hXD (List.mem_singleton.mp q)
  refine r_forL hA.1 (fun i H1 m1 => m1 "found" = some (.ref D) ∧ m1 "is_row" = some (.bool r) ∧ LeX [D] H H1 ∧ ∃ ys, H1 D = some (.lst ys) ∧ ys.length ≤ 1000 ∧ Tups H1 ys ((ls.take i).map (leafDat r))) S hX ⟨g1, g2, fun _ _ _ e => e, [], hD, by simp, .nil⟩ (fun i H1 m1 h => h.2.2.1 _ _ hXn hX) ?_ ?_
  · intro i v H1 m1 s1 I E' hv hp8 hI hBI S1
    refine op_AAAEAA hp8 fun k1 k2 k3 ys k4 k5 k6 => ?_
    try clear hp8
    refine map_op hv fun l hl => ?_
    try clear hv
    have hlm := List.mem_of_getElem? hl
    refine r_asgName S1 (fun s2 S2 => ?_)
    clear S1 S
    have la : LeafAt (H1.set I (lit X (i + 1))) l := (leaf_monoX (hls l hlm) hD k3 (hpl l hlm)).mono (Le.set hI)
    have k4' := set_new (o := lit X (i + 1)) k4 hI
    have hDI : D ≠ I := Ne.symm (ne_of_none_some hI k4)
    refine LeafAt.op la fun j1 w0 w1 w2 w3 w4 w5 j2 j3 => ?_
    try clear la
    have hlt : ls.take (i + 1) = ls.take i ++ [l] := by rw [List.take_add_one, hl]; rfl
    have fin : ∀ (T1 T2 T3 : Addr) (o1 o2 : AO) (vs : List Value) (m' : Str → Option Value) (s' : Shared), (H1.set I (lit X (i + 1))) T1 = none → ((H1.set I (lit X (i + 1))).set T1 o1) T2 = none → (((H1.set I (lit X (i + 1))).set T1 o1).set T2 o2) T3 = none → HDats (fun _ => none) vs [.str "pane", .int l.p, .int (l.side r), .int (l.side (!r)), .int (if r then l.x else l.y), .int (if r then l.y else l.x)] →
        m' "found" = some (.ref D) → m' "is_row" = some (.bool r) → St w z B (((((H1.set I (lit X (i + 1))).set T1 o1).set T2 o2).set T3 (.tup vs)).set D (.lst (ys ++ [.ref T3]))) L O m' s' →
        ∃ H' m', St w z B H' L O m' s' ∧ H' I = some (lit X (i + 1)) ∧ (m' "found" = some (.ref D) ∧ m' "is_row" = some (.bool r) ∧ LeX [D] H (H'.del I) ∧ ∃ ys, (H'.del I) D = some (.lst ys) ∧ ys.length ≤ 1000 ∧ Tups (H'.del I) ys ((ls.take (i + 1)).map (leafDat r))) := by
      intro T1 T2 T3 o1 o2 vs m' s' n1 n2 n3 hvs f1 f2 S3
      have h3 : ((((H1.set I (lit X (i + 1))).set T1 o1).set T2 o2).set T3 (.tup vs)) D = some (.lst ys) := set_new (set_new (set_new k4' n1) n2) n3
      have kI : ((((H1.set I (lit X (i + 1))).set T1 o1).set T2 o2).set T3 (.tup vs)) I = some (lit X (i + 1)) := set_new (set_new (set_new set_self n1) n2) n3
      have kt : LeT H1 ((((((H1.set I (lit X (i + 1))).set T1 o1).set T2 o2).set T3 (.tup vs)).set D (.lst (ys ++ [.ref T3]))).del I) :=
        (((((LeT.fresh hI).trans (LeT.fresh n1)).trans (LeT.fresh n2)).trans (LeT.fresh n3)).trans (LeT.lst h3)).trans (LeT.delO (set_ne kI (Ne.symm hDI)))
      refine mk_EEAAAAAEAA _ _ S3 (set_ne kI (Ne.symm hDI)) f1 f2 (fun a o ha e => ?_) (ys ++ [.ref T3]) (del_ne set_self hDI) ?_ ?_
      · have e1 := k3 a o ha e
        exact del_ne (set_ne (set_new (set_new (set_new (set_new e1 hI) n1) n2) n3) (fun q => ha (List.mem_singleton.mpr q))) (Ne.symm (ne_of_none_some hI e1))
      · have := k6.len
        simp at this ⊢
        have := (List.getElem?_eq_some_iff.mp hl).1
        lia
      · rw [hlt, List.map_append]
        refine (k6.mono kt).append (.cons (del_ne (set_ne set_self ?_) ?_) hvs .nil)
        · exact ne_of_none_some n3 (set_new (set_new k4' n1) n2)
        · exact ne_of_none_some n3 (set_new (set_new set_self n1) n2)
    cases r
    all_goals
      show wpAny _ _ (execs [_, _, _] _) _ _ _
      refine hq fun Q48 k48 => ?_
      repeat walk1
      rename_i T1 s3 S3 n1 b1
      refine r_asgTup2 S3 hA.1 set_self (fun s4 S4 => ?_)
      clear S3
      repeat walk1
      refine k48 _ _ ?_
      rename St _ _ _ _ _ _ _ _ => S5
      exact fin _ _ _ _ _ _ _ _ n1 (by assumption) (by assumption) (.cons (.str _ _) (.cons (.int _ _) (.cons (.int _ _) (.cons (.int _ _) (.cons (.int _ _) (.cons (.int _ _) .nil)))))) (by walk_at "hname") (by walk_at "hname") S5
  · intro H1 m1 s1 hp3 S1
    refine op_AAAEAA hp3 fun k1 k2 k3 ys k4 k5 k6 => ?_
    try clear hp3
    rw [List.length_map, List.take_of_length_le (Nat.le_refl _)] at k6
    exact q _ _ _ _ k1 k3 k4 k6 S1
theorem d_told (S : St w z B H L O m s) (G : Gd w z) (hA : Rm 4 A) {Q : Value → Shared → Prop} {t : Tr} {r : Bool} (ht : TrAt H t)
    (q : ∀ D H' s', Le H H' → HDat H' (.ref D) (.list (t.ls.map (leafDat r))) → St w z B H' L O m s' → Q (.ref D) s') :
    wpAny (model prog w) A (call (.ref 227) [.ref t.a, .bool r]) Q E s := by
  generalize hra : t.a = ra
  refine enter' S G hA fd227 (binds := [("root", .ref ra), ("is_row", .bool r)]) [] ?_ noMs cd227 rfl (BindsTo.of_eq rfl) rfl rfl rfl rfl rfl
  intro A' B' L' s' E' hA' hM hB S'
  clear S
  show wpAny _ _ (execs [_, _, _] _) _ _ _
  refine hq fun Q68 k68 => ?_
  refine r_stmt S' (fun H' m' => ∃ D, H D = none ∧ B'.get? D = none ∧ H' = H.set D (.lst []) ∧ m' = upd (fun x => ([("root", .ref ra), ("is_row", .bool r)] : List (Str × Value)).reverse.lookup x) "found" (.ref D)) ?_ ?_
  · refine hq fun Q69 k69 => ?_
    repeat walk1
    refine k69 _ _ ?_
    exact mk_AEEAEAAA rfl _ _ (by assumption) _ (by assumption) (by assumption) rfl rfl
  intro _ _ s1 S1 hp4
  refine op_EAAA hp4 fun D nD bD ek2 ek3 => ?_
  try clear hp4
  subst ek2
  subst ek3
  clear S'
  refine r_stmt S1 (fun H' m' => m' "found" = some (.ref D) ∧ Le H H' ∧ ∃ ys, H' D = some (.lst ys) ∧ Tups H' ys (t.ls.map (leafDat r))) ?_ ?_
  · cases t with
    | leaf l =>
      subst hra
      dsimp only [Tr.a] at S1 ⊢
      have hl : LeafAt H l := ht
      have la : LeafAt (H.set D (.lst [])) l := hl.mono (Le.set nD)
      have la' := la
      refine LeafAt.op la fun j1 w0 w1 w2 w3 w4 w5 j2 j3 => ?_
      try clear la
      refine hq fun Q87 k87 => ?_
      repeat walk1
      rename_i X s2 S2 nX bX
      refine told_loop (ls := [l]) S2 G hA' set_self (set_new set_self nX) bD (ne_of_none_some nX set_self) (fun y hy => by rw [List.mem_singleton.mp hy]; exact la'.mono (Le.set nX)) (fun y hy => by rw [List.mem_singleton.mp hy]; exact Ne.symm (ne_of_none_some nD hl.2.2)) (by simp) (by walk_at "hname") (by walk_at "hname") fun H' m' s' ys f1 f2 f3 f4 S3 => ?_
      refine k87 _ _ ?_
      exact mk_AEEAAAEA rfl _ _ S3 f1 (f2.le ((Le.set nD).trans (Le.set nX)) (fun d hd => by rw [List.mem_singleton.mp hd]; exact nD)) ys f3 f4
    | node n =>
      subst hra
      dsimp only [Tr.a] at S1 ⊢
      obtain ⟨hn, hz⟩ := ht
      have hn2 := hn.mono (Le.set (o := .lst []) nD)
      refine NodeAt.op hn2 fun j1 w0 w1 w2 w3 w4 j2 j3 j4 j5 => ?_
      try clear hn2
      refine hq fun Q98 k98 => ?_
      repeat walk1
      rename St _ _ _ _ _ _ _ _ => S2
      refine told_loop (ls := n.ls) S2 G hA' j3 set_self bD (fun e => by rw [e, set_self] at j3; injection j3 with j3; injection j3 with j3; have h3 := hn.2.2.1; rw [e, nD] at h3; cases h3) j4 (fun y hy => Ne.symm (ne_of_none_some nD (hn.2.2.2.1 y hy).2.2)) hz (by walk_at "hname") (by walk_at "hname") fun H' m' s' ys f1 f2 f3 f4 S3 => ?_
      refine k98 _ _ ?_
      exact mk_AEEAAAEA rfl _ _ S3 f1 (f2.le (Le.set nD) (fun d hd => by rw [List.mem_singleton.mp hd]; exact nD)) ys f3 f4
  intro H2 m2 s2 S2 hp4
  refine op_AAEA hp4 fun f1 f2 ys f3 f4 => ?_
  try clear hp4
  clear S1
  repeat walk1
  refine k68 _ _ ?_
  exact mk_EEA _ _ (by assumption) (fun S => q D _ _ f2 (.list f3 f4.dats) S)
end

/-! _law_due -/
section
variable {prog : Program} {w : World} {A : Around} {E : Value → Shared → Prop} {z s : Shared} {B : Heap} {H : AH} {L : Addr} {O : List Addr} {m : Str → Option Value} {env : Env} {Q : Value → Shared → Prop}
theorem toldL_take {lot : List (Int × Int)} {ac : Int} {i : Nat} {x : Int × Int} (h : lot[i]? = some x) : toldL (lot.take (i + 1)) ac 0 = toldL (lot.take i) ac 0 ++ [rowDat x.1 x.2 ac (((lot.take i).map fun x => x.2 + 1).sum) 0] := by
  rw [List.take_add_one, h, toldL_append]
  simp [toldL]
theorem at_take {lot : List (Int × Int)} {i : Nat} {x : Int × Int} (h : lot[i]? = some x) : ((lot.take (i + 1)).map fun x => x.2 + 1).sum = ((lot.take i).map fun x => x.2 + 1).sum + x.2 + 1 := by
  rw [List.take_add_one, h]
  simp
  lia
theorem d_due (S : St w z B H L O m s) (G : Gd w z) (hA : Rm 4 A) {l : Addr} {lot : List (Int × Int)} {ac : Int} {tc : Tok} (hl : LotAt H l lot) (hz : lot.length ≤ 1000)
    (q : ∀ D H' s', Le H H' → HDat H' (.ref D) (.list (toldL lot ac 0)) → St w z B H' L O m s' → Q (.ref D) s') :
    wpAny (model prog w) A (call (.ref 234) [.ref l, .int ac tc]) Q E s := by
  refine op_EA hl fun vs h1 h2 => ?_
  try clear hl
  have hvl := h2.len
  refine enter' S G hA fd234 (binds := [("lot", .ref l), ("across", .int ac tc)]) [] ?_ noMs cd234 rfl (BindsTo.of_eq rfl) rfl rfl rfl rfl rfl
  intro A' B' L' s' E' hA' hM hB S'
  clear S
  show wpAny _ _ (execs [_, _, _] _) _ _ _
  refine hq fun Q20 k20 => ?_
  refine r_stmt S' (fun H' m' => ∃ D t, H D = none ∧ B'.get? D = none ∧ Le (H.set D (.lst [])) H' ∧ m' = upd (upd (fun x => ([("lot", .ref l), ("across", .int ac tc)] : List (Str × Value)).reverse.lookup x) "at" (.int 0 t)) "found" (.ref D)) ?_ ?_
  · refine hq fun Q21 k21 => ?_
    repeat walk1
    refine k21 _ _ ?_
    rename St _ _ _ _ _ _ _ _ => S5
    exact mk_AEEAEEAAA rfl _ _ S5 _ _ (by assumption) (by assumption) (Le.set (by assumption)) rfl
  intro H1 _ s1 S1 hp4
  refine op_EEAAA hp4 fun D ta nD bD k1 ek1 => ?_
  try clear hp4
  subst ek1
  clear S'
  refine r_stmt S1 (fun H' m' => m' "found" = some (.ref D) ∧ Le H H' ∧ ∃ ys, H' D = some (.lst ys) ∧ Tups H' ys (toldL lot ac 0)) ?_ ?_
  · refine hq fun Q30 k30 => ?_
    repeat walk1
    rename St _ _ _ _ _ _ _ _ => S2
    have h1' := k1 _ _ (set_new (o := .lst []) h1 nD)
    refine r_forL hA'.1 (fun i H2 m2 => m2 "found" = some (.ref D) ∧ m2 "across" = some (.int ac tc) ∧ (∃ t, m2 "at" = some (.int (((lot.take i).map fun x => x.2 + 1).sum) t)) ∧ LeX [D] H1 H2 ∧ ∃ ys, H2 D = some (.lst ys) ∧ ys.length ≤ 1000 ∧ Tups H2 ys (toldL (lot.take i) ac 0)) S2 h1'
      ⟨rfl, rfl, ⟨_, rfl⟩, fun _ _ _ e => e, [], k1 _ _ set_self, by simp, .nil⟩ (fun i H2 m2 h => h.2.2.2.1 _ _ (fun q => ?_) h1') ?_ ?_
    · rw [List.mem_singleton.mp q, nD] at h1; cases h1
    · intro i v H2 m2 s3 I E2 hv hp8 hI hBI S3
      refine op_AAAAEAA hp8 fun f1 f2 hq2 f4 ys f5 f6 f7 => ?_
      try clear hp8
      refine op_E hq2 fun t3 f3 => ?_
      try clear hq2
      refine op_EEEEEAA (h2.get' hv) fun a p c tp tc' ek3 hx ha => ?_
      subst ek3
      have ha1 : H2 a = some (.tup [.int p tp, .int c tc']) := f4 _ _ (fun q => by rw [List.mem_singleton.mp q, nD] at ha; cases ha) (k1 _ _ (set_new ha nD))
      refine r_asgTup2 S3 hA'.1 (set_new ha1 hI) (fun s4 S4 => ?_)
      clear S2 S3
      have f5' := set_new (o := lit l (i + 1)) f5 hI
      have hDI : D ≠ I := Ne.symm (ne_of_none_some hI f5)
      have fin : ∀ (T : Addr) (vs : List Value) (m' : Str → Option Value) (s' : Shared) (t' : Tok), (H2.set I (lit l (i + 1))) T = none → HDats (fun _ => none) vs [.str "pane", .int p, .int c, .int ac, .int (((lot.take i).map fun x => x.2 + 1).sum), .int 0] →
          m' "found" = some (.ref D) → m' "across" = some (.int ac tc) → m' "at" = some (.int (((lot.take i).map fun x => x.2 + 1).sum + c + 1) t') → St w z B' (((H2.set I (lit l (i + 1))).set T (.tup vs)).set D (.lst (ys ++ [.ref T]))) L' (L :: O) m' s' →
          TurnEnd w z B' L' (L :: O) I (lit l (i + 1)) (fun H2 m2 => m2 "found" = some (.ref D) ∧ m2 "across" = some (.int ac tc) ∧ (∃ t, m2 "at" = some (.int (((lot.take (i + 1)).map fun x => x.2 + 1).sum) t)) ∧ LeX [D] H1 H2 ∧ ∃ ys, H2 D = some (.lst ys) ∧ ys.length ≤ 1000 ∧ Tups H2 ys (toldL (lot.take (i + 1)) ac 0)) (Lv w z B L O m B' L' Q) .next s' := by
        intro T vs m' s' t' n1 hvs g1 g2 g3 S5
        have h3 : ((H2.set I (lit l (i + 1))).set T (.tup vs)) D = some (.lst ys) := set_new f5' n1
        have kI : ((H2.set I (lit l (i + 1))).set T (.tup vs)) I = some (lit l (i + 1)) := set_new set_self n1
        have kt : LeT H2 ((((H2.set I (lit l (i + 1))).set T (.tup vs)).set D (.lst (ys ++ [.ref T]))).del I) :=
          (((LeT.fresh hI).trans (LeT.fresh n1)).trans (LeT.lst h3)).trans (LeT.delO (set_ne kI (Ne.symm hDI)))
        refine mk_EEAAAAAAEAA _ _ S5 (set_ne kI (Ne.symm hDI)) g1 g2 ⟨t', by rw [at_take hx]; exact g3⟩ (fun a o ha e => ?_) (ys ++ [.ref T]) (del_ne set_self hDI) ?_ ?_
        · have e1 := f4 a o ha e
          exact del_ne (set_ne (set_new (set_new e1 hI) n1) (fun q => ha (List.mem_singleton.mpr q))) (Ne.symm (ne_of_none_some hI e1))
        · have h1 := f7.len
          have h2 : ∀ (lot : List (Int × Int)) ac a, (toldL lot ac a).length = lot.length := fun lot => by
            induction lot with
            | nil => intro ac a; rfl
            | cons x lot ih => intro ac a; simp [toldL, ih]
          rw [h2] at h1
          have := (List.getElem?_eq_some_iff.mp hx).1
          simp at h1 ⊢
          lia
        · rw [toldL_take hx]
          refine (f7.mono kt).append (.cons (del_ne (set_ne set_self ?_) ?_) hvs .nil)
          · exact ne_of_none_some n1 f5'
          · exact ne_of_none_some n1 set_self
      refine hq fun Q72 k72 => ?_
      repeat walk1
      refine k72 _ _ ?_
      rename St _ _ _ _ _ _ _ _ => S5
      exact fin _ _ _ _ _ (by assumption) (.cons (.str _ _) (.cons (.int _ _) (.cons (.int _ _) (.cons (.int _ _) (.cons (.int _ _) (.cons (.int _ _) .nil)))))) (by walk_at "hname") (by walk_at "hname") (by walk_at "hname") S5
    · intro H2 m2 s3 hp3 S3
      refine op_AAAAEAA hp3 fun f1 f2 f3 f4 ys f5 f6 f7 => ?_
      refine k30 _ _ ?_
      try clear hp3
      rw [hvl, List.take_of_length_le (Nat.le_refl _)] at f7
      exact mk_AEEAAAEA rfl _ _ S3 f1 (f4.le ((Le.set nD).trans k1) (fun d hd => by rw [List.mem_singleton.mp hd]; exact nD)) ys f5 f7
  intro H2 m2 s2 S2 hp4
  refine op_AAEA hp4 fun f1 f2 ys f3 f4 => ?_
  try clear hp4
  clear S1
  repeat walk1
  refine k20 _ _ ?_
  exact mk_EEA _ _ (by assumption) (fun S => q D _ _ f2 (.list f3 f4.dats) S)
end

/-! _law_split -/
noncomputable def wishOf (along : Int) (size : Option Int) : Int := match size with | none => (along + 1).fdiv 2 - 1 | some s => s
section
variable {prog : Program} {w : World} {A : Around} {E : Value → Shared → Prop} {z s : Shared} {B : Heap} {H : AH} {L : Addr} {O : List Addr} {m : Str → Option Value} {env : Env} {Q : Value → Shared → Prop}
theorem d_lsplit (S : St w z B H L O m s) (G : Gd w z) (hA : Rm 4 A) {l : Addr} {lot : List (Int × Int)} {k : Nat} {p along f : Int} {size : Option Int} {before : Bool} {tk tf ts : Tok} (hl : LotAt H l lot) (hk : lot[k]? = some (p, along)) (hz : lot.length ≤ 100)
    (qn : along < 3 → ∀ s', St w z B H L O m s' → Q .none s')
    (qs : 3 ≤ along → ∀ D H' s', Le H H' → LotAt H' D (splitLot lot k p f along (manyOf along size) before) → St w z B H' L O m s' → Q (.ref D) s') :
    wpAny (model prog w) A (call (.ref 241) [.ref l, .int (k : Int) tk, .int f tf, optV size ts, .bool before]) Q E s := by
  refine op_EA hl fun vs h1 h2 => ?_
  try clear hl
  have hvl := h2.len
  refine op_EEEA (h2.get hk) fun a tp ta hv ha => ?_
  refine enter' S G hA fd241 (binds := [("lot", .ref l), ("k", .int (k : Int) tk), ("fresh", .int f tf), ("size", optV size ts), ("is_before", .bool before)]) [] ?_ noMs cd241 rfl (BindsTo.of_eq rfl) rfl rfl rfl rfl rfl
  intro A' B' L' s' E' hA' hM hB S'
  clear S
  refine op_EAAAAA (⟨_, rfl, rfl, rfl, rfl, rfl, S'⟩ : ∃ m0, m0 "lot" = some (.ref l) ∧ m0 "k" = some (.int (k : Int) tk) ∧ m0 "fresh" = some (.int f tf) ∧ m0 "size" = some (optV size ts) ∧ m0 "is_before" = some (.bool before) ∧ St w z B' H L' (L :: O) m0 s') fun m0 g1 g2 g3 g4 g5 S0 => ?_
  clear S'
  have hvz : vs.length ≤ sizeLine := by rw [sizeLine_eq]; lia
  show wpAny _ _ (execs [_, _, _, _, _, _] _) _ _ _
  refine hq fun Q19 k19 => ?_
  refine r_stmt S0 (fun H' m' => H = H' ∧ m' = upd (upd m0 "pane" (.int p tp)) "along" (.int along ta)) ?_ ?_
  · refine hq fun Q20 k20 => ?_
    repeat walk1
    rename St _ _ _ _ _ _ _ _ => S1
    refine r_asgTup2 S1 hA'.1 ha (fun s2 S2 => ?_)
    clear S1
    refine k20 _ _ ?_
    repeat walk1
    exact mk_AEEAA rfl _ _ (by assumption) rfl rfl
  intro _ _ s1 S1 hp4
  obtain ⟨rfl, rfl⟩ := hp4
  clear S0
  by_cases h3 : along < 3
  · repeat walk1
    refine k19 _ _ ?_
    exact mk_EEA _ _ (by assumption) (fun S => qn h3 _ S)
  refine r_stmt S1 (fun H' m' => H = H' ∧ m' = upd (upd m0 "pane" (.int p tp)) "along" (.int along ta)) ?_ ?_
  · refine hq fun Q33 k33 => ?_
    repeat walk1
    refine k33 _ _ ?_
    exact mk_AEEAA rfl _ _ (by assumption) rfl rfl
  intro _ _ s2 S2 hp4
  obtain ⟨rfl, rfl⟩ := hp4
  clear S1
  refine r_stmt S2 (fun H' m' => ∃ t, H = H' ∧ m' = upd (upd (upd m0 "pane" (.int p tp)) "along" (.int along ta)) "many" (.int (wishOf along size) t)) ?_ ?_
  · rcases size with _ | sz <;> simp only [optV] at g4
    all_goals
      refine hq fun Q41 k41 => ?_
      repeat walk1
      refine k41 _ _ ?_
      exact mk_AEEAEA rfl _ _ (by assumption) _ rfl rfl
  intro _ _ s3 S3 hp4
  refine op_EA hp4 fun t3 ek1 ek2 => ?_
  try clear hp4
  subst ek1
  subst ek2
  clear S2
  refine r_stmt S3 (fun H' m' => ∃ t, H = H' ∧ m' "many" = some (.int (manyOf along size) t) ∧ m' "lot" = some (.ref l) ∧ m' "k" = some (.int (k : Int) tk) ∧ m' "fresh" = some (.int f tf) ∧ m' "is_before" = some (.bool before) ∧ m' "pane" = some (.int p tp) ∧ m' "along" = some (.int along ta)) ?_ ?_
  · have hm : manyOf along size = (if (wishOf along size) < 1 then 1 else if (wishOf along size) > along - 2 then along - 2 else (wishOf along size)) := by
      show (if (if along - 1 - 1 < wishOf along size then along - 1 - 1 else wishOf along size) > 1 then (if along - 1 - 1 < wishOf along size then along - 1 - 1 else wishOf along size) else 1) = _
      generalize (wishOf along size) = v
      (repeat' split) <;> lia
    rw [hm]
    generalize (wishOf along size) = v at S3
    refine hq fun Q56 k56 => ?_
    by_cases c1 : v < 1
    · repeat walk1
      refine k56 _ _ ?_
      exact mk_AEEAEAAAAAAA rfl _ _ (by assumption) _ rfl (by rw [if_pos c1]; walk_at "hname") (by walk_at "hname") (by walk_at "hname") (by walk_at "hname") (by walk_at "hname") (by walk_at "hname") (by walk_at "hname")
    · by_cases c2 : v > along - 2
      · repeat walk1
        refine k56 _ _ ?_
        exact mk_AEEAEAAAAAAA rfl _ _ (by assumption) _ rfl (by rw [if_neg c1, if_pos c2]; walk_at "hname") (by walk_at "hname") (by walk_at "hname") (by walk_at "hname") (by walk_at "hname") (by walk_at "hname") (by walk_at "hname")
      · repeat walk1
        refine k56 _ _ ?_
        exact mk_AEEAEAAAAAAA rfl _ _ (by assumption) _ rfl (by rw [if_neg c1, if_neg c2]; walk_at "hname") (by walk_at "hname") (by walk_at "hname") (by walk_at "hname") (by walk_at "hname") (by walk_at "hname") (by walk_at "hname")
  intro _ m4 s4 S4 hp4
  refine op_EAAAAAAA hp4 fun t4 ek3 f1 f2 f3 f4 f5 f6 f7 => ?_
  try clear hp4
  subst ek3
  clear S3
  generalize manyOf along size = many at *
  refine r_stmt S4 (fun H' m' => ∃ Bl ws, Le H H' ∧ H' Bl = some (.lst ws) ∧ ws.length = 2 ∧ LotVs H' ws (bothOf p f along many before) ∧ m' "both" = some (.ref Bl) ∧ m' "lot" = some (.ref l) ∧ m' "k" = some (.int (k : Int) tk)) ?_ ?_
  · have fin : ∀ (T1 T2 Bl : Addr) (p1 c1 p2 c2 : Int) (t1 u1 t2 u2 : Tok) (m' : Str → Option Value) (s' : Shared), H T1 = none → (H.set T1 (.tup [.int p1 t1, .int c1 u1])) T2 = none → ((H.set T1 (.tup [.int p1 t1, .int c1 u1])).set T2 (.tup [.int p2 t2, .int c2 u2])) Bl = none → bothOf p f along many before = [(p1, c1), (p2, c2)] →
        m' "both" = some (.ref Bl) → m' "lot" = some (.ref l) → m' "k" = some (.int (k : Int) tk) → St w z B' (((H.set T1 (.tup [.int p1 t1, .int c1 u1])).set T2 (.tup [.int p2 t2, .int c2 u2])).set Bl (.lst [.ref T1, .ref T2])) L' (L :: O) m' s' →
        StmtEnd w z B' L' (L :: O) (fun H' m' => ∃ Bl ws, Le H H' ∧ H' Bl = some (.lst ws) ∧ ws.length = 2 ∧ LotVs H' ws (bothOf p f along many before) ∧ m' "both" = some (.ref Bl) ∧ m' "lot" = some (.ref l) ∧ m' "k" = some (.int (k : Int) tk)) .next s' := by
      intro T1 T2 Bl p1 c1 p2 c2 t1 u1 t2 u2 m' s' n1 n2 n3 e q1 q2 q3 S5
      refine mk_AEEAEEAAAAAA rfl _ _ S5 Bl _ (((Le.set n1).trans (Le.set n2)).trans (Le.set n3)) set_self rfl ?_ q1 q2 q3
      rw [e]
      exact .cons (set_new (set_new set_self n2) n3) (.cons (set_new set_self n3) .nil)
    cases before
    all_goals
      refine hq fun Q80 k80 => ?_
      repeat walk1
      refine k80 _ _ ?_
      rename St _ _ _ _ _ _ _ _ => S5
      exact fin _ _ _ _ _ _ _ _ _ _ _ _ _ (by assumption) (by assumption) (by assumption) rfl (by walk_at "hname") (by walk_at "hname") (by walk_at "hname") S5
  intro H5 m5 s5 S5 hp4
  refine op_EEAAAAAA hp4 fun Bl ws k1 k2 k3 k4 k5 k6 k7 => ?_
  try clear hp4
  clear S4
  have h1' := k1 _ _ h1
  have h2' := h2.mono k1.t
  have hkl := (List.getElem?_eq_some_iff.mp hk).1
  repeat walk1
  rename St _ _ _ _ _ _ _ _ => S6
  refine r_slice (ws := vs.take k) (lo := none) (hi := some (k : Int)) (st := none) S6 h1' .none (.int _ _) .none (pick_upto _ _) (by simp) hvz (fun D1 s7 S7 n7 b7 => ?_) (by with_unfolding_all rfl) (by intro _; with_unfolding_all rfl)
  clear S6
  have k2' := set_new (o := .lst (vs.take k)) k2 n7
  repeat walk1
  rename AH.set H5 D1 _ _ = none => n8
  rename St _ _ _ _ _ _ _ _ => S8
  refine r_slice (ws := vs.drop (k + 1)) (lo := some ((k : Int) + 1)) (hi := none) (st := none) S8 (set_new (set_new h1' n7) n8) (.int _ _) .none .none (by have := pick_from vs (k + 1); simpa using this) (by simp) hvz (fun D3 s9 S9 n9 b9 => ?_) (by with_unfolding_all rfl) (by intro _; with_unfolding_all rfl)
  clear S8
  repeat walk1
  refine k19 _ _ ?_
  rename AH.set (AH.set (AH.set H5 D1 _) _ _) D3 _ _ = none => n10
  rename St _ _ _ _ _ _ _ _ => S10
  have kk := (((Le.set n7).trans (Le.set n8)).trans (Le.set n9)).trans (Le.set (o := .lst (vs.take k ++ ws ++ vs.drop (k + 1))) n10)
  refine mk_EEA _ _ S10 (fun S => qs (by lia) _ _ _ (k1.trans kk) ⟨_, set_self, ?_⟩ S)
  unfold splitLot
  exact (((h2'.take k).append k4).append (h2'.drop (k + 1))).mono kk.t
end

/-! _law_closed -/
section
variable {prog : Program} {w : World} {A : Around} {E : Value → Shared → Prop} {z s : Shared} {B : Heap} {H : AH} {L : Addr} {O : List Addr} {m : Str → Option Value} {env : Env} {Q : Value → Shared → Prop}
theorem d_lclosed (S : St w z B H L O m s) (G : Gd w z) (hA : Rm 4 A) {l : Addr} {lot : List (Int × Int)} {k : Nat} {p along : Int} {tk : Tok} (hl : LotAt H l lot) (hk : lot[k]? = some (p, along)) (hz : lot.length ≤ 100)
    (qn : lot.length = 1 → ∀ s', St w z B H L O m s' → Q .none s')
    (qs : 2 ≤ lot.length → ∀ D H' s', Le H H' → LotAt H' D (closeLot lot k along) → St w z B H' L O m s' → Q (.ref D) s') :
    wpAny (model prog w) A (call (.ref 248) [.ref l, .int (k : Int) tk]) Q E s := by
  refine op_EA hl fun vs h1 h2 => ?_
  try clear hl
  have hvl := h2.len
  have hkl := (List.getElem?_eq_some_iff.mp hk).1
  refine op_EEEA (h2.get hk) fun a tp ta hv ha => ?_
  refine enter' S G hA fd248 (binds := [("lot", .ref l), ("k", .int (k : Int) tk)]) [] ?_ noMs cd248 rfl (BindsTo.of_eq rfl) rfl rfl rfl rfl rfl
  intro A' B' L' s' E' hA' hM hB S'
  clear S
  have hvz : vs.length ≤ sizeLine := by rw [sizeLine_eq]; lia
  refine hq fun Q16 k16 => ?_
  by_cases hn : lot.length = 1
  · have hvn : (vs.length : Int) = 1 := by lia
    repeat walk1
    refine k16 _ _ ?_
    exact mk_EEA _ _ (by assumption) (fun S => qn hn _ S)
  have hvn : ¬ (vs.length : Int) = 1 := by lia
  refine op_EAA (⟨_, rfl, rfl, S'⟩ : ∃ m0, m0 "lot" = some (.ref l) ∧ m0 "k" = some (.int (k : Int) tk) ∧ St w z B' H L' (L :: O) m0 s') fun m0 g1 g2 S0 => ?_
  clear S'
  show wpAny _ _ (execs [_, _, _] _) _ _ _
  refine r_stmt S0 (fun H' m' => H = H' ∧ m' = m0) ?_ ?_
  · refine hq fun Q25 k25 => ?_
    repeat walk1
    refine k25 _ _ ?_
    exact mk_AEEAA rfl _ _ (by assumption) rfl rfl
  intro _ _ s1 S1 hp4
  obtain ⟨rfl, rfl⟩ := hp4
  clear S0
  obtain ⟨rs, hrs⟩ : ∃ rs, rs = vs.take k ++ vs.drop (k + 1) := ⟨_, rfl⟩
  obtain ⟨rl, hrl⟩ : ∃ rl, rl = lot.take k ++ lot.drop (k + 1) := ⟨_, rfl⟩
  have hr2 : LotVs H rs rl := by rw [hrs, hrl]; exact (h2.take k).append (h2.drop (k + 1))
  refine r_stmt S1 (fun H' m' => ∃ R, Le H H' ∧ H' R = some (.lst rs) ∧ m' "rest" = some (.ref R) ∧ (∃ t, m' "heir" = some (.int ((k - 1 : Nat) : Int) t)) ∧ m' "lot" = some (.ref l) ∧ m' "k" = some (.int (k : Int) tk)) ?_ ?_
  · refine hq fun Q34 k34 => ?_
    repeat walk1
    rename St _ _ _ _ _ _ _ _ => S6
    refine r_slice (ws := vs.take k) (lo := none) (hi := some (k : Int)) (st := none) S6 h1 .none (.int _ _) .none (pick_upto _ _) (by simp) hvz (fun D1 s7 S7 n7 b7 => ?_) (by with_unfolding_all rfl) (by intro _; with_unfolding_all rfl)
    clear S6
    repeat walk1
    rename St _ _ _ _ _ _ _ _ => S8
    refine r_slice (ws := vs.drop (k + 1)) (lo := some ((k : Int) + 1)) (hi := none) (st := none) S8 (set_new h1 n7) (.int _ _) .none .none (by have := pick_from vs (k + 1); simpa using this) (by simp) hvz (fun D3 s9 S9 n9 b9 => ?_) (by with_unfolding_all rfl) (by intro _; with_unfolding_all rfl)
    clear S8
    have hidx : (if (k : Int) - 1 > 0 then (k : Int) - 1 else 0) = ((k - 1 : Nat) : Int) := by split <;> grind
    repeat walk1
    refine k34 _ _ ?_
    rename St _ _ _ _ _ _ _ _ => S10
    exact mk_AEEAEAAAAA rfl _ _ S10 _ ((((Le.set n7).trans (Le.set n9)).trans (Le.set (by assumption))).trans (Le.set (by assumption))) ((set_new set_self (by assumption)).trans (by rw [hrs])) (by walk_at "hname") ⟨_, by rw [← hidx]; walk_at "hname"⟩ (by walk_at "hname") (by walk_at "hname")
  intro H2 m2 s2 S2 hp4
  refine op_EAAAAA hp4 fun R k1 k2 k3 hq1 k5 k6 => ?_
  try clear hp4
  refine op_E hq1 fun th k4 => ?_
  try clear hq1
  clear S1
  have h1' := k1 _ _ h1
  have hr2' := hr2.mono k1.t
  have ha' := k1 _ _ ha
  have hk0 : k - 1 < rl.length := by rw [hrl]; simp; lia
  obtain ⟨y, hy⟩ : ∃ y, rl[k - 1]? = some y := ⟨_, List.getElem?_eq_getElem hk0⟩
  refine op_EEEA (hr2'.get (p := y.1) (c := y.2) hy) fun b tb ub hvb hb => ?_
  have hrz2 : rs.length ≤ 200 := by rw [hrs]; simp; grind
  have hrz : rs.length ≤ sizeLine := by rw [sizeLine_eq, hrs]; simp; grind
  repeat walk1
  rename St _ _ _ _ _ _ _ _ => S6
  refine r_slice (ws := rs.take (k - 1)) (lo := none) (hi := some ((k - 1 : Nat) : Int)) (st := none) S6 k2 .none (.int _ _) .none (pick_upto _ _) (by simp) hrz (fun D1 s7 S7 n7 b7 => ?_) (by with_unfolding_all rfl) (by intro _; with_unfolding_all rfl)
  clear S6
  repeat walk1
  rename St _ _ _ _ _ _ _ _ => S8
  refine r_slice (ws := rs.drop (k - 1 + 1)) (lo := some (((k - 1 : Nat) : Int) + 1)) (hi := none) (st := none) S8 (by walk_at "hget") (.int _ _) .none .none (by have := pick_from rs (k - 1 + 1); simpa using this) (by simp) hrz (fun D3 s9 S9 n9 b9 => ?_) (by with_unfolding_all rfl) (by intro _; with_unfolding_all rfl)
  clear S8
  repeat walk1
  refine k16 _ _ ?_
  rename St _ _ _ _ _ _ _ _ => S10
  refine mk_EEA _ _ S10 (fun S => qs (by lia) _ _ _ (k1.trans ?kk) ⟨_, set_self, ?_⟩ S)
  case kk => exact (((((Le.set n7).trans (Le.set (by assumption))).trans (Le.set (by assumption))).trans (Le.set (by assumption))).trans (Le.set n9)).trans (Le.set (by assumption))
  unfold closeLot
  rw [← hrl, hy]
  simp only [Option.map_some, Option.toList_some]
  rw [← Int.add_assoc]
  refine LotVs.append (LotVs.append (LotVs.mono (hr2'.take (k - 1)) (Le.t ?kk2)) (.cons (by walk_at "hget") .nil)) (LotVs.mono (hr2'.drop (k - 1 + 1)) (Le.t ?kk2))
  exact (((((Le.set n7).trans (Le.set (by assumption))).trans (Le.set (by assumption))).trans (Le.set (by assumption))).trans (Le.set n9)).trans (Le.set (by assumption))
end

/-! the lengths of a lot -/
section
variable {prog : Program} {w : World} {A : Around} {E : Value → Shared → Prop} {z s : Shared} {B : Heap} {H : AH} {L : Addr} {O : List Addr} {m : Str → Option Value} {env : Env} {Q : Value → Shared → Prop}
noncomputable def alScope : Scope := { kind := .function, names := [(".0", .local), ("pane", .local), ("along", .local)], isGenerator := false, isCoroutine := false }
theorem r_alongs (hA : A.handled = none) {iter : Expr} {p1 p2 p3 p4 pos : Pos} {kk : Nat} {cl : List (Str × Addr)} {l : Addr} {vs : List Value} {lot : List (Int × Int)}
    (S : St w z B H L O m s) (hl : H l = some (.lst vs)) (h2 : LotVs H vs lot) (hz : vs.length ≤ 10000)
    (q : ∀ D ys s', IntsAre ys (lot.map (·.2)) → St w z B (H.set D (.lst ys)) L O m s' → H D = none → B.get? D = none → Q (.ref D) s') :
    wpAny (model prog w) A (pyIter (.ref l)) (CompK prog w A env (.ListComp (.Name "along" p1) [⟨.Tuple [.Name "pane" p2, .Name "along" p3] kk p4, iter, [], 0⟩] alScope pos) alScope cl E none Q) E s := by
  refine r_compL hA (fun i ys H1 => IntsAre ys ((lot.take i).map (·.2)) ∧ Le H H1) S hl hz ⟨.nil, Le.rfl⟩ (by decide) rfl (fun i ys H1 h => h.2 _ _ hl) ?_ (fun y p e => by cases e) ?_
  · intro C D I B'' i v ys H1 m1 s1 E'' hBB hv hp13 hI hD hne hBI hBD S2
    obtain ⟨g1, g2⟩ := hp13
    refine op_EEEEEAA (h2.get' hv) fun a p c tp tc ek1 hx ha => ?_
    subst ek1
    have kk : Le H ((H1.set I (lit l (i + 1))).set D (.lst ys)) := fun a o e => set_new (set_new (g2 a o e) hI) (set_ne hD hne)
    refine r_asgTup2 S2 hA (kk _ _ ha) (fun s2 S3 => ?_)
    refine wpAny_tests_nil ?_
    rw [if_pos rfl]
    clear S S2
    refine r_local S3 upd_self ?_
    refine mk_EEAAAA _ _ S3 (set_ne set_self (Ne.symm hne)) set_self ?_ (le_turn hI hD Le.rfl hne |> g2.trans)
    rw [List.take_add_one, hx, List.map_append]
    exact g1.append (.cons _ _ .nil)
  · intro D ys H1 s1 hp4 hD hDB S2
    obtain ⟨g1, g2⟩ := hp4
    rw [h2.len, List.take_of_length_le (Nat.le_refl _)] at g1
    dsimp only at S2 ⊢
    exact q D ys _ g1 (S2.weaken g2.set2) (g2.none hD) hDB
end
/-! _law_moved, one unit -/
noncomputable def unitI (ti : Nat) (gs : List Nat) (sd : List Int) : List Int :=
  match gs.find? (fun g => decide (1 < sd.getD g 0)) with
  | none => sd
  | some g => (sd.set g (sd.getD g 0 - 1)).set ti ((sd.set g (sd.getD g 0 - 1)).getD ti 0 + 1)
theorem modify_map {lot : List (Int × Int)} {g : Nat} {c : Int} : (lot.modify g (bump c)).map (·.2) = (lot.map (·.2)).set g ((lot.map (·.2)).getD g 0 + c) := by
  apply List.ext_getElem?
  intro i
  rw [List.getElem?_map, List.getElem?_modify, List.getElem?_set, List.getElem?_map]
  by_cases e : g = i
  · subst e
    cases h : lot[g]? with
    | none => simp [List.getElem?_eq_none_iff.mp h]
    | some x =>
      obtain ⟨this, hx⟩ := List.getElem?_eq_some_iff.mp h
      simp [this, bump, List.getD, hx]
  · cases h : lot[i]? <;> simp [e]
theorem unit_map {ti : Nat} {gs : List Nat} {lot : List (Int × Int)} : (unitL ti gs lot).map (·.2) = unitI ti gs (lot.map (·.2)) := by
  have e : ∀ g, (lot.getD g (0, 0)).2 = (lot.map (·.2)).getD g 0 := fun g => by
    simp only [List.getD, List.getElem?_map]
    cases lot[g]? <;> rfl
  unfold unitL unitI
  simp only [e]
  cases gs.find? (fun g => decide (1 < (lot.map (·.2)).getD g 0)) with
  | none => rfl
  | some g =>
    try dsimp only
    rw [modify_map, modify_map]
    rfl
theorem ints_at {vs : List Value} {ns : List Int} (h : IntsAre vs ns) {i : Nat} {x : Int} (hx : ns[i]? = some x) : ∃ t, vs[i]? = some (.int x t) := by
  have hl : i < vs.length := by rw [ints_len h]; exact (List.getElem?_eq_some_iff.mp hx).1
  refine op_EEA (ints_get h (List.getElem?_eq_getElem hl)) fun y t e hy => ?_
  rw [hx] at hy; cases hy
  exact ⟨t, by rw [List.getElem?_eq_getElem hl, e]⟩
theorem ints_set {vs : List Value} {ns : List Int} (h : IntsAre vs ns) (i : Nat) (x : Int) (t : Tok) : IntsAre (vs.set i (.int x t)) (ns.set i x) := by
  induction h generalizing i with
  | nil => exact .nil
  | cons y u h ih => cases i with
    | zero => exact .cons _ _ h
    | succ i => exact .cons _ _ (ih i)
theorem givers_ints {n k : Nat} {c : Int} (hn : 2 ≤ n) (hk : k < n) : (giversOf n k c).map (fun g : Nat => (g : Int)) = if c > 0 then rInts (((min k (n - 2) : Nat) : Int) + 1) 1 (n - (min k (n - 2) + 1)) else rInts ((min k (n - 2) : Nat) : Int) (-1) (min k (n - 2) + 1) := by
  unfold giversOf rInts
  split
  · rw [List.map_map]
    congr 1
    funext i
    simp only [Function.comp]
    push_cast
    lia
  · rw [List.map_map]
    apply List.map_congr_left
    intro i hi
    have := List.mem_range.mp hi
    simp only [Function.comp]
    grind
theorem ints_dats {H : AH} {vs : List Value} {ns : List Int} (h : IntsAre vs ns) : HDats H vs (ns.map Dat.int) := by
  induction h with
  | nil => exact .nil
  | cons x t _ ih => exact .cons (.int _ _) ih
theorem ints_ok (ns : List Int) : kqdOk 8 (.list (ns.map Dat.int)) = true := by
  show (ns.map Dat.int).all (kqdOk 7) = true
  induction ns with
  | nil => rfl
  | cons x ns ih => simp only [List.map_cons, List.all_cons, ih, Bool.and_true]; rfl

noncomputable def movedBody : List Stmt := forAt (bodyOf fd253.1) 1
section
variable {prog : Program} {w : World} {A : Around} {E : Value → Shared → Prop} {z s : Shared} {B : Heap} {H : AH} {L : Addr} {O : List Addr} {m : Str → Option Value} {env : Env}
theorem moved_body (S : St w z B H L O m s) (G : Gd w z) {nA : Nat} (hA : Rm nA A) {Q : Flow → Shared → Prop} {l X : Addr} {vs ys : List Value} {sd : List Int} {n k : Nat} {c : Int} {tc ta : Tok}
    (gl : H (L + 1) = some (.cel (some (.ref l)))) (gs : H (L + 1 + 1) = some (.cel (some (.ref X)))) (hl : H l = some (.lst vs)) (hvl : vs.length = n) (hn : 2 ≤ n) (hk : k < n) (hz : n ≤ 100) (hX : H X = some (.lst ys)) (hy : IntsAre ys sd) (hsl : sd.length = n) (bX : B.get? X = none) (hlX : l ≠ X)
    (g2 : m "change" = some (.int c tc)) (g3 : m "at" = some (.int ((min k (n - 2) : Nat) : Int) ta))
    (q : ∀ H' m' s' ys', m' "change" = some (.int c tc) → m' "at" = some (.int ((min k (n - 2) : Nat) : Int) ta) → LeX [X] H H' → H' X = some (.lst ys') → IntsAre ys' (unitI (takerOf n k c) (giversOf n k c) sd) → St w z B H' L O m' s' → Q .next s') :
    wpAny (model prog w) A (execs movedBody (callEnvC fd253.1 L 253)) Q E s := by
  obtain ⟨a, ha⟩ : ∃ a, a = min k (n - 2) := ⟨_, rfl⟩
  have hgi := givers_ints (c := c) hn hk
  have hti : takerOf n k c = if c > 0 then a else a + 1 := by unfold takerOf; rw [ha]
  rw [← ha] at hgi
  rw [← ha] at g3 q
  have hgl : ∀ g ∈ giversOf n k c, g < n := by
    unfold giversOf
    intro g hg
    split at hg
    · refine mem_op hg fun x hx => ?_
      have := List.mem_range.mp hx
      omega
    · refine mem_op hg fun x hx => ?_
      have := List.mem_range.mp hx
      omega
  generalize giversOf n k c = gg at *
  generalize takerOf n k c = ti at *
  have hvz : vs.length ≤ sizeLine := by rw [sizeLine_eq]; lia
  show wpAny _ _ (execs [_, _, _] _) _ _ _
  refine r_stmt S (fun H' m' => ∃ Ls ws, Le H H' ∧ H' Ls = some (.lst ws) ∧ IntsAre ws (gg.map fun g : Nat => (g : Int)) ∧ m' "some" = some (.ref Ls) ∧ m' "change" = some (.int c tc) ∧ m' "at" = some (.int (a : Int) ta)) ?_ ?_
  · by_cases h0 : c > 0
    · rw [hgi, if_pos h0]
      refine hq fun Q32 k32 => ?_
      repeat walk1
      rename H _ = none => nR
      rename St _ _ _ _ _ _ _ _ => S1
      refine r_listR S1 hA.1 (n := n - (a + 1)) set_self (rsmall (by lia) (by lia) (by lia) (by lia)) (rsize (by lia)) (by lia) fun Lr ws s2 hw S2 nL bL => ?_
      clear S1
      repeat walk1
      refine k32 _ _ ?_
      rename St _ _ _ _ _ _ _ _ => S3
      exact mk_AEEAEEAAAAA rfl _ _ S3 Lr ws ((Le.set nR).trans (Le.set nL)) set_self hw (by walk_at "hname") (by walk_at "hname") (by walk_at "hname")
    · rw [hgi, if_neg h0]
      refine hq fun Q41 k41 => ?_
      repeat walk1
      rename H _ = none => nR
      rename St _ _ _ _ _ _ _ _ => S1
      refine r_listR S1 hA.1 (n := a + 1) set_self (rsmallD (by lia) (by grind)) (rsizeD (by lia)) (by grind) fun Lr ws s2 hw S2 nL bL => ?_
      clear S1
      repeat walk1
      refine k41 _ _ ?_
      rename St _ _ _ _ _ _ _ _ => S3
      exact mk_AEEAEEAAAAA rfl _ _ S3 Lr ws ((Le.set nR).trans (Le.set nL)) set_self hw (by walk_at "hname") (by walk_at "hname") (by walk_at "hname")
  intro H1 m1 s1 S1 hp4
  refine op_EEAAAAA hp4 fun Ls ws k1 k2 k3 k4 k5 k6 => ?_
  try clear hp4
  clear S
  have gl := k1 _ _ gl
  have gs := k1 _ _ gs
  have hX := k1 _ _ hX
  have hwl := ints_len k3
  have hgz : gg.length ≤ 10000 := by
    have h1 := congrArg List.length hgi
    rw [List.length_map] at h1
    rw [h1]
    split <;> simp [rInts] <;> grind
  refine r_stmt S1 (fun H' m' => ∃ Ls ws, Le H1 H' ∧ H' Ls = some (.lst ws) ∧ IntsAre ws ((gg.filter fun g => decide (1 < sd.getD g 0)).map fun g : Nat => (g : Int)) ∧ m' "some" = some (.ref Ls) ∧ m' "change" = some (.int c tc) ∧ m' "at" = some (.int (a : Int) ta)) ?_ ?_
  · repeat walk1
    rename St _ _ _ _ _ _ _ _ => S2
    refine r_compL hA.1 (fun i xs H2 => IntsAre xs (((gg.take i).filter fun g => decide (1 < sd.getD g 0)).map fun g : Nat => (g : Int)) ∧ Le H1 H2) S2 k2 (by rw [hwl]; simpa using hgz) ⟨.nil, Le.rfl⟩ (by decide) rfl (fun i xs H2 h => h.2 _ _ k2) ?_ (fun y p e => by cases e; exact ⟨rfl, rfl, rfl⟩) ?_
    · intro C D I B'' i v xs H2 m2 s2 E'' hBB hv hp13 hI hD hne hBI hBD S3
      obtain ⟨f1, f2⟩ := hp13
      refine op_EEA (ints_get k3 hv) fun gv tg ek3 hgv => ?_
      subst ek3
      refine map_op hgv fun g hg => ?_
      try clear hgv
      have hgn := hgl g (List.mem_of_getElem? hg)
      obtain ⟨tsg, hsg⟩ := ints_at hy (i := g) (x := sd.getD g 0) (by simp [List.getD, hsl, hgn])
      have kk : Le H1 ((H2.set I (lit Ls (i + 1))).set D (.lst xs)) := fun a o e => set_new (set_new (f2 a o e) hI) (set_ne hD hne)
      have gs := kk _ _ gs
      have hX := kk _ _ hX
      have hyz : ys.length ≤ sizeLine := by rw [sizeLine_eq, ints_len hy]; lia
      refine r_asgName S3 (fun s3 S4 => ?_)
      clear S2 S3
      refine wpAny_tests_one ?_
      have htk : gg.take (i + 1) = gg.take i ++ [g] := by rw [List.take_add_one, hg]; rfl
      by_cases h1 : 1 < sd.getD g 0
      · repeat walk1
        rename St _ _ _ _ _ _ _ _ => S5
        refine mk_EEAAAA _ _ S5 (set_ne set_self (Ne.symm hne)) set_self ?_ (le_turn hI hD Le.rfl hne |> f2.trans)
        rw [htk, List.filter_append, List.map_append]
        refine f1.append ?_
        rw [List.filter_cons_of_pos (by simpa using h1)]
        exact .cons _ _ .nil
      · repeat walk1
        rename St _ _ _ _ _ _ _ _ => S5
        refine mk_EEAAAA _ _ S5 (set_ne set_self (Ne.symm hne)) set_self ?_ (le_turn hI hD Le.rfl hne |> f2.trans)
        rw [htk, List.filter_append, List.map_append]
        rw [List.filter_cons_of_neg (by simpa using h1)]
        simpa using f1
    · intro D xs H2 s2 hp4 hD hDB S3
      obtain ⟨f1, f2⟩ := hp4
      rw [List.take_of_length_le (by rw [hwl]; simp)] at f1
      dsimp only at S3 ⊢
      exact mk_AEEAEEAAAAA rfl _ _ S3 D xs (f2.trans (Le.set hD)) set_self f1 (by walk_at "hname") (by walk_at "hname") (by walk_at "hname")
  intro H2 m2 s2 S2 hp4
  refine op_EEAAAAA hp4 fun Ls2 xs j1 j2 j3 j4 j5 j6 => ?_
  try clear hp4
  clear S1
  have gs := j1 _ _ gs
  have hX := j1 _ _ hX
  have hyz : ys.length ≤ sizeLine := by rw [sizeLine_eq, ints_len hy]; lia
  have hfd : gg.find? (fun g => decide (1 < sd.getD g 0)) = (gg.filter fun g => decide (1 < sd.getD g 0)).head? := by rw [List.head?_filter]
  obtain ⟨fl, hfl⟩ : ∃ fl, fl = gg.filter fun g => decide (1 < sd.getD g 0) := ⟨_, rfl⟩
  have hmem : ∀ g ∈ fl, g < n := fun g hg => hgl g (List.mem_filter.mp (hfl ▸ hg)).1
  have hflz : fl.length ≤ 10000 := by rw [hfl]; exact Nat.le_trans (List.length_filter_le _ _) hgz
  rw [← hfl] at hfd j3
  clear hfl
  repeat walk1
  rename H2 _ = none => nD
  rename St _ _ _ _ _ _ _ _ => S3
  refine r_neD (d := .list ((fl.map fun g : Nat => (g : Int)).map Dat.int)) (e := .list []) S3 hA (.list (set_new j2 nD) (ints_dats j3)) (.list set_self .nil) (ints_ok _) rfl (fun he => ?_) (fun he => ?_)
  · have hnil : fl = [] := by
      injection he with he
      simpa using he
    rw [hnil] at hfd
    repeat walk1
    rename St _ _ _ _ _ _ _ _ => S4
    refine q _ _ _ ys j5 j6 (LeX.of ((k1.trans j1).trans (Le.set nD))) (set_new hX nD) ?_ S4
    unfold unitI
    rw [hfd]
    exact hy
  · obtain ⟨g, fr, rfl⟩ : ∃ g fr, fl = g :: fr := by
      cases fl with
      | nil => exact absurd rfl he
      | cons g fr => exact ⟨g, fr, rfl⟩
    have hun : unitI ti gg sd = (sd.set g (sd.getD g 0 - 1)).set ti ((sd.set g (sd.getD g 0 - 1)).getD ti 0 + 1) := by
      unfold unitI
      rw [hfd]
      rfl
    have hgn := hmem g (.head _)
    have htn : ti < n := by rw [hti]; split <;> omega
    replace S3 := S3.weaken (Le.set nD)
    obtain ⟨tsg, hsg⟩ := ints_at hy (i := g) (x := sd.getD g 0) (by simp [List.getD, hsl, hgn])
    obtain ⟨tg, hxg⟩ := ints_at j3 (i := 0) (x := (g : Int)) (by simp)
    have hxz : xs.length ≤ sizeLine := by rw [sizeLine_eq, ints_len j3, List.length_map]; exact Nat.le_trans hflz (by decide)
    repeat walk1
    rename St _ _ _ _ _ _ _ _ => S4
    refine r_lset (i := g) S4 hX bX rfl (by rw [ints_len hy]; omega) (by rw [ints_len hy]; omega) fun s5 S5 => ?_
    clear S4
    refine op_EA (⟨_, ints_set hy _ _ _, S5⟩ : ∃ ys1, IntsAre ys1 (sd.set g (sd.getD g 0 - 1)) ∧ St w z B (H2.set X (.lst ys1)) L O m2 s5) fun ys1 hy1 S6 => ?_
    clear S5
    have hsl1 : (sd.set g (sd.getD g 0 - 1)).length = n := by simpa using hsl
    rw [hun] at q
    generalize sd.set g (sd.getD g 0 - 1) = sd1 at *
    have gXc : L + 1 + 1 ≠ X := by intro e; rw [e, hX] at gs; cases gs
    have gs1 : (H2.set X (.lst ys1)) (L + 1 + 1) = some (.cel (some (.ref X))) := set_ne gs gXc
    have lx1 : LeX [X] H (H2.set X (.lst ys1)) := (LeX.of (k1.trans j1)).trans (LeX.set (.head _))
    have hX1 : (H2.set X (.lst ys1)) X = some (.lst ys1) := set_self
    generalize H2.set X (.lst ys1) = H3 at *
    clear gs hX
    try dsimp only
    refine r_stmt S6 (fun H' m' => H3 = H' ∧ (∃ t, m' "heir" = some (.int (ti : Int) t)) ∧ m' "change" = some (.int c tc) ∧ m' "at" = some (.int (a : Int) ta)) ?_ ?_
    · by_cases h0 : c > 0
      · rw [if_pos h0] at hti
        subst hti
        refine hq fun Q164 k164 => ?_
        repeat walk1
        refine k164 _ _ ?_
        exact mk_AEEAAAA rfl _ _ (by assumption) rfl ⟨_, by walk_at "hname"⟩ (by walk_at "hname") (by walk_at "hname")
      · rw [if_neg h0] at hti
        have e : ((ti : Nat) : Int) = (a : Int) + 1 := by rw [hti]; push_cast; rfl
        rw [e]
        refine hq fun Q169 k169 => ?_
        repeat walk1
        refine k169 _ _ ?_
        exact mk_AEEAAAA rfl _ _ (by assumption) rfl ⟨_, by walk_at "hname"⟩ (by walk_at "hname") (by walk_at "hname")
    intro _ m4 s6 S7 hp4
    refine op_AAA hp4 fun ek5 hq6 f2 f3 => ?_
    try clear hp4
    subst ek5
    refine op_E hq6 fun th f1 => ?_
    try clear hq6
    clear S6
    obtain ⟨tsi, hsi⟩ := ints_at hy1 (i := ti) (x := sd1.getD ti 0) (by simp [List.getD, hsl1, htn])
    have hyz1 : ys1.length ≤ sizeLine := by rw [sizeLine_eq, ints_len hy1]; omega
    repeat walk1
    rename St _ _ _ _ _ _ _ _ => S8
    refine r_lset (i := ti) S8 hX1 bX rfl (by rw [ints_len hy1]; omega) (by rw [ints_len hy1]; omega) fun s8 S9 => ?_
    clear S8
    try dsimp only
    repeat walk1
    rename St _ _ _ _ _ _ _ _ => S10
    exact q _ _ _ _ f2 f3 (lx1.trans (LeX.set (.head _))) set_self (ints_set hy1 _ _ _) S10
end

/-! _law_moved -/
section
variable {prog : Program} {w : World} {A : Around} {E : Value → Shared → Prop} {z s : Shared} {B : Heap} {H : AH} {L : Addr} {O : List Addr} {m : Str → Option Value} {env : Env} {Q : Value → Shared → Prop}
theorem d_lmoved (S : St w z B H L O m s) (G : Gd w z) (hA : Rm 8 A) {l : Addr} {lot : List (Int × Int)} {k : Nat} {c : Int} {tk tc : Tok} (hl : LotAt H l lot) (hk : k < lot.length) (hz : lot.length ≤ 100) (hp : ∀ x ∈ lot, 1 ≤ x.2) (hc : c.natAbs ≤ 1000)
    (q : ∀ D H' s', Le H H' → LotAt H' D (resizeLot lot k c) → St w z B H' L O m s' → Q (.ref D) s') :
    wpAny (model prog w) A (call (.ref 253) [.ref l, .int (k : Int) tk, .int c tc]) Q E s := by
  refine op_EA hl fun vs h1 h2 => ?_
  try clear hl
  have hvl := h2.len
  refine enterC' S G hA fd253 (binds := [("lot", .ref l), ("k", .int (k : Int) tk), ("change", .int c tc)]) [] ?_ noMs cd253 rfl (BindsTo.of_eq rfl) rfl rfl rfl rfl rfl
  intro A' B' H' L' s' E' hA' _ hB hle hc' S'
  refine ce fun gl => ?_
  refine op_AA (hc' "lot" _ rfl) fun c1 c2 c3 => ?_
  refine op_AA (hc' "sides" _ rfl) fun d1 d2 d3 => ?_
  have h1' := hle _ _ h1
  clear S hc'
  change H' _ = some (.cel (some (.ref l))) at c1
  have hne1 : L' + 1 ≠ L' + 1 + 1 := Nat.ne_of_lt (Nat.lt_succ_self _)
  have hvz : vs.length ≤ sizeLine := by rw [sizeLine_eq]; lia
  refine op_EAA (⟨_, rfl, rfl, S'⟩ : ∃ m0, m0 "k" = some (.int (k : Int) tk) ∧ m0 "change" = some (.int c tc) ∧ St w z B' H' L' (L :: O) m0 s') fun m0 g1 g2 S0 => ?_
  refine gl ?_; clear gl
  clear S'
  show wpAny _ _ (execs [_, _, _] _) _ _ _
  refine r_stmt S0 (fun H1 m1 => ∃ X ys, IntsAre ys (lot.map (·.2)) ∧ H1 X = some (.lst ys) ∧ B'.get? X = none ∧ H' X = none ∧ LeX [L' + 1 + 1] H' H1 ∧ H1 (L' + 1 + 1) = some (.cel (some (.ref X))) ∧ m1 "change" = some (.int c tc) ∧ ∃ t, m1 "at" = some (.int (if (lot.length : Int) - 2 < k then (lot.length : Int) - 2 else k) t)) ?_ ?_
  · repeat walk1
    rename St _ _ _ _ _ _ _ _ => S1
    refine r_alongs hA'.1 S1 h1' (h2.mono hle.t) (by lia) fun X ys s2 hys S2 nX bX => ?_
    clear S1
    repeat walk1
    rename St _ _ _ _ _ _ _ _ => S3
    rename AH.set H' X _ _ = none => nT
    refine r_asgTup S3 hA'.1 set_self (fun s4 S4 => ?_) rfl rfl
    show wpAny _ _ (assignInOrder [assign (.Name _ _) _, assign (.Name _ _) _] [_, _]) _ _ _
    refine assignInOrder_cons (r_asgName S4 (fun s5 S5 => ?_))
    refine assignInOrder_cons (wpAny_assign_Name (r_storeC S5 rfl (set_new (set_new d1 nX) nT) d2 (fun s6 S6 => ?_)))
    clear S3 S4 S5
    refine assignInOrder_nil ?_
    repeat walk1
    rename St _ _ _ _ _ _ _ _ => S7
    refine mk_AEEAEEAAAAAAAE rfl _ _ S7 X ys hys ?_ bX nX (fun a o ha e => ?_) set_self (by walk_at "hname") _ (by rw [← hvl]; walk_at "hname")
    · refine set_ne (set_new set_self nT) ?_
      rintro rfl
      rw [nX] at d1; cases d1
    · exact set_ne (set_new (set_new e nX) nT) (fun q => ha (List.mem_singleton.mpr q))
  intro H1 m1 s1 S1 hp4
  refine op_EEAAAAAAAE hp4 fun X ys x1 x2 x3 x4 x5 x6 x7 t8 x8 => ?_
  try clear hp4
  clear S0
  have gl1 : H1 (L' + 1) = some (.cel (some (.ref l))) := x5 _ _ (by simp [hne1]) c1
  have hll : l ≠ L' + 1 + 1 := Ne.symm (ne_of_none_some d3 h1)
  have hl1 : H1 l = some (.lst vs) := x5 _ _ (by simp [hll]) h1'
  have hlX : l ≠ X := Ne.symm (ne_of_none_some x4 h1')
  have le1 : LeX [X] H H1 := fun a o _ e => x5 a o (fun q => by rw [List.mem_singleton.mp q, d3] at e; cases e) (hle _ _ e)
  have leH : Le H H1 := fun a o e => x5 a o (fun q => by rw [List.mem_singleton.mp q, d3] at e; cases e) (hle _ _ e)
  have hXH : H X = none := hle.none x4
  refine r_stmt S1 (fun H2 m2 => ∃ ys, IntsAre ys ((resizeLot lot k c).map (·.2)) ∧ LeX [X] H1 H2 ∧ H2 X = some (.lst ys)) ?_ ?_
  · by_cases h2l : lot.length < 2
    · have hvn : ¬ (vs.length : Int) > 1 := by lia
      have hrz : resizeLot lot k c = lot := by unfold resizeLot; rw [if_pos h2l]
      refine hq fun Q57 k57 => ?_
      repeat walk1
      rename H1 _ = none => nR
      rename St _ _ _ _ _ _ _ _ => S2
      refine r_forR hA'.1 (n := 0) (fun i H2 m2 => Le H1 H2) S2 set_self (rsmall (by lia) (by lia) (by lia) (by lia)) (rsize (by lia)) (Le.set nR) (fun i t H2 m2 s3 I E2 hi => absurd hi (by lia)) fun H2 m2 s3 hJ S3 => ?_
      refine k57 _ _ ?_
      exact mk_AEEAEAA rfl _ _ S3 ys (by rw [hrz]; exact x1) (LeX.of hJ) (hJ _ _ x2)
    · have hvn : (vs.length : Int) > 1 := by lia
      have hat : (if (lot.length : Int) - 2 < k then (lot.length : Int) - 2 else k) = ((min k (lot.length - 2) : Nat) : Int) := by split <;> grind
      rw [hat] at x8
      have hln := resize_iter (lot := lot) (k := k) (c := c) hp
      rw [if_neg h2l] at hln
      rw [hln]
      refine hq fun Q68 k68 => ?_
      repeat walk1
      rename H1 _ = none => nR
      rename St _ _ _ _ _ _ _ _ => S2
      have hNat : (if c < 0 then -c else c) = (c.natAbs : Int) := by split <;> grind
      rw [hNat] at S2
      refine r_forR hA'.1 (n := c.natAbs) (fun i H2 m2 => m2 "change" = some (.int c tc) ∧ m2 "at" = some (.int ((min k (lot.length - 2) : Nat) : Int) t8) ∧ LeX [X] H1 H2 ∧ ∃ ys, H2 X = some (.lst ys) ∧ IntsAre ys ((iterU (takerOf lot.length k c) (giversOf lot.length k c) i lot).map (·.2))) S2 set_self (rsmall (by lia) (by lia) (by lia) (by lia)) (rsize (by lia))
        ⟨x7, x8, LeX.of (Le.set nR), ys, set_new x2 nR, x1⟩ ?_ ?_
      · intro i t H2 m2 s3 I E2 hi hp8 hI hBI S3
        refine op_AAAEA hp8 fun f1 f2 f3 ys2 f4 f5 => ?_
        try clear hp8
        clear S2
        refine r_asgName S3 (fun s4 S4 => ?_)
        clear S3
        have fx : ∀ a o, H1 a = some o → a ≠ X → H2 a = some o := fun a o e h => f3 a o (fun q => h (List.mem_singleton.mp q)) e
        have hX1 : L' + 1 ≠ X := Ne.symm (ne_of_none_some x4 c1)
        have hX2 : L' + 1 + 1 ≠ X := Ne.symm (ne_of_none_some x4 d1)
        have hIX : X ≠ I := Ne.symm (ne_of_none_some hI f4)
        refine moved_body S4 G hA' (set_new (fx _ _ gl1 hX1) hI) (set_new (fx _ _ x6 hX2) hI) (set_new (fx _ _ hl1 hlX) hI) hvl (by lia) hk hz (set_new f4 hI) f5 (by rw [List.length_map, iterU_len]) x3 hlX (by walk_at "hname") (by walk_at "hname") fun H3 m3 s5 ys3 p1 p2 p3 p4 p5 S5 => ?_
        clear S4
        refine mk_EEAAAAAEA _ _ S5 (p3 _ _ (fun q => hIX (List.mem_singleton.mp q).symm) set_self) p1 p2 (fun a o ha e => ?_) ys3 (del_ne p4 hIX) (by rw [iterU_succ, unit_map]; exact p5)
        have e2 := f3 a o ha e
        exact del_ne (p3 a o ha (set_new e2 hI)) (Ne.symm (ne_of_none_some hI e2))
      · intro H2 m2 s3 hp3 S3
        refine op_AAAEA hp3 fun f1 f2 f3 ys2 f4 f5 => ?_
        refine k68 _ _ ?_
        try clear hp3
        exact mk_AEEAEAA rfl _ _ S3 ys2 f5 f3 f4
  intro H2 m2 s2 S2 hp4
  refine op_EAA hp4 fun ys2 y1 y2 y3 => ?_
  try clear hp4
  clear S1
  have hX1 : L' + 1 ≠ X := Ne.symm (ne_of_none_some x4 c1)
  have hX2 : L' + 1 + 1 ≠ X := Ne.symm (ne_of_none_some x4 d1)
  have fx : ∀ a o, H1 a = some o → a ≠ X → H2 a = some o := fun a o e h => y2 a o (fun q => h (List.mem_singleton.mp q)) e
  have gl2 := fx _ _ gl1 hX1
  have gs2 := fx _ _ x6 hX2
  have hl2 := fx _ _ hl1 hlX
  have leF : Le H H2 := fun a o e => fx _ _ (leH a o e) (Ne.symm (ne_of_none_some hXH e))
  clear fx
  have hfst : (resizeLot lot k c).map (·.1) = lot.map (·.1) := by
    rw [resize_iter hp]
    split
    · rfl
    · exact iterU_fst
  have hrl : (resizeLot lot k c).length = lot.length := by simpa using congrArg List.length hfst
  repeat walk1
  rename H2 _ = none => nR
  rename St _ _ _ _ _ _ _ _ => S3
  generalize resizeLot lot k c = res at *
  refine r_compR hA'.1 (n := vs.length) (fun i zs H3 => LotVs H3 zs (res.take i) ∧ Le H2 H3) S3 set_self (rsmall (by lia) (by lia) (by lia) (by lia)) (rsize (by lia)) (by lia) ⟨.nil, Le.set nR⟩ (by decide) rfl ?_ (fun y p e => by cases e) ?_
  · intro C D I B'' i t zs H3 m3 s3 E2 hBB hi hp13 hI hD hne hBI hBD S4
    refine ce fun gl => ?_
    obtain ⟨f1, f2⟩ := hp13
    clear S3
    obtain ⟨K, hK⟩ : ∃ K, K = ((H3.set I (rit (0 + ((i + 1 : Nat) : Int) * 1) ((vs.length : Int) - ((i + 1 : Nat) : Int)) 1)).set D (.lst zs)) := ⟨_, rfl⟩
    have kk : Le H2 K := fun a o e => by rw [hK]; exact set_new (set_new (f2 a o e) hI) (set_ne hD hne)
    have kI : K I = some (rit (0 + ((i + 1 : Nat) : Int) * 1) ((vs.length : Int) - ((i + 1 : Nat) : Int)) 1) := by rw [hK]; exact set_ne set_self (Ne.symm hne)
    have kD : K D = some (.lst zs) := by rw [hK]; exact set_self
    have kd : ∀ {K'}, Le K K' → Le H3 ((K'.del I).del D) := fun {K'} k => by rw [hK] at k; exact le_turn hI hD k hne
    rw [← hK] at S4
    clear hK
    have gl2 := kk _ _ gl2
    have gs2 := kk _ _ gs2
    have hl2 := kk _ _ hl2
    have y3 := kk _ _ y3
    have hir : i < lot.length := by lia
    refine op_EEEA ((h2.mono (leF.trans kk).t).get (k := i) (p := lot[i].1) (c := lot[i].2) (List.getElem?_eq_getElem hir)) fun a tp ta hva ha => ?_
    obtain ⟨ts, hsi⟩ := ints_at y1 (i := i) (x := (res[i]'(by lia)).2) (by simp [hrl, hir])
    refine gl ?_; clear gl
    have hyz : ys2.length ≤ sizeLine := by rw [sizeLine_eq, ints_len y1, List.length_map]; lia
    refine r_asgName S4 (fun s4 S5 => ?_)
    refine wpAny_tests_nil ?_
    rw [if_pos rfl]
    clear S4
    have hi0 : (0 : Int) + (i : Int) * 1 = ((i : Nat) : Int) := by lia
    rw [hi0] at S5
    have hir' : i < res.length := by lia
    have hri : res[i]? = some (lot[i].1, res[i].2) := by
      rw [List.getElem?_eq_getElem hir']
      have e1 : (res.map (·.1))[i]? = (lot.map (·.1))[i]? := by rw [hfst]
      simp [hir, hir'] at e1
      rw [← e1]
    repeat walk1
    rename K _ = none => nT
    rename St _ _ _ _ _ _ _ _ => S6
    refine mk_EEAAAA _ _ S6 (set_new kI nT) (set_new kD nT) ?_ (f2.trans (kd (Le.set nT)))
    rw [List.take_add_one, hri]
    exact (f1.mono (kd (Le.set nT)).t).append (.cons (del_ne (del_ne set_self (ne_of_none_some nT kI)) (ne_of_none_some nT kD)) .nil)
  · intro D zs H3 s3 hp4 hD hDB S4
    obtain ⟨f1, f2⟩ := hp4
    rw [List.take_of_length_le (by lia)] at f1
    dsimp only at S4 ⊢
    exact mk_EEA _ _ S4 (fun S => q _ _ _ (leF.trans (f2.trans (Le.set hD))) ⟨_, set_self, f1.mono (Le.set hD).t⟩ S)
end

/-! _law_fitted: its two ends -/
structure FitF (H : AH) (L l X : Addr) (vs ys : List Value) (n : Nat) (need : Int) : Prop where
  lot : H (L + 1) = some (.cel (some (.ref l)))
  many : ∃ t, H (L + 1 + 1) = some (.cel (some (.int (n : Int) t)))
  sides : H (L + 1 + 1 + 1) = some (.cel (some (.ref X)))
  need : ∃ t, H (L + 1 + 1 + 1 + 1) = some (.cel (some (.int need t)))
  l : H l = some (.lst vs)
  x : H X = some (.lst ys)
section
variable {prog : Program} {w : World} {A : Around} {E : Value → Shared → Prop} {z s : Shared} {B : Heap} {H : AH} {L : Addr} {O : List Addr} {m : Str → Option Value} {env : Env} {Q : Flow → Shared → Prop}
theorem growL_get {lot : List (Int × Int)} {need : Int} {i : Nat} (hi : i < lot.length) : (growL lot need)[i]? = some (lot[i].1, lot[i].2 + need.fdiv lot.length + if (i : Int) < need.fmod lot.length then 1 else 0) := by
  unfold growL
  rw [List.getElem?_mapIdx, List.getElem?_eq_getElem hi]
  rfl
theorem fit_case1 (S : St w z B H L O m s) (G : Gd w z) {nA : Nat} (hA : Rm nA A) {l X : Addr} {vs ys : List Value} {lot : List (Int × Int)} {need : Int} (F : FitF H L l X vs ys lot.length need) (h2 : LotVs H vs lot) (hy : IntsAre ys (lot.map (·.2))) (h1l : 1 ≤ lot.length) (hz : lot.length ≤ 100) (hn : need ≥ 0)
    (q : ∀ D H' m' s', Le H H' → LotAt H' D (growL lot need) → St w z B H' L O m' s' → Q (.ret (.ref D)) s') :
    wpAny (model prog w) A (execs ((bodyOf fd258.1).drop 2) (callEnvC fd258.1 L 258)) Q E s := by
  obtain ⟨F1, ⟨tm, F2⟩, F3, ⟨tn, F4⟩, F5, F6⟩ := F
  have hvl := h2.len
  show wpAny _ _ (execs [_, _, _, _, _, _] _) _ _ _
  repeat walk1
  rename H _ = none => nR
  rename St _ _ _ _ _ _ _ _ => S3
  refine r_compR hA.1 (n := lot.length) (fun i zs H3 => LotVs H3 zs ((growL lot need).take i) ∧ Le H H3) S3 set_self (rsmall (by lia) (by lia) (by lia) (by lia)) (rsize (by lia)) (by (refine Nat.le_trans (by with_reducible assumption) ?_; exact Nat.le_of_ble_eq_true rfl)) ⟨.nil, Le.set nR⟩ (by decide) rfl ?_ (fun y p e => by cases e) ?_
  · intro C D I B'' i t zs H3 m3 s3 E2 hBB hi hp13 hI hD hne hBI hBD S4
    refine ce fun gl => ?_
    obtain ⟨f1, f2⟩ := hp13
    clear S3
    obtain ⟨K, hK⟩ : ∃ K, K = ((H3.set I (rit (0 + ((i + 1 : Nat) : Int) * 1) ((lot.length : Int) - ((i + 1 : Nat) : Int)) 1)).set D (.lst zs)) := ⟨_, rfl⟩
    have kk : Le H K := fun a o e => by rw [hK]; exact set_new (set_new (f2 a o e) hI) (set_ne hD hne)
    have kI : K I = some (rit (0 + ((i + 1 : Nat) : Int) * 1) ((lot.length : Int) - ((i + 1 : Nat) : Int)) 1) := by rw [hK]; exact set_ne set_self (Ne.symm hne)
    have kD : K D = some (.lst zs) := by rw [hK]; exact set_self
    have kd : ∀ {K'}, Le K K' → Le H3 ((K'.del I).del D) := fun {K'} k => by rw [hK] at k; exact le_turn hI hD k hne
    rw [← hK] at S4
    clear hK
    have F1 := kk _ _ F1
    have F2 := kk _ _ F2
    have F3 := kk _ _ F3
    have F4 := kk _ _ F4
    have F5 := kk _ _ F5
    have F6 := kk _ _ F6
    refine op_EEEA ((h2.mono kk.t).get (k := i) (p := lot[i].1) (c := lot[i].2) (List.getElem?_eq_getElem hi)) fun a tp ta hva ha => ?_
    obtain ⟨ts, hsi⟩ := ints_at hy (i := i) (x := lot[i].2) (by simp [hi])
    refine gl ?_; clear gl
    have hyz : ys.length ≤ sizeLine := by rw [sizeLine_eq, ints_len hy, List.length_map]; (refine Nat.le_trans (by with_reducible assumption) ?_; exact Nat.le_of_ble_eq_true rfl)
    have hvz : vs.length ≤ sizeLine := by rw [sizeLine_eq]; lia
    refine r_asgName S4 (fun s4 S5 => ?_)
    refine wpAny_tests_nil ?_
    rw [if_pos rfl]
    clear S4
    have hi0 : (0 : Int) + (i : Int) * 1 = ((i : Nat) : Int) := by lia
    rw [hi0] at S5
    refine hq fun Q52 k52 => ?_
    repeat walk1
    refine k52 _ _ ?_
    rename K _ = none => nT
    rename St _ _ _ _ _ _ _ _ => S6
    simp only [decide_eq_true_eq] at S6
    refine mk_EEAAAA _ _ S6 (set_new kI nT) (set_new kD nT) ?_ (f2.trans (kd (Le.set nT)))
    rw [List.take_add_one, growL_get hi]
    exact (f1.mono (kd (Le.set nT)).t).append (.cons (del_ne (del_ne set_self (ne_of_none_some nT kI)) (ne_of_none_some nT kD)) .nil)
  · intro D zs H3 s3 hp4 hD hDB S4
    obtain ⟨f1, f2⟩ := hp4
    rw [List.take_of_length_le (by simp [growL])] at f1
    dsimp only at S4 ⊢
    exact q _ _ _ _ (f2.trans (Le.set hD)) ⟨_, set_self, f1.mono (Le.set hD).t⟩ S4
noncomputable def capD (lot : List (Int × Int)) (need : Int) (i : Nat) : List Nat := (List.range i).filter fun k : Nat => decide (capS (k : Int) lot ≤ 0 - need)
theorem capS_sum {k : Int} {lot : List (Int × Int)} : ((lot.map (·.2)).map fun x => if k < x - 1 then k else x - 1).sum = capS k lot := by simp [capS, List.map_map, Function.comp_def]
theorem del_get {H : AH} {c a : Addr} {o : AO} (h : (H.del c) a = some o) : a ≠ c ∧ H a = some o := by
  unfold AH.del at h
  split at h
  · cases h
  · exact ⟨‹_›, h⟩
/-- the rounds that all can give -/
theorem fit_case2 (S : St w z B H L O m s) (G : Gd w z) {nA : Nat} (hA : Rm nA A) {l X : Addr} {vs ys : List Value} {lot : List (Int × Int)} {need : Int} {v0 : Option Value} (F : FitF H L l X vs ys lot.length need) (h2 : LotVs H vs lot) (hy : IntsAre ys (lot.map (·.2))) (h1l : 1 ≤ lot.length) (hz : lot.length ≤ 100) (hn : need < 0) (hn2 : -need ≤ 5000) (hp : ∀ x ∈ lot, 1 ≤ x.2)
    (hr : H (L + 1 + 1 + 1 + 1 + 1) = some (.cel v0)) (hBr : B.get? (L + 1 + 1 + 1 + 1 + 1) = none)
    (q : ∀ R H' m' s' tR, 0 ≤ R → R ≤ -need → capS R lot ≤ -need → (∀ k, 0 ≤ k → k ≤ -need → capS k lot ≤ -need → k ≤ R) → LeX [L + 1 + 1 + 1 + 1 + 1] H H' → H' (L + 1 + 1 + 1 + 1 + 1) = some (.cel (some (.int R tR))) → m' "lot" = m "lot" → St w z B H' L O m' s' →
      wpAny (model prog w) A (execs ((bodyOf fd258.1).drop 4) (callEnvC fd258.1 L 258)) Q E s') :
    wpAny (model prog w) A (execs ((bodyOf fd258.1).drop 2) (callEnvC fd258.1 L 258)) Q E s := by
  obtain ⟨F1, ⟨tm, F2⟩, F3, ⟨tn, F4⟩, F5, F6⟩ := F
  have hyz : ys.length ≤ sizeLine := by rw [sizeLine_eq, ints_len hy, List.length_map]; (refine Nat.le_trans (by with_reducible assumption) ?_; exact Nat.le_of_ble_eq_true rfl)
  have hyl : ys.length = lot.length := by rw [ints_len hy, List.length_map]
  show wpAny _ _ (execs [_, _, _, _, _, _] _) _ _ _
  refine r_stmt S (fun H' m' => H = H' ∧ m' = m) ?_ ?_
  · refine hq fun Q82 k82 => ?_
    repeat walk1
    refine k82 _ _ ?_
    exact mk_AEEAA rfl _ _ (by assumption) rfl rfl
  intro _ _ s1 S1 hp4
  obtain ⟨rfl, rfl⟩ := hp4
  clear S
  repeat walk1
  rename H _ = none => nR
  rename St _ _ _ _ _ _ _ _ => S3
  obtain ⟨N, hN⟩ : ∃ N : Nat, (1 - need) - 0 = N := ⟨(1 - need).toNat, by grind⟩
  refine r_iterR S3 set_self (rsmall (by lia) (by lia) (by lia) (by lia)) (rsize hN) fun I s4 S4 nI bI => ?_
  clear S3
  refine r_compSC (src_range I 0 1 N) hA.1 "k" (fun i ks H2 => IntsAre ks ((capD lot need i).map fun k : Nat => (k : Int)) ∧ Le H H2) S4 set_self bI (by lia) ⟨.nil, by rw [del_set nI]; exact Le.set nR⟩ (by intro a; rfl) (by intro h; rfl) (fun _ => trivial) ?_ ?_
  · intro C D c B' i v ks H1 m1 s5 E2 cv hBB hi hp14 hc hp16 hI hD hne hBI hBD hBc S5
    refine ce fun gl => ?_
    obtain ⟨t, rfl⟩ := hp14
    obtain ⟨f1, f2⟩ := hp16
    refine gl ?_; clear gl
    clear S4
    have hIc : I ≠ c := ne_of_none_some hI hc
    have hDc : D ≠ c := ne_of_none_some hD hc
    refine wpAny_assign_Name (r_storeC S5 rfl (set_new (set_new hc hI) (set_ne hD hne)) hBc (fun s6 S6 => ?_))
    clear S5
    obtain ⟨K, hK⟩ : ∃ K, K = ((H1.set I (rit (0 + ((i + 1 : Nat) : Int) * 1) ((N : Int) - ((i + 1 : Nat) : Int)) 1)).set D (.lst ks)).set c (.cel (some (.int (0 + (i : Int) * 1) t))) := ⟨_, rfl⟩
    rw [← hK] at S6
    have kk : Le H K := fun a o e => by
      obtain ⟨q1, q2⟩ := del_get (f2 a o e)
      rw [hK]; exact set_ne (set_new (set_new q2 hI) (set_ne hD hne)) q1
    have kc : K c = some (.cel (some (.int (i : Int) t))) := by rw [hK]; refine set_self.trans ?_; congr 4; lia
    have kI : K I = some (rit (0 + ((i + 1 : Nat) : Int) * 1) ((N : Int) - ((i + 1 : Nat) : Int)) 1) := by rw [hK]; exact set_ne (set_ne set_self (Ne.symm hne)) hIc
    have kD : K D = some (.lst ks) := by rw [hK]; exact set_ne set_self hDc
    have kd : ∀ {K'}, Le K K' → Le H (((K'.del I).del D).del c) := fun {K'} k a o e => by
      obtain ⟨q1, q2⟩ := del_get (f2 a o e)
      exact del_ne (del_ne (del_ne (k _ _ (kk a o e)) (Ne.symm (ne_of_none_some hI q2))) (Ne.symm (ne_of_none_some hD q2))) q1
    clear hK
    have F3 := kk _ _ F3
    have F4 := kk _ _ F4
    have F6 := kk _ _ F6
    have hrg : capD lot need (i + 1) = capD lot need i ++ (if capS (i : Int) lot ≤ 0 - need then [i] else []) := by
      unfold capD
      rw [List.range_succ, List.filter_append]
      congr 1
      by_cases h : capS (i : Int) lot ≤ 0 - need
      · rw [if_pos h, List.filter_cons_of_pos (by simpa using h)]; rfl
      · rw [if_neg h, List.filter_cons_of_neg (by simpa using h)]; rfl
    refine wpAny_tests_one ?_
    by_cases hcap : capS (i : Int) lot ≤ 0 - need
    all_goals
      repeat walk1
      rename St _ _ _ _ _ _ _ _ => S7
      refine r_compL hA.1 (fun j zs H3 => IntsAre zs (((lot.map (·.2)).take j).map fun x => if (i : Int) < x - 1 then (i : Int) else x - 1) ∧ Le K H3) S7 F6 (by lia) ⟨.nil, Le.rfl⟩ (by decide) rfl (fun j zs H3 h => h.2 _ _ F6) ?_ (fun y p e => by cases e) ?_
      · intro C2 D2 I2 B3 j v zs H3 m3 s7 E3 hBB2 hv hp13 hI2 hD2 hne2 hBI2 hBD2 S8
        refine ce fun gl => ?_
        obtain ⟨g1, g2⟩ := hp13
        clear S7
        refine op_EEA (ints_get hy hv) fun x tx ek1 hx => ?_
        subst ek1
        refine gl ?_; clear gl
        have k2 : Le K ((H3.set I2 (lit X (j + 1))).set D2 (.lst zs)) := fun a o e => set_new (set_new (g2 a o e) hI2) (set_ne hD2 hne2)
        have kc := k2 _ _ kc
        refine r_asgName S8 (fun s8 S9 => ?_)
        refine wpAny_tests_nil ?_
        rw [if_pos rfl]
        clear S8
        refine hq fun Q141 k141 => ?_
        repeat walk1
        refine k141 _ _ ?_
        rename St _ _ _ _ _ _ _ _ => S10
        refine mk_EEAAAA _ _ S10 (set_ne set_self (Ne.symm hne2)) set_self ?_ (le_turn hI2 hD2 Le.rfl hne2 |> g2.trans)
        rw [List.take_add_one, hx, List.map_append]
        exact g1.append (.cons _ _ .nil)
      · intro D2 zs H3 s7 hp4 hD2 hDB2 S8
        obtain ⟨g1, g2⟩ := hp4
        clear S7
        rw [hyl, List.take_of_length_le (by simp)] at g1
        dsimp only at S8 ⊢
        repeat walk1
        rename St _ _ _ _ _ _ _ _ => S9
        refine r_sum S9 hA.1 set_self g1 fun t9 s9 S10 => ?_
        clear S9
        rw [capS_sum]
        have k3 : Le K (H3.set D2 (.lst zs)) := g2.trans (Le.set hD2)
        have kc := k3 _ _ kc
        have F4 := k3 _ _ F4
        repeat walk1
        rename St _ _ _ _ _ _ _ _ => S11
        refine mk_EEAAA _ _ S11 (k3 _ _ kI) (k3 _ _ kD) ⟨_, del_ne (del_ne kc (Ne.symm hIc)) (Ne.symm hDc), ?_, kd k3⟩
        rw [hrg]
        first
        | rw [if_pos hcap, List.map_append]; exact f1.append (.cons _ _ .nil)
        | rw [if_neg hcap, List.append_nil]; exact f1
  · intro D ks H1 s5 hp4 hI hD hBD S5
    obtain ⟨f1, f2⟩ := hp4
    clear S4
    repeat walk1
    rename St _ _ _ _ _ _ _ _ => S6
    refine r_maxL S6 hA.1 set_self f1 ?_ fun R tR s7 p1 p2 S7 => ?_
    · rw [List.length_map]
      refine List.length_pos_of_mem (a := 0) ?_
      unfold capD
      refine List.mem_filter.mpr ⟨List.mem_range.mpr (by lia), ?_⟩
      have := capS_zero hp
      simp
      lia
    clear S6
    refine ce fun gl => ?_
    refine op_EA (List.mem_map.mp p1) fun R' hR' hRe => ?_
    have hRe : R = ((R' : Nat) : Int) := hRe.symm
    subst hRe
    unfold capD at hR'
    obtain ⟨hR1, hR2⟩ := List.mem_filter.mp hR'
    refine gl ?_; clear gl
    have hR1 := List.mem_range.mp hR1
    simp only [decide_eq_true_eq] at hR2
    have k2 : Le H (H1.set D (.lst ks)) := f2.trans (Le.set hD)
    refine r_storeC S7 rfl (k2 _ _ hr) hBr (fun s8 S8 => ?_)
    clear S7
    refine q (R' : Int) ((H1.set D (.lst ks)).set (L + 1 + 1 + 1 + 1 + 1) (.cel (some (.int (R' : Int) tR)))) _ s8 tR (by lia) (by lia) (by lia) (fun k h0 h1 h2 => ?_) (fun a o ha e => set_ne (k2 _ _ e) (fun q => ha (List.mem_singleton.mpr q))) set_self rfl ?_
    · refine p2 k ?_
      refine List.mem_map.mpr ⟨k.toNat, ?_, by lia⟩
      unfold capD
      refine List.mem_filter.mpr ⟨List.mem_range.mpr (by lia), ?_⟩
      have : ((k.toNat : Nat) : Int) = k := by lia
      simp [this]
      omega
    · exact S8
end

/-! _law_fitted -/
theorem nm1 {a b : Addr} (h : a ≠ b) : a ∉ [b] := fun q => h (List.mem_singleton.mp q)
theorem nm2 {a b c : Addr} (h : a ≠ b) (h' : a ≠ c) : a ∉ [b, c] := fun q => by
  rcases List.mem_cons.mp q with q | q
  · exact h q
  · exact h' (List.mem_singleton.mp q)
noncomputable def shrL (R : Int) : List (Int × Int) → Int → Int
  | [], left => left
  | x :: lot, left => shrL R lot (left - (if left > 0 ∧ x.2 - 1 > R then 1 else 0))
theorem shr_snoc {R : Int} {lot : List (Int × Int)} {x : Int × Int} {left : Int} :
    shr R (lot ++ [x]) left = shr R lot left ++ [(x.1, x.2 - (if R < x.2 - 1 then R else x.2 - 1) - (if shrL R lot left > 0 ∧ x.2 - 1 > R then 1 else 0))] ∧ shrL R (lot ++ [x]) left = shrL R lot left - (if shrL R lot left > 0 ∧ x.2 - 1 > R then 1 else 0) := by
  induction lot generalizing left with
  | nil => simp [shr, shrL]
  | cons y lot ih =>
    obtain ⟨a, b⟩ := ih (left := left - (if left > 0 ∧ y.2 - 1 > R then 1 else 0))
    simp only [List.cons_append, shr, shrL]
    exact ⟨by rw [a]; rfl, b⟩
section
variable {prog : Program} {w : World} {A : Around} {E : Value → Shared → Prop} {z s : Shared} {B : Heap} {H : AH} {L : Addr} {O : List Addr} {m : Str → Option Value} {env : Env}
/-- .. and the rest, one by one -/
theorem fit_tail (S : St w z B H L O m s) (G : Gd w z) {Q : Flow → Shared → Prop} {nA : Nat} (hA : Rm nA A) {l X : Addr} {vs ys : List Value} {lot : List (Int × Int)} {need R : Int} {tR : Tok} (F : FitF H L l X vs ys lot.length need) (h2 : LotVs H vs lot) (hy : IntsAre ys (lot.map (·.2))) (hz : lot.length ≤ 100)
    (hr : H (L + 1 + 1 + 1 + 1 + 1) = some (.cel (some (.int R tR))))
    (q : ∀ D H' m' s', Le H H' → LotAt H' D (shr R lot (-need - capS R lot)) → St w z B H' L O m' s' → Q (.ret (.ref D)) s') :
    wpAny (model prog w) A (execs ((bodyOf fd258.1).drop 4) (callEnvC fd258.1 L 258)) Q E s := by
  obtain ⟨F1, ⟨tm, F2⟩, F3, ⟨tn, F4⟩, F5, F6⟩ := F
  have hyz : ys.length ≤ sizeLine := by rw [sizeLine_eq, ints_len hy, List.length_map]; (refine Nat.le_trans (by with_reducible assumption) ?_; exact Nat.le_of_ble_eq_true rfl)
  have hyl : ys.length = lot.length := by rw [ints_len hy, List.length_map]
  have hvl := h2.len
  show wpAny _ _ (execs [_, _, _, _] _) _ _ _
  refine r_stmt S (fun H' m' => Le H H' ∧ ∃ t, m' "left" = some (.int (-need - capS R lot) t)) ?_ ?_
  · refine hq fun Q30 k30 => ?_
    repeat walk1
    rename St _ _ _ _ _ _ _ _ => S7
    refine r_compL hA.1 (fun j zs H3 => IntsAre zs (((lot.map (·.2)).take j).map fun x => if R < x - 1 then R else x - 1) ∧ Le H H3) S7 F6 (by lia) ⟨.nil, Le.rfl⟩ (by decide) rfl (fun j zs H3 h => h.2 _ _ F6) ?_ (fun y p e => by cases e) ?_
    · intro C2 D2 I2 B3 j v zs H3 m3 s7 E3 hBB2 hv hp13 hI2 hD2 hne2 hBI2 hBD2 S8
      refine ce fun gl => ?_
      obtain ⟨g1, g2⟩ := hp13
      clear S7
      refine op_EEA (ints_get hy hv) fun x tx ek1 hx => ?_
      subst ek1
      refine gl ?_; clear gl
      have k2 : Le H ((H3.set I2 (lit X (j + 1))).set D2 (.lst zs)) := fun a o e => set_new (set_new (g2 a o e) hI2) (set_ne hD2 hne2)
      have hr := k2 _ _ hr
      refine r_asgName S8 (fun s8 S9 => ?_)
      refine wpAny_tests_nil ?_
      rw [if_pos rfl]
      clear S8
      refine hq fun Q44 k44 => ?_
      repeat walk1
      refine k44 _ _ ?_
      rename St _ _ _ _ _ _ _ _ => S10
      refine mk_EEAAAA _ _ S10 (set_ne set_self (Ne.symm hne2)) set_self ?_ (le_turn hI2 hD2 Le.rfl hne2 |> g2.trans)
      rw [List.take_add_one, hx, List.map_append]
      exact g1.append (.cons _ _ .nil)
    · intro D2 zs H3 s7 hp4 hD2 hDB2 S8
      obtain ⟨g1, g2⟩ := hp4
      clear S7
      rw [hyl, List.take_of_length_le (by simp)] at g1
      dsimp only at S8 ⊢
      repeat walk1
      rename St _ _ _ _ _ _ _ _ => S9
      refine r_sum S9 hA.1 set_self g1 fun t9 s9 S10 => ?_
      clear S9
      rw [capS_sum]
      repeat walk1
      refine k30 _ _ ?_
      rename St _ _ _ _ _ _ _ _ => S11
      have e0 : 0 - need - capS R lot = -need - capS R lot := by lia
      rw [e0] at S11
      exact mk_AEEAAE rfl _ _ S11 (g2.trans (Le.set hD2)) _ (by walk_at "hname")
  intro H1 m1 s1 S1 hp4
  refine op_AE hp4 fun k1 t1 g1 => ?_
  try clear hp4
  clear S
  generalize -need - capS R lot = left at *
  refine r_stmt S1 (fun H' m' => ∃ D, H1 D = none ∧ B.get? D = none ∧ H' = H1.set D (.lst []) ∧ m' = upd m1 "found" (.ref D)) ?_ ?_
  · refine hq fun Q70 k70 => ?_
    repeat walk1
    refine k70 _ _ ?_
    exact mk_AEEAEAAA rfl _ _ (by assumption) _ (by assumption) (by assumption) rfl rfl
  intro _ _ s2 S2 hp4
  refine ce fun gl => ?_
  refine op_EAAA hp4 fun D nD bD ek2 ek3 => ?_
  try clear hp4
  subst ek2
  subst ek3
  refine gl ?_; clear gl
  clear S1
  have F1 := set_new (o := .lst []) (k1 _ _ F1) nD
  have F5 := set_new (o := .lst []) (k1 _ _ F5) nD
  have hr := set_new (o := .lst []) (k1 _ _ hr) nD
  have h2 := h2.mono (k1.trans (Le.set (o := .lst []) nD)).t
  have nlD : l ≠ D := by rintro rfl; have := k1 _ _ (show H l = some _ by assumption); rw [nD] at this; cases this
  refine r_stmt S2 (fun H' m' => m' "found" = some (.ref D) ∧ LeX [D] (H1.set D (.lst [])) H' ∧ LotAt H' D (shr R lot left)) ?_ ?_
  · refine hq fun Q84 k84 => ?_
    repeat walk1
    rename St _ _ _ _ _ _ _ _ => S3
    refine r_forL hA.1 (fun i H2 m2 => m2 "found" = some (.ref D) ∧ (∃ t, m2 "left" = some (.int (shrL R (lot.take i) left) t)) ∧ LeX [D] (H1.set D (.lst [])) H2 ∧ ∃ zs, H2 D = some (.lst zs) ∧ zs.length ≤ 1000 ∧ LotVs H2 zs (shr R (lot.take i) left)) S3 F5
      ⟨upd_self, ⟨_, by walk_at "hname"⟩, fun _ _ _ e => e, [], set_self, by simp, .nil⟩ (fun i H2 m2 h => h.2.2.1 _ _ (by simp [nlD]) F5) ?_ ?_
    · intro i v H2 m2 s3 I E2 hv hp8 hI hBI S4
      refine ce fun gl => ?_
      refine op_AAAEAA hp8 fun f1 hq4 f4 zs f5 f6 f7 => ?_
      try clear hp8
      refine op_E hq4 fun t3 f3 => ?_
      try clear hq4
      clear S3
      refine op_EEEEEAA (h2.get' hv) fun a p c tp tc ek5 hx ha => ?_
      subst ek5
      refine gl ?_; clear gl
      have hDa : a ≠ D := by first | exact ne_ss ha set_self (fun q => nomatch q) | exact ne_sn ha set_self | exact ne_ns ha set_self | exact ne_sn set_self ha | exact ne_ns set_self ha
      refine r_asgTup2 S4 hA.1 (set_new (f4 _ _ (by simp [hDa]) ha) hI) (fun s4 S5 => ?_)
      clear S4
      have hRD : L + 1 + 1 + 1 + 1 + 1 ≠ D := by rintro e; rw [e, set_self] at hr; cases hr
      have hr := set_new (o := lit l (i + 1)) (f4 _ _ (by simp [hRD]) hr) hI
      have f5' := set_new (o := lit l (i + 1)) f5 hI
      have hDI : D ≠ I := Ne.symm (ne_of_none_some hI f5)
      have htk : lot.take (i + 1) = lot.take i ++ [(p, c)] := by rw [List.take_add_one, hx]; rfl
      obtain ⟨e1, e2⟩ := shr_snoc (R := R) (lot := lot.take i) (x := (p, c)) (left := left)
      generalize shrL R (lot.take i) left = lf at *
      have fin : ∀ (T : Addr) (y u : Tok) (m' : Str → Option Value) (s' : Shared) (t' : Tok), (H2.set I (lit l (i + 1))) T = none →
          m' "found" = some (.ref D) → m' "left" = some (.int (lf - (if lf > 0 ∧ c - 1 > R then 1 else 0)) t') → St w z B (((H2.set I (lit l (i + 1))).set T (.tup [.int p y, .int (c - (if R < c - 1 then R else c - 1) - (if lf > 0 ∧ c - 1 > R then 1 else 0)) u])).set D (.lst (zs ++ [.ref T]))) L O m' s' →
          ∃ H' m', St w z B H' L O m' s' ∧ H' I = some (lit l (i + 1)) ∧ (m' "found" = some (.ref D) ∧ (∃ t, m' "left" = some (.int (shrL R (lot.take (i + 1)) left) t)) ∧ LeX [D] (H1.set D (.lst [])) (H'.del I) ∧ ∃ zs, (H'.del I) D = some (.lst zs) ∧ zs.length ≤ 1000 ∧ LotVs (H'.del I) zs (shr R (lot.take (i + 1)) left)) := by
        intro T y u m' s' t' n1 g1 g2 S5
        have h3 : ((H2.set I (lit l (i + 1))).set T (.tup [.int p y, .int (c - (if R < c - 1 then R else c - 1) - (if lf > 0 ∧ c - 1 > R then 1 else 0)) u])) D = some (.lst zs) := set_new f5' n1
        have kI : ((H2.set I (lit l (i + 1))).set T (.tup [.int p y, .int (c - (if R < c - 1 then R else c - 1) - (if lf > 0 ∧ c - 1 > R then 1 else 0)) u])) I = some (lit l (i + 1)) := set_new set_self n1
        refine mk_EEAAAAAEAA _ _ S5 (set_ne kI (Ne.symm hDI)) g1 ⟨t', by rw [htk, e2]; exact g2⟩ (fun a o ha e => ?_) (zs ++ [.ref T]) (del_ne set_self hDI) ?_ ?_
        · have e1 := f4 a o ha e
          exact del_ne (set_ne (set_new (set_new e1 hI) n1) (fun q => ha (List.mem_singleton.mpr q))) (Ne.symm (ne_of_none_some hI e1))
        · have h1 := f7.len
          have h2 : ∀ (lot : List (Int × Int)) a, (shr R lot a).length = lot.length := fun lot => by
            induction lot with
            | nil => intro a; rfl
            | cons x lot ih => intro a; simp [shr, ih]
          rw [h2] at h1
          simp at h1 ⊢
          lia
        · rw [htk, e1]
          refine (f7.mono ((((LeT.fresh hI).trans (LeT.fresh n1)).trans (LeT.lst h3)).trans (LeT.delO (set_ne kI (Ne.symm hDI))))).append (.cons (del_ne (set_ne set_self ?_) ?_) .nil)
          · exact ne_of_none_some n1 f5'
          · exact ne_of_none_some n1 set_self
      refine hq fun Q127 k127 => ?_
      by_cases b1 : lf > 0
      · by_cases b2 : c - 1 > R
        · rw [if_pos ⟨b1, b2⟩] at fin
          repeat walk1
          refine k127 _ _ ?_
          rename St _ _ _ _ _ _ _ _ => S6
          have e0 : (if decide (R < c - 1) = true then (1 : Int) else 0) = 1 := by rw [if_pos (by simpa using b2)]
          rw [e0] at S6
          exact fin _ _ _ _ _ _ (by assumption) (by walk_at "hname") (by walk_at "hname") S6
        · rw [if_neg (fun h => b2 h.2)] at fin
          repeat walk1
          refine k127 _ _ ?_
          rename St _ _ _ _ _ _ _ _ => S6
          have e0 : (if decide (R < c - 1) = true then (1 : Int) else 0) = 0 := by rw [if_neg (by simp; lia)]
          rw [e0] at S6
          exact fin _ _ _ _ _ _ (by assumption) (by walk_at "hname") (by walk_at "hname") S6
      · rw [if_neg (fun h => b1 h.1)] at fin
        repeat walk1
        refine k127 _ _ ?_
        rename St _ _ _ _ _ _ _ _ => S6
        have e0 : (if decide (0 < lf) = true then (1 : Int) else 0) = 0 := by rw [if_neg (by simp; grind)]
        rw [e0] at S6
        exact fin _ _ _ _ _ _ (by assumption) (by walk_at "hname") (by walk_at "hname") S6
    · intro H2 m2 s3 hp3 S4
      refine op_AAAEAA hp3 fun f1 f2 f3 zs f4 f5 f6 => ?_
      refine k84 _ _ ?_
      try clear hp3
      rw [hvl, List.take_of_length_le (Nat.le_refl _)] at f6
      exact mk_AEEAAAEA rfl _ _ S4 f1 f3 zs f4 f6
  intro H2 m2 s3 S3 hp4
  refine op_AA hp4 fun f1 f2 f3 => ?_
  try clear hp4
  clear S2
  repeat walk1
  rename St _ _ _ _ _ _ _ _ => S4
  exact q _ _ _ _ (f2.le (k1.trans (Le.set nD)) fun d hd => by rw [List.mem_singleton.mp hd]; exact k1.none nD) f3 S4
end
section
variable {prog : Program} {w : World} {A : Around} {E : Value → Shared → Prop} {z s : Shared} {B : Heap} {H : AH} {L : Addr} {O : List Addr} {m : Str → Option Value} {env : Env} {Q : Value → Shared → Prop}
theorem d_lfitted (S : St w z B H L O m s) (G : Gd w z) (hA : Rm 8 A) {l : Addr} {lot : List (Int × Int)} {whole : Int} {tw : Tok} (hl : LotAt H l lot) (h1l : 1 ≤ lot.length) (hz : lot.length ≤ 100) (hp : ∀ x ∈ lot, 1 ≤ x.2) (hs : sumA lot ≤ 1000) (hw : whole.natAbs ≤ 1000)
    (q : ∀ D H' s' lot', (∀ lot'', FitL lot whole lot'' → lot'' = lot') → Le H H' → LotAt H' D lot' → St w z B H' L O m s' → Q (.ref D) s') :
    wpAny (model prog w) A (call (.ref 258) [.ref l, .int whole tw]) Q E s := by
  refine op_EA hl fun vs h1 h2 => ?_
  try clear hl
  have hvl := h2.len
  refine enterC' S G hA fd258 (binds := [("lot", .ref l), ("whole", .int whole tw)]) [] ?_ noMs cd258 rfl (BindsTo.of_eq rfl) rfl rfl rfl rfl rfl
  intro A' B' H' L' s' E' hA' _ hB hle hc' S'
  refine ce fun gl => ?_
  refine op_AA (hc' "lot" _ rfl) fun c1 c2 c3 => ?_
  refine op_AA (hc' "many" _ rfl) fun d1 d2 d3 => ?_
  refine op_AA (hc' "sides" _ rfl) fun e1 e2 e3 => ?_
  refine op_AA (hc' "need" _ rfl) fun f1 f2 f3 => ?_
  refine op_AA (hc' "rounds" _ rfl) fun r1 r2 r3 => ?_
  have h1' := hle _ _ h1
  have h2' := h2.mono hle.t
  clear S hc'
  change H' _ = some (.cel (some (.ref l))) at c1
  have hvz : vs.length ≤ sizeLine := by rw [sizeLine_eq]; lia
  refine op_EA (⟨_, rfl, S'⟩ : ∃ m0, m0 "whole" = some (.int whole tw) ∧ St w z B' H' L' (L :: O) m0 s') fun m0 g2 S0 => ?_
  refine gl ?_; clear gl
  clear S'
  have lt : ∀ n : Nat, n < n + 1 := Nat.lt_succ_self
  have n12 : L' + 1 ≠ L' + 1 + 1 := Nat.ne_of_lt (lt _)
  have n13 : L' + 1 ≠ L' + 1 + 1 + 1 := Nat.ne_of_lt (Nat.lt_trans (lt _) (lt _))
  have n15 : L' + 1 ≠ L' + 1 + 1 + 1 + 1 + 1 := Nat.ne_of_lt (Nat.lt_trans (Nat.lt_trans (Nat.lt_trans (lt _) (lt _)) (lt _)) (lt _))
  have n23 : L' + 1 + 1 ≠ L' + 1 + 1 + 1 := Nat.ne_of_lt (lt _)
  have n14 : L' + 1 ≠ L' + 1 + 1 + 1 + 1 := Nat.ne_of_lt (Nat.lt_trans (Nat.lt_trans (lt _) (lt _)) (lt _))
  have n24 : L' + 1 + 1 ≠ L' + 1 + 1 + 1 + 1 := Nat.ne_of_lt (Nat.lt_trans (lt _) (lt _))
  have n34 : L' + 1 + 1 + 1 ≠ L' + 1 + 1 + 1 + 1 := Nat.ne_of_lt (lt _)
  have n25 : L' + 1 + 1 ≠ L' + 1 + 1 + 1 + 1 + 1 := Nat.ne_of_lt (Nat.lt_trans (Nat.lt_trans (lt _) (lt _)) (lt _))
  have n35 : L' + 1 + 1 + 1 ≠ L' + 1 + 1 + 1 + 1 + 1 := Nat.ne_of_lt (Nat.lt_trans (lt _) (lt _))
  have n45 : L' + 1 + 1 + 1 + 1 ≠ L' + 1 + 1 + 1 + 1 + 1 := Nat.ne_of_lt (lt _)
  show wpAny _ _ (execs (_ :: _ :: (bodyOf fd258.1).drop 2) _) _ _ _
  refine r_stmt S0 (fun H1 m1 => m1 "whole" = some (.int whole tw) ∧ ∃ X ys, IntsAre ys (lot.map (·.2)) ∧ H1 X = some (.lst ys) ∧ B'.get? X = none ∧ H' X = none ∧ LeX [L' + 1 + 1, L' + 1 + 1 + 1] H' H1 ∧ H1 (L' + 1 + 1 + 1) = some (.cel (some (.ref X))) ∧ ∃ t, H1 (L' + 1 + 1) = some (.cel (some (.int (lot.length : Int) t)))) ?_ ?_
  · repeat walk1
    rename St _ _ _ _ _ _ _ _ => S1
    refine r_alongs hA'.1 S1 h1' h2' (by lia) fun X ys s2 hys S2 nX bX => ?_
    clear S1
    repeat walk1
    rename AH.set H' X _ _ = none => nT
    rename St _ _ _ _ _ _ _ _ => S3
    refine r_asgTup S3 hA'.1 set_self (fun s4 S4 => ?_) rfl rfl
    show wpAny _ _ (assignInOrder [assign (.Name _ _) _, assign (.Name _ _) _] [_, _]) _ _ _
    refine assignInOrder_cons (wpAny_assign_Name (r_storeC S4 rfl (set_new (set_new d1 nX) nT) d2 (fun s5 S5 => ?_)))
    refine assignInOrder_cons (wpAny_assign_Name (r_storeC S5 rfl (set_ne (set_new (set_new e1 nX) nT) (Ne.symm n23)) e2 (fun s6 S6 => ?_)))
    clear S3 S4 S5
    refine assignInOrder_nil ?_
    repeat walk1
    rename St _ _ _ _ _ _ _ _ => S7
    rw [hvl] at S7
    refine mk_AEEAAEEAAAAAAE rfl _ _ S7 g2 X ys hys (set_ne (set_ne (set_new set_self nT) (ne_of_none_some nX d1)) (ne_of_none_some nX e1)) bX nX (fun a o ha e => ?_) set_self _ (set_ne set_self n23)
    simp only [List.mem_cons, List.not_mem_nil, or_false, not_or] at ha
    exact set_ne (set_ne (set_new (set_new e nX) nT) ha.1) ha.2
  intro H1 m1 s1 S1 hp4
  refine op_AEEAAAAAAE hp4 fun g3 X ys x1 x2 x3 x4 x5 x6 t7 x7 => ?_
  try clear hp4
  clear S0
  have hX4 := ne_of_none_some x4 f1
  have hX5 := ne_of_none_some x4 r1
  have f1 := x5 _ _ (nm2 (Ne.symm n24) (Ne.symm n34)) f1
  have r1 := x5 _ _ (nm2 (Ne.symm n25) (Ne.symm n35)) r1
  have c1 := x5 _ _ (nm2 n12 n13) c1
  have hl2 : l ≠ L' + 1 + 1 := Ne.symm (ne_of_none_some d3 h1)
  have hl3 : l ≠ L' + 1 + 1 + 1 := Ne.symm (ne_of_none_some e3 h1)
  have hl4 : l ≠ L' + 1 + 1 + 1 + 1 := Ne.symm (ne_of_none_some f3 h1)
  have hl5 : l ≠ L' + 1 + 1 + 1 + 1 + 1 := Ne.symm (ne_of_none_some r3 h1)
  have hl1 := x5 _ _ (nm2 hl2 hl3) h1'
  have leH : Le H H1 := fun a o e => x5 a o (nm2 (Ne.symm (ne_of_none_some d3 e)) (Ne.symm (ne_of_none_some e3 e))) (hle _ _ e)
  refine r_stmt S1 (fun H2 m2 => LeX [L' + 1 + 1 + 1 + 1] H1 H2 ∧ ∃ t, H2 (L' + 1 + 1 + 1 + 1) = some (.cel (some (.int (needOf lot whole) t)))) ?_ ?_
  · repeat walk1
    rename St _ _ _ _ _ _ _ _ => S3
    refine r_sum S3 hA'.1 x2 x1 fun t4 s4 S4 => ?_
    clear S3
    repeat walk1
    rename St _ _ _ _ _ _ _ _ => S5
    exact mk_AEEAAE rfl _ _ S5 (LeX.set (.head _)) _ set_self
  intro H2 m2 s2 S2 hp4
  refine op_AE hp4 fun lx tn y1 => ?_
  try clear hp4
  clear S1
  have F : FitF H2 L' l X vs ys lot.length (needOf lot whole) := ⟨lx _ _ (nm1 n14) c1, ⟨_, lx _ _ (nm1 n24) x7⟩, lx _ _ (nm1 n34) x6, ⟨_, y1⟩, lx _ _ (nm1 hl4) hl1, lx _ _ (nm1 hX4) x2⟩
  have leF : Le H H2 := fun a o e => lx a o (nm1 (Ne.symm (ne_of_none_some f3 e))) (leH _ _ e)
  have r1 := lx _ _ (nm1 (Ne.symm n45)) r1
  have hF2 := h2.mono leF.t
  have hneed : -needOf lot whole ≤ 5000 := by
    unfold needOf
    split <;> lia
  by_cases hn : needOf lot whole ≥ 0
  · exact fit_case1 S2 G hA' F hF2 x1 h1l hz hn fun D H3 m3 s3 k3 hD S3 => ⟨_, _, S3, fun S => q D H3 _ _ (fun lot'' hf => fit_up hf h1l hp hn) (leF.trans k3) hD S⟩
  · refine fit_case2 S2 G hA' F hF2 x1 h1l hz (by lia) hneed hp r1 r2 fun R H3 m3 s3 tR p1 p2 p3 p4 lx3 hrR _ S3 => ?_
    have F3 : FitF H3 L' l X vs ys lot.length (needOf lot whole) := ⟨lx3 _ _ (nm1 n15) F.lot, ⟨_, lx3 _ _ (nm1 n25) F.many.choose_spec⟩, lx3 _ _ (nm1 n35) F.sides, ⟨_, lx3 _ _ (nm1 n45) F.need.choose_spec⟩, lx3 _ _ (nm1 hl5) F.l, lx3 _ _ (nm1 hX5) F.x⟩
    have leF3 : Le H H3 := fun a o e => lx3 a o (nm1 (Ne.symm (ne_of_none_some r3 e))) (leF _ _ e)
    exact fit_tail S3 G hA' F3 (h2.mono leF3.t) x1 hz hrR fun D H4 m4 s4 k4 hD S4 => ⟨_, _, S4, fun S => q D H4 _ _ (fun lot'' hf => fit_down hf h1l hp (by lia) p1 p2 p3 p4) (leF3.trans k4) hD S⟩
end

/-! layout_shares -/
noncomputable def wholeOf (side : Int) (many : Nat) : Int := (if (many : Int) * (1 + 1) - 1 > side then (many : Int) * (1 + 1) - 1 else side) - ((many : Int) - 1)
noncomputable def sharesOf (side : Int) (many : Nat) : List Int := (List.range many).map fun i => (wholeOf side many).fdiv many + (if ((i : Nat) : Int) < (wholeOf side many).fmod many then 1 else 0)
section
variable {prog : Program} {w : World} {A : Around} {E : Value → Shared → Prop} {z s : Shared} {B : Heap} {H : AH} {L : Addr} {O : List Addr} {m : Str → Option Value} {env : Env} {Q : Value → Shared → Prop}
theorem d_shares (S : St w z B H L O m s) (G : Gd w z) (hA : Rm 6 A) {side : Int} {many : Nat} {ts tm : Tok} (h1 : 1 ≤ many) (h2 : many < 900)
    (q : ∀ D vs s', IntsAre vs (sharesOf side many) → St w z B (H.set D (.lst vs)) L O m s' → H D = none → B.get? D = none → Q (.ref D) s') : wpAny (model prog w) A (call (.ref 188) [.int side ts, .int many tm]) Q E s := by
  refine enterC' S G hA fd188 (binds := [("side", .int side ts), ("many", .int many tm)]) [] ?_ noMs cd188 rfl (BindsTo.of_eq rfl) rfl rfl rfl rfl rfl
  intro A' B' H' L' s' E' hA' _ hB hle hc S'
  refine op_AA (hc "many" _ rfl) fun c1 c2 c3 => ?_
  refine op_AA (hc "whole" _ rfl) fun d1 d2 d3 => ?_
  change H' _ = some (.cel (some (.int many tm))) at c1
  clear S
  have hne1 : L' + 1 ≠ L' + 1 + 1 := Nat.ne_of_lt (Nat.lt_succ_self _)
  repeat walk1
  rename_i R s2 S2 nR bR
  refine op_EEAA (⟨_, _, rfl, S2, nR⟩ : ∃ tw HC, HC = H'.set (L' + 1 + 1) (.cel (some (.int (wholeOf side many) tw))) ∧ St w z B' (HC.set R (rng 0 many 1)) L' (L :: O) _ s2 ∧ HC R = none) fun tw HC hHC S2 nR => ?_
  have kC : Le H HC := fun a o e => by rw [hHC]; exact set_ne (hle a o e) (Ne.symm (ne_of_none_some d3 e))
  have g1 : HC (L' + 1) = some (.cel (some (.int many tm))) := by rw [hHC]; exact set_ne c1 hne1
  have g2 : HC (L' + 1 + 1) = some (.cel (some (.int (wholeOf side many) tw))) := by rw [hHC]; exact set_self
  clear c1 d1 hc hHC
  refine r_compR hA'.1 (n := many) (fun i ys H1 => IntsAre ys ((sharesOf side many).take i) ∧ Le HC H1) S2 set_self (rsmall (by lia) (by lia) (by lia) (by lia)) (rsize (by lia)) (by lia) ⟨.nil, Le.set nR⟩ (by decide) rfl ?_ (fun y p e => by cases e) ?_
  · intro C D I B'' i t ys H1 m1 s1 E'' hBB hi hp13 hI hD hne hBI hBD S3
    obtain ⟨f1, f2⟩ := hp13
    refine r_asgName S3 (fun s3 S4 => ?_)
    refine wpAny_tests_nil ?_
    rw [if_pos rfl]
    clear S2 S3
    obtain ⟨K, hK⟩ : ∃ K, K = ((H1.set I (rit (0 + ((i + 1 : Nat) : Int) * 1) ((many : Int) - ((i + 1 : Nat) : Int)) 1)).set D (.lst ys)) := ⟨_, rfl⟩
    have kk : Le HC K := fun a o e => by rw [hK]; exact set_new (set_new (f2 a o e) hI) (set_ne hD hne)
    have kI : K I = some (rit (0 + ((i + 1 : Nat) : Int) * 1) ((many : Int) - ((i + 1 : Nat) : Int)) 1) := by rw [hK]; exact set_ne set_self (Ne.symm hne)
    have kD : K D = some (.lst ys) := by rw [hK]; exact set_self
    have kd : Le H1 ((K.del I).del D) := by rw [hK]; exact le_turn hI hD Le.rfl hne
    rw [← hK] at S4
    clear hK
    have g1 := kk _ _ g1
    have g2 := kk _ _ g2
    repeat walk1
    refine mk_EEAAAA _ _ (by assumption) kI kD ?_ (f2.trans kd)
    have hx : (sharesOf side many)[i]? = some ((wholeOf side many).fdiv many + (if ((i : Nat) : Int) < (wholeOf side many).fmod many then 1 else 0)) := by
      simp [sharesOf, hi]
    rw [List.take_add_one, hx]
    refine f1.append ?_
    simp only [Int.zero_add, Int.mul_one, decide_eq_true_eq]
    exact .cons _ _ .nil
  · intro D ys H1 s1 hp4 hD hDB S3
    obtain ⟨f1, f2⟩ := hp4
    rw [List.take_of_length_le (by simp [sharesOf])] at f1
    dsimp only at S3 ⊢
    exact mk_EEA _ _ S3 (fun S => q D ys _ f1 (S.weaken ((kC.trans f2).set2)) ((kC.trans f2).none hD) (hB _ hDB))
end

/-! layout_of_parts -/
section
variable {prog : Program} {w : World} {A : Around} {E : Value → Shared → Prop} {z s : Shared} {B : Heap} {H : AH} {L : Addr} {O : List Addr} {m : Str → Option Value} {env : Env} {Q : Value → Shared → Prop}
theorem d_ofParts (S : St w z B H L O m s) (G : Gd w z) (hA : Rm 8 A) {p : Addr} {ls : List Lf} {r : Bool} {ac : Int} {tk : Tok} (hp : H p = some (.lst (ls.map fun l => .ref l.a))) (hls : Leaves H ls) (hz : ls.length ≤ 1000) (hn : 1 ≤ ls.length) (hac : ∀ l ∈ ls, l.side (!r) = ac) (hb : ∀ l ∈ ls, B.get? l.dx = none) (hbp : B.get? p = none)
    (q : ∀ t' H' s', Le H H' → TrAt H' t' → Shape r t' (lotOf r ls) ac → (∀ d ∈ t'.dxs, B.get? d = none ∧ (d ∈ ls.map (·.dx) ∨ H d = none)) → St w z B H' L O m s' → Q (.ref t'.a) s') :
    wpAny (model prog w) A (call (.ref 193) [.str (kindS r) tk, .ref p]) Q E s := by
  refine enterC' S G hA fd193 (binds := [("kind", .str (kindS r) tk), ("parts", .ref p)]) [] ?_ noMs cd193 rfl (BindsTo.of_eq rfl) rfl rfl rfl rfl rfl
  intro A' B' H' L' s' E' hA' _ hB hle hc S'
  refine op_AA (hc "is_row" _ rfl) fun c1 c2 c3 => ?_
  have hp' := hle _ _ hp
  clear S hc
  refine hq fun Q11 k11 => ?_
  by_cases h1 : ls.length = 1
  · obtain ⟨l, rfl⟩ := List.length_eq_one_iff.mp h1
    simp only [List.map_cons, List.map_nil] at hp'
    repeat walk1
    refine k11 _ _ ?_
    exact mk_EEA _ _ (by assumption) (fun S => q (.leaf l) _ _ hle ((hls.1 l (.head _)).mono hle) ⟨rfl, hac l (.head _)⟩ (fun d hd => by rw [List.mem_singleton.mp hd]; exact ⟨hb l (.head _), .inl (by simp)⟩) S)
  · have hlen : ¬ ((ls.map fun l => Value.ref l.a).length : Int) = 1 := by simp; lia
    repeat walk1
    rename St _ _ _ _ _ _ _ _ => S1
    rw [kindS_row] at S1
    refine op_EA (⟨_, rfl, S1⟩ : ∃ HC, HC = H'.set (L' + 1) (.cel (some (.bool r))) ∧ St w z B' HC L' (L :: O) _ _) fun HC hHC S1 => ?_
    have kC : Le H HC := fun a o e => by rw [hHC]; exact set_ne (hle a o e) (Ne.symm (ne_of_none_some c3 e))
    have gc : HC (L' + 1) = some (.cel (some (.bool r))) := by rw [hHC]; exact set_self
    have hp1 := kC _ _ hp
    clear hHC hp' c1
    refine r_compL hA'.1 (fun i ys H2 => IntsAre ys ((ls.take i).map fun l => l.side r) ∧ Le HC H2) S1 hp1 (by simp; (refine Nat.le_trans (by with_reducible assumption) ?_; exact Nat.le_of_ble_eq_true rfl)) ⟨.nil, Le.rfl⟩ (by decide) rfl (fun i ys H2 h => h.2 _ _ hp1) ?_ (fun y p e => by cases e) ?_
    · intro C D I B'' i v ys H2 m2 s6 E'' hBB hv hp13 hI hD hne hBI hBD S6
      obtain ⟨f1, f2⟩ := hp13
      refine map_op hv fun l hl => ?_
      try clear hv
      have hlm := List.mem_of_getElem? hl
      refine r_asgName S6 (fun s7 S7 => ?_)
      refine wpAny_tests_nil ?_
      rw [if_pos rfl]
      clear S1 S6
      have kk : Le HC ((H2.set I (lit p (i + 1))).set D (.lst ys)) := fun a o e => set_new (set_new (f2 a o e) hI) (set_ne hD hne)
      have gc := kk _ _ gc
      have hla := (hls.1 l hlm).mono (kC.trans kk)
      refine hq fun Q40 k40 => ?_
      repeat walk1
      refine k40 _ _ ?_
      refine mk_EEAAAA _ _ (by assumption) (set_ne set_self (Ne.symm hne)) set_self ?_ (le_turn hI hD Le.rfl hne |> f2.trans)
      rw [List.take_add_one, hl, List.map_append]
      exact f1.append (.cons _ _ .nil)
    · intro D ys H2 s6 hp4 hD hDB S6
      obtain ⟨f1, f2⟩ := hp4
      rw [List.take_of_length_le (by simp)] at f1
      dsimp only at S6 ⊢
      clear S1
      repeat walk1
      rename St _ _ _ _ _ _ _ _ => S6
      refine r_sum S6 hA'.1 set_self f1 fun t7 s7 S7 => ?_
      clear S6
      obtain ⟨K, hK⟩ : ∃ K, K = H2.set D (.lst ys) := ⟨_, rfl⟩
      have kk : Le HC K := by rw [hK]; exact f2.trans (Le.set hD)
      rw [← hK] at S7
      have gc := kk _ _ gc
      have hp2 := kk _ _ hp1
      clear hK f1 f2 hD
      try dsimp only
      repeat walk1
      rename St _ _ _ _ _ _ _ _ => S8
      refine r_compL hA'.1 (fun i ys H3 => IntsAre ys ((ls.take i).map fun l => l.side (!r)) ∧ Le K H3) S8 hp2 (by simp; (refine Nat.le_trans (by with_reducible assumption) ?_; exact Nat.le_of_ble_eq_true rfl)) ⟨.nil, Le.rfl⟩ (by decide) rfl (fun i ys H2 h => h.2 _ _ hp2) ?_ (fun y p e => by cases e) ?_
      · intro C D I B'' i v ys H2 m2 s6 E'' hBB hv hp13 hI hD hne hBI hBD S6
        obtain ⟨f1, f2⟩ := hp13
        refine map_op hv fun l hl => ?_
        try clear hv
        have hlm := List.mem_of_getElem? hl
        refine r_asgName S6 (fun s7 S7 => ?_)
        refine wpAny_tests_nil ?_
        rw [if_pos rfl]
        clear S8 S6
        have k2 : Le K ((H2.set I (lit p (i + 1))).set D (.lst ys)) := fun a o e => set_new (set_new (f2 a o e) hI) (set_ne hD hne)
        have gc := k2 _ _ gc
        have hla := (hls.1 l hlm).mono ((kC.trans kk).trans k2)
        refine hq fun Q77 k77 => ?_
        repeat walk1
        refine k77 _ _ ?_
        refine mk_EEAAAA _ _ (by assumption) (set_ne set_self (Ne.symm hne)) set_self ?_ (le_turn hI hD Le.rfl hne |> f2.trans)
        rw [List.take_add_one, hl, List.map_append]
        exact f1.append (.cons _ _ .nil)
      · intro D2 ys2 H3 s9 hp4 hD hDB S9
        obtain ⟨f1, f2⟩ := hp4
        rw [List.take_of_length_le (by simp)] at f1
        dsimp only at S9 ⊢
        clear S8
        repeat walk1
        rename St _ _ _ _ _ _ _ _ => S9
        refine r_maxL S9 hA'.1 set_self f1 (by simp; lia) fun M tM s10 p1 p2 S10 => ?_
        clear S9
        have hM : M = ac := by obtain ⟨l, hl, e⟩ := List.mem_map.mp p1; rw [← e, hac l hl]
        subst hM
        obtain ⟨K2, hK⟩ : ∃ K, K = H3.set D2 (.lst ys2) := ⟨_, rfl⟩
        have k3 : Le K K2 := by rw [hK]; exact f2.trans (Le.set hD)
        rw [← hK] at S10
        have gc := k3 _ _ gc
        have hp3 := k3 _ _ hp2
        have kH : Le H K2 := (kC.trans kk).trans k3
        clear hK f1 f2 hD
        have hlm : ((ls.map fun l => Value.ref l.a).length : Int) = ls.length := by simp
        have hac' : ∀ l ∈ ls, l.side (!r) = M := hac
        have htot : (ls.map fun l => l.side r).sum + ((ls.map fun l => Value.ref l.a).length : Int) - 1 = total (lotOf r ls) := by simp [total, lotOf, Function.comp_def]
        cases r
        all_goals
          repeat walk1
          rename_i T s11 S11 nT bT
          refine r_asgTup2 S11 hA'.1 set_self (fun s12 S12 => ?_)
          clear S11
          rw [htot] at S12
          repeat walk1
          rename St _ _ _ _ _ _ _ _ => S13
          refine c_Cell' (nn := 3) S13 G hA' fun c dx oc s14 hoc S14 n1 n2 b1 b2 hne => ?_
          refine k11 _ _ ?_
          have kc := (Le.set nT).trans (le_cell (o := oc) (o' := .inst dx) n1 n2)
          have b2' := hB _ b2
          first
          | refine ⟨_, _, S14, fun S => q (.node ⟨c, dx, p, false, M, total (lotOf false ls), 0, 0, ls⟩) _ _ (kH.trans kc) ⟨⟨set_self, ⟨_, _, _, _, _, (set_ne set_self (Ne.symm hne)).trans (by rw [hoc])⟩, kc _ _ hp3, fun l hl => (hls.1 l hl).mono (kH.trans kc), hls.2⟩, hz⟩ ⟨rfl, (by show 2 ≤ ls.length; lia), rfl, hac', rfl, rfl⟩ (fun d hd => ?_) S⟩
          | refine ⟨_, _, S14, fun S => q (.node ⟨c, dx, p, true, total (lotOf true ls), M, 0, 0, ls⟩) _ _ (kH.trans kc) ⟨⟨set_self, ⟨_, _, _, _, _, (set_ne set_self (Ne.symm hne)).trans (by rw [hoc])⟩, kc _ _ hp3, fun l hl => (hls.1 l hl).mono (kH.trans kc), hls.2⟩, hz⟩ ⟨rfl, (by show 2 ≤ ls.length; lia), rfl, hac', rfl, rfl⟩ (fun d hd => ?_) S⟩
          refine mem_cons_op hd ?_ fun d hd => ?_
          · exact ⟨b2', .inr (kH.none ((Le.set nT).none n2))⟩
          · refine mem_op hd fun y hy => ?_
            exact ⟨hb y hy, .inl (List.mem_map_of_mem hy)⟩
end

/-! layout_even -/
theorem leaf_minus {H Z : AH} {l : Lf} (h : LeafAt H l) (h1 : Z l.a = none) (h2 : Z l.dx = none) (h3 : Z l.pl = none) : LeafAt (H.minus Z) l :=
  let ⟨a, ⟨t0, t1, t2, t3, t4, t5, b⟩, c⟩ := h; ⟨minus_get a h1, ⟨t0, t1, t2, t3, t4, t5, minus_get b h2⟩, minus_get c h3⟩
theorem shares_len {side : Int} {many : Nat} : (sharesOf side many).length = many := by simp [sharesOf]
structure EvenJ (B : Heap) (H0 H1 : AH) (D : Addr) (r : Bool) (ac : Int) (lot : List (Int × Int)) (ls : List Lf) : Prop where
  le : Le H0 H1
  d : H1 D = some (.lst (ls.map fun l => .ref l.a))
  at' : ∀ l ∈ ls, LeafAt H1 l ∧ B.get? l.dx = none ∧ l.side (!r) = ac ∧ l.pl ≠ D ∧ H0 l.dx = none
  nd : (ls.map (·.dx)).Nodup
  lot : lotOf r ls = lot
section
variable {prog : Program} {w : World} {A : Around} {E : Value → Shared → Prop} {z s : Shared} {B : Heap} {H : AH} {L : Addr} {O : List Addr} {m : Str → Option Value} {env : Env} {Q : Value → Shared → Prop}
theorem d_even (S : St w z B H L O m s) (G : Gd w z) (hA : Rm 12 A) {P : Addr} {vs : List Value} {ns : List Int} {width height : Int} {tw th : Tok} {r : Bool} (hP : H P = some (.lst vs)) (hv : IntsAre vs ns) (hn : 1 ≤ ns.length) (h9 : ns.length < 900)
    (q : ∀ t' H' s', Le H H' → TrAt H' t' → Shape r t' (ns.zip (sharesOf (if r then width else height) ns.length)) (if r then height else width) → (∀ d ∈ t'.dxs, B.get? d = none ∧ H d = none) → St w z B H' L O m s' → Q (.ref t'.a) s') :
    wpAny (model prog w) A (call (.ref 200) [.ref P, .int width tw, .int height th, .bool r]) Q E s := by
  have hvl := ints_len hv
  refine enter' S G hA fd200 (binds := [("panes", .ref P), ("width", .int width tw), ("height", .int height th), ("is_row", .bool r)]) [] ?_ noMs cd200 rfl (BindsTo.of_eq rfl) rfl rfl rfl rfl rfl
  intro A' B' L' s' E' hA' hM hB S'
  clear S
  refine op_EAAAA (⟨_, rfl, rfl, rfl, rfl, S'⟩ : ∃ m0, m0 "panes" = some (.ref P) ∧ m0 "width" = some (.int width tw) ∧ m0 "height" = some (.int height th) ∧ m0 "is_row" = some (.bool r) ∧ St w z B' H L' (L :: O) m0 s') fun m0 g0 g1 g2 g3 S0' => ?_
  clear S'
  show wpAny _ _ (execs [_, _, _] _) _ _ _
  refine hq fun Q22 k22 => ?_
  refine r_stmt S0' (fun H' m' => ∃ D, H D = none ∧ B'.get? D = none ∧ H' = H.set D (.lst []) ∧ m' = upd m0 "parts" (.ref D)) ?_ ?_
  · refine hq fun Q23 k23 => ?_
    repeat walk1
    refine k23 _ _ ?_
    exact mk_AEEAEAAA rfl _ _ (by assumption) _ (by assumption) (by assumption) rfl rfl
  intro _ _ s1 S1 hp4
  refine ce fun gl => ?_
  refine op_EAAA hp4 fun D nD bD ek1 ek2 => ?_
  try clear hp4
  subst ek1
  subst ek2
  refine gl ?_; clear gl
  clear S0'
  have hP' := set_new (o := .lst []) hP nD
  refine r_stmt S1 (fun H' m' => ∃ ls, EvenJ B' H H' D r (if r then height else width) (ns.zip (sharesOf (if r then width else height) ns.length)) ls ∧ m' "parts" = some (.ref D) ∧ m' "is_row" = some (.bool r)) ?_ ?_
  · refine ce fun gl => ?_
    obtain ⟨rr, hr⟩ : ∃ rr, rr = r := ⟨_, rfl⟩
    obtain ⟨ac, hac⟩ : ∃ ac, ac = if r then height else width := ⟨_, rfl⟩
    obtain ⟨sd, hsd⟩ : ∃ sd, sd = if r then width else height := ⟨_, rfl⟩
    refine gl ?_; clear gl
    have hwh : ∀ l : Lf, l.w = width → l.h = height → l.side (!rr) = ac := fun l h1 h2 => by rw [hac, hr]; cases r <;> simp [Lf.side, h1, h2]
    rw [← hac, ← hsd, ← hr]
    cases r
    all_goals
      simp only [Bool.false_eq_true, if_false, if_true] at hsd
      refine hq fun Q41 k41 => ?_
      repeat walk1
      rename St _ _ _ _ _ _ _ _ => S2
      refine d_shares S2 G (hA'.lo rfl) (many := vs.length) (by lia) (by lia) fun W ws s3 hw S3 nW bW => ?_
      clear S2
      have hwl := ints_len hw
      rw [shares_len] at hwl
      rw [← hsd, hvl] at hw
      repeat walk1
      rename St _ _ _ _ _ _ _ _ => S4
      refine r_zip S4 (set_new hP' nW) set_self fun x s5 e1 e2 D1 hz S5 => ?_
      clear S4
      repeat walk1
      rename St _ _ _ _ _ _ _ _ => S6
      have hP2 := set_new (o := .lst ws) hP' nW
      rw [← e1] at hP2
      refine r_forZ (vs := vs) (ws := ws) hA'.1 hwl.symm D1 (fun i H1 m1 => (∃ ls, EvenJ B' H H1 D rr ac ((ns.zip (sharesOf sd ns.length)).take i) ls) ∧ m1 "parts" = some (.ref D) ∧ m1 "is_row" = some (.bool rr) ∧ m1 "width" = some (.int width tw) ∧ m1 "height" = some (.int height th) ∧ H1 x.l1 = some (.lst vs) ∧ H1 x.l2 = some (.lst ws)) S6 hz
        ⟨⟨[], (Le.set nD).trans (Le.set nW), set_new set_self nW, (fun _ h => nomatch h), List.nodup_nil, rfl⟩, by walk_at "hname", by rw [hr]; walk_at "hname", by walk_at "hname", by walk_at "hname", hP2, by rw [e2]; exact set_self⟩ (fun i H1 m1 h => h.2.2.2.2.2) ?_ ?_
      · intro Z i v u m1 H1 s7 E2 hv1 hu hp10 hZ S7
        refine ce fun gl => ?_
        obtain ⟨⟨ls, j1, j2, j3, j4, j5⟩, k1, k2, k3, k4, k5, k6⟩ := hp10
        clear S6
        refine op_EEA (ints_get hv hv1) fun pn tp ek3 hp1 => ?_
        subst ek3
        refine op_EEA (ints_get hw hu) fun sv tsv ek4 hs1 => ?_
        subst ek4
        refine gl ?_; clear gl
        have kZ : Le H1 (H1.over Z) := over_le hZ
        refine hq fun Q66 k66 => ?_
        repeat walk1
        rename St _ _ _ _ _ _ _ _ => S8
        refine d_leaf S8 G (hA'.lo rfl) fun l s9 H2 le2 la2 ld2 fr2 S9 => ?_
        clear S8
        simp only [Lf.dat, Prod.mk.injEq] at ld2
        refine op_AAAA ld2 fun l1 l2 _ _ l5 => ?_
        try clear ld2
        repeat walk1
        rename St _ _ _ _ _ _ _ _ => S8
        refine d_setL S8 G (hA'.lo rfl) la2 fr2.1 fun o s10 la3 S10 => ?_
        clear S8
        have hDK : (H1.over Z) D = some (.lst (ls.map fun l => .ref l.a)) := kZ _ _ j2
        have hD2 := le2 _ _ hDK
        have nd1 : l.dx ≠ D := ne_of_none_some fr2.2.1 hDK
        have nd2 : l.a ≠ D := ne_of_none_some fr2.2.2.1 hDK
        have nd3 : l.pl ≠ D := ne_of_none_some fr2.2.2.2 hDK
        have hD3 : (H2.set l.dx o) D = some (.lst (ls.map fun l => .ref l.a)) := set_ne hD2 (Ne.symm nd1)
        have hll : ls.length = i := by have h1 := congrArg List.length j5; simp [lotOf, shares_len] at h1; have := (List.getElem?_eq_some_iff.mp hv1).1; lia
        have hiv := (List.getElem?_eq_some_iff.mp hv1).1
        repeat walk1
        refine k66 _ _ ?_
        have hZn : ∀ a o', H1 a = some o' → Z a = none := fun a o' e => by
          cases q : Z a with
          | none => rfl
          | some o2 => rw [hZ a (by rw [q]; simp)] at e; cases e
        have lx : LeX [D] H1 (((H2.set l.dx o).set D (.lst (ls.map (fun l => .ref l.a) ++ [.ref l.a]))).minus Z) := fun a x' ha e =>
          minus_get (set_ne (set_ne (le2 _ _ (kZ _ _ e)) (Ne.symm (ne_of_none_some fr2.2.1 (kZ _ _ e)))) (fun q => ha (List.mem_singleton.mpr q))) (hZn _ _ e)
        refine mk_EEAAAAAAAA _ _ (by assumption) (fun b o' e => ?_) ⟨ls ++ [l.put rr sv], fun a o' e => lx a o' (fun q => ?_) (j1 a o' e), ?_, fun l0 hl0 => ?_, ?_, ?_⟩ (by walk_at "hname") (by walk_at "hname") (by walk_at "hname") (by walk_at "hname") (lx _ _ (fun q => ?_) k5) (lx _ _ (fun q => ?_) k6)
        · have hb := over_in (H := H1) e
          exact set_ne (set_ne (le2 _ _ hb) (Ne.symm (ne_of_none_some fr2.2.1 hb))) (by first | exact ne_sn e (hZn _ _ j2) | exact ne_ns e (hZn _ _ j2) | exact ne_sn (hZn _ _ j2) e | exact ne_ns (hZn _ _ j2) e)
        · rw [List.mem_singleton.mp q, nD] at e; cases e
        · refine (minus_get set_self (hZn _ _ j2)).trans ?_
          simp [put_a]
        · rcases List.mem_append.mp hl0 with h | h
          · refine op_AAAA (j3 l0 h) fun q1 q2 q3 q4 q5 => ?_
            exact ⟨leaf_monoX q1 j2 lx q4, q2, q3, q4, q5⟩
          · rw [List.mem_singleton.mp h]
            refine ⟨leaf_minus (leaf_monoX la3 hD3 (LeX.set (.head _)) (by rw [put_pl]; exact nd3)) (by rw [put_a]; exact (over_none fr2.2.2.1).1) (by rw [put_dx]; exact (over_none fr2.2.1).1) (by rw [put_pl]; exact (over_none fr2.2.2.2).1), by rw [put_dx]; exact fr2.1, by rw [put_sideN]; exact hwh l l1 l2, by rw [put_pl]; exact nd3, by rw [put_dx]; exact j1.none (kZ.none fr2.2.1)⟩
        · rw [List.map_append, List.nodup_append]
          refine ⟨j4, by simp, ?_⟩
          intro a ha b hb
          refine mem_op ha fun l0 h0 => ?_
          simp [put_dx] at hb
          refine ce fun gl => ?_
          subst hb
          refine LeafAt.op ((j3 l0 h0).1) fun _ _ _ _ _ _ _ g _ => ?_
          refine gl ?_; clear gl
          exact Ne.symm (ne_of_none_some fr2.2.1 (kZ _ _ g))
        · rw [lotOf_append, j5, List.take_add_one, (List.getElem?_zip_eq_some (z := (pn, sv))).mpr ⟨hp1, hs1⟩]
          simp [lotOf, put_p, put_side, l5]
        · have := List.mem_singleton.mp q
          rw [e1] at this
          subst this
          rw [nD] at hP; cases hP
        · have := List.mem_singleton.mp q
          rw [e2] at this
          subst this
          rw [set_self] at nW; cases nW
      · intro H1 m1 s7 hp3 S7
        refine op_AAA hp3 fun hq6 f2 f3 _ => ?_
        refine k41 _ _ ?_
        try clear hp3
        refine op_E hq6 fun ls f1 => ?_
        try clear hq6
        rw [List.take_of_length_le (by simp [shares_len]; lia)] at f1
        exact mk_AEEAEAA rfl _ _ S7 ls f1 f2 f3
  intro K m2 s2 S2 hp4
  refine ce fun gl => ?_
  refine op_EAA hp4 fun ls f1 f2 f3 => ?_
  try clear hp4
  clear S1
  obtain ⟨j1, j2, j3, j4, j5⟩ := f1
  refine gl ?_; clear gl
  have hll : ls.length = ns.length := by have h1 := congrArg List.length j5; simp [lotOf, shares_len] at h1; exact h1
  repeat walk1
  rename St _ _ _ _ _ _ _ _ => S3
  refine d_ofParts S3 G (hA'.lo rfl) j2 ⟨fun l hl => (j3 l hl).1, j4⟩ (by lia) (by lia) (fun l hl => (j3 l hl).2.2.1) (fun l hl => (j3 l hl).2.1) bD fun t' H' s4 le4 ht4 sh4 hd4 S4 => ?_
  refine k22 _ _ ?_
  refine mk_EEA _ _ S4 (fun S => q t' H' _ (j1.trans le4) ht4 (by rw [← j5]; exact sh4) (fun d hd => ⟨hB _ (hd4 d hd).1, (hd4 d hd).2.elim (fun h => ?_) fun h => j1.none h⟩) S)
  refine mem_op h fun l hl => ?_
  exact (j3 l hl).2.2.2.2
end

/-! named_layout, the even words -/
section
variable {prog : Program} {w : World} {A : Around} {E : Value → Shared → Prop} {z s : Shared} {B : Heap} {H : AH} {L : Addr} {O : List Addr} {m : Str → Option Value} {env : Env} {Q : Value → Shared → Prop}
theorem k_words {P : Params} : ∃ t0 t1 t2 t3 t4, ∃ n, (hd.heap_39 P).lookup 15 = some { cls := .type "tuple", data := .seq #[.str "even-horizontal" t0, .str "even-vertical" t1, .str "main-horizontal" t2, .str "main-vertical" t3, .str "tiled" t4] n } := ⟨_, _, _, _, _, _, rfl⟩
theorem r_notin (S : St w z B H L O m s) (G : Gd w z) {n : Nat} (hA : Rm n A) {r : Bool} {tk : Tok} (q : Q (.bool false) s) : wpAny (model prog w) A (compareOp .NotIn (.str (if r then "even-horizontal" else "even-vertical") tk) (.ref 15)) Q E s := by
  refine op_EEEEEE (k_words (P := w.params)) fun t0 t1 t2 t3 t4 n h => ?_
  have g := S.K G _ _ h
  have rc : Reads s.heap (.ref 15) (.tuple [.str "even-horizontal", .str "even-vertical", .str "main-horizontal", .str "main-vertical", .str "tiled"]) [] :=
    reads_tuple_at g rfl rfl (.cons (.str _ _) (.cons (.str _ _) (.cons (.str _ _) (.cons (.str _ _) (.cons (.str _ _) .nil)))))
  cases r
  · exact SeqAt.notIn_tuple_reads rc (.str _ _) (by decide +kernel) (by decide +kernel) (by have := hA.2.2; simp [PyData.depth, PyData.depthAll]; show A.units + 1 < 9900; lia) q
  · exact SeqAt.notIn_tuple_reads rc (.str _ _) (by decide +kernel) (by decide +kernel) (by have := hA.2.2; simp [PyData.depth, PyData.depthAll]; show A.units + 1 < 9900; lia) q
theorem d_named (S : St w z B H L O m s) (G : Gd w z) (hA : Rm 16 A) {P : Addr} {vs : List Value} {ns : List Int} {width height : Int} {tk tw th : Tok} {r : Bool} (hP : H P = some (.lst vs)) (hv : IntsAre vs ns) (hn : 1 ≤ ns.length) (h9 : ns.length < 900)
    (q : ∀ t' H' s', Le H H' → TrAt H' t' → Row r t' (ns.zip (sharesOf (if r then width else height) ns.length)) (if r then height else width) → St w z B H' L O m s' → Q (.ref t'.a) s') :
    wpAny (model prog w) A (call (.ref 220) [.str (if r then "even-horizontal" else "even-vertical") tk, .ref P, .int width tw, .int height th]) Q E s := by
  refine enter' S G hA fd220 (binds := [("word", .str (if r then "even-horizontal" else "even-vertical") tk), ("panes", .ref P), ("width", .int width tw), ("height", .int height th), ("main", .none)]) [] ?_ noMs cd220 rfl (binds_K (S.K G) rfl rfl rfl rfl rfl) rfl rfl rfl rfl rfl
  intro A' B' L' s' E' hA' hM hB S'
  clear S
  cases r
  · simp only [Bool.false_eq_true, if_false, if_true] at S' q ⊢
    refine hq fun Q20 k20 => ?_
    repeat walk1
    rename St _ _ _ _ _ _ _ _ => S1
    refine r_notin (r := false) S1 G hA' ?_
    repeat walk1
    rename St _ _ _ _ _ _ _ _ => S2
    have e : (("even-vertical" : Str) == "even-horizontal") = false := by decide
    rw [e]
    refine d_even S2 G (hA'.lo rfl) hP hv hn h9 fun t' H1 s2 le1 ht1 sh1 hd1 S3 => ?_
    clear S2
    repeat walk1
    rename St _ _ _ _ _ _ _ _ => S4
    refine d_placed0 S4 G (hA'.lo rfl) ht1 (fun d hd => (hd1 d hd).1) sh1 fun H2 t2 s3 e2 lx ht2 hr2 S5 => ?_
    refine k20 _ _ ?_
    rw [← e2]
    exact mk_EEA _ _ S5 (fun S => q t2 H2 _ (lx.le le1 fun d hd => (hd1 d hd).2) ht2 hr2 S)
  · simp only [Bool.false_eq_true, if_false, if_true] at S' q ⊢
    refine hq fun Q35 k35 => ?_
    repeat walk1
    rename St _ _ _ _ _ _ _ _ => S1
    refine r_notin (r := true) S1 G hA' ?_
    repeat walk1
    rename St _ _ _ _ _ _ _ _ => S2
    have e : (("even-horizontal" : Str) == "even-horizontal") = true := by decide
    rw [e]
    refine d_even S2 G (hA'.lo rfl) hP hv hn h9 fun t' H1 s2 le1 ht1 sh1 hd1 S3 => ?_
    clear S2
    repeat walk1
    rename St _ _ _ _ _ _ _ _ => S4
    refine d_placed0 S4 G (hA'.lo rfl) ht1 (fun d hd => (hd1 d hd).1) sh1 fun H2 t2 s3 e2 lx ht2 hr2 S5 => ?_
    refine k35 _ _ ?_
    rw [← e2]
    exact mk_EEA _ _ S5 (fun S => q t2 H2 _ (lx.le le1 fun d hd => (hd1 d hd).2) ht2 hr2 S)
end

/-! a lot in order -/
structure LotOk (lot : List (Int × Int)) (f : Int) (n : Nat) : Prop where
  nd : (lot.map (·.1)).Nodup
  pos : ∀ x ∈ lot, 1 ≤ x.2
  lt : ∀ x ∈ lot.map (·.1), x < f
  one : 1 ≤ lot.length
  len : lot.length ≤ n
  tot : total lot ≤ 60
theorem total_sum {lot : List (Int × Int)} : total lot = sumA lot + lot.length - 1 := rfl
theorem LotOk.mono {lot : List (Int × Int)} {f f' : Int} {n n' : Nat} (h : LotOk lot f n) (hf : f ≤ f') (hn : n ≤ n') : LotOk lot f' n' :=
  ⟨h.nd, h.pos, fun x hx => by have := h.lt x hx; lia, h.one, Nat.le_trans h.len hn, h.tot⟩
theorem LotOk.sum {lot : List (Int × Int)} {f : Int} {n : Nat} (h : LotOk lot f n) : sumA lot ≤ 60 := by have := h.tot; have := h.one; rw [total_sum] at *; lia
/-- the same panes, other lengths -/
theorem LotOk.same {lot lot' : List (Int × Int)} {f : Int} {n : Nat} (h : LotOk lot f n) (hf : lot'.map (·.1) = lot.map (·.1)) (hp : ∀ x ∈ lot', 1 ≤ x.2) (ht : total lot' ≤ 60) : LotOk lot' f n :=
  have hl : lot'.length = lot.length := by simpa using congrArg List.length hf
  ⟨by rw [hf]; exact h.nd, hp, by rw [hf]; exact h.lt, by rw [hl]; exact h.one, by rw [hl]; exact h.len, ht⟩
theorem split_len {lot : List (Int × Int)} {k : Nat} {p f along many : Int} {b : Bool} (hk : k < lot.length) : (splitLot lot k p f along many b).length = lot.length + 1 := by
  have : (bothOf p f along many b).length = 2 := by cases b <;> rfl
  simp [splitLot, this]; grind
theorem manyOf_bound {along : Int} {size : Option Int} (h : 3 ≤ along) : 1 ≤ manyOf along size ∧ manyOf along size ≤ along - 2 := by
  show 1 ≤ (if (if along - 1 - 1 < wishOf along size then along - 1 - 1 else wishOf along size) > 1 then (if along - 1 - 1 < wishOf along size then along - 1 - 1 else wishOf along size) else 1) ∧ (if (if along - 1 - 1 < wishOf along size then along - 1 - 1 else wishOf along size) > 1 then (if along - 1 - 1 < wishOf along size then along - 1 - 1 else wishOf along size) else 1) ≤ along - 2
  (repeat' split) <;> lia
theorem LotOk.split {lot : List (Int × Int)} {f : Int} {n k : Nat} {p along : Int} {size : Option Int} {b : Bool} (h : LotOk lot f n) (hk : lot[k]? = some (p, along)) (h3 : 3 ≤ along) : LotOk (splitLot lot k p f along (manyOf along size) b) (f + 1) (n + 1) := by
  have hkl := (List.getElem?_eq_some_iff.mp hk).1
  obtain ⟨b1, b2⟩ := manyOf_bound (size := size) h3
  have hc := lot_cut hk
  generalize manyOf along size = many at *
  have hperm : ((splitLot lot k p f along many b).map (·.1)).Perm (f :: lot.map (·.1)) := by
    have e2 : lot.map (·.1) = (lot.take k).map (·.1) ++ p :: (lot.drop (k + 1)).map (·.1) := by
      conv => lhs; rw [hc]
      simp
    rw [e2]
    unfold splitLot bothOf
    cases b
    · simp only [Bool.false_eq_true, if_false, List.map_append, List.map_cons, List.map_nil, List.append_assoc, List.cons_append, List.nil_append]
      refine (List.Perm.append_left _ (List.Perm.swap ..)).trans ?_
      exact List.perm_middle
    · simp only [if_true, List.map_append, List.map_cons, List.map_nil, List.append_assoc, List.cons_append, List.nil_append]
      exact List.perm_middle
  refine ⟨hperm.nodup_iff.mpr (List.nodup_cons.mpr ⟨fun hm => Int.lt_irrefl _ (h.lt _ hm), h.nd⟩), fun x hx => ?_, fun x hx => ?_, by rw [split_len hkl]; exact Nat.le_of_ble_eq_true rfl, by rw [split_len hkl]; have := h.len; lia, by rw [total_split hk]; exact h.tot⟩
  · unfold splitLot at hx
    rcases List.mem_append.mp hx with hx | hx
    · rcases List.mem_append.mp hx with hx | hx
      · exact h.pos x (List.mem_of_mem_take hx)
      · unfold bothOf at hx
        cases b
        · simp at hx
          rcases hx with rfl | rfl
          · dsimp only; lia
          · dsimp only; omega
        · simp at hx
          rcases hx with rfl | rfl
          · dsimp only; omega
          · dsimp only; lia
    · exact h.pos x (List.mem_of_mem_drop hx)
  · rcases List.mem_cons.mp (hperm.mem_iff.mp hx) with rfl | hx
    · lia
    · have := h.lt x hx; lia
theorem LotOk.close {lot : List (Int × Int)} {f : Int} {n k : Nat} {p along : Int} (h : LotOk lot f n) (hk : lot[k]? = some (p, along)) (h2 : 2 ≤ lot.length) : LotOk (closeLot lot k along) f n := by
  have hkl := (List.getElem?_eq_some_iff.mp hk).1
  have hl0 : k - 1 < (lot.take k ++ lot.drop (k + 1)).length := by simp; omega
  obtain ⟨y, hy⟩ : ∃ y, (lot.take k ++ lot.drop (k + 1))[k - 1]? = some y := ⟨_, List.getElem?_eq_getElem hl0⟩
  have hal := h.pos _ (List.mem_of_getElem? hk)
  dsimp only at hal
  have ht := total_close hk h2
  have hcut := lot_cut hy
  have hsub : (lot.take k ++ lot.drop (k + 1)).Sublist lot := by
    have := (List.Sublist.refl (lot.take k)).append (List.drop_sublist_drop_left lot (Nat.le_succ k))
    rwa [List.take_append_drop] at this
  have hfst : (closeLot lot k along).map (·.1) = (lot.take k ++ lot.drop (k + 1)).map (·.1) := by
    unfold closeLot
    rw [hy]
    conv => rhs; rw [hcut]
    simp
  have hlen : (closeLot lot k along).length = (lot.take k ++ lot.drop (k + 1)).length := by simpa using congrArg List.length hfst
  have hlen2 : (lot.take k ++ lot.drop (k + 1)).length = lot.length - 1 := by simp; grind
  refine ⟨by rw [hfst]; exact (hsub.map _).nodup h.nd, fun x hx => ?_, fun x hx => h.lt x ((hsub.map _).subset (by rw [← hfst]; exact hx)), by lia, by have := h.len; lia, by rw [ht]; exact h.tot⟩
  unfold closeLot at hx
  rw [hy] at hx
  have hmem : ∀ x ∈ lot.take k ++ lot.drop (k + 1), 1 ≤ x.2 := fun x hx => h.pos x (hsub.subset hx)
  rcases List.mem_append.mp hx with hx | hx
  · rcases List.mem_append.mp hx with hx | hx
    · exact hmem x (List.mem_of_mem_take hx)
    · simp at hx
      subst hx
      have := hmem y (List.mem_of_getElem? hy)
      try dsimp only
      lia
  · exact hmem x (List.mem_of_mem_drop hx)
theorem resize_total {lot : List (Int × Int)} {k : Nat} {c : Int} (hk : k < lot.length) : total (resizeLot lot k c) = total lot := by
  unfold resizeLot
  split
  · rfl
  · exact (givesLot_total (by split <;> omega)).1
theorem LotOk.resize {lot : List (Int × Int)} {f : Int} {n k : Nat} {c : Int} (h : LotOk lot f n) (hk : k < lot.length) : LotOk (resizeLot lot k c) f n := by
  refine h.same ?_ ?_ (by rw [resize_total hk]; exact h.tot)
  · rw [resize_iter h.pos]
    split
    · rfl
    · exact iterU_fst
  · rw [resize_iter h.pos]
    split
    · exact h.pos
    · exact iterU_pos h.pos
theorem pass_fst (lot : List (Int × Int)) (c : Int) : (passLot lot c).1.map (·.1) = lot.map (·.1) := by
  induction lot generalizing c with
  | nil => rfl
  | cons x lot ih =>
    simp only [passLot, List.map_cons, ih]
    congr 1
    unfold turnLot
    split
    · rfl
    · split <;> rfl
theorem rounds_fst {lot lot' : List (Int × Int)} {c : Int} (h : RoundsLot lot c lot') : lot'.map (·.1) = lot.map (·.1) := by
  induction h with
  | done => rfl
  | step _ _ ih => exact ih.trans (pass_fst _ _)
theorem fit_fst {lot lot' : List (Int × Int)} {side : Int} (h : FitL lot side lot') (h1 : 1 ≤ lot.length) : lot'.map (·.1) = lot.map (·.1) := by
  by_cases e : lot.length = 1
  · rw [h.1 e]; simp
  · exact rounds_fst (h.2 (by lia))
theorem fit_total {lot lot' : List (Int × Int)} {side : Int} (h : FitL lot side lot') (h1 : 1 ≤ lot.length) (hp : ∀ x ∈ lot, 1 ≤ x.2) : total lot' = (if 2 * (lot.length : Int) - 1 > side then 2 * (lot.length : Int) - 1 else side) := by
  have := (fit_rounds h h1 hp).total.1
  rw [this]
  unfold needOf
  rw [total_sum]
  split <;> lia
theorem LotOk.fit {lot lot' : List (Int × Int)} {f side : Int} {n : Nat} (h : LotOk lot f n) (hn : n ≤ 30) (hs : side ≤ 60) (hf : FitL lot side lot') : LotOk lot' f n := by
  refine h.same (fit_fst hf h.one) (hf.pos h.one h.pos) ?_
  rw [fit_total hf h.one h.pos]
  have := h.len
  split <;> lia

/-! _law_deed, deed by deed -/
noncomputable def wKv (r : Bool) (ac : Int) (ta : Tok) (l : Addr) (f : Int) (tf : Tok) : List (Str × Value) := [("is_row", .bool r), ("across", .int ac ta), ("lot", .ref l), ("fresh", .int f tf)]
/-- what a deed gives back -/
structure DeedS (prog : Program) (w : World) (H H' : AH) (T d l : Addr) (r : Bool) (f : Int) (n : Nat) (t' : Tr) (l' : Addr) (lot' : List (Int × Int)) (ac' : Int) : Prop where
  le : LeX [d] H H'
  T : H' T = some (.tup [.ref t'.a, .ref l'])
  d : ∃ ta tf, H' d = some (dct prog w (wKv r ac' ta l f tf))
  tr : TrAt H' t'
  row : Row r t' lot' ac'
  lot : LotAt H' l' lot'
  ok : LotOk lot' (f + 1) (n + 1)
  ac : 1 ≤ ac'
theorem wk_row {r : Bool} {ac : Int} {ta : Tok} {l : Addr} {f : Int} {tf : Tok} : valueAt (wKv r ac ta l f tf) "is_row" = some (.bool r) := rfl
theorem wk_across {r : Bool} {ac : Int} {ta : Tok} {l : Addr} {f : Int} {tf : Tok} : valueAt (wKv r ac ta l f tf) "across" = some (.int ac ta) := rfl
theorem wk_lot {r : Bool} {ac : Int} {ta : Tok} {l : Addr} {f : Int} {tf : Tok} : valueAt (wKv r ac ta l f tf) "lot" = some (.ref l) := rfl
theorem wk_fresh {r : Bool} {ac : Int} {ta : Tok} {l : Addr} {f : Int} {tf : Tok} : valueAt (wKv r ac ta l f tf) "fresh" = some (.int f tf) := rfl
/-- what stands at a deed -/
structure DeedC (prog : Program) (w : World) (m : Str → Option Value) (H : AH) (d l : Addr) (t : Tr) (r : Bool) (ac f : Int) (lot : List (Int × Int)) (vs : List Value) (n k : Nat) (p along way more : Int) (ta tf tway tk tm tp : Tok) : Prop where
  gw : m "w" = some (.ref d)
  gr : m "root" = some (.ref t.a)
  gway : m "way" = some (.int way tway)
  gk : m "k" = some (.int (k : Int) tk)
  gm : m "more" = some (.int more tm)
  gp : m "pane" = some (.int p tp)
  gl : m "lot" = some (.ref l)
  gi : m "is_row" = some (.bool r)
  hd : H d = some (dct prog w (wKv r ac ta l f tf))
  hl : H l = some (.lst vs)
  hv : LotVs H vs lot
  ht : TrAt H t
  row : Row r t lot ac
  ok : LotOk lot f n
  hn : n ≤ 29
  hac : 1 ≤ ac
  hk : lot[k]? = some (p, along)
section
variable {prog : Program} {w : World} {A : Around} {E : Value → Shared → Prop} {z s : Shared} {B : Heap} {H : AH} {L : Addr} {O : List Addr} {m : Str → Option Value} {env : Env}
variable {d l : Addr} {t : Tr} {r : Bool} {ac f : Int} {lot : List (Int × Int)} {vs : List Value} {n k : Nat} {p along way more : Int} {ta tf tway tk tm tp : Tok}
theorem deed_close (S : St w z B H L O m s) (G : Gd w z) {Q : Flow → Shared → Prop} (hA : Rm 26 A) (C : DeedC prog w m H d l t r ac f lot vs n k p along way more ta tf tway tk tm tp) (hw : way = 2)
    (qn : ∀ T H' m' s', Le H H' → H' T = some (.tup [.none, .none]) → St w z B H' L O m' s' → Q (.ret (.ref T)) s')
    (qs : ∀ T H' m' s' t' l' lot' ac', DeedS prog w H H' T d l r f n t' l' lot' ac' → St w z B H' L O m' s' → Q (.ret (.ref T)) s') :
    wpAny (model prog w) A (execs ((bodyOf fd265.1).drop 2) (callEnv fd265.1 L 265)) Q E s := by
  obtain ⟨gw, gr, gway, gk, gm, gp, gl, gi, hd, hl, hv, ht, row, ok, hn, hac, hk⟩ := C
  have hlen := ok.len
  show wpAny _ _ (execs [_, _, _, _, _, _, _] _) _ _ _
  by_cases h2 : 2 ≤ lot.length
  · repeat walk1
    rename St _ _ _ _ _ _ _ _ => S1
    refine d_close S1 G (hA.lo rfl) ht row hk ok.nd (by lia) h2 fun t' H1 s2 le1 ht1 row1 S2 => ?_
    clear S1
    have gl' := gl
    repeat walk1
    rename St _ _ _ _ _ _ _ _ => S3
    refine d_lclosed S3 G (hA.lo rfl) (LotAt.mono ⟨vs, hl, hv⟩ le1) hk (by lia) (fun h => absurd h (by lia)) fun _ D H2 s4 le2 hD S4 => ?_
    clear S3
    repeat walk1
    rename H2 _ = none => nT
    rename St _ _ _ _ _ _ _ _ => S5
    have le := (le1.trans le2).trans (Le.set (o := .tup [.ref t'.a, .ref D]) nT)
    exact qs _ _ _ _ t' D _ ac ⟨LeX.of le, set_self, ⟨_, _, le _ _ hd⟩, (ht1.mono le2).mono (Le.set nT), row1, hD.mono (Le.set nT), (ok.close hk h2).mono (by lia) (by lia), hac⟩ S5
  · have h1 := ok.one
    have hleaf : ∃ lf, t = .leaf lf := by
      cases t with
      | leaf lf => exact ⟨lf, rfl⟩
      | node nd => have := row.2.1; have e := row_lot row; rw [← e] at h2; simp [lotOf, Tr.ls] at h2; lia
    repeat walk1
    rename St _ _ _ _ _ _ _ _ => S1
    refine d_closeNone S1 G (hA.lo rfl) ht (.inr hleaf) fun s2 S2 => ?_
    clear S1
    repeat walk1
    rename St _ _ _ _ _ _ _ _ => S3
    refine d_lclosed S3 G (hA.lo rfl) ⟨vs, hl, hv⟩ hk (by lia) (fun _ s4 S4 => ?_) (fun h => absurd h h2)
    clear S3
    repeat walk1
    rename H _ = none => nT
    rename St _ _ _ _ _ _ _ _ => S5
    exact qn _ _ _ _ (Le.set nT) set_self S5
theorem deed_move (S : St w z B H L O m s) (G : Gd w z) {Q : Flow → Shared → Prop} (hA : Rm 26 A) (C : DeedC prog w m H d l t r ac f lot vs n k p along way more ta tf tway tk tm tp) (hw : way = 3)
    (qs : ∀ T H' m' s' t' l' lot' ac', DeedS prog w H H' T d l r f n t' l' lot' ac' → St w z B H' L O m' s' → Q (.ret (.ref T)) s') :
    wpAny (model prog w) A (execs ((bodyOf fd265.1).drop 2) (callEnv fd265.1 L 265)) Q E s := by
  obtain ⟨gw, gr, gway, gk, gm, gp, gl, gi, hd, hl, hv, ht, row, ok, hn, hac, hk⟩ := C
  have hlen := ok.len
  have hkl := (List.getElem?_eq_some_iff.mp hk).1
  have hm1 : 0 ≤ more.fmod 15 := Int.fmod_nonneg_of_pos _ (by decide)
  have hm2 : more.fmod 15 < 15 := Int.fmod_lt_of_pos _ (by decide)
  show wpAny _ _ (execs [_, _, _, _, _, _, _] _) _ _ _
  repeat walk1
  rename St _ _ _ _ _ _ _ _ => S1
  refine d_resize S1 G (hA.lo rfl) ht row hk ok.nd (by lia) fun t' H1 s2 le1 ht1 row1 S2 => ?_
  clear S1
  repeat walk1
  rename St _ _ _ _ _ _ _ _ => S3
  refine d_lmoved S3 G (hA.lo rfl) (LotAt.mono ⟨vs, hl, hv⟩ le1) hkl (by lia) ok.pos (by omega) fun D H2 s4 le2 hD S4 => ?_
  clear S3
  repeat walk1
  rename H2 _ = none => nT
  rename St _ _ _ _ _ _ _ _ => S5
  have le := (le1.trans le2).trans (Le.set (o := .tup [.ref t'.a, .ref D]) nT)
  exact qs _ _ _ _ t' D _ ac ⟨LeX.of le, set_self, ⟨_, _, le _ _ hd⟩, (ht1.mono le2).mono (Le.set nT), row1, hD.mono (Le.set nT), (ok.resize hkl).mono (by lia) (by lia), hac⟩ S5
end

section
variable {prog : Program} {w : World} {A : Around} {E : Value → Shared → Prop} {z s : Shared} {B : Heap} {H : AH} {L : Addr} {O : List Addr} {m : Str → Option Value} {env : Env}
variable {d l : Addr} {t : Tr} {r : Bool} {ac f : Int} {lot : List (Int × Int)} {vs : List Value} {n k : Nat} {p along way more : Int} {ta tf tway tk tm tp : Tok}
theorem deed_split (S : St w z B H L O m s) (G : Gd w z) {Q : Flow → Shared → Prop} (hA : Rm 26 A) (C : DeedC prog w m H d l t r ac f lot vs n k p along way more ta tf tway tk tm tp) (hw : way < 2)
    (qn : ∀ T H' m' s', Le H H' → H' T = some (.tup [.none, .none]) → St w z B H' L O m' s' → Q (.ret (.ref T)) s')
    (qs : ∀ T H' m' s' t' l' lot' ac', DeedS prog w H H' T d l r f n t' l' lot' ac' → St w z B H' L O m' s' → Q (.ret (.ref T)) s') :
    wpAny (model prog w) A (execs ((bodyOf fd265.1).drop 2) (callEnv fd265.1 L 265)) Q E s := by
  obtain ⟨gw, gr, gway, gk, gm, gp, gl, gi, hd, hl, hv, ht, row, ok, hn, hac, hk⟩ := C
  have hlen := ok.len
  have hkl := (List.getElem?_eq_some_iff.mp hk).1
  have hf : f ∉ lot.map (·.1) := fun h => Int.lt_irrefl _ (ok.lt _ h)
  show wpAny _ _ (execs [_, _, _, _, _, _, _] _) _ _ _
  refine r_seq ?_
  iterate 5 walk1
  rename St _ _ _ _ _ _ _ _ => S0
  refine r_stmt S0 (fun H' m' => H' = H ∧ ∃ size ts, m' = upd (upd m "is_before" (.bool (way == 1))) "size" (optV size ts)) ?_ ?_
  · by_cases c3 : more.fmod 3 = 0
    · repeat walk1
      rename H _ = none => nZ
      rename St _ _ _ _ _ _ _ _ => S1
      exact ⟨rfl, _, _, S1.weaken (Le.set nZ), rfl, none, 0, rfl⟩
    · repeat walk1
      rename H _ = none => nZ
      rename St _ _ _ _ _ _ _ _ => S1
      exact ⟨rfl, _, _, S1.weaken (Le.set nZ), rfl, some _, _, rfl⟩
  intro H' m' s' S1 hp
  refine ce fun gl => ?_
  obtain ⟨rfl, size, ts, rfl⟩ := hp
  refine gl ?_
  clear gl S0
  repeat walk1
  rename St _ _ _ _ _ _ _ _ => S1
  refine d_split (size := size) (before := (way == 1)) S1 G (hA.lo rfl) ht row hk ok.nd hf (by lia) (fun h3 s2 S2 => ?_) (fun h3 t' H1 s2 le1 ht1 row1 S2 => ?_)
  · clear S1
    repeat walk1
    rename St _ _ _ _ _ _ _ _ => S3
    refine d_lsplit (size := size) (before := (way == 1)) S3 G (hA.lo rfl) ⟨vs, hl, hv⟩ hk (by lia) (fun _ s4 S4 => ?_) (fun h => absurd h (by lia))
    clear S3
    repeat walk1
    rename H' _ = none => nT
    rename St _ _ _ _ _ _ _ _ => S5
    exact qn _ _ _ _ (Le.set nT) set_self S5
  · clear S1
    have hd := le1 _ _ hd
    repeat walk1
    rename St _ _ _ _ _ _ _ _ => S3
    refine d_lsplit (size := size) (before := (way == 1)) S3 G (hA.lo rfl) (LotAt.mono ⟨vs, hl, hv⟩ le1) hk (by lia) (fun h => absurd h (by lia)) (fun _ D H2 s4 le2 hD S4 => ?_)
    clear S3
    repeat walk1
    rename H2 _ = none => nT
    rename St _ _ _ _ _ _ _ _ => S5
    have k2 := le2.trans (Le.set (o := .tup [.ref t'.a, .ref D]) nT)
    exact qs _ _ _ _ t' D _ ac ⟨LeX.of (le1.trans k2), set_self, ⟨_, _, k2 _ _ hd⟩, (ht1.mono le2).mono (Le.set nT), row1, hD.mono (Le.set nT), ok.split hk h3, hac⟩ S5
end
section
variable {prog : Program} {w : World} {A : Around} {E : Value → Shared → Prop} {z s : Shared} {B : Heap} {H : AH} {L : Addr} {O : List Addr} {m : Str → Option Value} {env : Env} {Q : Unit → Shared → Prop}
variable {d l l' : Addr} {r : Bool} {ac f v : Int} {ta tf t tk : Tok}
theorem r_dsetA (S : St w z B H L O m s) (h : H d = some (dct prog w (wKv r ac ta l f tf))) (hB : B.get? d = none) (q : ∀ s', St w z B (H.set d (dct prog w (wKv r v t l f tf))) L O m s' → Q () s') :
    wpAny (model prog w) A (setItem (.ref d) (.str "across" tk) (.int v t)) Q E s := by
  refine r_dset S h hB (by show 4 ≤ 100; decide) fun s' S' => q s' ?_
  have e : stored (wKv r ac ta l f tf) "across" (.int v t) = wKv r v t l f tf := rfl
  rw [e] at S'
  exact S'
theorem r_dsetL (S : St w z B H L O m s) (h : H d = some (dct prog w (wKv r ac ta l f tf))) (hB : B.get? d = none) (q : ∀ s', St w z B (H.set d (dct prog w (wKv r ac ta l' f tf))) L O m s' → Q () s') :
    wpAny (model prog w) A (setItem (.ref d) (.str "lot" tk) (.ref l')) Q E s := by
  refine r_dset S h hB (by show 4 ≤ 100; decide) fun s' S' => q s' ?_
  have e : stored (wKv r ac ta l f tf) "lot" (.ref l') = wKv r ac ta l' f tf := rfl
  rw [e] at S'
  exact S'
theorem r_dsetF (S : St w z B H L O m s) (h : H d = some (dct prog w (wKv r ac ta l f tf))) (hB : B.get? d = none) (q : ∀ s', St w z B (H.set d (dct prog w (wKv r ac ta l v t))) L O m s' → Q () s') :
    wpAny (model prog w) A (setItem (.ref d) (.str "fresh" tk) (.int v t)) Q E s := by
  refine r_dset S h hB (by show 4 ≤ 100; decide) fun s' S' => q s' ?_
  have e : stored (wKv r ac ta l f tf) "fresh" (.int v t) = wKv r ac ta l v t := rfl
  rw [e] at S'
  exact S'
end

local macro_rules | `(tactic| walk_at "setItem ref str") => `(tactic| k_dflt ((first | refine r_dsetA ‹_› (by walk_at "hget") ‹_› ?_ | refine r_dsetL ‹_› (by walk_at "hget") ‹_› ?_ | refine r_dsetF ‹_› (by walk_at "hget") ‹_› ?_); walk_at "iS"))

section
variable {prog : Program} {w : World} {A : Around} {E : Value → Shared → Prop} {z s : Shared} {B : Heap} {H : AH} {L : Addr} {O : List Addr} {m : Str → Option Value} {env : Env}
variable {d l : Addr} {t : Tr} {r : Bool} {ac f : Int} {lot : List (Int × Int)} {vs : List Value} {n k : Nat} {p along way more : Int} {ta tf tway tk tm tp : Tok}
theorem TrAt.monoO {H H' : AH} {t : Tr} {d : Addr} {P : Obj → Prop} (h : TrAt H t) (hd : H d = some (.opq P)) (k : LeX [d] H H') : TrAt H' t := by
  have leaf : ∀ l, LeafAt H l → LeafAt H' l := fun l hl => by
    refine LeafAt.op hl fun h1 t0 t1 t2 t3 t4 t5 h2 h3 => ?_
    try clear hl
    refine ⟨k _ _ (nm1 ?_) h1, ⟨t0, t1, t2, t3, t4, t5, k _ _ (nm1 ?_) h2⟩, k _ _ (nm1 ?_) h3⟩
    · rintro e; rw [e, hd] at h1; cases h1
    · rintro e; rw [e, hd] at h2; cases h2
    · rintro e; rw [e, hd] at h3; cases h3
  cases t with
  | leaf l => exact leaf l h
  | node n =>
    refine op_A h fun hq1 hz => ?_
    try clear h
    refine NodeAt.op hq1 fun h1 t0 t1 t2 t3 t4 h2 h3 h4 h5 => ?_
    try clear hq1
    refine ⟨⟨k _ _ (nm1 ?_) h1, ⟨t0, t1, t2, t3, t4, k _ _ (nm1 ?_) h2⟩, k _ _ (nm1 ?_) h3, fun l hl => leaf l (h4 l hl), h5⟩, hz⟩
    · rintro e; rw [e, hd] at h1; cases h1
    · rintro e; rw [e, hd] at h2; cases h2
    · rintro e; rw [e, hd] at h3; cases h3
theorem LotVs.monoO {H H' : AH} {vs : List Value} {d : Addr} {P : Obj → Prop} (h : LotVs H vs lot) (hd : H d = some (.opq P)) (k : LeX [d] H H') : LotVs H' vs lot :=
  h.mono fun a ws e => k _ _ (nm1 (by first | exact ne_ss e hd (fun q => nomatch q) | exact ne_sn e hd | exact ne_ns e hd | exact ne_sn hd e | exact ne_ns hd e)) e
theorem deed_fit (S : St w z B H L O m s) (G : Gd w z) {Q : Flow → Shared → Prop} (hA : Rm 26 A) (C : DeedC prog w m H d l t r ac f lot vs n k p along way more ta tf tway tk tm tp) (hw : way = 4) (bd : B.get? d = none)
    (qs : ∀ T H' m' s' t' l' lot' ac', DeedS prog w H H' T d l r f n t' l' lot' ac' → St w z B H' L O m' s' → Q (.ret (.ref T)) s') :
    wpAny (model prog w) A (execs ((bodyOf fd265.1).drop 2) (callEnv fd265.1 L 265)) Q E s := by
  obtain ⟨gw, gr, gway, gk, gm, gp, gl, gi, hd, hl, hv, ht, row, ok, hn, hac, hk⟩ := C
  have hlen := ok.len
  have hkl := (List.getElem?_eq_some_iff.mp hk).1
  have hm1 : 0 ≤ more.fmod 30 := Int.fmod_nonneg_of_pos _ (by decide)
  have hm2 : more.fmod 30 < 30 := Int.fmod_lt_of_pos _ (by decide)
  have hm3 : 0 ≤ (more.fdiv 30).fmod 4 := Int.fmod_nonneg_of_pos _ (by decide)
  show wpAny _ _ (execs [_, _, _, _, _, _, _] _) _ _ _
  have hm4 : 0 ≤ more.fdiv 30 ∨ True := .inr trivial
  have hmx : mx (1 + (more.fdiv 30).fmod 4) = 1 + (more.fdiv 30).fmod 4 := by unfold mx; split <;> omega
  cases r
  all_goals
    repeat walk1
    rename AH.set H d _ _ = none => nS
    rename St _ _ _ _ _ _ _ _ => S1
    replace S1 := S1.weaken (Le.set nS)
    refine op_EAA (⟨_, LeX.set (.head _), ⟨_, set_self⟩, S1⟩ : ∃ HD, LeX [d] H HD ∧ (∃ ta, HD d = some (dct prog w (wKv _ (1 + (more.fdiv 30).fmod 4) ta l f tf))) ∧ St w z B HD L O _ _) fun HD lx hd1 S1 => ?_
    obtain ⟨ta1, hd1⟩ := hd1
    have ht1 := ht.monoO hd lx
    have hl1 : HD l = some (.lst vs) := lx _ _ (nm1 (by first | exact ne_ss hl hd (fun q => nomatch q) | exact ne_sn hl hd | exact ne_ns hl hd | exact ne_sn hd hl | exact ne_ns hd hl)) hl
    have hv1 := hv.monoO hd lx
    clear nS
    refine d_fit S1 G (hA.lo rfl) ht1 row ok.pos hac fun t' H1 s2 lot' ac' ph le1 ht2 row1 S2 => ?_
    clear S1
    have ph' : FitL lot (1 + more.fmod 30) lot' ∧ ac' = mx (1 + (more.fdiv 30).fmod 4) := by simpa [Ph] using ph
    obtain ⟨hfit, hac'⟩ := ph'
    rw [hmx] at hac'
    repeat walk1
    rename St _ _ _ _ _ _ _ _ => S3
    refine d_lfitted S3 G (hA.lo rfl) (LotAt.mono ⟨vs, hl1, hv1⟩ le1) ok.one (by lia) ok.pos (by have := ok.sum; lia) (by omega) fun D H2 s4 lot2 heq le2 hD S4 => ?_
    clear S3
    rw [← heq lot' hfit] at hD
    repeat walk1
    rename H2 _ = none => nT
    rename St _ _ _ _ _ _ _ _ => S5
    have k2 := (le1.trans le2).trans (Le.set (o := .tup [.ref t'.a, .ref D]) nT)
    exact qs _ _ _ _ t' D lot' ac' ⟨lx.trans (LeX.of k2), set_self, ⟨_, _, by rw [hac']; exact k2 _ _ hd1⟩, (ht2.mono le2).mono (Le.set nT), row1, hD.mono (Le.set nT), (ok.fit (by (refine Nat.le_trans (by with_reducible assumption) ?_; exact Nat.le_of_ble_eq_true rfl)) (by lia) hfit).mono (by lia) (by lia), by omega⟩ S5
theorem along_le {lot : List (Int × Int)} (hp : ∀ x ∈ lot, 1 ≤ x.2) {x : Int × Int} (hx : x ∈ lot) : x.2 ≤ sumA lot := by
  induction lot with
  | nil => cases hx
  | cons y lot ih =>
    have h0 : 0 ≤ sumA lot := by
      clear ih hx
      induction lot with
      | nil => simp [sumA]
      | cons z lot ih =>
        have := hp z (.tail _ (.head _))
        have := ih (fun x hx => hp x (by rcases List.mem_cons.mp hx with rfl | h; exact .head _; exact .tail _ (.tail _ h)))
        simp only [sumA, List.map_cons, List.sum_cons] at this ⊢
        lia
    have h1 := hp y (.head _)
    have e : sumA (y :: lot) = y.2 + sumA lot := by simp [sumA]
    rcases List.mem_cons.mp hx with rfl | hx
    · lia
    · have := ih (fun x hx => hp x (.tail _ hx)) hx; lia
theorem deed_to (S : St w z B H L O m s) (G : Gd w z) {Q : Flow → Shared → Prop} (hA : Rm 26 A) (C : DeedC prog w m H d l t r ac f lot vs n k p along way more ta tf tway tk tm tp) (hw : way = 5)
    (qs : ∀ T H' m' s' t' l' lot' ac', DeedS prog w H H' T d l r f n t' l' lot' ac' → St w z B H' L O m' s' → Q (.ret (.ref T)) s') :
    wpAny (model prog w) A (execs ((bodyOf fd265.1).drop 2) (callEnv fd265.1 L 265)) Q E s := by
  obtain ⟨gw, gr, gway, gk, gm, gp, gl, gi, hd, hl, hv, ht, row, ok, hn, hac, hk⟩ := C
  have hlen := ok.len
  have hkl := (List.getElem?_eq_some_iff.mp hk).1
  have hm1 : 0 ≤ more.fmod 14 := Int.fmod_nonneg_of_pos _ (by decide)
  have hm2 : more.fmod 14 < 14 := Int.fmod_lt_of_pos _ (by decide)
  refine op_EEEA (hv.get hk) fun a tp' ta' hva ha => ?_
  have hvl := hv.len
  have hvz : vs.length ≤ sizeLine := by rw [sizeLine_eq]; lia
  show wpAny _ _ (execs [_, _, _, _, _, _, _] _) _ _ _
  have hal1 := ok.pos _ (List.mem_of_getElem? hk)
  have hal2 := along_le ok.pos (List.mem_of_getElem? hk)
  have hal3 := ok.sum
  dsimp only at hal1 hal2
  by_cases hkk : k + 1 < lot.length
  · have hc1 : ((k : Nat) : Int) < (vs.length : Int) - 1 := by lia
    repeat walk1
    rename St _ _ _ _ _ _ _ _ => S1
    refine d_resizeTo S1 G (hA.lo rfl) ht row hk ok.nd (by lia) fun t' H1 s2 le1 ht1 row1 S2 => ?_
    clear S1
    have row1 : Row r t' (resizeLot lot k ((if more.fmod 14 > 1 then more.fmod 14 else 1) - along)) ac := by
      have h := row1
      first | rw [if_pos hkk] at h; exact h | rw [if_neg hkk, ← Int.zero_sub] at h; exact h
    repeat walk1
    rename St _ _ _ _ _ _ _ _ => S3
    refine d_lmoved S3 G (hA.lo rfl) (LotAt.mono ⟨vs, hl, hv⟩ le1) hkl (by lia) ok.pos (by split <;> omega) fun D H2 s4 le2 hD S4 => ?_
    clear S3
    repeat walk1
    rename H2 _ = none => nT
    rename St _ _ _ _ _ _ _ _ => S5
    have le := (le1.trans le2).trans (Le.set (o := .tup [.ref t'.a, .ref D]) nT)
    exact qs _ _ _ _ t' D _ ac ⟨LeX.of le, set_self, ⟨_, _, le _ _ hd⟩, (ht1.mono le2).mono (Le.set nT), row1, hD.mono (Le.set nT), (ok.resize hkl).mono (by lia) (by lia), hac⟩ S5
  · have hc1 : ¬ ((k : Nat) : Int) < (vs.length : Int) - 1 := by lia
    repeat walk1
    rename St _ _ _ _ _ _ _ _ => S1
    refine d_resizeTo S1 G (hA.lo rfl) ht row hk ok.nd (by grind) fun t' H1 s2 le1 ht1 row1 S2 => ?_
    clear S1
    have row1 : Row r t' (resizeLot lot k (0 - ((if more.fmod 14 > 1 then more.fmod 14 else 1) - along))) ac := by
      have h := row1
      first | rw [if_pos hkk] at h; exact h | rw [if_neg hkk, ← Int.zero_sub] at h; exact h
    repeat walk1
    rename St _ _ _ _ _ _ _ _ => S3
    refine d_lmoved S3 G (hA.lo rfl) (LotAt.mono ⟨vs, hl, hv⟩ le1) hkl (by grind) ok.pos (by split <;> lia) fun D H2 s4 le2 hD S4 => ?_
    clear S3
    repeat walk1
    rename H2 _ = none => nT
    rename St _ _ _ _ _ _ _ _ => S5
    have le := (le1.trans le2).trans (Le.set (o := .tup [.ref t'.a, .ref D]) nT)
    exact qs _ _ _ _ t' D _ ac ⟨LeX.of le, set_self, ⟨_, _, le _ _ hd⟩, (ht1.mono le2).mono (Le.set nT), row1, hD.mono (Le.set nT), (ok.resize hkl).mono (by lia) (by lia), hac⟩ S5
end

/-! _law_deed -/
section
variable {prog : Program} {w : World} {A : Around} {E : Value → Shared → Prop} {z s : Shared} {B : Heap} {H : AH} {L : Addr} {O : List Addr} {m : Str → Option Value} {env : Env} {Q : Value → Shared → Prop}
theorem d_deed (S : St w z B H L O m s) (G : Gd w z) (hA : Rm 28 A) {d l : Addr} {t : Tr} {r : Bool} {ac f number : Int} {ta tf tn : Tok} {lot : List (Int × Int)} {vs : List Value} {n : Nat}
    (hd : H d = some (dct prog w (wKv r ac ta l f tf))) (bd : B.get? d = none) (hl : H l = some (.lst vs)) (hv : LotVs H vs lot) (ht : TrAt H t) (row : Row r t lot ac) (ok : LotOk lot f n) (hn : n ≤ 29) (hac : 1 ≤ ac)
    (qn : ∀ T H' s', Le H H' → H' T = some (.tup [.none, .none]) → St w z B H' L O m s' → Q (.ref T) s')
    (qs : ∀ T H' s' t' l' lot' ac', DeedS prog w H H' T d l r f n t' l' lot' ac' → St w z B H' L O m s' → Q (.ref T) s') :
    wpAny (model prog w) A (call (.ref 265) [.ref d, .ref t.a, .int number tn]) Q E s := by
  refine enter' S G hA fd265 (binds := [("w", .ref d), ("root", .ref t.a), ("number", .int number tn)]) [d] ?_ (fun x hx => by rw [List.mem_singleton.mp hx]; exact ⟨bd, _, hd⟩) cd265 rfl (BindsTo.of_eq rfl) rfl rfl rfl rfl rfl
  intro A' B' L' s' E' hA' hM hB S'
  have bd' := hM d (.head _)
  clear S
  have hvl := hv.len
  have h1 := ok.one
  have hlen := ok.len
  have hvz : vs.length ≤ sizeLine := by rw [sizeLine_eq]; lia
  have hk1 : 0 ≤ (number.fdiv 6).fmod (vs.length : Int) := Int.fmod_nonneg_of_pos _ (by lia)
  have hk2 : (number.fdiv 6).fmod (vs.length : Int) < (vs.length : Int) := Int.fmod_lt_of_pos _ (by lia)
  obtain ⟨k, hk⟩ : ∃ k : Nat, (number.fdiv 6).fmod (vs.length : Int) = (k : Int) := ⟨_, (Int.toNat_of_nonneg hk1).symm⟩
  have hkl : k < lot.length := by omega
  refine op_EAAA (⟨_, rfl, rfl, rfl, S'⟩ : ∃ m0, m0 "w" = some (.ref d) ∧ m0 "root" = some (.ref t.a) ∧ m0 "number" = some (.int number tn) ∧ St w z B' H L' (L :: O) m0 s') fun m0 g1 g2 g3 S0 => ?_
  clear S'
  show wpAny _ _ (execs (_ :: _ :: (bodyOf fd265.1).drop 2) _) _ _ _
  refine r_stmt S0 (fun H' m' => H = H' ∧ ∃ t1 t2 t3, m' "w" = some (.ref d) ∧ m' "root" = some (.ref t.a) ∧ m' "way" = some (.int (number.fmod 6) t1) ∧ m' "k" = some (.int (k : Int) t2) ∧ m' "more" = some (.int (number.fdiv 24) t3)) ?_ ?_
  · repeat walk1
    rename H _ = none => nT
    rename St _ _ _ _ _ _ _ _ => S1
    rw [hk] at S1
    exact mk_AEEAAEEEAAAA rfl _ _ (S1.weaken (Le.set nT)) rfl _ _ _ (by walk_at "hname") (by walk_at "hname") (by walk_at "hname") (by walk_at "hname") (by walk_at "hname")
  intro _ m1 s1 S1 hp4
  refine op_AEEEAAAA hp4 fun ek1 t1 t2 t3 f1 f2 f3 f4 f5 => ?_
  try clear hp4
  subst ek1
  clear S0
  refine op_EEEA (hv.get (k := k) (p := lot[k].1) (c := lot[k].2) (List.getElem?_eq_getElem hkl)) fun a tp ta' hva ha => ?_
  refine r_stmt S1 (fun H2 m' => H = H2 ∧ m' "w" = some (.ref d) ∧ m' "root" = some (.ref t.a) ∧ m' "way" = some (.int (number.fmod 6) t1) ∧ m' "k" = some (.int (k : Int) t2) ∧ m' "more" = some (.int (number.fdiv 24) t3) ∧ m' "pane" = some (.int lot[k].1 tp) ∧ m' "lot" = some (.ref l) ∧ m' "is_row" = some (.bool r)) ?_ ?_
  · repeat walk1
    rename H _ = none => nT
    rename St _ _ _ _ _ _ _ _ => S2
    exact mk_AEEAAAAAAAAA rfl _ _ (S2.weaken (Le.set nT)) rfl (by walk_at "hname") (by walk_at "hname") (by walk_at "hname") (by walk_at "hname") (by walk_at "hname") (by walk_at "hname") (by walk_at "hname") (by walk_at "hname")
  intro _ m2 s2 S2 hp4
  refine op_AAAAAAAA hp4 fun ek2 e1 e2 e3 e4 e5 e6 e7 e8 => ?_
  try clear hp4
  subst ek2
  clear S1
  have C : DeedC prog w m2 H d l t r ac f lot vs n k lot[k].1 lot[k].2 (number.fmod 6) (number.fdiv 24) ta tf t1 t2 t3 tp := ⟨e1, e2, e3, e4, e5, e6, e7, e8, hd, hl, hv, ht, row, ok, hn, hac, List.getElem?_eq_getElem hkl⟩
  have w1 : 0 ≤ number.fmod 6 := Int.fmod_nonneg_of_pos _ (by decide)
  have w2 : number.fmod 6 < 6 := Int.fmod_lt_of_pos _ (by decide)
  have qn' : ∀ T H2 m' s', Le H H2 → H2 T = some (.tup [.none, .none]) → St w z B' H2 L' (L :: O) m' s' → Lv w z B L O m B' L' Q (.ret (.ref T)) s' := fun T H2 m' s' k hT S => ⟨_, _, S, fun S => qn T H2 _ k hT S⟩
  have qs' : ∀ T H2 m' s' t' l' lot' ac', DeedS prog w H H2 T d l r f n t' l' lot' ac' → St w z B' H2 L' (L :: O) m' s' → Lv w z B L O m B' L' Q (.ret (.ref T)) s' := fun T H2 m' s' t' l' lot' ac' D S => ⟨_, _, S, fun S => qs T H2 _ t' l' lot' ac' D S⟩
  have hA'' : Rm 26 A' := hA'.lo rfl
  by_cases c1 : number.fmod 6 < 2
  · exact deed_split S2 G hA'' C c1 qn' qs'
  by_cases c2 : number.fmod 6 = 2
  · exact deed_close S2 G hA'' C c2 qn' qs'
  by_cases c3 : number.fmod 6 = 3
  · exact deed_move S2 G hA'' C c3 qs'
  by_cases c4 : number.fmod 6 = 4
  · exact deed_fit S2 G hA'' C c4 bd' qs'
  · exact deed_to S2 G hA'' C (by lia) qs'
end

/-! even shares -/
theorem sum_steps (q r : Int) (hr : 0 ≤ r) (m : Nat) : ((List.range m).map fun i : Nat => q + if (i : Int) < r then 1 else 0).sum = m * q + (if (m : Int) < r then (m : Int) else r) := by
  induction m with
  | zero => simp; lia
  | succ m ih =>
    rw [List.range_succ, List.map_append, List.sum_append, ih]
    simp only [List.map_cons, List.map_nil, List.sum_cons, List.sum_nil]
    push_cast
    rw [Int.add_mul]
    (repeat' split) <;> grind
theorem shares_facts {side : Int} {many : Nat} (h : 1 ≤ many) : (sharesOf side many).sum = wholeOf side many ∧ (sharesOf side many).Pairwise (fun a b => b ≤ a) ∧ (∀ a ∈ sharesOf side many, ∀ b ∈ sharesOf side many, a - b ≤ 1) ∧ ∀ a ∈ sharesOf side many, 1 ≤ a := by
  have hn : 0 < (many : Int) := by lia
  have hW : (many : Int) ≤ wholeOf side many := by unfold wholeOf; split <;> lia
  have f1 : (wholeOf side many).fdiv many = wholeOf side many / many := Int.fdiv_eq_ediv_of_nonneg _ (by lia)
  have f2 : (wholeOf side many).fmod many = wholeOf side many % many := Int.fmod_eq_emod_of_nonneg _ (by lia)
  have hr1 : 0 ≤ wholeOf side many % many := Int.emod_nonneg _ (by lia)
  have hr2 : wholeOf side many % many < many := Int.emod_lt_of_pos _ hn
  have hid := Int.mul_ediv_add_emod (wholeOf side many) many
  have hq : 1 ≤ wholeOf side many / many := (Int.le_ediv_iff_mul_le hn).mpr (by lia)
  unfold sharesOf
  rw [f1, f2]
  generalize wholeOf side many = W at *
  generalize W / (many : Int) = q at *
  generalize W % (many : Int) = r at *
  have hm : ∀ a ∈ (List.range many).map (fun i : Nat => q + if (i : Int) < r then 1 else 0), a = q ∨ a = q + 1 := by
    intro a ha
    refine op_EA (List.mem_map.mp ha) fun i _ ek1 => ?_
    subst ek1
    split <;> lia
  refine ⟨?_, ?_, fun a ha b hb => ?_, fun a ha => ?_⟩
  · rw [sum_steps q r hr1 many, if_neg (by grind)]; exact hid
  · rw [List.pairwise_map]
    refine List.Pairwise.imp (fun {a b} (hab : a < b) => ?_) List.pairwise_lt_range
    (repeat' split) <;> grind
  · have := hm a ha; have := hm b hb; omega
  · have := hm a ha; omega
theorem rev_sorted {l l' : List Int} (h : l.Pairwise (fun a b => b ≤ a)) (hp : l'.Perm l) (hs : l'.Pairwise (· ≤ ·)) : l'.reverse = l := by
  have h2 : l'.reverse.Pairwise (fun a b => b ≤ a) := List.pairwise_reverse.mpr hs
  exact List.Perm.eq_of_pairwise (fun a b _ _ h1 h2 => by lia) h2 h ((List.reverse_perm l').trans hp)
theorem ints_rev {vs : List Value} {ns : List Int} (h : IntsAre vs ns) : IntsAre vs.reverse ns.reverse := by
  induction h with
  | nil => exact .nil
  | cons x t _ ih => rw [List.reverse_cons, List.reverse_cons]; exact ih.append (.cons _ _ .nil)
theorem hdats_get {H : AH} {vs : List Value} {ds : List Dat} (h : HDats H vs ds) {i : Nat} {v : Value} (hv : vs[i]? = some v) : ∃ d, ds[i]? = some d ∧ HDat H v d := by
  induction vs generalizing ds i with
  | nil => simp at hv
  | cons w vs ih =>
    cases h with
    | cons h1 h2 =>
      cases i with
      | succ i => exact ih h2 (by simpa using hv)
      | zero => exact ⟨_, rfl, by rw [← show w = v by simpa using hv]; exact h1⟩
theorem hdats_len {H : AH} {vs : List Value} {ds : List Dat} (h : HDats H vs ds) : vs.length = ds.length := by
  induction vs generalizing ds with
  | nil => cases h; rfl
  | cons v vs ih => cases h with | cons _ h => simp [ih h]
theorem hdat_tup {H : AH} {v : Value} {ds : List Dat} (h : HDat H v (.tuple ds)) : ∃ a ws, v = .ref a ∧ H a = some (.tup ws) ∧ HDats H ws ds := by
  cases h with | tuple a b => exact ⟨_, _, rfl, a, b⟩
theorem hdat_int {H : AH} {v : Value} {n : Int} (h : HDat H v (.int n)) : ∃ t, v = .int n t := by
  cases h; exact ⟨_, rfl⟩
theorem row_at {H : AH} {vs : List Value} {r : Bool} {ls : List Lf} (h : HDats H vs (ls.map (leafDat r))) {i : Nat} {v : Value} (hv : vs[i]? = some v) : ∃ a ws l t, v = .ref a ∧ H a = some (.tup ws) ∧ ls[i]? = some l ∧ ws[2]? = some (.int (l.side r) t) ∧ ws.length ≤ 1000 := by
  refine ce fun gl => ?_
  obtain ⟨d, hd, h1⟩ := hdats_get h hv
  rw [List.getElem?_map, Option.map_eq_some_iff] at hd
  obtain ⟨l, hl, rfl⟩ := hd
  obtain ⟨a, ws, e, ha, hw⟩ := hdat_tup h1
  have hlen : ws.length = 6 := hdats_len hw
  obtain ⟨d2, h2, h3⟩ := hdats_get hw (i := 2) (List.getElem?_eq_getElem (by lia))
  obtain ⟨t, ht⟩ := hdat_int (n := l.side r) (by rw [show d2 = .int (l.side r) from (Option.some.inj h2).symm] at h3; exact h3)
  refine gl ?_; clear gl
  exact mk_EEEEAAAA a ws l t e ha hl (by rw [List.getElem?_eq_getElem (by lia), ht]) (by lia)
section
variable {prog : Program} {w : World} {A : Around} {E : Value → Shared → Prop} {z s : Shared} {B : Heap} {H : AH} {L : Addr} {O : List Addr} {m : Str → Option Value} {env : Env} {Q : Flow → Shared → Prop}
theorem right_tail (S : St w z B H L O m s) (G : Gd w z) (hA : Rm 19 A) {r : Bool} {whole many : Int} {n : Nat} {tw tm : Tok} {t : Tr} {X : Addr} {ys : List Value} {lot : List (Int × Int)}
    (g1 : m "sides" = some (.ref X)) (g2 : m "whole" = some (.int whole tw)) (g3 : m "many" = some (.int many tm)) (g4 : m "found" = some (.ref t.a)) (hX : H X = some (.lst ys)) (hy : IntsAre ys (sharesOf whole n)) (hmn : many = n) (h1 : 1 ≤ n) (h2 : n ≤ 50)
    (ht : TrAt H t) (row : Row r t lot 2) (hp : ∀ x ∈ lot, 1 ≤ x.2) (q : ∀ m' H' s', Le H H' → St w z B H' L O m' s' → Q (.ret (.bool true)) s') :
    wpAny (model prog w) A (execs ((bodyOf fd270.1).drop 3) (callEnv fd270.1 L 270)) Q E s := by
  refine op_AAA (shares_facts (side := whole) h1) fun z1 z2 z3 z4 => ?_
  have hyl : ys.length = n := by rw [ints_len hy, shares_len]
  have hsum : (sharesOf whole n).sum + many - 1 = (if 2 * many - 1 > whole then 2 * many - 1 else whole) := by
    rw [z1, hmn]
    unfold wholeOf
    split <;> split <;> grind
  show wpAny _ _ (execs [_, _] _) _ _ _
  refine r_stmt S (fun H' m' => Le H H' ∧ m' "sides" = some (.ref X)) ?_ ?_
  · refine hq fun Q82 k82 => ?_
    repeat walk1
    rename St _ _ _ _ _ _ _ _ => S1
    refine r_sum S1 hA.1 hX hy fun t1 s2 S2 => ?_
    clear S1
    have hne : ¬ (((sharesOf whole n).sum + many - 1 != (if 2 * many - 1 > whole then 2 * many - 1 else whole)) = true) := by rw [hsum]; simp
    repeat walk1
    rename St _ _ _ _ _ _ _ _ => S3
    refine r_sorted S3 hX hy (by lia) fun X2 ys2 ns2 s4 hy2 hperm hsort S4 nX2 bX2 => ?_
    clear S3
    have hrev := rev_sorted z2 hperm hsort
    have hyl2 : ys2.length = n := by rw [ints_len hy2, hperm.length_eq, shares_len]
    iterate 7 walk1
    rename St _ _ _ _ _ _ _ _ => S5
    refine kba_turn (value' := .Name "x" ⟨0, 0, 0, 0⟩) (fun _ => rfl) ?_
    refine r_slice (ws := ys2.reverse) (lo := none) (hi := none) (st := some (-1)) S5 set_self .none .none (.int _ _) (pick_rev _) (by decide) (by rw [sizeLine_eq]; lia) (fun X3 s6 S6 nX3 bX3 => ?_) (by with_unfolding_all rfl) (by intro _; with_unfolding_all rfl)
    clear S5
    repeat walk1
    rename St _ _ _ _ _ _ _ _ => S7
    refine r_neD (d := .list ((sharesOf whole n).map Dat.int)) (e := .list (ns2.reverse.map Dat.int)) S7 hA (.list (set_new (set_new hX nX2) nX3) (ints_dats hy)) (.list set_self (ints_dats (ints_rev hy2))) (ints_ok _) (ints_ok _) (fun _ => ?_) (fun h => absurd (by rw [hrev]) h)
    repeat walk1
    rename St _ _ _ _ _ _ _ _ => S8
    refine d_tiling S8 G (hA.lo rfl) (ht.mono ((Le.set nX2).trans (Le.set nX3))) row hp (by decide) fun s9 S9 => ?_
    clear S8
    repeat walk1
    refine k82 _ _ ?_
    rename St _ _ _ _ _ _ _ _ => S10
    exact mk_AEEAA rfl _ _ S10 ((Le.set nX2).trans (Le.set nX3)) g1
  intro H1 m1 s3 S3 hp4
  obtain ⟨k1, f1⟩ := hp4
  clear S
  have hX1 := k1 _ _ hX
  repeat walk1
  rename St _ _ _ _ _ _ _ _ => S4
  have hlen : 0 < (sharesOf whole n).length := by rw [shares_len]; lia
  refine r_maxL S4 hA.1 hX1 hy hlen fun M tM s5 p1 p2 S5 => ?_
  clear S4
  repeat walk1
  rename St _ _ _ _ _ _ _ _ => S6
  refine r_minL S6 hA.1 hX1 hy hlen fun N tN s7 q1 q2 S7 => ?_
  clear S6
  have hMN := z3 M p1 N q1
  repeat walk1
  rename St _ _ _ _ _ _ _ _ => S8
  refine r_minL S8 hA.1 hX1 hy hlen fun N2 tN2 s8 r1 r2 S9 => ?_
  clear S8
  have hN2 := z4 N2 r1
  repeat walk1
  rename St _ _ _ _ _ _ _ _ => S10
  have e : decide (0 < N2) = true := by simp; lia
  rw [e]
  exact q _ _ _ k1 S10
end
section
variable {prog : Program} {w : World} {A : Around} {E : Value → Shared → Prop} {z s : Shared} {B : Heap} {H : AH} {L : Addr} {O : List Addr} {m : Str → Option Value} {env : Env} {Q : Value → Shared → Prop}
theorem d_sharesRight (S : St w z B H L O m s) (G : Gd w z) (hA : Rm 20 A) {r : Bool} {whole many : Int} {n : Nat} {tw tm : Tok} (hmn : many = n) (h1 : 1 ≤ n) (h2 : n ≤ 50)
    (q : ∀ s', St w z B H L O m s' → Q (.bool true) s') :
    wpAny (model prog w) A (call (.ref 270) [.bool r, .int whole tw, .int many tm]) Q E s := by
  refine enter' S G hA fd270 (binds := [("is_row", .bool r), ("whole", .int whole tw), ("many", .int many tm)]) [] ?_ noMs cd270 rfl (BindsTo.of_eq rfl) rfl rfl rfl rfl rfl
  intro A' B' L' s' E' hA' hM hB S'
  clear S
  refine op_EAAA (⟨_, rfl, rfl, rfl, S'⟩ : ∃ m0, m0 "is_row" = some (.bool r) ∧ m0 "whole" = some (.int whole tw) ∧ m0 "many" = some (.int many tm) ∧ St w z B' H L' (L :: O) m0 s') fun m0 g1 g2 g3 S0 => ?_
  clear S'
  have ri : rInts 0 1 n = (List.range n).map fun i : Nat => (i : Int) := by unfold rInts; congr 1; funext i; lia
  have hril : (rInts 0 1 n).length = n := by simp [rInts]
  show wpAny _ _ (execs (_ :: _ :: _ :: (bodyOf fd270.1).drop 3) _) _ _ _
  refine r_stmt S0 (fun H' m' => Le H H' ∧ m' "is_row" = some (.bool r) ∧ m' "whole" = some (.int whole tw) ∧ m' "many" = some (.int many tm) ∧ ∃ tk, m' "word" = some (.str (if r then "even-horizontal" else "even-vertical") tk)) ?_ ?_
  · cases r
    all_goals
      refine hq fun Q153 k153 => ?_
      repeat walk1
      refine k153 _ _ ?_
      exact mk_AEEAAAAAE rfl _ _ (by assumption) Le.rfl (by walk_at "hname") (by walk_at "hname") (by walk_at "hname") _ (by walk_at "hname")
  intro H1 m1 s1 S1 hp4
  refine op_AAAAE hp4 fun k1 e1 e2 e3 tk e4 => ?_
  try clear hp4
  clear S0
  refine r_stmt S1 (fun H' m' => Le H1 H' ∧ m' "is_row" = some (.bool r) ∧ m' "whole" = some (.int whole tw) ∧ m' "many" = some (.int many tm) ∧ ∃ t, m' "found" = some (.ref (Tr.a t)) ∧ TrAt H' t ∧ Row r t ((rInts 0 1 n).zip (sharesOf whole n)) 2) ?_ ?_
  · refine hq fun Q160 k160 => ?_
    repeat walk1
    rename H1 _ = none => nR
    rename St _ _ _ _ _ _ _ _ => S2
    refine r_listR S2 hA'.1 (n := n) set_self (rsmall (by lia) (by lia) (by lia) (by lia)) (rsize (by lia)) (by (refine Nat.le_trans (by with_reducible assumption) ?_; exact Nat.le_of_ble_eq_true rfl)) fun P vs s3 hv S3 nP bP => ?_
    clear S2
    have kP := (Le.set nR).trans (Le.set (o := .lst vs) nP)
    cases r
    · repeat walk1
      rename St _ _ _ _ _ _ _ _ => S4
      refine d_named (r := false) S4 G (hA'.lo rfl) set_self hv (by lia) (by lia) fun t H2 s5 le5 ht5 row5 S5 => ?_
      clear S4
      simp only [Bool.false_eq_true, if_false, if_true, hril] at row5
      repeat walk1
      refine k160 _ _ ?_
      rename St _ _ _ _ _ _ _ _ => S6
      exact mk_AEEAAAAAEAA rfl _ _ S6 (kP.trans le5) (by walk_at "hname") (by walk_at "hname") (by walk_at "hname") t (by walk_at "hname") ht5 row5
    · repeat walk1
      rename St _ _ _ _ _ _ _ _ => S4
      refine d_named (r := true) S4 G (hA'.lo rfl) set_self hv (by lia) (by lia) fun t H2 s5 le5 ht5 row5 S5 => ?_
      clear S4
      simp only [Bool.false_eq_true, if_false, if_true, hril] at row5
      repeat walk1
      refine k160 _ _ ?_
      rename St _ _ _ _ _ _ _ _ => S6
      exact mk_AEEAAAAAEAA rfl _ _ S6 (kP.trans le5) (by walk_at "hname") (by walk_at "hname") (by walk_at "hname") t (by walk_at "hname") ht5 row5
  intro H2 m2 s2 S2 hp4
  refine op_AAAAEAA hp4 fun k2 f1 f2 f3 t f4 ht row => ?_
  try clear hp4
  clear S1
  refine r_stmt S2 (fun H' m' => Le H2 H' ∧ m' "whole" = some (.int whole tw) ∧ m' "many" = some (.int many tm) ∧ m' "found" = some (.ref t.a) ∧ ∃ X ys, m' "sides" = some (.ref X) ∧ H' X = some (.lst ys) ∧ IntsAre ys (sharesOf whole n)) ?_ ?_
  · repeat walk1
    rename St _ _ _ _ _ _ _ _ => S3
    refine d_told S3 G (hA'.lo rfl) ht fun D H3 s4 k3 hD S4 => ?_
    clear S3
    cases hD with
    | list hl hds =>
    rename_i vs
    have hlz := congrArg List.length (row_lot row)
    simp [lotOf, shares_len, hril] at hlz
    have hvl := hdats_len hds
    simp [hlz] at hvl
    refine r_compL hA'.1 (fun i ys H4 => IntsAre ys ((t.ls.take i).map fun l => l.side r) ∧ Le H3 H4) S4 hl (by lia) ⟨.nil, Le.rfl⟩ (by decide) rfl (fun i ys H4 h => h.2 _ _ hl) ?_ (fun y p e => by cases e; exact ⟨rfl, rfl, rfl⟩) ?_
    · intro C D2 I B'' i v ys H4 m4 s5 E'' hBB hv hp13 hI hD2 hne hBI hBD S5
      refine ce fun gl => ?_
      obtain ⟨x1, x2⟩ := hp13
      refine op_EEEEAAAA (row_at hds hv) fun a ws lf tl ek2 ha hlf hw2 hwz => ?_
      subst ek2
      refine gl ?_; clear gl
      clear S4
      have kk : Le H3 ((H4.set I (lit D (i + 1))).set D2 (.lst ys)) := fun a o e => set_new (set_new (x2 a o e) hI) (set_ne hD2 hne)
      have ha := kk _ _ ha
      refine r_asgName S5 (fun s6 S6 => ?_)
      refine wpAny_tests_nil ?_
      rw [if_pos rfl]
      clear S5
      iterate 3 walk1
      rename St _ _ _ _ _ _ _ _ => S7
      refine r_itemT (i := 2) S7 ha rfl hw2 hwz ?_ (by with_unfolding_all rfl)
      refine mk_EEAAAA _ _ S7 (set_ne set_self (Ne.symm hne)) set_self ?_ (le_turn hI hD2 Le.rfl hne |> x2.trans)
      rw [List.take_add_one, hlf, List.map_append]
      exact x1.append (.cons _ _ .nil)
    · intro D2 ys H4 s5 hp4 hD2 hDB S5
      obtain ⟨x1, x2⟩ := hp4
      rw [hvl, List.take_of_length_le (by lia)] at x1
      dsimp only at S5 ⊢
      refine mk_AEEAAAAAEEAA rfl _ _ S5 (k3.trans (x2.trans (Le.set hD2))) (by walk_at "hname") (by walk_at "hname") (by walk_at "hname") D2 ys (by walk_at "hname") set_self ?_
      have e1 : (lotOf r t.ls).map (·.2) = t.ls.map fun l => l.side r := by simp [lotOf]
      rw [row_lot row, List.map_snd_zip (by simp [hril, shares_len])] at e1
      rw [e1]
      exact x1
  intro H3 m3 s3 S3 hp4
  refine op_AAAAEEAA hp4 fun k3 j1 j2 j3 X ys j4 j5 j6 => ?_
  try clear hp4
  clear S2
  have hpos : ∀ x ∈ (rInts 0 1 n).zip (sharesOf whole n), 1 ≤ x.2 := fun x hx => (shares_facts h1).2.2.2 _ (List.of_mem_zip (a := x.1) (b := x.2) hx).2
  exact right_tail S3 G hA' j4 j1 j2 j3 j5 j6 hmn h1 h2 (ht.mono k3) row hpos fun m' H' s' k S => ⟨_, _, S, fun S => q _ (S.weaken (((k1.trans k2).trans k3).trans k))⟩
end

/-! the law -/
noncomputable def lawD : {d : DefRec // ∃ q loose XP YP r, (WalkO q loose XP YP r d [] (fun f vs => call f vs) → PySem.Challenge.rw_og0256_01.Holds)} := ⟨_, _, _, _, _, _, hd⟩
noncomputable def lawFor : List Stmt := forAt lawD.1.body 5
noncomputable def lawEnv (L a : Addr) (cd : Value) : Env := envOf lawD.1.name lawD.1.scope L a cd
mutual
theorem HDat.monoO {H H' : AH} {d : Addr} {P : Obj → Prop} (hd : H d = some (.opq P)) (k : LeX [d] H H') : ∀ {v : Value} {x : Dat}, HDat H v x → HDat H' v x
  | _, _, .none => .none
  | _, _, .int i t => .int i t
  | _, _, .str x t => .str x t
  | _, _, .tuple h r => .tuple (k _ _ (nm1 (by first | exact ne_ss h hd (fun q => nomatch q) | exact ne_sn h hd | exact ne_ns h hd | exact ne_sn hd h | exact ne_ns hd h)) h) (HDats.monoO hd k r)
  | _, _, .list h r => .list (k _ _ (nm1 (by first | exact ne_ss h hd (fun q => nomatch q) | exact ne_sn h hd | exact ne_ns h hd | exact ne_sn hd h | exact ne_ns hd h)) h) (HDats.monoO hd k r)
theorem HDats.monoO {H H' : AH} {d : Addr} {P : Obj → Prop} (hd : H d = some (.opq P)) (k : LeX [d] H H') : ∀ {vs : List Value} {xs : List Dat}, HDats H vs xs → HDats H' vs xs
  | _, _, .nil => .nil
  | _, _, .cons h r => .cons (HDat.monoO hd k h) (HDats.monoO hd k r)
end
theorem tr_dims {H : AH} {t : Tr} {r : Bool} {lot : List (Int × Int)} {ac : Int} (ht : TrAt H t) (row : Row r t lot ac) :
    ∃ dx k x y p n W Hh tw th, H t.a = some (.inst dx) ∧ H dx = some (.cd k (.int W tw) (.int Hh th) x y p n) ∧ W = (if r then total lot else ac) ∧ Hh = (if r then ac else total lot) := by
  cases t with
  | leaf l =>
    refine ce fun gl => ?_
    refine op_AA ht fun h1 hq1 h3 => ?_
    try clear ht
    refine op_EEEEEE hq1 fun t0 t1 t2 t3 t4 t5 h2 => ?_
    try clear hq1
    refine op_AAA row fun r1 r2 _ _ => ?_
    refine gl ?_; clear gl
    try clear row
    have e : total lot = l.side r := by rw [← r1]; simp [lotOf, total]
    refine mk_EEEEEEEEEEAAA _ _ _ _ _ _ _ _ _ _ h1 h2 ?_ ?_
    · cases r
      · simpa [Lf.side] using r2
      · simpa [Lf.side] using e.symm
    · cases r
      · simpa [Lf.side] using e.symm
      · simpa [Lf.side] using r2
  | node n =>
    refine ce fun gl => ?_
    refine op_A ht fun hq2 _ => ?_
    try clear ht
    refine op_AA hq2 fun h1 hq3 _ => ?_
    try clear hq2
    refine op_EEEEE hq3 fun t0 t1 t2 t3 t4 h2 => ?_
    try clear hq3
    refine op_AAAAAAAA row fun _ _ _ _ _ r6 r7 _ _ => ?_
    refine gl ?_; clear gl
    try clear row
    refine mk_EEEEEEEEEEAAA _ _ _ _ _ _ _ _ _ _ h1 h2 ?_ ?_
    · cases r
      · simpa [Nd.side] using r7
      · simpa [Nd.side] using r6
    · cases r
      · simpa [Nd.side] using r6
      · simpa [Nd.side] using r7
/-- what stands between the deeds -/
structure LawJ (prog : Program) (w : World) (d : Addr) (r : Bool) (fi : Int) (tfi : Tok) (n : Nat) (H : AH) (m : Str → Option Value) : Prop where
  ex : ∃ t l lot ac f vs ta tf, H d = some (dct prog w (wKv r ac ta l f tf)) ∧ H l = some (.lst vs) ∧ LotVs H vs lot ∧ TrAt H t ∧ Row r t lot ac ∧ LotOk lot f n ∧ f ≤ n ∧ 1 ≤ ac ∧ m "root" = some (.ref (Tr.a t))
  gw : m "w" = some (.ref d)
  gf : m "first" = some (.int fi tfi)
section
variable {prog : Program} {w : World} {A : Around} {E : Value → Shared → Prop} {z s : Shared} {B : Heap} {H : AH} {L : Addr} {O : List Addr} {m : Str → Option Value} {env : Env}
/-- the law's look at a deed done -/
theorem law_check (S : St w z B H L O m s) (G : Gd w z) {Q : Flow → Shared → Prop} (hA : Rm 40 A) {a : Addr} {cd : Value} {d l : Addr} {t : Tr} {r : Bool} {ac f : Int} {ta tf : Tok} {lot : List (Int × Int)} {vs : List Value} {n : Nat}
    (hd' : H d = some (dct prog w (wKv r ac ta l f tf))) (hl : H l = some (.lst vs)) (hv : LotVs H vs lot) (ht : TrAt H t) (row : Row r t lot ac) (ok : LotOk lot f n) (hn : n ≤ 20) (hac : 1 ≤ ac) (g1 : m "root" = some (.ref t.a)) (g2 : m "w" = some (.ref d))
    (q : ∀ H' s' v, Le H H' → St w z B H' L O (upd m "whole" v) s' → Q .next s') :
    wpAny (model prog w) A (execs (lawFor.drop 4) (lawEnv L a cd)) Q E s := by
  have hlen := ok.len
  have hvl := hv.len
  have hvz : vs.length ≤ sizeLine := by rw [sizeLine_eq]; lia
  show wpAny _ _ (execs [_, _, _] _) _ _ _
  refine r_stmt S (fun H' m' => Le H H' ∧ m = m') ?_ ?_
  · refine hq fun Q66 k66 => ?_
    repeat walk1
    rename St _ _ _ _ _ _ _ _ => S1
    refine d_told S1 G (hA.lo rfl) ht fun D1 H1 s1 k1 h1 S2 => ?_
    clear S1
    rw [row_dats row] at h1
    have hd1 := k1 _ _ hd'
    repeat walk1
    rename St _ _ _ _ _ _ _ _ => S3
    refine d_due S3 G (hA.lo rfl) (LotAt.mono ⟨vs, hl, hv⟩ k1) (by lia) fun D2 H2 s2 k2 h2 S4 => ?_
    clear S3
    refine r_neD S4 hA (h1.mono k2) h2 (toldL_ok _ _ _) (toldL_ok _ _ _) (fun _ => ?_) (fun h => absurd rfl h)
    repeat walk1
    rename St _ _ _ _ _ _ _ _ => S5
    refine d_tiling S5 G (hA.lo rfl) ((ht.mono k1).mono k2) row ok.pos hac fun s3 S6 => ?_
    clear S5
    repeat walk1
    refine k66 _ _ ?_
    rename St _ _ _ _ _ _ _ _ => S7
    exact mk_AEEAA rfl _ _ S7 (k1.trans k2) rfl
  intro H1 _ s1 S1 hp4
  obtain ⟨k1, rfl⟩ := hp4
  clear S
  have hd1 := k1 _ _ hd'
  have hl1 := k1 _ _ hl
  have hv1 := hv.mono k1.t
  have ht1 := ht.mono k1
  refine r_stmt S1 (fun H' m' => Le H1 H' ∧ ∃ t1, m' = upd m "whole" (.int (total lot) t1)) ?_ ?_
  · refine hq fun Q92 k92 => ?_
    repeat walk1
    rename St _ _ _ _ _ _ _ _ => S2
    refine r_alongs hA.1 S2 hl1 hv1 (by lia) fun X ys s2 hys S3 nX bX => ?_
    clear S2
    have kX := Le.set (o := .lst ys) nX
    have hd2 := kX _ _ hd1
    have hl2 := kX _ _ hl1
    repeat walk1
    rename St _ _ _ _ _ _ _ _ => S4
    refine r_sum S4 hA.1 set_self hys fun t3 s3 S5 => ?_
    clear S4
    repeat walk1
    refine k92 _ _ ?_
    rename St _ _ _ _ _ _ _ _ => S6
    have e : (lot.map (·.2)).sum + (vs.length : Int) - 1 = total lot := by rw [hvl]; rfl
    rw [e] at S6
    exact mk_AEEAAE rfl _ _ S6 kX _ rfl
  intro H2 _ s2 S2 hp4
  refine ce fun gl => ?_
  refine op_AE hp4 fun k2 t1 ek4 => ?_
  try clear hp4
  subst ek4
  clear S1
  have hd2 := k2 _ _ hd1
  refine op_EEEEEEEEEEAAA (tr_dims (ht1.mono k2) row) fun dx kk x y p nn W Hh tw th i1 i2 i3 i4 => ?_
  refine gl ?_; clear gl
  refine r_stmt S2 (fun H' m' => Le H2 H' ∧ m' = upd m "whole" (.int (total lot) t1)) ?_ ?_
  · cases r
    all_goals
      simp only [Bool.false_eq_true, if_false, if_true] at i3 i4
      subst i3 i4
      refine hq fun Q120 k120 => ?_
      repeat walk1
      rename St _ _ _ _ _ _ _ _ => S3
      rename AH.set H2 _ _ _ = none => n2
      rename H2 _ = none => n1
      refine r_neD S3 hA (.tuple (set_new set_self n2) (.cons (.int _ _) (.cons (.int _ _) .nil))) (.tuple set_self (.cons (.int _ _) (.cons (.int _ _) .nil))) rfl rfl (fun _ => ?_) (fun h => absurd rfl h)
      repeat walk1
      refine k120 _ _ ?_
      rename St _ _ _ _ _ _ _ _ => S4
      exact mk_AEEAA rfl _ _ S4 ((Le.set n1).trans (Le.set n2)) rfl
  intro H3 _ s3 S3 hp4
  obtain ⟨k3, rfl⟩ := hp4
  clear S2
  repeat walk1
  exact q _ _ _ ((k1.trans k2).trans k3) S3
end

section
variable {prog : Program} {w : World} {A : Around} {E : Value → Shared → Prop} {z s : Shared} {B : Heap} {H : AH} {L : Addr} {O : List Addr} {m : Str → Option Value} {env : Env}
/-- one turn of the law's loop -/
theorem law_turn (S : St w z B H L O m s) (G : Gd w z) {Q : Flow → Shared → Prop} (hA : Rm 40 A) {a : Addr} {cd : Value} {d : Addr} {r : Bool} {fi number : Int} {tfi tn : Tok} {n : Nat} (bd : B.get? d = none) (hn : n ≤ 19)
    (J : LawJ prog w d r fi tfi n H m) (gn : m "number" = some (.int number tn))
    (q : ∀ H' m' s', LeX [d] H H' → LawJ prog w d r fi tfi (n + 1) H' m' → St w z B H' L O m' s' → Q .next s') :
    wpAny (model prog w) A (execs lawFor (lawEnv L a cd)) Q E s := by
  obtain ⟨⟨t, l, lot, ac, f, vs, ta, tf, j1, j2, j3, j4, j5, j6, j7, j8, j9⟩, gw, gf⟩ := J
  have hlen := j6.len
  show wpAny _ _ (execs (_ :: _ :: _ :: _ :: lawFor.drop 4) _) _ _ _
  refine r_stmt S (fun H' m' => Le H H' ∧ ∃ D, HDat H' (.ref D) (.list (toldL lot ac 0)) ∧ m' = upd m "was" (.ref D)) ?_ ?_
  · refine hq fun Q11 k11 => ?_
    repeat walk1
    rename St _ _ _ _ _ _ _ _ => S1
    refine d_told S1 G (hA.lo rfl) j4 fun D H1 s1 k1 h1 S2 => ?_
    clear S1
    rw [row_dats j5] at h1
    repeat walk1
    refine k11 _ _ ?_
    exact mk_AEEAAEA rfl _ _ (by assumption) k1 D h1 rfl
  intro H1 _ s1 S1 hp4
  refine op_AEA hp4 fun k1 D hD ek1 => ?_
  try clear hp4
  subst ek1
  clear S
  have i1 := k1 _ _ j1
  have i2 := k1 _ _ j2
  have i3 := j3.mono k1.t
  have i4 := j4.mono k1
  refine r_stmt S1 (fun H' m' => (Le H1 H' ∧ m' = upd (upd (upd m "was" (.ref D)) "told" .none) "due" .none) ∨
      ∃ T t' l' lot' ac', DeedS prog w H1 H' T d l r f n t' l' lot' ac' ∧ m' = upd (upd (upd m "was" (.ref D)) "told" (.ref (Tr.a t'))) "due" (.ref l')) ?_ ?_
  · refine hq fun Q29 k29 => ?_
    repeat walk1
    rename St _ _ _ _ _ _ _ _ => S2
    refine d_deed S2 G (hA.lo rfl) i1 bd i2 i3 i4 j5 j6 (by (refine Nat.le_trans (by with_reducible assumption) ?_; exact Nat.le_of_ble_eq_true rfl)) j8 (fun T H2 s2 k2 hT S3 => ?_) (fun T H2 s2 t' l' lot' ac' DS S3 => ?_)
    · clear S2
      repeat walk1
      rename St _ _ _ _ _ _ _ _ => S4
      refine r_asgTup2 S4 hA.1 hT (fun s4 S5 => ?_)
      clear S4
      refine k29 _ _ ?_
      repeat walk1
      exact mk_AEEA rfl _ _ (by assumption) (.inl ⟨k2, rfl⟩)
    · clear S2
      repeat walk1
      rename St _ _ _ _ _ _ _ _ => S4
      refine r_asgTup2 S4 hA.1 DS.T (fun s4 S5 => ?_)
      clear S4
      refine k29 _ _ ?_
      repeat walk1
      exact mk_AEEA rfl _ _ (by assumption) (.inr ⟨T, t', l', lot', ac', DS, rfl⟩)
  rintro H2 m2 s2 S2 (⟨k2, rfl⟩ | ⟨T, t', l', lot', ac', DS, rfl⟩)
  · clear S1
    have e1 := k2 _ _ i1
    have e2 := k2 _ _ i2
    have e3 := i3.mono k2.t
    have e4 := i4.mono k2
    have hD2 := hD.mono k2
    refine r_stmt S2 (fun H' m' => Le H2 H' ∧ upd (upd (upd m "was" (.ref D)) "told" .none) "due" .none = m') ?_ ?_
    · refine hq fun Q54 k54 => ?_
      repeat walk1
      rename St _ _ _ _ _ _ _ _ => S3
      refine d_told S3 G (hA.lo rfl) e4 fun D3 H3 s3 k3 h3 S4 => ?_
      clear S3
      rw [row_dats j5] at h3
      repeat walk1
      rename St _ _ _ _ _ _ _ _ => S5
      refine r_neD S5 hA h3 (hD2.mono k3) (toldL_ok _ _ _) (toldL_ok _ _ _) (fun _ => ?_) (fun h => absurd rfl h)
      repeat walk1
      refine k54 _ _ ?_
      rename St _ _ _ _ _ _ _ _ => S6
      exact mk_AEEAA rfl _ _ S6 k3 rfl
    intro H3 _ s3 S3 hp4
    obtain ⟨k3, rfl⟩ := hp4
    clear S2
    refine r_stmt S3 (fun H' m' => H3 = H' ∧ upd (upd (upd m "was" (.ref D)) "told" .none) "due" .none = m') ?_ ?_
    · refine hq fun Q69 k69 => ?_
      repeat walk1
      refine k69 _ _ ?_
      rename St _ _ _ _ _ _ _ _ => S6
      exact mk_AEEAA rfl _ _ S6 rfl rfl
    intro _ _ s4 S4 hp4
    obtain ⟨rfl, rfl⟩ := hp4
    clear S3
    refine law_check S4 G hA (k3 _ _ e1) (k3 _ _ e2) (e3.mono k3.t) (e4.mono k3) j5 j6 (by (refine Nat.le_trans (by with_reducible assumption) ?_; exact Nat.le_of_ble_eq_true rfl)) j8 (by walk_at "hname") (by walk_at "hname") fun H5 s5 v k5 S5 => ?_
    have kk := (((k1.trans k2).trans k3).trans k5)
    exact q _ _ _ (LeX.of kk) ⟨⟨t, l, lot, ac, f, vs, ta, tf, kk _ _ j1, kk _ _ j2, j3.mono kk.t, j4.mono kk, j5, j6.mono (Int.le_refl _) (by lia), by push_cast; lia, j8, by walk_at "hname"⟩, by walk_at "hname", by walk_at "hname"⟩ S5
  · clear S1
    refine op_EE DS.d fun ta2 tf2 dd => ?_
    have o4 := i4.monoO i1 DS.le
    have hD2 := hD.monoO i1 DS.le
    have ht' := DS.tr
    refine op_EA DS.lot fun vs' lv1 lv2 => ?_
    refine r_stmt S2 (fun H' m' => Le H2 H' ∧ upd (upd (upd m "was" (.ref D)) "told" (.ref (Tr.a t'))) "due" (.ref l') = m') ?_ ?_
    · refine hq fun Q85 k85 => ?_
      repeat walk1
      rename St _ _ _ _ _ _ _ _ => S3
      refine d_told S3 G (hA.lo rfl) o4 fun D3 H3 s3 k3 h3 S4 => ?_
      clear S3
      rw [row_dats j5] at h3
      repeat walk1
      rename St _ _ _ _ _ _ _ _ => S5
      refine r_neD S5 hA h3 (hD2.mono k3) (toldL_ok _ _ _) (toldL_ok _ _ _) (fun _ => ?_) (fun h => absurd rfl h)
      repeat walk1
      refine k85 _ _ ?_
      rename St _ _ _ _ _ _ _ _ => S6
      exact mk_AEEAA rfl _ _ S6 k3 rfl
    intro H3 _ s3 S3 hp4
    obtain ⟨k3, rfl⟩ := hp4
    clear S2
    have dd := k3 _ _ dd
    have dl := k3 _ _ lv1
    have hne : l' ≠ d := by first | exact ne_ss dl dd (fun q => nomatch q) | exact ne_sn dl dd | exact ne_ns dl dd | exact ne_sn dd dl | exact ne_ns dd dl
    refine r_stmt S3 (fun H' m' => LeX [d] H3 H' ∧ (∃ ta tf, H' d = some (dct prog w (wKv r ac' ta l' (f + 1) tf))) ∧ m' "root" = some (.ref (Tr.a t')) ∧ m' "w" = some (.ref d) ∧ m' "first" = some (.int fi tfi)) ?_ ?_
    · refine hq fun Q103 k103 => ?_
      repeat walk1
      rename H3 _ = none => nT
      rename St _ _ _ _ _ _ _ _ => S6
      refine r_asgTup S6 hA.1 set_self (fun s7 S7 => ?_) rfl rfl
      clear S6
      replace S7 := S7.weaken (Le.set nT)
      show wpAny _ _ (assignInOrder [assign (.Name _ _) _, assign (.Subscript _ _ _) _, assign (.Subscript _ _ _) _] [_, _, _]) _ _ _
      refine assignInOrder_cons (r_asgName S7 (fun s8 S8 => ?_))
      clear S7
      refine assignInOrder_cons (kas_sub ?_)
      iterate 2 walk1
      rename St _ _ _ _ _ _ _ _ => S8
      refine r_dsetL S8 dd bd fun s9 S9 => ?_
      clear S8
      refine assignInOrder_cons (kas_sub ?_)
      iterate 2 walk1
      rename St _ _ _ _ _ _ _ _ => S8
      refine r_dsetF S8 set_self bd fun s10 S10 => ?_
      clear S8
      refine assignInOrder_nil ?_
      repeat walk1
      refine k103 _ _ ?_
      rename St _ _ _ _ _ _ _ _ => S9
      exact mk_AEEAAAAA rfl _ _ S9 ((LeX.set (.head _)).trans (LeX.set (.head _))) ⟨_, _, set_self⟩ (by walk_at "hname") (by walk_at "hname") (by walk_at "hname")
    intro H4 m4 s4 S4 hp4
    refine op_AAAA hp4 fun lx hq2 f1 f2 f3 => ?_
    try clear hp4
    refine op_EE hq2 fun ta4 tf4 d4 => ?_
    try clear hq2
    clear S3
    have hl4 := lx _ _ (nm1 hne) dl
    have hv4 := (lv2.mono k3.t).monoO dd lx
    have ht4 := (ht'.mono k3).monoO dd lx
    refine law_check S4 G hA d4 hl4 hv4 ht4 DS.row DS.ok (by lia) DS.ac f1 f2 fun H5 s5 v k5 S5 => ?_
    refine q _ _ _ (((LeX.of k1).trans DS.le).trans ((LeX.of k3).trans (lx.trans (LeX.of k5)))) ⟨⟨t', l', lot', ac', f + 1, vs', ta4, tf4, k5 _ _ d4, k5 _ _ hl4, hv4.mono k5.t, ht4.mono k5, DS.row, DS.ok, by push_cast; lia, DS.ac, by walk_at "hname"⟩, by walk_at "hname", by walk_at "hname"⟩ S5
end

/-! the law, whole -/
section
variable {prog : Program} {w : World} {A : Around} {E : Value → Shared → Prop} {z s : Shared} {B : Heap} {H : AH} {L : Addr} {O : List Addr} {m : Str → Option Value} {env : Env}
theorem LawJ.mono {d : Addr} {r : Bool} {fi : Int} {tfi : Tok} {n : Nat} {H' : AH} {m' : Str → Option Value} (J : LawJ prog w d r fi tfi n H m) (k : Le H H') (hr : m' "root" = m "root") (hw : m' "w" = m "w") (hf : m' "first" = m "first") : LawJ prog w d r fi tfi n H' m' := by
  obtain ⟨⟨t, l, lot, ac, f, vs, ta, tf, j1, j2, j3, j4, j5, j6, j7, j8, j9⟩, gw, gf⟩ := J
  exact ⟨⟨t, l, lot, ac, f, vs, ta, tf, k _ _ j1, k _ _ j2, j3.mono k.t, j4.mono k, j5, j6, j7, j8, hr.trans j9⟩, hw.trans gw, hf.trans gf⟩
theorem LawJ.del {d I : Addr} {r : Bool} {fi : Int} {tfi : Tok} {n : Nat} {P : Obj → Prop} (J : LawJ prog w d r fi tfi n H m) (hI : H I = some (.opq P)) (hne : d ≠ I) : LawJ prog w d r fi tfi n (H.del I) m := by
  obtain ⟨⟨t, l, lot, ac, f, vs, ta, tf, j1, j2, j3, j4, j5, j6, j7, j8, j9⟩, gw, gf⟩ := J
  exact ⟨⟨t, l, lot, ac, f, vs, ta, tf, del_ne j1 hne, del_ne j2 (by first | exact ne_ss j2 hI (fun q => nomatch q) | exact ne_sn j2 hI | exact ne_ns j2 hI | exact ne_sn hI j2 | exact ne_ns hI j2), j3.mono (LeT.delO hI), trAt_del j4 hI, j5, j6, j7, j8, j9⟩, gw, gf⟩
theorem r_sliceZ (S : St w z B H L O m s) {value slice : Expr} {l : Addr} {vs ws : List Value} {vl vu vk : Value} {lo hi st : Option Int} {ops : List Value} {Q : Value → Shared → Prop} (h : z.heap.IsList l vs.toArray) (h1 : IsPart vl lo) (h2 : IsPart vu hi) (h3 : IsPart vk st)
    (e : slicePick vs.toArray lo hi st = ws.toArray) (hst : st ≠ some 0) (hz : vs.length ≤ sizeLine)
    (q : ∀ l' s', St w z B (H.set l' (.lst ws)) L O m s' → H l' = none → B.get? l' = none → Q (.ref l') s')
    (hs : subscripted slice false (.ref l) (.ref s.heap.objs.size) = operate ops (getItem (.ref l) (.ref s.heap.objs.size))) (ht : ∀ r, letTemporaryGo value (.ref l) r = pure ()) :
    wpAny (model prog w) A (subscriptTail value slice (.ref l) (.ref s.heap.objs.size)) Q E { s with heap := s.heap.push { cls := .type "slice", data := .fields #[vl, vu, vk] } } := by
  refine slice_list3 S.fr all_news (Heap.IsList.at h fun o e => S.zkeep _ o e) h1 h2 h3 hst (fun h' F' N' => ?_) hs ht (by simpa using hz)
  rw [e] at N'
  refine op_AA (S.new_uni (t := s.toks) (o := .lst ws) (Heap.get?_none_of_le (Nat.le_succ _)) F' N' ⟨_, rfl⟩) fun x y v => ?_
  exact q _ _ x y v
theorem law_head (S : St w z B H L O m s) (G : Gd w z) {Q : Flow → Shared → Prop} (hA : Rm 50 A) {a : Addr} {cd : Value} {l : Addr} {vs : List Value} {ns : List Int} (hL : z.heap.IsList l vs.toArray) (hI : IntsAre vs ns) (hz : ns.length ≤ 100) (g1 : m "script" = some (.ref l))
    (q : ∀ H' m' s' lc ys cs fi tfi, IntsAre ys cs → cs.length ≤ 8 → H' lc = some (.lst ys) → m' "cells" = some (.ref lc) → m' "first" = some (.int fi tfi) → St w z B H' L O m' s' → wpAny (model prog w) A (execs (lawD.1.body.drop 2) (lawEnv L a cd)) Q E s') :
    wpAny (model prog w) A (execs lawD.1.body (lawEnv L a cd)) Q E s := by
  have hvl := ints_len hI
  show wpAny _ _ (execs (_ :: _ :: lawD.1.body.drop 2) _) _ _ _
  refine r_stmt S (fun H' m' => ∃ lc ys, IntsAre ys (ns.take 8) ∧ H' lc = some (.lst ys) ∧ m' "cells" = some (.ref lc)) ?_ ?_
  · repeat walk1
    rename St _ _ _ _ _ _ _ _ => S1
    refine r_sliceZ (ws := vs.take 8) (lo := none) (hi := some ((8 : Nat) : Int)) (st := none) S1 hL .none (.int _ _) .none (pick_upto _ _) (by simp) (by rw [sizeLine_eq]; lia) (fun X s2 S2 nX bX => ?_) (by with_unfolding_all rfl) (by intro _; with_unfolding_all rfl)
    clear S1
    have hIt : IntsAre (vs.take 8) (ns.take 8) := by
      clear S2 nX
      have : ∀ (k : Nat) (vs : List Value) (ns : List Int), IntsAre vs ns → IntsAre (vs.take k) (ns.take k) := by
        intro k vs ns h
        induction h generalizing k with
        | nil => simp; exact .nil
        | cons x t _ ih => cases k with
          | zero => exact .nil
          | succ k => exact .cons _ _ (ih k)
      exact this 8 vs ns hI
    have hlX : (vs.take 8).length ≤ 10000 := by simp; lia
    refine r_compL hA.1 (fun i ys H1 => IntsAre ys ((ns.take 8).take i) ∧ Le (H.set X (.lst (vs.take 8))) H1) S2 set_self hlX ⟨.nil, Le.rfl⟩ (by decide) rfl (fun i ys H1 h => h.2 _ _ set_self) ?_ (fun y p e => by cases e; exact ⟨rfl, rfl, rfl⟩) ?_
    · intro C D I B'' i v ys H1 m1 s3 E'' hBB hv hp13 hI' hD hne hBI hBD S3
      refine ce fun gl => ?_
      obtain ⟨f1, f2⟩ := hp13
      refine op_EEA (ints_get hIt hv) fun x tx ek1 hx => ?_
      subst ek1
      refine gl ?_; clear gl
      clear S2
      refine r_asgName S3 (fun s4 S4 => ?_)
      refine wpAny_tests_nil ?_
      rw [if_pos rfl]
      clear S3
      repeat walk1
      rename St _ _ _ _ _ _ _ _ => S5
      refine mk_EEAAAA _ _ S5 (set_ne set_self (Ne.symm hne)) set_self ?_ (le_turn hI' hD Le.rfl hne |> f2.trans)
      rw [List.take_add_one, hx]
      exact f1.append (.cons _ _ .nil)
    · intro D ys H1 s3 hp4 hD hDB S3
      obtain ⟨f1, f2⟩ := hp4
      rw [List.take_of_length_le (by simp; lia)] at f1
      dsimp only at S3 ⊢
      exact mk_AEEAEEAA rfl _ _ S3 D ys f1 set_self (by walk_at "hname")
  intro H1 m1 s1 S1 hp4
  refine op_EEAA hp4 fun lc ys f1 f2 f3 => ?_
  try clear hp4
  clear S
  have hcl : (ns.take 8).length ≤ 8 := by simp; lia
  generalize ns.take 8 = cs at *
  refine r_stmt S1 (fun H' m' => H' lc = some (.lst ys) ∧ m' "cells" = some (.ref lc) ∧ ∃ fi tfi, m' "first" = some (.int fi tfi)) ?_ ?_
  · refine hq fun Q66 k66 => ?_
    repeat walk1
    rename H1 _ = none => nD
    rename St _ _ _ _ _ _ _ _ => S2
    refine r_neD (d := .list (cs.map Dat.int)) (e := .list []) S2 hA (.list (set_new f2 nD) (ints_dats f1)) (.list set_self .nil) (ints_ok _) rfl (fun he => ?_) (fun he => ?_)
    · replace S2 := S2.weaken (Le.set nD)
      repeat walk1
      refine k66 _ _ ?_
      exact mk_AEEAAAEE rfl _ _ (by assumption) f2 (by walk_at "hname") _ _ (by walk_at "hname")
    · replace S2 := S2.weaken (Le.set nD)
      obtain ⟨c, cr, rfl⟩ : ∃ c cr, cs = c :: cr := by
        cases cs with
        | nil => exact absurd rfl he
        | cons c cr => exact ⟨c, cr, rfl⟩
      obtain ⟨tc, hy0⟩ := ints_at f1 (i := 0) (x := c) rfl
      have hyz : ys.length ≤ sizeLine := by rw [sizeLine_eq, ints_len f1]; (refine Nat.le_trans (by with_reducible assumption) ?_; exact Nat.le_of_ble_eq_true rfl)
      repeat walk1
      refine k66 _ _ ?_
      exact mk_AEEAAAEE rfl _ _ (by assumption) f2 (by walk_at "hname") _ _ (by walk_at "hname")
  intro H2 m2 s2 S2 hp4
  refine op_AAEE hp4 fun e1 e2 fi tfi e3 => ?_
  try clear hp4
  exact q _ _ _ _ _ _ _ _ f1 hcl e1 e2 e3 S2
end

section
variable {prog : Program} {w : World} {A : Around} {E : Value → Shared → Prop} {z s : Shared} {B : Heap} {H : AH} {L : Addr} {O : List Addr} {m : Str → Option Value} {env : Env}
theorem law_start (S : St w z B H L O m s) (G : Gd w z) {Q : Flow → Shared → Prop} (hA : Rm 50 A) {a : Addr} {cd : Value} {lc : Addr} {ys : List Value} {fi : Int} {tfi : Tok} (hc : H lc = some (.lst ys)) (g1 : m "cells" = some (.ref lc)) (g2 : m "first" = some (.int fi tfi))
    (q : ∀ H' m' s' d r, LawJ prog w d r fi tfi 1 H' m' → B.get? d = none → H' lc = some (.lst ys) → m' "cells" = some (.ref lc) → St w z B H' L O m' s' → wpAny (model prog w) A (execs (lawD.1.body.drop 5) (lawEnv L a cd)) Q E s') :
    wpAny (model prog w) A (execs (lawD.1.body.drop 2) (lawEnv L a cd)) Q E s := by
  have b1 : 0 ≤ fi.fmod 24 := Int.fmod_nonneg_of_pos _ (by decide)
  have b2 : fi.fmod 24 < 24 := Int.fmod_lt_of_pos _ (by decide)
  have b3 : 0 ≤ (fi.fdiv 24).fmod 4 := Int.fmod_nonneg_of_pos _ (by decide)
  show wpAny _ _ (execs (_ :: _ :: _ :: lawD.1.body.drop 5) _) _ _ _
  refine r_stmt S (fun H' m' => Le H H' ∧ ∃ d r l a0 t0 t1 ta tf, B.get? d = none ∧ H' d = some (dct prog w (wKv r (1 + (fi.fdiv 24).fmod 4) ta l 1 tf)) ∧ H' l = some (.lst [.ref a0]) ∧ H' a0 = some (.tup [.int 0 t0, .int (1 + fi.fmod 24) t1]) ∧ m' = upd m "w" (.ref d)) ?_ ?_
  · refine hq fun Q10 k10 => ?_
    repeat walk1
    rename St _ _ _ _ _ _ _ _ => S5
    rename AH.set (AH.set H _ _) _ _ _ = none => nL
    rename AH.set H _ _ _ = none => nT
    rename H _ = none => nD
    refine mk_EEAAAAA _ _ S5 (set_new (set_new set_self nT) nL) (by assumption) rfl (of_decide_eq_true (by rfl)) (fun s6 S6 => ?_)
    clear S5
    repeat walk1
    refine k10 _ _ ?_
    rename St _ _ _ _ _ _ _ _ => S7
    exact mk_AEEAAEEEEEEEEAAAA rfl _ _ S7 (fun b o e => set_ne (set_new (set_new (set_new e nD) nT) nL) (Ne.symm (ne_of_none_some nD e))) _ _ _ _ _ _ _ _ (by assumption) set_self (set_ne set_self (ne_of_none_some nL (set_new set_self nT))) (set_ne (set_new set_self nL) (ne_of_none_some nT set_self)) rfl
  intro H1 _ s1 S1 hp4
  refine op_AEEEEEEEEAAAA hp4 fun k1 d r l a0 t0 t1 ta tf bd i1 i2 i3 ek1 => ?_
  try clear hp4
  subst ek1
  clear S
  refine r_stmt S1 (fun H' m' => Le H1 H' ∧ ∃ T vT, H' T = some (.tup vT) ∧ (∃ t2 t3, vT = if r then [.int (1 + fi.fmod 24) t2, .int (1 + (fi.fdiv 24).fmod 4) t3] else [.int (1 + (fi.fdiv 24).fmod 4) t3, .int (1 + fi.fmod 24) t2]) ∧ m' = upd (upd m "w" (.ref d)) "sizes" (.ref T)) ?_ ?_
  · cases r
    all_goals
      refine hq fun Q28 k28 => ?_
      repeat walk1
      refine k28 _ _ ?_
      rename H1 _ = none => nT
      rename St _ _ _ _ _ _ _ _ => S5
      exact mk_AEEAAEEAA rfl _ _ S5 (Le.set nT) _ _ set_self ⟨_, _, rfl⟩ rfl
  intro H2 _ s2 S2 hp4
  refine op_AEEAA hp4 fun k2 T vT e1 hq2 ek3 => ?_
  try clear hp4
  refine op_EE hq2 fun t2 t3 e2 => ?_
  try clear hq2
  subst ek3
  clear S1
  refine r_stmt S2 (fun H' m' => Le H2 H' ∧ ∃ lf : Lf, LeafAt H' lf ∧ lf.dat = ((if r then 1 + fi.fmod 24 else 1 + (fi.fdiv 24).fmod 4), (if r then 1 + (fi.fdiv 24).fmod 4 else 1 + fi.fmod 24), 0, 0, 0) ∧ m' = upd (upd (upd m "w" (.ref d)) "sizes" (.ref T)) "root" (.ref lf.a)) ?_ ?_
  · cases r
    all_goals
      simp only [Bool.false_eq_true, if_false, if_true] at e2
      subst e2
      refine hq fun Q44 k44 => ?_
      repeat walk1
      rename St _ _ _ _ _ _ _ _ => S3
      refine d_leaf S3 G (hA.lo rfl) fun lf s4 H3 k3 la ld fr S4 => ?_
      clear S3
      repeat walk1
      refine k44 _ _ ?_
      exact mk_AEEAAEAA rfl _ _ (by assumption) k3 lf la (by simpa using ld) rfl
  intro H3 _ s3 S3 hp4
  refine op_AEAA hp4 fun k3 lf la ld ek4 => ?_
  try clear hp4
  subst ek4
  clear S2
  have k13 := k2.trans k3
  simp only [Lf.dat, Prod.mk.injEq] at ld
  refine op_AAAA ld fun l1 l2 l3 l4 l5 => ?_
  try clear ld
  have hs : lf.side r = 1 + fi.fmod 24 := by cases r <;> simp [Lf.side, l1, l2]
  have hs' : lf.side (!r) = 1 + (fi.fdiv 24).fmod 4 := by cases r <;> simp [Lf.side, l1, l2]
  refine q _ _ _ d r ⟨⟨.leaf lf, l, [(0, 1 + fi.fmod 24)], 1 + (fi.fdiv 24).fmod 4, 1, [.ref a0], ta, tf, k13 _ _ i1, k13 _ _ i2, .cons (k13 _ _ i3) .nil, la, ⟨by simp [lotOf, hs, l5], hs', l3, l4⟩, ⟨by simp, ?_, ?_, by simp, by simp, ?_⟩, by decide, by omega, by walk_at "hname"⟩, by walk_at "hname", by walk_at "hname"⟩ bd ((k1.trans k13) _ _ hc) (by walk_at "hname") S3
  · intro x hx; simp at hx; subst hx; dsimp only; lia
  · intro x hx; simp at hx; lia
  · simp [total]; lia
end

section
variable {prog : Program} {w : World} {A : Around} {E : Value → Shared → Prop} {z s : Shared} {B : Heap} {H : AH} {L : Addr} {O : List Addr} {m : Str → Option Value} {env : Env}
theorem law_end (S : St w z B H L O m s) (G : Gd w z) {Q : Flow → Shared → Prop} (hA : Rm 50 A) {a : Addr} {cd : Value} {d : Addr} {r : Bool} {fi : Int} {tfi : Tok} {n : Nat} (J : LawJ prog w d r fi tfi n H m) (hn : n ≤ 20)
    (q : ∀ H' m' s', St w z B H' L O m' s' → Q (.ret (.bool true)) s') :
    wpAny (model prog w) A (execs (lawD.1.body.drop 6) (lawEnv L a cd)) Q E s := by
  obtain ⟨⟨t, l, lot, ac, f, vs, ta, tf, j1, j2, j3, j4, j5, j6, j7, j8, j9⟩, gw, gf⟩ := J
  have b1 : 0 ≤ (fi.fdiv 7).fmod 5 := Int.fmod_nonneg_of_pos _ (by decide)
  have b2 : (fi.fdiv 7).fmod 5 < 5 := Int.fmod_lt_of_pos _ (by decide)
  have hp : ∀ x ∈ t.ls.map (·.p), x ≠ 99 := fun x hx => by
    have e : t.ls.map (·.p) = lot.map (·.1) := by rw [← row_lot j5]; simp [lotOf]
    rw [e] at hx
    have := j6.lt x hx
    lia
  show wpAny _ _ (execs [_, _] _) _ _ _
  refine r_stmt S (fun H' m' => Le H H' ∧ m = m') ?_ ?_
  · refine hq fun Q15 k15 => ?_
    repeat walk1
    rename St _ _ _ _ _ _ _ _ => S1
    refine d_splitNone S1 G (hA.lo rfl) j4 hp fun s2 S2 => ?_
    clear S1
    repeat walk1
    rename St _ _ _ _ _ _ _ _ => S3
    refine d_closeNone S3 G (hA.lo rfl) j4 (.inl hp) fun s4 S4 => ?_
    clear S3
    repeat walk1
    rename St _ _ _ _ _ _ _ _ => S5
    refine d_resizeNone S5 G (hA.lo rfl) j4 hp fun s6 S6 => ?_
    clear S5
    repeat walk1
    rename St _ _ _ _ _ _ _ _ => S7
    rename AH.set H _ _ _ = none => n2
    rename H _ = none => n1
    refine r_neD S7 hA (.list (set_new set_self n2) (.cons .none (.cons .none (.cons .none .nil)))) (.list set_self (.cons .none (.cons .none (.cons .none .nil)))) rfl rfl (fun _ => ?_) (fun h => absurd rfl h)
    repeat walk1
    refine k15 _ _ ?_
    rename St _ _ _ _ _ _ _ _ => S8
    exact mk_AEEAA rfl _ _ S8 ((Le.set n1).trans (Le.set n2)) rfl
  intro H1 _ s1 S1 hp4
  obtain ⟨k1, rfl⟩ := hp4
  clear S
  have i1 := k1 _ _ j1
  repeat walk1
  rename St _ _ _ _ _ _ _ _ => S2
  obtain ⟨k, hk⟩ : ∃ k : Nat, 1 + (fi.fdiv 7).fmod 5 = (k : Int) := ⟨(1 + (fi.fdiv 7).fmod 5).toNat, by omega⟩
  exact d_sharesRight S2 G (hA.lo rfl) hk (by omega) (by omega) fun s3 S3 => q _ _ _ S3
theorem law_loop (S : St w z B H L O m s) (G : Gd w z) {Q : Flow → Shared → Prop} (hA : Rm 50 A) {a : Addr} {cd : Value} {lc : Addr} {ys : List Value} {cs : List Int} {d : Addr} {r : Bool} {fi : Int} {tfi : Tok} (hc : H lc = some (.lst ys)) (hy : IntsAre ys cs) (hz : cs.length ≤ 8) (g1 : m "cells" = some (.ref lc)) (bd : B.get? d = none) (J : LawJ prog w d r fi tfi 1 H m)
    (q : ∀ H' m' s' n, n ≤ 20 → LawJ prog w d r fi tfi n H' m' → St w z B H' L O m' s' → wpAny (model prog w) A (execs (lawD.1.body.drop 6) (lawEnv L a cd)) Q E s') :
    wpAny (model prog w) A (execs (lawD.1.body.drop 5) (lawEnv L a cd)) Q E s := by
  have hyl := ints_len hy
  show wpAny _ _ (execs (_ :: lawD.1.body.drop 6) _) _ _ _
  refine r_stmt S (fun H' m' => ∃ n, n ≤ 20 ∧ LawJ prog w d r fi tfi n H' m') ?_ ?_
  · obtain ⟨⟨t, l, lot, ac, f, vs, ta, tf, j1, _⟩, _⟩ := id J
    repeat walk1
    rename St _ _ _ _ _ _ _ _ => S1
    refine r_slice (ws := ys.drop 1) (lo := some ((1 : Nat) : Int)) (hi := none) (st := none) S1 hc (.int _ _) .none .none (pick_from _ _) (by simp) (by rw [sizeLine_eq]; lia) (fun X s2 S2 nX bX => ?_) (by with_unfolding_all rfl) (by intro _; with_unfolding_all rfl)
    clear S1
    have kX := Le.set (o := .lst (ys.drop 1)) nX
    have hdX : X ≠ d := ne_of_none_some nX j1
    refine r_forL hA.1 (fun i H1 m1 => LawJ prog w d r fi tfi (i + 1) H1 m1 ∧ LeX [d] (H.set X (.lst (ys.drop 1))) H1) S2 set_self ⟨J.mono kX rfl rfl rfl, fun _ _ _ e => e⟩ (fun i H1 m1 h => h.2 _ _ (nm1 hdX) set_self) ?_ ?_
    · intro i v H1 m1 s3 I E2 hv hp8 hI hBI S3
      obtain ⟨J1, lx⟩ := hp8
      clear S2
      have hi : i < 8 := by
        have := (List.getElem?_eq_some_iff.mp hv).1
        simp at this
        omega
      obtain ⟨x, tx, rfl⟩ : ∃ x tx, v = .int x tx := by
        rw [List.getElem?_drop] at hv
        refine op_EEA (ints_get hy hv) fun x t e _ => ?_
        exact mk_EE x t e
      refine r_asgName S3 (fun s4 S4 => ?_)
      clear S3
      have J2 := J1.mono (m' := upd m1 "number" (.int x tx)) (Le.set (o := lit X (i + 1)) hI) (upd_nb rfl rfl) (upd_nb rfl rfl) (upd_nb rfl rfl)
      have hdI : d ≠ I := by obtain ⟨⟨_, _, _, _, _, _, _, _, q1, _⟩, _⟩ := J1; exact Ne.symm (ne_of_none_some hI q1)
      refine law_turn S4 G (hA.lo rfl) bd (by lia) J2 upd_self fun H2 m2 s5 lx2 J3 S5 => ?_
      have hI2 : H2 I = some (lit X (i + 1)) := lx2 _ _ (nm1 (Ne.symm hdI)) set_self
      refine mk_EEAAA H2 m2 S5 hI2 (J3.del hI2 hdI) (fun b o hb e => ?_)
      have e1 := lx b o hb e
      exact del_ne (lx2 _ _ hb (set_new e1 hI)) (Ne.symm (ne_of_none_some hI e1))
    · intro H1 m1 s3 hp3 S3
      obtain ⟨J1, _⟩ := hp3
      exact mk_AEEAEA rfl _ _ S3 _ (by simp; lia) J1
  intro H1 m1 s1 S1 hp4
  refine op_EA hp4 fun n hn J1 => ?_
  try clear hp4
  exact q _ _ _ n hn J1 S1
theorem law_walk (S : St w z B H L O m s) (G : Gd w z) {Q : Flow → Shared → Prop} (hA : Rm 50 A) {a : Addr} {cd : Value} {l : Addr} {vs : List Value} {ns : List Int} (hL : z.heap.IsList l vs.toArray) (hI : IntsAre vs ns) (hz : ns.length ≤ 100) (g1 : m "script" = some (.ref l))
    (q : ∀ H' m' s', St w z B H' L O m' s' → Q (.ret (.bool true)) s') :
    wpAny (model prog w) A (execs lawD.1.body (lawEnv L a cd)) Q E s :=
  law_head S G hA hL hI hz g1 fun _ _ _ _ _ _ _ _ f1 f2 f3 f4 f5 S1 =>
    law_start S1 G hA f3 f4 f5 fun _ _ _ _ _ J bd f6 f7 S2 =>
      law_loop S2 G hA f6 f1 f2 f7 bd J fun _ _ _ n hn J2 S3 => law_end S3 G hA J2 hn q
end

theorem St.first {w : World} {s1 : Shared} {h : Heap} {t : Nat} {m : Str → Option Value} (F : Fr s1.heap s1.heap.objs.size h m) : St w s1 s1.heap (fun _ => none) s1.heap.objs.size [] m { s1 with heap := h, toks := t } :=
  ⟨F.ns, fun b o e => F.keep b o e, fun _ _ e => e, Heap.get?_none_of_le (Nat.le_refl _), rfl, (fun _ _ e => (nomatch e)), Nat.le_refl _, (fun _ h => (nomatch h)), ⟨rfl, rfl, rfl⟩⟩
theorem rm_first {env : Env} : Rm 50 (callerA.deeper env) := ⟨rfl, by rw [depth_deeper]; decide, by rw [units_deeper]; decide⟩
theorem law_holds : PySem.Challenge.rw_og0256_01.Holds := hd (by
  unfold hd.rec
  generalize hd.view_39 = VW
  k_go0; (all_goals try k_fold)
  rename Shared => s1
  rename (hd.heap_39 _).In _ => KX
  rename Top _ _ _ _ _ _ => TT
  rename Fr _ _ _ _ => F
  rename IntsAre _ _ => hI
  rename Heap.IsList _ _ _ => hL
  rename _ = #[] => hg
  rename ¬ _ < _ => hz
  refine wpAny_mono (Q := fun f s' => f = .ret (.bool true) ∧ s'.gens = #[] ∧ s'.os = s1.os ∧ ∃ L m, Fr s1.heap L s'.heap m) (E := fun _ _ => False) ?_ ?_ (fun _ _ h => h.elim)
  · exact law_walk (St.first F) ⟨KX, _, _, _, _, topRead_of TT⟩ rm_first hL hI (by omega) rfl fun H' m' s' S => ⟨rfl, S.same.1.trans hg, S.same.2.2, _, _, S.fr⟩
  · intro f s' hp2
    refine op_AAAEE hp2 fun ek1 h1 h2 L m h3 => ?_
    try clear hp2
    subst ek1
    exact goodW_bool h3 h1 (raisesW_false (by wrow_none_raised)) (postW_of (by wrow_shape) (by wtm_val) (by first | rfl | w_fin)) h2)

end Mine
theorem PySem.Challenge.cw_og0256_01_holds : PySem.Challenge.rw_og0256_01.Holds :=
  Mine.law_holds
