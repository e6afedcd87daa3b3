import PyProof.Rows.All
import Wide.All
import OpenK.AllK
import Wide.FinOn
import PySem.Challenge.RW_np0085_01
open PySem PySem.W PySem.Calls PyProof.Rows
set_option Elab.async false
set_option maxRecDepth 100000
set_option maxHeartbeats 8000000
set_option linter.unusedVariables false
set_option linter.unusedSimpArgs false
namespace Mine
-- the head
-- kf says nothing (what it takes is what it gives): it is here because k_head, on its way, lays the base heap as a constant, kf.heap_1, and that constant alone is used below
section kfs
local macro_rules | `(tactic| o_head $H) => `(tactic| (have hh := $H; assumption))
theorem kf (hz : PySem.Challenge.rw_np0085_01.row.Holds) : PySem.Challenge.rw_np0085_01.row.Holds := by
  k_head
end kfs
namespace Hd
noncomputable abbrev pw := PySem.Challenge.rw_np0085_01.row.prog
noncomputable abbrev lo : List PySem.Str := [Str.ofString "Face"]
noncomputable abbrev K := kf.heap_1
noncomputable def as : List Addr := [2, 3, 15, 17, 18, 20, 21, 29, 30, 32, 33, 35, 36, 37, 38, 39, 40, 41, 44, 46, 47, 49, 50, 51, 53, 54, 56, 57, 58, 60, 61, 63, 64, 65, 67, 68, 70, 71,
  79, 80, 82, 83, 85, 86, 87, 89, 90, 92, 93, 94, 96, 97, 99, 100, 101, 103, 104, 106, 107, 108, 110, 111, 113, 114, 115, 117, 118, 120, 121, 122, 124,
  125, 127, 128, 129, 131, 132, 134, 135, 136, 137, 138, 139, 140, 150, 152, 153, 155, 156, 157, 158, 159, 160, 161, 164, 166, 167, 169, 170, 171, 173,
  174, 176, 177, 178, 181, 182, 183, 186, 187, 188, 190, 191, 193, 194, 195, 198, 199, 207, 209, 210, 212, 213, 214, 216, 217, 219, 220, 221, 223, 224,
  226, 227, 228, 230, 231, 233, 234, 235, 237, 238, 240, 241, 242, 243, 244, 245, 246, 256, 258, 259, 261, 262, 263, 265, 266, 268, 269, 270, 272, 273,
  275, 276, 277, 278, 279, 280, 281, 284, 286, 287, 289, 290, 291, 293, 294, 296, 297, 298, 300, 301, 303, 304, 305, 307, 308, 310, 311, 312, 314, 315,
  317, 318, 319, 321, 322, 324, 325, 326, 328, 329, 331, 332, 333, 335, 336, 338, 339, 340, 342, 343, 345, 346, 347, 349, 350, 352, 353, 354, 356, 357,
  359, 360, 361, 363, 364, 366, 367, 368, 370, 371, 373, 374, 375, 377, 378, 380, 381, 382, 384, 385, 387, 388, 389, 391, 392, 394, 395, 396, 398, 399,
  401, 402, 403, 405, 406, 408, 409, 410, 412, 413, 415, 416, 424, 425, 427, 428, 430, 431, 432, 433, 434, 435, 436, 446, 448, 449, 451, 452, 453, 455,
  456, 458, 459, 460, 462, 463, 465, 466, 467, 468, 469, 470, 471, 474, 476, 477, 479, 480, 481, 483, 484, 486, 487, 488, 490, 491, 493, 494, 495, 497,
  498, 500, 501, 502, 504, 505, 507, 508, 509, 511, 512, 514, 515, 516, 518, 519, 521, 522, 523, 524, 532, 533, 534, 536, 537, 539, 540, 541, 542, 543,
  544, 545, 555, 557, 558, 560, 561, 562, 564, 565, 567, 568, 569, 572, 573, 574, 576, 577, 579, 580, 581, 583, 584, 586, 587, 588, 589, 590, 591, 592,
  595, 598, 599, 600, 602, 603, 605, 606, 607, 610, 611, 612, 614, 615, 617, 618, 619, 621, 622, 624, 625, 626, 629, 630]
theorem as_eq (P : Params) : as = (K P).map (·.1) := by kernel_rfl
noncomputable def hk : Hook := kHook K as as_eq
noncomputable def q : Program := view pw [0, 2, 3, 4, 5, 6, 7, 8, 9, 10, 11, 12, 13, 14, 15, 17, 18, 19, 21, 22, 23, 24, 25, 26, 27, 28, 30, 31, 32, 33, 34, 35, 36, 37, 39, 40, 41, 42, 43,
  44, 45, 46, 47, 48, 49, 50, 52, 53, 54, 55, 56, 57, 58, 59, 60, 62, 63, 64, 65, 66, 68, 69, 70, 71, 72, 73]
noncomputable abbrev S (x : String) : PySem.Str := Str.ofString x
noncomputable abbrev vs (x : String) (t : Nat) : Value := .str (Str.ofString x) t
noncomputable abbrev rf (a : Nat) : Value := .ref a
noncomputable abbrev en (P : Params) (x : String) (t : Nat) (v : Value) : DictEntry := ⟨PyData.keyHash P (Str.ofString x), .str (Str.ofString x) t, v⟩
noncomputable def st (i : Nat) : Stmt := (pw.main.body.drop i).headD (.Pass ⟨0, 0, 0, 0⟩)
noncomputable def sc (i j : Nat) : Stmt := match st i with
  | .ClassDef _ _ _ b _ _ _ _ _ _ _ => (b.drop j).headD (.Pass ⟨0, 0, 0, 0⟩)
  | s => s
noncomputable def fn (name qual : PySem.Str) (s : Stmt) (g : Nat) (d kd doc md : Value) (an : Option Addr) (cd ct : Value) (bl : Nat) : FuncData := match s with
  | .FunctionDef _ a b _ _ _ sp _ _ _ => ⟨name, qual, a, .stmts b, sp, g, [], d, kd, doc, md, an, cd, ct, bl⟩
  | _ => default
noncomputable def at_ (l : Frag) (n : Nat) : Obj := @List.rec (Nat × Obj) (fun _ => Obj) default (fun p _ r => @Bool.rec (fun _ => Obj) r p.2 (Nat.beq p.1 n)) l
noncomputable def k (a : Nat) (P : Params) : Obj := at_ (K P) a
noncomputable abbrev lf : Life := {}
noncomputable def x11_1 (P : Params) : Obj := ⟨(.type "tuple"), none, (.seq #[] 0), #[]⟩
noncomputable def x12_2 (P : Params) : Obj := ⟨.none, none, (.fields #[]), #[]⟩
noncomputable def x13_3 (P : Params) : Obj := ⟨(.type "code"), none, (.fields #[(vs "<module>" 182), (vs "<module>" 183), (vs "/claim/cut.py" 184), (.int 1 0), (.int
  0 0), (.int 0 0), (.int 0 0), (.int 0 0), (rf 11), (.bool false), (.int 181 0), (rf 12), .none, .none, .none, .none, (.int 185 0), (.int 1 0), (vs "/claim/cut.py"
  186)]), #[]⟩
noncomputable def x14_4 (P : Params) : Obj := ⟨(.type "frame"), none, .plain, #[some (rf 13), some (rf 3), some (rf 3), none, some (vs "__main__" 164), none, some (rf
  0)]⟩
noncomputable def x3_5 (P : Params) : Obj := ⟨(.type "dict"), none, (.dict #[en P "__name__" 165 (vs "emacs.glyphs" 194), en P "__doc__" 166 .none, en P "__package__"
  167 .none, en P "__loader__" 168 (.builtin "__main__.__loader__#opaque"), en P "__spec__" 169 .none, en P "__annotations__" 170 (rf 6), en P "__builtins__"
  171 (rf 4), en P "__file__" 173 (vs "/claim/cut.py" 172), en P "__cached__" 174 .none, en P "_wall" 193 (rf 21), en P "NOWHERE" 198 (.int (-1) 197), en
  P "NEWLINE" 200 (.int 10 199), en P "TAB" 202 (.int 9 201), en P "BLANK" 204 (.int 32 203), en P "DELETE" 206 (.int 127 205), en P "CARET" 208 (.int 94
  207), en P "BACKSLASH" 210 (.int 92 209), en P "DOLLAR" 212 (.int 36 211), en P "POINT" 214 (.int 46 213), en P "Options" 253 (rf 39), en P "is_control"
  260 (rf 50)] 21), #[]⟩
noncomputable def x12_6 (P : Params) : Obj := ⟨.none, none, (.fields #[(.int 1 0), (.int 0 0), (rf 20), (.int 14 0), (.int 0 0), (rf 27), (.int 22 0), (.int 0 0), (rf
  49)]), #[]⟩
noncomputable def x16_7 (P : Params) : Obj := ⟨.none, none, (.fields #[]), #[]⟩
noncomputable def x19_8 (P : Params) : Obj := ⟨.none, none, (.func (fn (S "_wall") (S "_wall") (st 0) 0 .none .none .none .none none .none .none 0)), #[]⟩
noncomputable def x22_9 (P : Params) : Obj := ⟨(.type "tuple"), none, (.seq #[] 0), #[]⟩
noncomputable def x23_10 (P : Params) : Obj := ⟨(.type "builtin_function_or_method"), none, (.fields #[(.builtin "type.__prepare__"), (.type "type")]), #[]⟩
noncomputable def x24_11 (P : Params) : Obj := ⟨(.type "dict"), none, (.dict #[en P "__module__" 222 (vs "emacs.glyphs" 194), en P "__qualname__" 224 (vs "Options" 223),
  en P "__firstlineno__" 226 (.int 14 225), en P "__init__" 240 (rf 36), en P "__static_attributes__" 246 (rf 37)] 5), #[]⟩
noncomputable def x25_12 (P : Params) : Obj := ⟨(.type "tuple"), none, (.seq #[] 0), #[]⟩
noncomputable def x26_13 (P : Params) : Obj := ⟨.none, none, (.fields #[(.int 16 0), (.int 4 0), (rf 35)]), #[]⟩
noncomputable def x27_14 (P : Params) : Obj := ⟨(.type "code"), none, (.fields #[(vs "Options" 217), (vs "Options" 218), (vs "/claim/cut.py" 219), (.int 14 0), (.int
  0 0), (.int 0 0), (.int 0 0), (.int 0 0), (rf 25), (.bool false), (.int 181 0), (rf 26), .none, .none, .none, .none, (.int 220 0), (.int 14 0), (vs "/claim/cut.py"
  221)]), #[]⟩
noncomputable def x28_15 (P : Params) : Obj := ⟨(.type "frame"), none, .plain, #[some (rf 27), some (rf 3), some (rf 24), none, some (vs "emacs.glyphs" 194), none, some
  (rf 0)]⟩
noncomputable def x31_16 (P : Params) : Obj := ⟨.none, none, (.fields #[]), #[]⟩
noncomputable def x34_17 (P : Params) : Obj := ⟨.none, none, (.func (fn (S "__init__") (S "Options.__init__") (sc 11 0) 0 .none .none .none .none none .none .none 0)),
  #[]⟩
noncomputable def x42_18 (P : Params) : Obj := ⟨(.type "super"), none, (.fields #[(rf 39), (rf 39), (rf 39)]), #[]⟩
noncomputable def x43_19 (P : Params) : Obj := ⟨(.type "builtin_function_or_method"), none, (.fields #[(.builtin "object.__init_subclass__"), (rf 39)]), #[]⟩
noncomputable def x45_20 (P : Params) : Obj := ⟨.none, none, (.fields #[]), #[]⟩
noncomputable def x48_21 (P : Params) : Obj := ⟨.none, none, (.func (fn (S "is_control") (S "is_control") (st 12) 0 .none .none .none .none none .none .none 0)), #[]⟩
noncomputable def x3_22 (P : Params) : Obj := ⟨(.type "dict"), none, (.dict #[en P "__name__" 165 (vs "emacs.views" 284), en P "__doc__" 166 .none, en P "__package__"
  167 .none, en P "__loader__" 168 (.builtin "__main__.__loader__#opaque"), en P "__spec__" 169 .none, en P "__annotations__" 170 (rf 6), en P "__builtins__"
  171 (rf 4), en P "__file__" 173 (vs "/claim/cut.py" 172), en P "__cached__" 174 .none, en P "_wall" 193 (rf 21), en P "NOWHERE" 198 (.int (-1) 197), en
  P "NEWLINE" 200 (.int 10 199), en P "TAB" 202 (.int 9 201), en P "BLANK" 204 (.int 32 203), en P "DELETE" 206 (.int 127 205), en P "CARET" 208 (.int 94
  207), en P "BACKSLASH" 210 (.int 92 209), en P "DOLLAR" 212 (.int 36 211), en P "POINT" 214 (.int 46 213), en P "Options" 253 (rf 39), en P "is_control"
  260 (rf 50), en P "is_raw" 267 (rf 57), en P "figures_of" 274 (rf 64), en P "shown_codes" 283 (rf 71), en P "SHOWN" 287 (.int 0 286), en P "POINTS" 289
  (.int 2 288)] 26), #[]⟩
noncomputable def x12_23 (P : Params) : Obj := ⟨.none, none, (.fields #[(.int 1 0), (.int 0 0), (rf 20), (.int 14 0), (.int 0 0), (rf 27), (.int 22 0), (.int 0 0), (rf
  49), (.int 24 0), (.int 0 0), (rf 56), (.int 26 0), (.int 0 0), (rf 63), (.int 28 0), (.int 0 0), (rf 70)]), #[]⟩
noncomputable def x52_24 (P : Params) : Obj := ⟨.none, none, (.fields #[]), #[]⟩
noncomputable def x55_25 (P : Params) : Obj := ⟨.none, none, (.func (fn (S "is_raw") (S "is_raw") (st 13) 0 .none .none .none .none none .none .none 0)), #[]⟩
noncomputable def x59_26 (P : Params) : Obj := ⟨.none, none, (.fields #[]), #[]⟩
noncomputable def x62_27 (P : Params) : Obj := ⟨.none, none, (.func (fn (S "figures_of") (S "figures_of") (st 14) 0 .none .none .none .none none .none .none 0)), #[]⟩
noncomputable def x66_28 (P : Params) : Obj := ⟨.none, none, (.fields #[]), #[]⟩
noncomputable def x69_29 (P : Params) : Obj := ⟨.none, none, (.func (fn (S "shown_codes") (S "shown_codes") (st 15) 0 .none .none .none .none none .none .none 0)), #[]⟩
noncomputable def x3_30 (P : Params) : Obj := ⟨(.type "dict"), none, (.dict #[en P "__name__" 165 (vs "emacs.views" 284), en P "__doc__" 166 .none, en P "__package__"
  167 .none, en P "__loader__" 168 (.builtin "__main__.__loader__#opaque"), en P "__spec__" 169 .none, en P "__annotations__" 170 (rf 6), en P "__builtins__"
  171 (rf 4), en P "__file__" 173 (vs "/claim/cut.py" 172), en P "__cached__" 174 .none, en P "_wall" 193 (rf 21), en P "NOWHERE" 198 (.int (-1) 197), en
  P "NEWLINE" 200 (.int 10 199), en P "TAB" 202 (.int 9 201), en P "BLANK" 204 (.int 32 203), en P "DELETE" 206 (.int 127 205), en P "CARET" 208 (.int 94
  207), en P "BACKSLASH" 210 (.int 92 209), en P "DOLLAR" 212 (.int 36 211), en P "POINT" 214 (.int 46 213), en P "Options" 253 (rf 39), en P "is_control"
  260 (rf 50), en P "is_raw" 267 (rf 57), en P "figures_of" 274 (rf 64), en P "shown_codes" 283 (rf 71), en P "SHOWN" 287 (.int 0 286), en P "POINTS" 289
  (.int 2 288), en P "View" 375 (rf 138)] 27), #[]⟩
noncomputable def x12_31 (P : Params) : Obj := ⟨.none, none, (.fields #[(.int 1 0), (.int 0 0), (rf 20), (.int 14 0), (.int 0 0), (rf 27), (.int 22 0), (.int 0 0), (rf
  49), (.int 24 0), (.int 0 0), (rf 56), (.int 26 0), (.int 0 0), (rf 63), (.int 28 0), (.int 0 0), (rf 70), (.int 41 0), (.int 0 0), (rf 77)]), #[]⟩
noncomputable def x72_32 (P : Params) : Obj := ⟨(.type "tuple"), none, (.seq #[] 0), #[]⟩
noncomputable def x73_33 (P : Params) : Obj := ⟨(.type "builtin_function_or_method"), none, (.fields #[(.builtin "type.__prepare__"), (.type "type")]), #[]⟩
noncomputable def x74_34 (P : Params) : Obj := ⟨(.type "dict"), none, (.dict #[en P "__module__" 297 (vs "emacs.views" 284), en P "__qualname__" 299 (vs "View" 298),
  en P "__firstlineno__" 301 (.int 41 300), en P "__init__" 311 (rf 86), en P "begin" 318 (rf 93), en P "end" 325 (rf 100), en P "code_at" 333 (rf 107), en
  P "faces_at" 341 (rf 114), en P "hidden_at" 349 (rf 121), en P "shown_at" 357 (rf 128), en P "strings_at" 365 (rf 135), en P "__static_attributes__" 368
  (rf 136)] 12), #[]⟩
noncomputable def x75_35 (P : Params) : Obj := ⟨(.type "tuple"), none, (.seq #[] 0), #[]⟩
noncomputable def x76_36 (P : Params) : Obj := ⟨.none, none, (.fields #[(.int 43 0), (.int 4 0), (rf 85), (.int 47 0), (.int 4 0), (rf 92), (.int 50 0), (.int 4 0), (rf
  99), (.int 53 0), (.int 4 0), (rf 106), (.int 56 0), (.int 4 0), (rf 113), (.int 59 0), (.int 4 0), (rf 120), (.int 62 0), (.int 4 0), (rf 127), (.int 65
  0), (.int 4 0), (rf 134)]), #[]⟩
noncomputable def x77_37 (P : Params) : Obj := ⟨(.type "code"), none, (.fields #[(vs "View" 292), (vs "View" 293), (vs "/claim/cut.py" 294), (.int 41 0), (.int 0 0),
  (.int 0 0), (.int 0 0), (.int 0 0), (rf 75), (.bool false), (.int 181 0), (rf 76), .none, .none, .none, .none, (.int 295 0), (.int 41 0), (vs "/claim/cut.py"
  296)]), #[]⟩
noncomputable def x78_38 (P : Params) : Obj := ⟨(.type "frame"), none, .plain, #[some (rf 77), some (rf 3), some (rf 74), none, some (vs "emacs.views" 284), none, some
  (rf 0)]⟩
noncomputable def x81_39 (P : Params) : Obj := ⟨.none, none, (.fields #[]), #[]⟩
noncomputable def x84_40 (P : Params) : Obj := ⟨.none, none, (.func (fn (S "__init__") (S "View.__init__") (sc 19 0) 0 .none .none .none .none none .none .none 0)), #[]⟩
noncomputable def x88_41 (P : Params) : Obj := ⟨.none, none, (.fields #[]), #[]⟩
noncomputable def x91_42 (P : Params) : Obj := ⟨.none, none, (.func (fn (S "begin") (S "View.begin") (sc 19 1) 0 .none .none .none .none none .none .none 0)), #[]⟩
noncomputable def x95_43 (P : Params) : Obj := ⟨.none, none, (.fields #[]), #[]⟩
noncomputable def x98_44 (P : Params) : Obj := ⟨.none, none, (.func (fn (S "end") (S "View.end") (sc 19 2) 0 .none .none .none .none none .none .none 0)), #[]⟩
noncomputable def x102_45 (P : Params) : Obj := ⟨.none, none, (.fields #[]), #[]⟩
noncomputable def x105_46 (P : Params) : Obj := ⟨.none, none, (.func (fn (S "code_at") (S "View.code_at") (sc 19 3) 0 .none .none .none .none none .none .none 0)), #[]⟩
noncomputable def x109_47 (P : Params) : Obj := ⟨.none, none, (.fields #[]), #[]⟩
noncomputable def x112_48 (P : Params) : Obj := ⟨.none, none, (.func (fn (S "faces_at") (S "View.faces_at") (sc 19 4) 0 .none .none .none .none none .none .none 0)),
  #[]⟩
noncomputable def x116_49 (P : Params) : Obj := ⟨.none, none, (.fields #[]), #[]⟩
noncomputable def x119_50 (P : Params) : Obj := ⟨.none, none, (.func (fn (S "hidden_at") (S "View.hidden_at") (sc 19 5) 0 .none .none .none .none none .none .none 0)),
  #[]⟩
noncomputable def x123_51 (P : Params) : Obj := ⟨.none, none, (.fields #[]), #[]⟩
noncomputable def x126_52 (P : Params) : Obj := ⟨.none, none, (.func (fn (S "shown_at") (S "View.shown_at") (sc 19 6) 0 .none .none .none .none none .none .none 0)),
  #[]⟩
noncomputable def x130_53 (P : Params) : Obj := ⟨.none, none, (.fields #[]), #[]⟩
noncomputable def x133_54 (P : Params) : Obj := ⟨.none, none, (.func (fn (S "strings_at") (S "View.strings_at") (sc 19 7) 0 .none .none .none .none none .none .none 0)),
  #[]⟩
noncomputable def x141_55 (P : Params) : Obj := ⟨(.type "super"), none, (.fields #[(rf 138), (rf 138), (rf 138)]), #[]⟩
noncomputable def x142_56 (P : Params) : Obj := ⟨(.type "builtin_function_or_method"), none, (.fields #[(.builtin "object.__init_subclass__"), (rf 138)]), #[]⟩
noncomputable def x3_57 (P : Params) : Obj := ⟨(.type "dict"), none, (.dict #[en P "__name__" 165 (vs "emacs.signs" 376), en P "__doc__" 166 .none, en P "__package__"
  167 .none, en P "__loader__" 168 (.builtin "__main__.__loader__#opaque"), en P "__spec__" 169 .none, en P "__annotations__" 170 (rf 6), en P "__builtins__"
  171 (rf 4), en P "__file__" 173 (vs "/claim/cut.py" 172), en P "__cached__" 174 .none, en P "_wall" 193 (rf 21), en P "NOWHERE" 198 (.int (-1) 197), en
  P "NEWLINE" 200 (.int 10 199), en P "TAB" 202 (.int 9 201), en P "BLANK" 204 (.int 32 203), en P "DELETE" 206 (.int 127 205), en P "CARET" 208 (.int 94
  207), en P "BACKSLASH" 210 (.int 92 209), en P "DOLLAR" 212 (.int 36 211), en P "POINT" 214 (.int 46 213), en P "Options" 253 (rf 39), en P "is_control"
  260 (rf 50), en P "is_raw" 267 (rf 57), en P "figures_of" 274 (rf 64), en P "shown_codes" 283 (rf 71), en P "SHOWN" 287 (.int 0 286), en P "POINTS" 289
  (.int 2 288), en P "View" 375 (rf 138), en P "Signs" 410 (rf 159), en P "is_break" 418 (rf 170), en P "hidden_end" 426 (rf 177), en P "string_signs" 432
  (rf 182), en P "string_count" 438 (rf 187), en P "hidden_signs" 450 (rf 194)] 33), #[]⟩
noncomputable def x12_58 (P : Params) : Obj := ⟨.none, none, (.fields #[(.int 1 0), (.int 0 0), (rf 20), (.int 14 0), (.int 0 0), (rf 27), (.int 22 0), (.int 0 0), (rf
  49), (.int 24 0), (.int 0 0), (rf 56), (.int 26 0), (.int 0 0), (rf 63), (.int 28 0), (.int 0 0), (rf 70), (.int 41 0), (.int 0 0), (rf 77), (.int 68 0),
  (.int 0 0), (rf 148), (.int 74 0), (.int 0 0), (rf 169), (.int 76 0), (.int 0 0), (rf 176), (.int 80 0), (.int 0 0), (rf 181), (.int 86 0), (.int 0 0),
  (rf 186), (.int 88 0), (.int 0 0), (rf 193)]), #[]⟩
noncomputable def x143_59 (P : Params) : Obj := ⟨(.type "tuple"), none, (.seq #[] 0), #[]⟩
noncomputable def x144_60 (P : Params) : Obj := ⟨(.type "builtin_function_or_method"), none, (.fields #[(.builtin "type.__prepare__"), (.type "type")]), #[]⟩
noncomputable def x145_61 (P : Params) : Obj := ⟨(.type "dict"), none, (.dict #[en P "__module__" 385 (vs "emacs.signs" 376), en P "__qualname__" 387 (vs "Signs" 386),
  en P "__firstlineno__" 389 (.int 68 388), en P "__init__" 399 (rf 156), en P "__static_attributes__" 403 (rf 157)] 5), #[]⟩
noncomputable def x146_62 (P : Params) : Obj := ⟨(.type "tuple"), none, (.seq #[] 0), #[]⟩
noncomputable def x147_63 (P : Params) : Obj := ⟨.none, none, (.fields #[(.int 70 0), (.int 4 0), (rf 155)]), #[]⟩
noncomputable def x148_64 (P : Params) : Obj := ⟨(.type "code"), none, (.fields #[(vs "Signs" 380), (vs "Signs" 381), (vs "/claim/cut.py" 382), (.int 68 0), (.int 0 0),
  (.int 0 0), (.int 0 0), (.int 0 0), (rf 146), (.bool false), (.int 181 0), (rf 147), .none, .none, .none, .none, (.int 383 0), (.int 68 0), (vs "/claim/cut.py"
  384)]), #[]⟩
noncomputable def x149_65 (P : Params) : Obj := ⟨(.type "frame"), none, .plain, #[some (rf 148), some (rf 3), some (rf 145), none, some (vs "emacs.signs" 376), none,
  some (rf 0)]⟩
noncomputable def x151_66 (P : Params) : Obj := ⟨.none, none, (.fields #[]), #[]⟩
noncomputable def x154_67 (P : Params) : Obj := ⟨.none, none, (.func (fn (S "__init__") (S "Signs.__init__") (sc 21 0) 0 .none .none .none .none none .none .none 0)),
  #[]⟩
noncomputable def x162_68 (P : Params) : Obj := ⟨(.type "super"), none, (.fields #[(rf 159), (rf 159), (rf 159)]), #[]⟩
noncomputable def x163_69 (P : Params) : Obj := ⟨(.type "builtin_function_or_method"), none, (.fields #[(.builtin "object.__init_subclass__"), (rf 159)]), #[]⟩
noncomputable def x165_70 (P : Params) : Obj := ⟨.none, none, (.fields #[]), #[]⟩
noncomputable def x168_71 (P : Params) : Obj := ⟨.none, none, (.func (fn (S "is_break") (S "is_break") (st 22) 0 .none .none .none .none none .none .none 0)), #[]⟩
noncomputable def x172_72 (P : Params) : Obj := ⟨.none, none, (.fields #[]), #[]⟩
noncomputable def x175_73 (P : Params) : Obj := ⟨.none, none, (.func (fn (S "hidden_end") (S "hidden_end") (st 23) 0 .none .none .none .none none .none .none 0)), #[]⟩
noncomputable def x179_74 (P : Params) : Obj := ⟨.none, none, (.fields #[]), #[]⟩
noncomputable def x180_75 (P : Params) : Obj := ⟨.none, none, (.func (fn (S "string_signs") (S "string_signs") (st 24) 0 .none .none .none .none none .none .none 0)),
  #[]⟩
noncomputable def x184_76 (P : Params) : Obj := ⟨.none, none, (.fields #[]), #[]⟩
noncomputable def x185_77 (P : Params) : Obj := ⟨.none, none, (.func (fn (S "string_count") (S "string_count") (st 25) 0 .none .none .none .none none .none .none 0)),
  #[]⟩
noncomputable def x189_78 (P : Params) : Obj := ⟨.none, none, (.fields #[]), #[]⟩
noncomputable def x192_79 (P : Params) : Obj := ⟨.none, none, (.func (fn (S "hidden_signs") (S "hidden_signs") (st 26) 0 .none .none .none .none none .none .none 0)),
  #[]⟩
noncomputable def x3_80 (P : Params) : Obj := ⟨(.type "dict"), none, (.dict #[en P "__name__" 165 (vs "emacs.rows" 521), en P "__doc__" 166 .none, en P "__package__"
  167 .none, en P "__loader__" 168 (.builtin "__main__.__loader__#opaque"), en P "__spec__" 169 .none, en P "__annotations__" 170 (rf 6), en P "__builtins__"
  171 (rf 4), en P "__file__" 173 (vs "/claim/cut.py" 172), en P "__cached__" 174 .none, en P "_wall" 193 (rf 21), en P "NOWHERE" 198 (.int (-1) 197), en
  P "NEWLINE" 200 (.int 10 199), en P "TAB" 202 (.int 9 201), en P "BLANK" 204 (.int 32 203), en P "DELETE" 206 (.int 127 205), en P "CARET" 208 (.int 94
  207), en P "BACKSLASH" 210 (.int 92 209), en P "DOLLAR" 212 (.int 36 211), en P "POINT" 214 (.int 46 213), en P "Options" 253 (rf 39), en P "is_control"
  260 (rf 50), en P "is_raw" 267 (rf 57), en P "figures_of" 274 (rf 64), en P "shown_codes" 283 (rf 71), en P "SHOWN" 287 (.int 0 286), en P "POINTS" 289
  (.int 2 288), en P "View" 375 (rf 138), en P "Signs" 410 (rf 159), en P "is_break" 418 (rf 170), en P "hidden_end" 426 (rf 177), en P "string_signs" 432
  (rf 182), en P "string_count" 438 (rf 187), en P "hidden_signs" 450 (rf 194), en P "signs_at" 456 (rf 199), en P "Walk" 520 (rf 244)] 35), #[]⟩
noncomputable def x12_81 (P : Params) : Obj := ⟨.none, none, (.fields #[(.int 1 0), (.int 0 0), (rf 20), (.int 14 0), (.int 0 0), (rf 27), (.int 22 0), (.int 0 0), (rf
  49), (.int 24 0), (.int 0 0), (rf 56), (.int 26 0), (.int 0 0), (rf 63), (.int 28 0), (.int 0 0), (rf 70), (.int 41 0), (.int 0 0), (rf 77), (.int 68 0),
  (.int 0 0), (rf 148), (.int 74 0), (.int 0 0), (rf 169), (.int 76 0), (.int 0 0), (rf 176), (.int 80 0), (.int 0 0), (rf 181), (.int 86 0), (.int 0 0),
  (rf 186), (.int 88 0), (.int 0 0), (rf 193), (.int 94 0), (.int 0 0), (rf 198), (.int 107 0), (.int 0 0), (rf 205)]), #[]⟩
noncomputable def x196_82 (P : Params) : Obj := ⟨.none, none, (.fields #[]), #[]⟩
noncomputable def x197_83 (P : Params) : Obj := ⟨.none, none, (.func (fn (S "signs_at") (S "signs_at") (st 27) 0 .none .none .none .none none .none .none 0)), #[]⟩
noncomputable def x200_84 (P : Params) : Obj := ⟨(.type "tuple"), none, (.seq #[] 0), #[]⟩
noncomputable def x201_85 (P : Params) : Obj := ⟨(.type "builtin_function_or_method"), none, (.fields #[(.builtin "type.__prepare__"), (.type "type")]), #[]⟩
noncomputable def x202_86 (P : Params) : Obj := ⟨(.type "dict"), none, (.dict #[en P "__module__" 464 (vs "emacs.signs" 376), en P "__qualname__" 466 (vs "Walk" 465),
  en P "__firstlineno__" 468 (.int 107 467), en P "__init__" 478 (rf 213), en P "settle" 485 (rf 220), en P "sign" 492 (rf 227), en P "step" 499 (rf 234),
  en P "spot" 506 (rf 241), en P "__static_attributes__" 513 (rf 242)] 9), #[]⟩
noncomputable def x203_87 (P : Params) : Obj := ⟨(.type "tuple"), none, (.seq #[] 0), #[]⟩
noncomputable def x204_88 (P : Params) : Obj := ⟨.none, none, (.fields #[(.int 109 0), (.int 4 0), (rf 212), (.int 116 0), (.int 4 0), (rf 219), (.int 126 0), (.int 4
  0), (rf 226), (.int 129 0), (.int 4 0), (rf 233), (.int 132 0), (.int 4 0), (rf 240)]), #[]⟩
noncomputable def x205_89 (P : Params) : Obj := ⟨(.type "code"), none, (.fields #[(vs "Walk" 459), (vs "Walk" 460), (vs "/claim/cut.py" 461), (.int 107 0), (.int 0 0),
  (.int 0 0), (.int 0 0), (.int 0 0), (rf 203), (.bool false), (.int 181 0), (rf 204), .none, .none, .none, .none, (.int 462 0), (.int 107 0), (vs "/claim/cut.py"
  463)]), #[]⟩
noncomputable def x206_90 (P : Params) : Obj := ⟨(.type "frame"), none, .plain, #[some (rf 205), some (rf 3), some (rf 202), none, some (vs "emacs.signs" 376), none,
  some (rf 0)]⟩
noncomputable def x208_91 (P : Params) : Obj := ⟨.none, none, (.fields #[]), #[]⟩
noncomputable def x211_92 (P : Params) : Obj := ⟨.none, none, (.func (fn (S "__init__") (S "Walk.__init__") (sc 28 0) 0 .none .none .none .none none .none .none 0)),
  #[]⟩
noncomputable def x215_93 (P : Params) : Obj := ⟨.none, none, (.fields #[]), #[]⟩
noncomputable def x218_94 (P : Params) : Obj := ⟨.none, none, (.func (fn (S "settle") (S "Walk.settle") (sc 28 1) 0 .none .none .none .none none .none .none 0)), #[]⟩
noncomputable def x222_95 (P : Params) : Obj := ⟨.none, none, (.fields #[]), #[]⟩
noncomputable def x225_96 (P : Params) : Obj := ⟨.none, none, (.func (fn (S "sign") (S "Walk.sign") (sc 28 2) 0 .none .none .none .none none .none .none 0)), #[]⟩
noncomputable def x229_97 (P : Params) : Obj := ⟨.none, none, (.fields #[]), #[]⟩
noncomputable def x232_98 (P : Params) : Obj := ⟨.none, none, (.func (fn (S "step") (S "Walk.step") (sc 28 3) 0 .none .none .none .none none .none .none 0)), #[]⟩
noncomputable def x236_99 (P : Params) : Obj := ⟨.none, none, (.fields #[]), #[]⟩
noncomputable def x239_100 (P : Params) : Obj := ⟨.none, none, (.func (fn (S "spot") (S "Walk.spot") (sc 28 4) 0 .none .none .none .none none .none .none 0)), #[]⟩
noncomputable def x247_101 (P : Params) : Obj := ⟨(.type "super"), none, (.fields #[(rf 244), (rf 244), (rf 244)]), #[]⟩
noncomputable def x248_102 (P : Params) : Obj := ⟨(.type "builtin_function_or_method"), none, (.fields #[(.builtin "object.__init_subclass__"), (rf 244)]), #[]⟩
noncomputable def x3_103 (P : Params) : Obj := ⟨(.type "dict"), none, (.dict #[en P "__name__" 165 (vs "emacs.rows" 521), en P "__doc__" 166 .none, en P "__package__"
  167 .none, en P "__loader__" 168 (.builtin "__main__.__loader__#opaque"), en P "__spec__" 169 .none, en P "__annotations__" 170 (rf 6), en P "__builtins__"
  171 (rf 4), en P "__file__" 173 (vs "/claim/cut.py" 172), en P "__cached__" 174 .none, en P "_wall" 193 (rf 21), en P "NOWHERE" 198 (.int (-1) 197), en
  P "NEWLINE" 200 (.int 10 199), en P "TAB" 202 (.int 9 201), en P "BLANK" 204 (.int 32 203), en P "DELETE" 206 (.int 127 205), en P "CARET" 208 (.int 94
  207), en P "BACKSLASH" 210 (.int 92 209), en P "DOLLAR" 212 (.int 36 211), en P "POINT" 214 (.int 46 213), en P "Options" 253 (rf 39), en P "is_control"
  260 (rf 50), en P "is_raw" 267 (rf 57), en P "figures_of" 274 (rf 64), en P "shown_codes" 283 (rf 71), en P "SHOWN" 287 (.int 0 286), en P "POINTS" 289
  (.int 2 288), en P "View" 375 (rf 138), en P "Signs" 410 (rf 159), en P "is_break" 418 (rf 170), en P "hidden_end" 426 (rf 177), en P "string_signs" 432
  (rf 182), en P "string_count" 438 (rf 187), en P "hidden_signs" 450 (rf 194), en P "signs_at" 456 (rf 199), en P "Walk" 520 (rf 244), en P "Row" 580 (rf
  279), en P "put_sign" 590 (rf 290), en P "end_of_line" 600 (rf 297), en P "overflow" 614 (rf 304)] 39), #[]⟩
noncomputable def x12_104 (P : Params) : Obj := ⟨.none, none, (.fields #[(.int 1 0), (.int 0 0), (rf 20), (.int 14 0), (.int 0 0), (rf 27), (.int 22 0), (.int 0 0), (rf
  49), (.int 24 0), (.int 0 0), (rf 56), (.int 26 0), (.int 0 0), (rf 63), (.int 28 0), (.int 0 0), (rf 70), (.int 41 0), (.int 0 0), (rf 77), (.int 68 0),
  (.int 0 0), (rf 148), (.int 74 0), (.int 0 0), (rf 169), (.int 76 0), (.int 0 0), (rf 176), (.int 80 0), (.int 0 0), (rf 181), (.int 86 0), (.int 0 0),
  (rf 186), (.int 88 0), (.int 0 0), (rf 193), (.int 94 0), (.int 0 0), (rf 198), (.int 107 0), (.int 0 0), (rf 205), (.int 136 0), (.int 0 0), (rf 254),
  (.int 159 0), (.int 0 0), (rf 289), (.int 162 0), (.int 0 0), (rf 296), (.int 171 0), (.int 0 0), (rf 303)]), #[]⟩
noncomputable def x249_105 (P : Params) : Obj := ⟨(.type "tuple"), none, (.seq #[] 0), #[]⟩
noncomputable def x250_106 (P : Params) : Obj := ⟨(.type "builtin_function_or_method"), none, (.fields #[(.builtin "type.__prepare__"), (.type "type")]), #[]⟩
noncomputable def x251_107 (P : Params) : Obj := ⟨(.type "dict"), none, (.dict #[en P "__module__" 530 (vs "emacs.rows" 521), en P "__qualname__" 532 (vs "Row" 531),
  en P "__firstlineno__" 534 (.int 136 533), en P "__init__" 543 (rf 262), en P "stop" 552 (rf 269), en P "cut_back" 562 (rf 276), en P "__static_attributes__"
  573 (rf 277)] 7), #[]⟩
noncomputable def x252_108 (P : Params) : Obj := ⟨(.type "tuple"), none, (.seq #[] 0), #[]⟩
noncomputable def x253_109 (P : Params) : Obj := ⟨.none, none, (.fields #[(.int 138 0), (.int 4 0), (rf 261), (.int 150 0), (.int 4 0), (rf 268), (.int 155 0), (.int
  4 0), (rf 275)]), #[]⟩
noncomputable def x254_110 (P : Params) : Obj := ⟨(.type "code"), none, (.fields #[(vs "Row" 525), (vs "Row" 526), (vs "/claim/cut.py" 527), (.int 136 0), (.int 0 0),
  (.int 0 0), (.int 0 0), (.int 0 0), (rf 252), (.bool false), (.int 181 0), (rf 253), .none, .none, .none, .none, (.int 528 0), (.int 136 0), (vs "/claim/cut.py"
  529)]), #[]⟩
noncomputable def x255_111 (P : Params) : Obj := ⟨(.type "frame"), none, .plain, #[some (rf 254), some (rf 3), some (rf 251), none, some (vs "emacs.rows" 521), none,
  some (rf 0)]⟩
noncomputable def x257_112 (P : Params) : Obj := ⟨.none, none, (.fields #[]), #[]⟩
noncomputable def x260_113 (P : Params) : Obj := ⟨.none, none, (.func (fn (S "__init__") (S "Row.__init__") (sc 30 0) 0 .none .none .none .none none .none .none 0)),
  #[]⟩
noncomputable def x264_114 (P : Params) : Obj := ⟨.none, none, (.fields #[]), #[]⟩
noncomputable def x267_115 (P : Params) : Obj := ⟨.none, none, (.func (fn (S "stop") (S "Row.stop") (sc 30 1) 0 .none .none .none .none none .none .none 0)), #[]⟩
noncomputable def x271_116 (P : Params) : Obj := ⟨.none, none, (.fields #[]), #[]⟩
noncomputable def x274_117 (P : Params) : Obj := ⟨.none, none, (.func (fn (S "cut_back") (S "Row.cut_back") (sc 30 2) 0 .none .none .none .none none .none .none 0)),
  #[]⟩
noncomputable def x282_118 (P : Params) : Obj := ⟨(.type "super"), none, (.fields #[(rf 279), (rf 279), (rf 279)]), #[]⟩
noncomputable def x283_119 (P : Params) : Obj := ⟨(.type "builtin_function_or_method"), none, (.fields #[(.builtin "object.__init_subclass__"), (rf 279)]), #[]⟩
noncomputable def x285_120 (P : Params) : Obj := ⟨.none, none, (.fields #[]), #[]⟩
noncomputable def x288_121 (P : Params) : Obj := ⟨.none, none, (.func (fn (S "put_sign") (S "put_sign") (st 31) 0 .none .none .none .none none .none .none 0)), #[]⟩
noncomputable def x292_122 (P : Params) : Obj := ⟨.none, none, (.fields #[]), #[]⟩
noncomputable def x295_123 (P : Params) : Obj := ⟨.none, none, (.func (fn (S "end_of_line") (S "end_of_line") (st 32) 0 .none .none .none .none none .none .none 0)),
  #[]⟩
noncomputable def x299_124 (P : Params) : Obj := ⟨.none, none, (.fields #[]), #[]⟩
noncomputable def x302_125 (P : Params) : Obj := ⟨.none, none, (.func (fn (S "overflow") (S "overflow") (st 33) 0 .none .none .none .none none .none .none 0)), #[]⟩
noncomputable def x3_126 (P : Params) : Obj := ⟨(.type "dict"), none, (.dict #[en P "__name__" 165 (vs "emacs.rowmotion" 678), en P "__doc__" 166 .none, en P "__package__"
  167 .none, en P "__loader__" 168 (.builtin "__main__.__loader__#opaque"), en P "__spec__" 169 .none, en P "__annotations__" 170 (rf 6), en P "__builtins__"
  171 (rf 4), en P "__file__" 173 (vs "/claim/cut.py" 172), en P "__cached__" 174 .none, en P "_wall" 193 (rf 21), en P "NOWHERE" 198 (.int (-1) 197), en
  P "NEWLINE" 200 (.int 10 199), en P "TAB" 202 (.int 9 201), en P "BLANK" 204 (.int 32 203), en P "DELETE" 206 (.int 127 205), en P "CARET" 208 (.int 94
  207), en P "BACKSLASH" 210 (.int 92 209), en P "DOLLAR" 212 (.int 36 211), en P "POINT" 214 (.int 46 213), en P "Options" 253 (rf 39), en P "is_control"
  260 (rf 50), en P "is_raw" 267 (rf 57), en P "figures_of" 274 (rf 64), en P "shown_codes" 283 (rf 71), en P "SHOWN" 287 (.int 0 286), en P "POINTS" 289
  (.int 2 288), en P "View" 375 (rf 138), en P "Signs" 410 (rf 159), en P "is_break" 418 (rf 170), en P "hidden_end" 426 (rf 177), en P "string_signs" 432
  (rf 182), en P "string_count" 438 (rf 187), en P "hidden_signs" 450 (rf 194), en P "signs_at" 456 (rf 199), en P "Walk" 520 (rf 244), en P "Row" 580 (rf
  279), en P "put_sign" 590 (rf 290), en P "end_of_line" 600 (rf 297), en P "overflow" 614 (rf 304), en P "folded_row" 632 (rf 311), en P "cut_row" 650 (rf
  318), en P "laid_row" 662 (rf 325), en P "laid_rows" 677 (rf 332), en P "line_begin" 687 (rf 339), en P "rows_of_line" 700 (rf 346), en P "own_spot" 708
  (rf 353), en P "index_of" 718 (rf 360), en P "is_hidden" 726 (rf 367), en P "has_place" 735 (rf 374), en P "column_in" 745 (rf 381)] 50), #[]⟩
noncomputable def x12_127 (P : Params) : Obj := ⟨.none, none, (.fields #[(.int 1 0), (.int 0 0), (rf 20), (.int 14 0), (.int 0 0), (rf 27), (.int 22 0), (.int 0 0), (rf
  49), (.int 24 0), (.int 0 0), (rf 56), (.int 26 0), (.int 0 0), (rf 63), (.int 28 0), (.int 0 0), (rf 70), (.int 41 0), (.int 0 0), (rf 77), (.int 68 0),
  (.int 0 0), (rf 148), (.int 74 0), (.int 0 0), (rf 169), (.int 76 0), (.int 0 0), (rf 176), (.int 80 0), (.int 0 0), (rf 181), (.int 86 0), (.int 0 0),
  (rf 186), (.int 88 0), (.int 0 0), (rf 193), (.int 94 0), (.int 0 0), (rf 198), (.int 107 0), (.int 0 0), (rf 205), (.int 136 0), (.int 0 0), (rf 254),
  (.int 159 0), (.int 0 0), (rf 289), (.int 162 0), (.int 0 0), (rf 296), (.int 171 0), (.int 0 0), (rf 303), (.int 181 0), (.int 0 0), (rf 310), (.int 199
  0), (.int 0 0), (rf 317), (.int 215 0), (.int 0 0), (rf 324), (.int 219 0), (.int 0 0), (rf 331), (.int 229 0), (.int 0 0), (rf 338), (.int 233 0), (.int
  0 0), (rf 345), (.int 239 0), (.int 0 0), (rf 352), (.int 241 0), (.int 0 0), (rf 359), (.int 246 0), (.int 0 0), (rf 366), (.int 248 0), (.int 0 0), (rf
  373), (.int 254 0), (.int 0 0), (rf 380)]), #[]⟩
noncomputable def x306_128 (P : Params) : Obj := ⟨.none, none, (.fields #[]), #[]⟩
noncomputable def x309_129 (P : Params) : Obj := ⟨.none, none, (.func (fn (S "folded_row") (S "folded_row") (st 34) 0 .none .none .none .none none .none .none 0)), #[]⟩
noncomputable def x313_130 (P : Params) : Obj := ⟨.none, none, (.fields #[]), #[]⟩
noncomputable def x316_131 (P : Params) : Obj := ⟨.none, none, (.func (fn (S "cut_row") (S "cut_row") (st 35) 0 .none .none .none .none none .none .none 0)), #[]⟩
noncomputable def x320_132 (P : Params) : Obj := ⟨.none, none, (.fields #[]), #[]⟩
noncomputable def x323_133 (P : Params) : Obj := ⟨.none, none, (.func (fn (S "laid_row") (S "laid_row") (st 36) 0 .none .none .none .none none .none .none 0)), #[]⟩
noncomputable def x327_134 (P : Params) : Obj := ⟨.none, none, (.fields #[]), #[]⟩
noncomputable def x330_135 (P : Params) : Obj := ⟨.none, none, (.func (fn (S "laid_rows") (S "laid_rows") (st 37) 0 .none .none .none .none none .none .none 0)), #[]⟩
noncomputable def x334_136 (P : Params) : Obj := ⟨.none, none, (.fields #[]), #[]⟩
noncomputable def x337_137 (P : Params) : Obj := ⟨.none, none, (.func (fn (S "line_begin") (S "line_begin") (st 39) 0 .none .none .none .none none .none .none 0)), #[]⟩
noncomputable def x341_138 (P : Params) : Obj := ⟨.none, none, (.fields #[]), #[]⟩
noncomputable def x344_139 (P : Params) : Obj := ⟨.none, none, (.func (fn (S "rows_of_line") (S "rows_of_line") (st 40) 0 .none .none .none .none none .none .none 0)),
  #[]⟩
noncomputable def x348_140 (P : Params) : Obj := ⟨.none, none, (.fields #[]), #[]⟩
noncomputable def x351_141 (P : Params) : Obj := ⟨.none, none, (.func (fn (S "own_spot") (S "own_spot") (st 41) 0 .none .none .none .none none .none .none 0)), #[]⟩
noncomputable def x355_142 (P : Params) : Obj := ⟨.none, none, (.fields #[]), #[]⟩
noncomputable def x358_143 (P : Params) : Obj := ⟨.none, none, (.func (fn (S "index_of") (S "index_of") (st 42) 0 .none .none .none .none none .none .none 0)), #[]⟩
noncomputable def x362_144 (P : Params) : Obj := ⟨.none, none, (.fields #[]), #[]⟩
noncomputable def x365_145 (P : Params) : Obj := ⟨.none, none, (.func (fn (S "is_hidden") (S "is_hidden") (st 43) 0 .none .none .none .none none .none .none 0)), #[]⟩
noncomputable def x369_146 (P : Params) : Obj := ⟨.none, none, (.fields #[]), #[]⟩
noncomputable def x372_147 (P : Params) : Obj := ⟨.none, none, (.func (fn (S "has_place") (S "has_place") (st 44) 0 .none .none .none .none none .none .none 0)), #[]⟩
noncomputable def x376_148 (P : Params) : Obj := ⟨.none, none, (.fields #[]), #[]⟩
noncomputable def x379_149 (P : Params) : Obj := ⟨.none, none, (.func (fn (S "column_in") (S "column_in") (st 45) 0 .none .none .none .none none .none .none 0)), #[]⟩
noncomputable def x3_150 (P : Params) : Obj := ⟨(.type "dict"), none, (.dict #[en P "__name__" 165 (vs "emacs.scrolling" 812), en P "__doc__" 166 .none, en P "__package__"
  167 .none, en P "__loader__" 168 (.builtin "__main__.__loader__#opaque"), en P "__spec__" 169 .none, en P "__annotations__" 170 (rf 6), en P "__builtins__"
  171 (rf 4), en P "__file__" 173 (vs "/claim/cut.py" 172), en P "__cached__" 174 .none, en P "_wall" 193 (rf 21), en P "NOWHERE" 198 (.int (-1) 197), en
  P "NEWLINE" 200 (.int 10 199), en P "TAB" 202 (.int 9 201), en P "BLANK" 204 (.int 32 203), en P "DELETE" 206 (.int 127 205), en P "CARET" 208 (.int 94
  207), en P "BACKSLASH" 210 (.int 92 209), en P "DOLLAR" 212 (.int 36 211), en P "POINT" 214 (.int 46 213), en P "Options" 253 (rf 39), en P "is_control"
  260 (rf 50), en P "is_raw" 267 (rf 57), en P "figures_of" 274 (rf 64), en P "shown_codes" 283 (rf 71), en P "SHOWN" 287 (.int 0 286), en P "POINTS" 289
  (.int 2 288), en P "View" 375 (rf 138), en P "Signs" 410 (rf 159), en P "is_break" 418 (rf 170), en P "hidden_end" 426 (rf 177), en P "string_signs" 432
  (rf 182), en P "string_count" 438 (rf 187), en P "hidden_signs" 450 (rf 194), en P "signs_at" 456 (rf 199), en P "Walk" 520 (rf 244), en P "Row" 580 (rf
  279), en P "put_sign" 590 (rf 290), en P "end_of_line" 600 (rf 297), en P "overflow" 614 (rf 304), en P "folded_row" 632 (rf 311), en P "cut_row" 650 (rf
  318), en P "laid_row" 662 (rf 325), en P "laid_rows" 677 (rf 332), en P "line_begin" 687 (rf 339), en P "rows_of_line" 700 (rf 346), en P "own_spot" 708
  (rf 353), en P "index_of" 718 (rf 360), en P "is_hidden" 726 (rf 367), en P "has_place" 735 (rf 374), en P "column_in" 745 (rf 381), en P "cursor_in" 755
  (rf 388), en P "window_begin" 768 (rf 395), en P "row_ahead" 782 (rf 402), en P "row_behind" 794 (rf 409), en P "vertical_motion" 811 (rf 416)] 55), #[]⟩
noncomputable def x12_151 (P : Params) : Obj := ⟨.none, none, (.fields #[(.int 1 0), (.int 0 0), (rf 20), (.int 14 0), (.int 0 0), (rf 27), (.int 22 0), (.int 0 0), (rf
  49), (.int 24 0), (.int 0 0), (rf 56), (.int 26 0), (.int 0 0), (rf 63), (.int 28 0), (.int 0 0), (rf 70), (.int 41 0), (.int 0 0), (rf 77), (.int 68 0),
  (.int 0 0), (rf 148), (.int 74 0), (.int 0 0), (rf 169), (.int 76 0), (.int 0 0), (rf 176), (.int 80 0), (.int 0 0), (rf 181), (.int 86 0), (.int 0 0),
  (rf 186), (.int 88 0), (.int 0 0), (rf 193), (.int 94 0), (.int 0 0), (rf 198), (.int 107 0), (.int 0 0), (rf 205), (.int 136 0), (.int 0 0), (rf 254),
  (.int 159 0), (.int 0 0), (rf 289), (.int 162 0), (.int 0 0), (rf 296), (.int 171 0), (.int 0 0), (rf 303), (.int 181 0), (.int 0 0), (rf 310), (.int 199
  0), (.int 0 0), (rf 317), (.int 215 0), (.int 0 0), (rf 324), (.int 219 0), (.int 0 0), (rf 331), (.int 229 0), (.int 0 0), (rf 338), (.int 233 0), (.int
  0 0), (rf 345), (.int 239 0), (.int 0 0), (rf 352), (.int 241 0), (.int 0 0), (rf 359), (.int 246 0), (.int 0 0), (rf 366), (.int 248 0), (.int 0 0), (rf
  373), (.int 254 0), (.int 0 0), (rf 380), (.int 259 0), (.int 0 0), (rf 387), (.int 264 0), (.int 0 0), (rf 394), (.int 268 0), (.int 0 0), (rf 401), (.int
  276 0), (.int 0 0), (rf 408), (.int 282 0), (.int 0 0), (rf 415)]), #[]⟩
noncomputable def x383_152 (P : Params) : Obj := ⟨.none, none, (.fields #[]), #[]⟩
noncomputable def x386_153 (P : Params) : Obj := ⟨.none, none, (.func (fn (S "cursor_in") (S "cursor_in") (st 46) 0 .none .none .none .none none .none .none 0)), #[]⟩
noncomputable def x390_154 (P : Params) : Obj := ⟨.none, none, (.fields #[]), #[]⟩
noncomputable def x393_155 (P : Params) : Obj := ⟨.none, none, (.func (fn (S "window_begin") (S "window_begin") (st 47) 0 .none .none .none .none none .none .none 0)),
  #[]⟩
noncomputable def x397_156 (P : Params) : Obj := ⟨.none, none, (.fields #[]), #[]⟩
noncomputable def x400_157 (P : Params) : Obj := ⟨.none, none, (.func (fn (S "row_ahead") (S "row_ahead") (st 48) 0 .none .none .none .none none .none .none 0)), #[]⟩
noncomputable def x404_158 (P : Params) : Obj := ⟨.none, none, (.fields #[]), #[]⟩
noncomputable def x407_159 (P : Params) : Obj := ⟨.none, none, (.func (fn (S "row_behind") (S "row_behind") (st 49) 0 .none .none .none .none none .none .none 0)), #[]⟩
noncomputable def x411_160 (P : Params) : Obj := ⟨.none, none, (.fields #[]), #[]⟩
noncomputable def x414_161 (P : Params) : Obj := ⟨.none, none, (.func (fn (S "vertical_motion") (S "vertical_motion") (st 50) 0 .none .none .none .none none .none .none
  0)), #[]⟩
noncomputable def x3_162 (P : Params) : Obj := ⟨(.type "dict"), none, (.dict #[en P "__name__" 165 (vs "emacs.scrolling" 812), en P "__doc__" 166 .none, en P "__package__"
  167 .none, en P "__loader__" 168 (.builtin "__main__.__loader__#opaque"), en P "__spec__" 169 .none, en P "__annotations__" 170 (rf 6), en P "__builtins__"
  171 (rf 4), en P "__file__" 173 (vs "/claim/cut.py" 172), en P "__cached__" 174 .none, en P "_wall" 193 (rf 21), en P "NOWHERE" 198 (.int (-1) 197), en
  P "NEWLINE" 200 (.int 10 199), en P "TAB" 202 (.int 9 201), en P "BLANK" 204 (.int 32 203), en P "DELETE" 206 (.int 127 205), en P "CARET" 208 (.int 94
  207), en P "BACKSLASH" 210 (.int 92 209), en P "DOLLAR" 212 (.int 36 211), en P "POINT" 214 (.int 46 213), en P "Options" 253 (rf 39), en P "is_control"
  260 (rf 50), en P "is_raw" 267 (rf 57), en P "figures_of" 274 (rf 64), en P "shown_codes" 283 (rf 71), en P "SHOWN" 287 (.int 0 286), en P "POINTS" 289
  (.int 2 288), en P "View" 375 (rf 138), en P "Signs" 410 (rf 159), en P "is_break" 418 (rf 170), en P "hidden_end" 426 (rf 177), en P "string_signs" 432
  (rf 182), en P "string_count" 438 (rf 187), en P "hidden_signs" 450 (rf 194), en P "signs_at" 456 (rf 199), en P "Walk" 520 (rf 244), en P "Row" 580 (rf
  279), en P "put_sign" 590 (rf 290), en P "end_of_line" 600 (rf 297), en P "overflow" 614 (rf 304), en P "folded_row" 632 (rf 311), en P "cut_row" 650 (rf
  318), en P "laid_row" 662 (rf 325), en P "laid_rows" 677 (rf 332), en P "line_begin" 687 (rf 339), en P "rows_of_line" 700 (rf 346), en P "own_spot" 708
  (rf 353), en P "index_of" 718 (rf 360), en P "is_hidden" 726 (rf 367), en P "has_place" 735 (rf 374), en P "column_in" 745 (rf 381), en P "cursor_in" 755
  (rf 388), en P "window_begin" 768 (rf 395), en P "row_ahead" 782 (rf 402), en P "row_behind" 794 (rf 409), en P "vertical_motion" 811 (rf 416), en P "Rules"
  846 (rf 434)] 56), #[]⟩
noncomputable def x12_163 (P : Params) : Obj := ⟨.none, none, (.fields #[(.int 1 0), (.int 0 0), (rf 20), (.int 14 0), (.int 0 0), (rf 27), (.int 22 0), (.int 0 0), (rf
  49), (.int 24 0), (.int 0 0), (rf 56), (.int 26 0), (.int 0 0), (rf 63), (.int 28 0), (.int 0 0), (rf 70), (.int 41 0), (.int 0 0), (rf 77), (.int 68 0),
  (.int 0 0), (rf 148), (.int 74 0), (.int 0 0), (rf 169), (.int 76 0), (.int 0 0), (rf 176), (.int 80 0), (.int 0 0), (rf 181), (.int 86 0), (.int 0 0),
  (rf 186), (.int 88 0), (.int 0 0), (rf 193), (.int 94 0), (.int 0 0), (rf 198), (.int 107 0), (.int 0 0), (rf 205), (.int 136 0), (.int 0 0), (rf 254),
  (.int 159 0), (.int 0 0), (rf 289), (.int 162 0), (.int 0 0), (rf 296), (.int 171 0), (.int 0 0), (rf 303), (.int 181 0), (.int 0 0), (rf 310), (.int 199
  0), (.int 0 0), (rf 317), (.int 215 0), (.int 0 0), (rf 324), (.int 219 0), (.int 0 0), (rf 331), (.int 229 0), (.int 0 0), (rf 338), (.int 233 0), (.int
  0 0), (rf 345), (.int 239 0), (.int 0 0), (rf 352), (.int 241 0), (.int 0 0), (rf 359), (.int 246 0), (.int 0 0), (rf 366), (.int 248 0), (.int 0 0), (rf
  373), (.int 254 0), (.int 0 0), (rf 380), (.int 259 0), (.int 0 0), (rf 387), (.int 264 0), (.int 0 0), (rf 394), (.int 268 0), (.int 0 0), (rf 401), (.int
  276 0), (.int 0 0), (rf 408), (.int 282 0), (.int 0 0), (rf 415), (.int 294 0), (.int 0 0), (rf 422)]), #[]⟩
noncomputable def x417_164 (P : Params) : Obj := ⟨(.type "tuple"), none, (.seq #[] 0), #[]⟩
noncomputable def x418_165 (P : Params) : Obj := ⟨(.type "builtin_function_or_method"), none, (.fields #[(.builtin "type.__prepare__"), (.type "type")]), #[]⟩
noncomputable def x419_166 (P : Params) : Obj := ⟨(.type "dict"), none, (.dict #[en P "__module__" 821 (vs "emacs.scrolling" 812), en P "__qualname__" 823 (vs "Rules"
  822), en P "__firstlineno__" 825 (.int 294 824), en P "__init__" 836 (rf 431), en P "__static_attributes__" 839 (rf 432)] 5), #[]⟩
noncomputable def x420_167 (P : Params) : Obj := ⟨(.type "tuple"), none, (.seq #[] 0), #[]⟩
noncomputable def x421_168 (P : Params) : Obj := ⟨.none, none, (.fields #[(.int 296 0), (.int 4 0), (rf 430)]), #[]⟩
noncomputable def x422_169 (P : Params) : Obj := ⟨(.type "code"), none, (.fields #[(vs "Rules" 816), (vs "Rules" 817), (vs "/claim/cut.py" 818), (.int 294 0), (.int 0
  0), (.int 0 0), (.int 0 0), (.int 0 0), (rf 420), (.bool false), (.int 181 0), (rf 421), .none, .none, .none, .none, (.int 819 0), (.int 294 0), (vs "/claim/cut.py"
  820)]), #[]⟩
noncomputable def x423_170 (P : Params) : Obj := ⟨(.type "frame"), none, .plain, #[some (rf 422), some (rf 3), some (rf 419), none, some (vs "emacs.scrolling" 812), none,
  some (rf 0)]⟩
noncomputable def x426_171 (P : Params) : Obj := ⟨.none, none, (.fields #[]), #[]⟩
noncomputable def x429_172 (P : Params) : Obj := ⟨.none, none, (.func (fn (S "__init__") (S "Rules.__init__") (sc 52 0) 0 .none .none .none .none none .none .none 0)),
  #[]⟩
noncomputable def x437_173 (P : Params) : Obj := ⟨(.type "super"), none, (.fields #[(rf 434), (rf 434), (rf 434)]), #[]⟩
noncomputable def x438_174 (P : Params) : Obj := ⟨(.type "builtin_function_or_method"), none, (.fields #[(.builtin "object.__init_subclass__"), (rf 434)]), #[]⟩
noncomputable def x3_175 (P : Params) : Obj := ⟨(.type "dict"), none, (.dict #[en P "__name__" 165 (vs "emacs.scrolling" 812), en P "__doc__" 166 .none, en P "__package__"
  167 .none, en P "__loader__" 168 (.builtin "__main__.__loader__#opaque"), en P "__spec__" 169 .none, en P "__annotations__" 170 (rf 6), en P "__builtins__"
  171 (rf 4), en P "__file__" 173 (vs "/claim/cut.py" 172), en P "__cached__" 174 .none, en P "_wall" 193 (rf 21), en P "NOWHERE" 198 (.int (-1) 197), en
  P "NEWLINE" 200 (.int 10 199), en P "TAB" 202 (.int 9 201), en P "BLANK" 204 (.int 32 203), en P "DELETE" 206 (.int 127 205), en P "CARET" 208 (.int 94
  207), en P "BACKSLASH" 210 (.int 92 209), en P "DOLLAR" 212 (.int 36 211), en P "POINT" 214 (.int 46 213), en P "Options" 253 (rf 39), en P "is_control"
  260 (rf 50), en P "is_raw" 267 (rf 57), en P "figures_of" 274 (rf 64), en P "shown_codes" 283 (rf 71), en P "SHOWN" 287 (.int 0 286), en P "POINTS" 289
  (.int 2 288), en P "View" 375 (rf 138), en P "Signs" 410 (rf 159), en P "is_break" 418 (rf 170), en P "hidden_end" 426 (rf 177), en P "string_signs" 432
  (rf 182), en P "string_count" 438 (rf 187), en P "hidden_signs" 450 (rf 194), en P "signs_at" 456 (rf 199), en P "Walk" 520 (rf 244), en P "Row" 580 (rf
  279), en P "put_sign" 590 (rf 290), en P "end_of_line" 600 (rf 297), en P "overflow" 614 (rf 304), en P "folded_row" 632 (rf 311), en P "cut_row" 650 (rf
  318), en P "laid_row" 662 (rf 325), en P "laid_rows" 677 (rf 332), en P "line_begin" 687 (rf 339), en P "rows_of_line" 700 (rf 346), en P "own_spot" 708
  (rf 353), en P "index_of" 718 (rf 360), en P "is_hidden" 726 (rf 367), en P "has_place" 735 (rf 374), en P "column_in" 745 (rf 381), en P "cursor_in" 755
  (rf 388), en P "window_begin" 768 (rf 395), en P "row_ahead" 782 (rf 402), en P "row_behind" 794 (rf 409), en P "vertical_motion" 811 (rf 416), en P "Rules"
  846 (rf 434), en P "Pane" 904 (rf 469), en P "kept_margin" 911 (rf 480), en P "place_of_point" 921 (rf 487), en P "is_well" 932 (rf 494)] 60), #[]⟩
noncomputable def x12_176 (P : Params) : Obj := ⟨.none, none, (.fields #[(.int 1 0), (.int 0 0), (rf 20), (.int 14 0), (.int 0 0), (rf 27), (.int 22 0), (.int 0 0), (rf
  49), (.int 24 0), (.int 0 0), (rf 56), (.int 26 0), (.int 0 0), (rf 63), (.int 28 0), (.int 0 0), (rf 70), (.int 41 0), (.int 0 0), (rf 77), (.int 68 0),
  (.int 0 0), (rf 148), (.int 74 0), (.int 0 0), (rf 169), (.int 76 0), (.int 0 0), (rf 176), (.int 80 0), (.int 0 0), (rf 181), (.int 86 0), (.int 0 0),
  (rf 186), (.int 88 0), (.int 0 0), (rf 193), (.int 94 0), (.int 0 0), (rf 198), (.int 107 0), (.int 0 0), (rf 205), (.int 136 0), (.int 0 0), (rf 254),
  (.int 159 0), (.int 0 0), (rf 289), (.int 162 0), (.int 0 0), (rf 296), (.int 171 0), (.int 0 0), (rf 303), (.int 181 0), (.int 0 0), (rf 310), (.int 199
  0), (.int 0 0), (rf 317), (.int 215 0), (.int 0 0), (rf 324), (.int 219 0), (.int 0 0), (rf 331), (.int 229 0), (.int 0 0), (rf 338), (.int 233 0), (.int
  0 0), (rf 345), (.int 239 0), (.int 0 0), (rf 352), (.int 241 0), (.int 0 0), (rf 359), (.int 246 0), (.int 0 0), (rf 366), (.int 248 0), (.int 0 0), (rf
  373), (.int 254 0), (.int 0 0), (rf 380), (.int 259 0), (.int 0 0), (rf 387), (.int 264 0), (.int 0 0), (rf 394), (.int 268 0), (.int 0 0), (rf 401), (.int
  276 0), (.int 0 0), (rf 408), (.int 282 0), (.int 0 0), (rf 415), (.int 294 0), (.int 0 0), (rf 422), (.int 299 0), (.int 0 0), (rf 444), (.int 315 0),
  (.int 0 0), (rf 479), (.int 317 0), (.int 0 0), (rf 486), (.int 320 0), (.int 0 0), (rf 493)]), #[]⟩
noncomputable def x439_177 (P : Params) : Obj := ⟨(.type "tuple"), none, (.seq #[] 0), #[]⟩
noncomputable def x440_178 (P : Params) : Obj := ⟨(.type "builtin_function_or_method"), none, (.fields #[(.builtin "type.__prepare__"), (.type "type")]), #[]⟩
noncomputable def x441_179 (P : Params) : Obj := ⟨(.type "dict"), none, (.dict #[en P "__module__" 854 (vs "emacs.scrolling" 812), en P "__qualname__" 856 (vs "Pane"
  855), en P "__firstlineno__" 858 (.int 299 857), en P "__init__" 871 (rf 452), en P "rows_from" 881 (rf 459), en P "moved" 890 (rf 466), en P "__static_attributes__"
  897 (rf 467)] 7), #[]⟩
noncomputable def x442_180 (P : Params) : Obj := ⟨(.type "tuple"), none, (.seq #[] 0), #[]⟩
noncomputable def x443_181 (P : Params) : Obj := ⟨.none, none, (.fields #[(.int 301 0), (.int 4 0), (rf 451), (.int 309 0), (.int 4 0), (rf 458), (.int 313 0), (.int
  4 0), (rf 465)]), #[]⟩
noncomputable def x444_182 (P : Params) : Obj := ⟨(.type "code"), none, (.fields #[(vs "Pane" 849), (vs "Pane" 850), (vs "/claim/cut.py" 851), (.int 299 0), (.int 0 0),
  (.int 0 0), (.int 0 0), (.int 0 0), (rf 442), (.bool false), (.int 181 0), (rf 443), .none, .none, .none, .none, (.int 852 0), (.int 299 0), (vs "/claim/cut.py"
  853)]), #[]⟩
noncomputable def x445_183 (P : Params) : Obj := ⟨(.type "frame"), none, .plain, #[some (rf 444), some (rf 3), some (rf 441), none, some (vs "emacs.scrolling" 812), none,
  some (rf 0)]⟩
noncomputable def x447_184 (P : Params) : Obj := ⟨.none, none, (.fields #[]), #[]⟩
noncomputable def x450_185 (P : Params) : Obj := ⟨.none, none, (.func (fn (S "__init__") (S "Pane.__init__") (sc 53 0) 0 .none .none .none .none none .none .none 0)),
  #[]⟩
noncomputable def x454_186 (P : Params) : Obj := ⟨.none, none, (.fields #[]), #[]⟩
noncomputable def x457_187 (P : Params) : Obj := ⟨.none, none, (.func (fn (S "rows_from") (S "Pane.rows_from") (sc 53 1) 0 .none .none .none .none none .none .none 0)),
  #[]⟩
noncomputable def x461_188 (P : Params) : Obj := ⟨.none, none, (.fields #[]), #[]⟩
noncomputable def x464_189 (P : Params) : Obj := ⟨.none, none, (.func (fn (S "moved") (S "Pane.moved") (sc 53 2) 0 .none .none .none .none none .none .none 0)), #[]⟩
noncomputable def x472_190 (P : Params) : Obj := ⟨(.type "super"), none, (.fields #[(rf 469), (rf 469), (rf 469)]), #[]⟩
noncomputable def x473_191 (P : Params) : Obj := ⟨(.type "builtin_function_or_method"), none, (.fields #[(.builtin "object.__init_subclass__"), (rf 469)]), #[]⟩
noncomputable def x475_192 (P : Params) : Obj := ⟨.none, none, (.fields #[]), #[]⟩
noncomputable def x478_193 (P : Params) : Obj := ⟨.none, none, (.func (fn (S "kept_margin") (S "kept_margin") (st 54) 0 .none .none .none .none none .none .none 0)),
  #[]⟩
noncomputable def x482_194 (P : Params) : Obj := ⟨.none, none, (.fields #[]), #[]⟩
noncomputable def x485_195 (P : Params) : Obj := ⟨.none, none, (.func (fn (S "place_of_point") (S "place_of_point") (st 55) 0 .none .none .none .none none .none .none
  0)), #[]⟩
noncomputable def x489_196 (P : Params) : Obj := ⟨.none, none, (.fields #[]), #[]⟩
noncomputable def x492_197 (P : Params) : Obj := ⟨.none, none, (.func (fn (S "is_well") (S "is_well") (st 56) 0 .none .none .none .none none .none .none 0)), #[]⟩
noncomputable def x3_198 (P : Params) : Obj := ⟨(.type "dict"), none, (.dict #[en P "__name__" 165 (vs "emacs.faces" 974), en P "__doc__" 166 .none, en P "__package__"
  167 .none, en P "__loader__" 168 (.builtin "__main__.__loader__#opaque"), en P "__spec__" 169 .none, en P "__annotations__" 170 (rf 6), en P "__builtins__"
  171 (rf 4), en P "__file__" 173 (vs "/claim/cut.py" 172), en P "__cached__" 174 .none, en P "_wall" 193 (rf 21), en P "NOWHERE" 198 (.int (-1) 197), en
  P "NEWLINE" 200 (.int 10 199), en P "TAB" 202 (.int 9 201), en P "BLANK" 204 (.int 32 203), en P "DELETE" 206 (.int 127 205), en P "CARET" 208 (.int 94
  207), en P "BACKSLASH" 210 (.int 92 209), en P "DOLLAR" 212 (.int 36 211), en P "POINT" 214 (.int 46 213), en P "Options" 253 (rf 39), en P "is_control"
  260 (rf 50), en P "is_raw" 267 (rf 57), en P "figures_of" 274 (rf 64), en P "shown_codes" 283 (rf 71), en P "SHOWN" 287 (.int 0 286), en P "POINTS" 289
  (.int 2 288), en P "View" 375 (rf 138), en P "Signs" 410 (rf 159), en P "is_break" 418 (rf 170), en P "hidden_end" 426 (rf 177), en P "string_signs" 432
  (rf 182), en P "string_count" 438 (rf 187), en P "hidden_signs" 450 (rf 194), en P "signs_at" 456 (rf 199), en P "Walk" 520 (rf 244), en P "Row" 580 (rf
  279), en P "put_sign" 590 (rf 290), en P "end_of_line" 600 (rf 297), en P "overflow" 614 (rf 304), en P "folded_row" 632 (rf 311), en P "cut_row" 650 (rf
  318), en P "laid_row" 662 (rf 325), en P "laid_rows" 677 (rf 332), en P "line_begin" 687 (rf 339), en P "rows_of_line" 700 (rf 346), en P "own_spot" 708
  (rf 353), en P "index_of" 718 (rf 360), en P "is_hidden" 726 (rf 367), en P "has_place" 735 (rf 374), en P "column_in" 745 (rf 381), en P "cursor_in" 755
  (rf 388), en P "window_begin" 768 (rf 395), en P "row_ahead" 782 (rf 402), en P "row_behind" 794 (rf 409), en P "vertical_motion" 811 (rf 416), en P "Rules"
  846 (rf 434), en P "Pane" 904 (rf 469), en P "kept_margin" 911 (rf 480), en P "place_of_point" 921 (rf 487), en P "is_well" 932 (rf 494), en P "recentered"
  941 (rf 501), en P "near_starts" 951 (rf 508), en P "start_for" 961 (rf 515), en P "scrolled" 973 (rf 522), en P "DEFAULT" 977 (vs "default" 976), en P
  "PLAIN" 984 (rf 523), en P "UNTOLD" 985 (rf 524), en P "Face" 1016 (rf 543)] 68), #[]⟩
noncomputable def x12_199 (P : Params) : Obj := ⟨.none, none, (.fields #[(.int 1 0), (.int 0 0), (rf 20), (.int 14 0), (.int 0 0), (rf 27), (.int 22 0), (.int 0 0), (rf
  49), (.int 24 0), (.int 0 0), (rf 56), (.int 26 0), (.int 0 0), (rf 63), (.int 28 0), (.int 0 0), (rf 70), (.int 41 0), (.int 0 0), (rf 77), (.int 68 0),
  (.int 0 0), (rf 148), (.int 74 0), (.int 0 0), (rf 169), (.int 76 0), (.int 0 0), (rf 176), (.int 80 0), (.int 0 0), (rf 181), (.int 86 0), (.int 0 0),
  (rf 186), (.int 88 0), (.int 0 0), (rf 193), (.int 94 0), (.int 0 0), (rf 198), (.int 107 0), (.int 0 0), (rf 205), (.int 136 0), (.int 0 0), (rf 254),
  (.int 159 0), (.int 0 0), (rf 289), (.int 162 0), (.int 0 0), (rf 296), (.int 171 0), (.int 0 0), (rf 303), (.int 181 0), (.int 0 0), (rf 310), (.int 199
  0), (.int 0 0), (rf 317), (.int 215 0), (.int 0 0), (rf 324), (.int 219 0), (.int 0 0), (rf 331), (.int 229 0), (.int 0 0), (rf 338), (.int 233 0), (.int
  0 0), (rf 345), (.int 239 0), (.int 0 0), (rf 352), (.int 241 0), (.int 0 0), (rf 359), (.int 246 0), (.int 0 0), (rf 366), (.int 248 0), (.int 0 0), (rf
  373), (.int 254 0), (.int 0 0), (rf 380), (.int 259 0), (.int 0 0), (rf 387), (.int 264 0), (.int 0 0), (rf 394), (.int 268 0), (.int 0 0), (rf 401), (.int
  276 0), (.int 0 0), (rf 408), (.int 282 0), (.int 0 0), (rf 415), (.int 294 0), (.int 0 0), (rf 422), (.int 299 0), (.int 0 0), (rf 444), (.int 315 0),
  (.int 0 0), (rf 479), (.int 317 0), (.int 0 0), (rf 486), (.int 320 0), (.int 0 0), (rf 493), (.int 327 0), (.int 0 0), (rf 500), (.int 329 0), (.int 0
  0), (rf 507), (.int 334 0), (.int 0 0), (rf 514), (.int 341 0), (.int 0 0), (rf 521), (.int 353 0), (.int 0 0), (rf 530)]), #[]⟩
noncomputable def x496_200 (P : Params) : Obj := ⟨.none, none, (.fields #[]), #[]⟩
noncomputable def x499_201 (P : Params) : Obj := ⟨.none, none, (.func (fn (S "recentered") (S "recentered") (st 57) 0 .none .none .none .none none .none .none 0)), #[]⟩
noncomputable def x503_202 (P : Params) : Obj := ⟨.none, none, (.fields #[]), #[]⟩
noncomputable def x506_203 (P : Params) : Obj := ⟨.none, none, (.func (fn (S "near_starts") (S "near_starts") (st 58) 0 .none .none .none .none none .none .none 0)),
  #[]⟩
noncomputable def x510_204 (P : Params) : Obj := ⟨.none, none, (.fields #[]), #[]⟩
noncomputable def x513_205 (P : Params) : Obj := ⟨.none, none, (.func (fn (S "start_for") (S "start_for") (st 59) 0 .none .none .none .none none .none .none 0)), #[]⟩
noncomputable def x517_206 (P : Params) : Obj := ⟨.none, none, (.fields #[]), #[]⟩
noncomputable def x520_207 (P : Params) : Obj := ⟨.none, none, (.func (fn (S "scrolled") (S "scrolled") (st 60) 0 .none .none .none .none none .none .none 0)), #[]⟩
noncomputable def x525_208 (P : Params) : Obj := ⟨(.type "tuple"), none, (.seq #[] 0), #[]⟩
noncomputable def x526_209 (P : Params) : Obj := ⟨(.type "builtin_function_or_method"), none, (.fields #[(.builtin "type.__prepare__"), (.type "type")]), #[]⟩
noncomputable def x527_210 (P : Params) : Obj := ⟨(.type "dict"), none, (.dict #[en P "__module__" 993 (vs "emacs.faces" 974), en P "__qualname__" 995 (vs "Face" 994),
  en P "__firstlineno__" 997 (.int 353 996), en P "__init__" 1006 (rf 540), en P "__static_attributes__" 1009 (rf 541)] 5), #[]⟩
noncomputable def x528_211 (P : Params) : Obj := ⟨(.type "tuple"), none, (.seq #[] 0), #[]⟩
noncomputable def x529_212 (P : Params) : Obj := ⟨.none, none, (.fields #[(.int 355 0), (.int 4 0), (rf 539)]), #[]⟩
noncomputable def x530_213 (P : Params) : Obj := ⟨(.type "code"), none, (.fields #[(vs "Face" 988), (vs "Face" 989), (vs "/claim/cut.py" 990), (.int 353 0), (.int 0 0),
  (.int 0 0), (.int 0 0), (.int 0 0), (rf 528), (.bool false), (.int 181 0), (rf 529), .none, .none, .none, .none, (.int 991 0), (.int 353 0), (vs "/claim/cut.py"
  992)]), #[]⟩
noncomputable def x531_214 (P : Params) : Obj := ⟨(.type "frame"), none, .plain, #[some (rf 530), some (rf 3), some (rf 527), none, some (vs "emacs.faces" 974), none,
  some (rf 0)]⟩
noncomputable def x535_215 (P : Params) : Obj := ⟨.none, none, (.fields #[]), #[]⟩
noncomputable def x538_216 (P : Params) : Obj := ⟨.none, none, (.func (fn (S "__init__") (S "Face.__init__") (sc 65 0) 0 .none .none .none .none none .none .none 0)),
  #[]⟩
noncomputable def x546_217 (P : Params) : Obj := ⟨(.type "super"), none, (.fields #[(rf 543), (rf 543), (rf 543)]), #[]⟩
noncomputable def x547_218 (P : Params) : Obj := ⟨(.type "builtin_function_or_method"), none, (.fields #[(.builtin "object.__init_subclass__"), (rf 543)]), #[]⟩
noncomputable def x3_219 (P : Params) : Obj := ⟨(.type "dict"), none, (.dict #[en P "__name__" 165 (vs "law_np0085_01" 1079), en P "__doc__" 166 .none, en P "__package__"
  167 .none, en P "__loader__" 168 (.builtin "__main__.__loader__#opaque"), en P "__spec__" 169 .none, en P "__annotations__" 170 (rf 6), en P "__builtins__"
  171 (rf 4), en P "__file__" 173 (vs "/claim/cut.py" 172), en P "__cached__" 174 .none, en P "_wall" 193 (rf 21), en P "NOWHERE" 198 (.int (-1) 197), en
  P "NEWLINE" 200 (.int 10 199), en P "TAB" 202 (.int 9 201), en P "BLANK" 204 (.int 32 203), en P "DELETE" 206 (.int 127 205), en P "CARET" 208 (.int 94
  207), en P "BACKSLASH" 210 (.int 92 209), en P "DOLLAR" 212 (.int 36 211), en P "POINT" 214 (.int 46 213), en P "Options" 253 (rf 39), en P "is_control"
  260 (rf 50), en P "is_raw" 267 (rf 57), en P "figures_of" 274 (rf 64), en P "shown_codes" 283 (rf 71), en P "SHOWN" 287 (.int 0 286), en P "POINTS" 289
  (.int 2 288), en P "View" 375 (rf 138), en P "Signs" 410 (rf 159), en P "is_break" 418 (rf 170), en P "hidden_end" 426 (rf 177), en P "string_signs" 432
  (rf 182), en P "string_count" 438 (rf 187), en P "hidden_signs" 450 (rf 194), en P "signs_at" 456 (rf 199), en P "Walk" 520 (rf 244), en P "Row" 580 (rf
  279), en P "put_sign" 590 (rf 290), en P "end_of_line" 600 (rf 297), en P "overflow" 614 (rf 304), en P "folded_row" 632 (rf 311), en P "cut_row" 650 (rf
  318), en P "laid_row" 662 (rf 325), en P "laid_rows" 677 (rf 332), en P "line_begin" 687 (rf 339), en P "rows_of_line" 700 (rf 346), en P "own_spot" 708
  (rf 353), en P "index_of" 718 (rf 360), en P "is_hidden" 726 (rf 367), en P "has_place" 735 (rf 374), en P "column_in" 745 (rf 381), en P "cursor_in" 755
  (rf 388), en P "window_begin" 768 (rf 395), en P "row_ahead" 782 (rf 402), en P "row_behind" 794 (rf 409), en P "vertical_motion" 811 (rf 416), en P "Rules"
  846 (rf 434), en P "Pane" 904 (rf 469), en P "kept_margin" 911 (rf 480), en P "place_of_point" 921 (rf 487), en P "is_well" 932 (rf 494), en P "recentered"
  941 (rf 501), en P "near_starts" 951 (rf 508), en P "start_for" 961 (rf 515), en P "scrolled" 973 (rf 522), en P "DEFAULT" 977 (vs "default" 976), en P
  "PLAIN" 984 (rf 523), en P "UNTOLD" 985 (rf 524), en P "Face" 1016 (rf 543), en P "FaceTable" 1078 (rf 590), en P "_law_pot" 1086 (rf 599)] 70), #[]⟩
noncomputable def x12_220 (P : Params) : Obj := ⟨.none, none, (.fields #[(.int 1 0), (.int 0 0), (rf 20), (.int 14 0), (.int 0 0), (rf 27), (.int 22 0), (.int 0 0), (rf
  49), (.int 24 0), (.int 0 0), (rf 56), (.int 26 0), (.int 0 0), (rf 63), (.int 28 0), (.int 0 0), (rf 70), (.int 41 0), (.int 0 0), (rf 77), (.int 68 0),
  (.int 0 0), (rf 148), (.int 74 0), (.int 0 0), (rf 169), (.int 76 0), (.int 0 0), (rf 176), (.int 80 0), (.int 0 0), (rf 181), (.int 86 0), (.int 0 0),
  (rf 186), (.int 88 0), (.int 0 0), (rf 193), (.int 94 0), (.int 0 0), (rf 198), (.int 107 0), (.int 0 0), (rf 205), (.int 136 0), (.int 0 0), (rf 254),
  (.int 159 0), (.int 0 0), (rf 289), (.int 162 0), (.int 0 0), (rf 296), (.int 171 0), (.int 0 0), (rf 303), (.int 181 0), (.int 0 0), (rf 310), (.int 199
  0), (.int 0 0), (rf 317), (.int 215 0), (.int 0 0), (rf 324), (.int 219 0), (.int 0 0), (rf 331), (.int 229 0), (.int 0 0), (rf 338), (.int 233 0), (.int
  0 0), (rf 345), (.int 239 0), (.int 0 0), (rf 352), (.int 241 0), (.int 0 0), (rf 359), (.int 246 0), (.int 0 0), (rf 366), (.int 248 0), (.int 0 0), (rf
  373), (.int 254 0), (.int 0 0), (rf 380), (.int 259 0), (.int 0 0), (rf 387), (.int 264 0), (.int 0 0), (rf 394), (.int 268 0), (.int 0 0), (rf 401), (.int
  276 0), (.int 0 0), (rf 408), (.int 282 0), (.int 0 0), (rf 415), (.int 294 0), (.int 0 0), (rf 422), (.int 299 0), (.int 0 0), (rf 444), (.int 315 0),
  (.int 0 0), (rf 479), (.int 317 0), (.int 0 0), (rf 486), (.int 320 0), (.int 0 0), (rf 493), (.int 327 0), (.int 0 0), (rf 500), (.int 329 0), (.int 0
  0), (rf 507), (.int 334 0), (.int 0 0), (rf 514), (.int 341 0), (.int 0 0), (rf 521), (.int 353 0), (.int 0 0), (rf 530), (.int 358 0), (.int 0 0), (rf
  553), (.int 391 0), (.int 0 0), (rf 598)]), #[]⟩
noncomputable def x548_221 (P : Params) : Obj := ⟨(.type "tuple"), none, (.seq #[] 0), #[]⟩
noncomputable def x549_222 (P : Params) : Obj := ⟨(.type "builtin_function_or_method"), none, (.fields #[(.builtin "type.__prepare__"), (.type "type")]), #[]⟩
noncomputable def x550_223 (P : Params) : Obj := ⟨(.type "dict"), none, (.dict #[en P "__module__" 1024 (vs "emacs.faces" 974), en P "__qualname__" 1026 (vs "FaceTable"
  1025), en P "__firstlineno__" 1028 (.int 358 1027), en P "__init__" 1035 (rf 561), en P "define" 1044 (rf 568), en P "merged" 1050 (rf 573), en P "number_of"
  1059 (rf 580), en P "look_of" 1067 (rf 587), en P "__static_attributes__" 1071 (rf 588)] 9), #[]⟩
noncomputable def x551_224 (P : Params) : Obj := ⟨(.type "tuple"), none, (.seq #[] 0), #[]⟩
noncomputable def x552_225 (P : Params) : Obj := ⟨.none, none, (.fields #[(.int 360 0), (.int 4 0), (rf 560), (.int 365 0), (.int 4 0), (rf 567), (.int 368 0), (.int
  4 0), (rf 572), (.int 379 0), (.int 4 0), (rf 579), (.int 388 0), (.int 4 0), (rf 586)]), #[]⟩
noncomputable def x553_226 (P : Params) : Obj := ⟨(.type "code"), none, (.fields #[(vs "FaceTable" 1019), (vs "FaceTable" 1020), (vs "/claim/cut.py" 1021), (.int 358
  0), (.int 0 0), (.int 0 0), (.int 0 0), (.int 0 0), (rf 551), (.bool false), (.int 181 0), (rf 552), .none, .none, .none, .none, (.int 1022 0), (.int 358
  0), (vs "/claim/cut.py" 1023)]), #[]⟩
noncomputable def x554_227 (P : Params) : Obj := ⟨(.type "frame"), none, .plain, #[some (rf 553), some (rf 3), some (rf 550), none, some (vs "emacs.faces" 974), none,
  some (rf 0)]⟩
noncomputable def x556_228 (P : Params) : Obj := ⟨.none, none, (.fields #[]), #[]⟩
noncomputable def x559_229 (P : Params) : Obj := ⟨.none, none, (.func (fn (S "__init__") (S "FaceTable.__init__") (sc 66 0) 0 .none .none .none .none none .none .none
  0)), #[]⟩
noncomputable def x563_230 (P : Params) : Obj := ⟨.none, none, (.fields #[]), #[]⟩
noncomputable def x566_231 (P : Params) : Obj := ⟨.none, none, (.func (fn (S "define") (S "FaceTable.define") (sc 66 1) 0 .none .none .none .none none .none .none 0)),
  #[]⟩
noncomputable def x570_232 (P : Params) : Obj := ⟨.none, none, (.fields #[]), #[]⟩
noncomputable def x571_233 (P : Params) : Obj := ⟨.none, none, (.func (fn (S "merged") (S "FaceTable.merged") (sc 66 2) 0 .none .none .none .none none .none .none 0)),
  #[]⟩
noncomputable def x575_234 (P : Params) : Obj := ⟨.none, none, (.fields #[]), #[]⟩
noncomputable def x578_235 (P : Params) : Obj := ⟨.none, none, (.func (fn (S "number_of") (S "FaceTable.number_of") (sc 66 3) 0 .none .none .none .none none .none .none
  0)), #[]⟩
noncomputable def x582_236 (P : Params) : Obj := ⟨.none, none, (.fields #[]), #[]⟩
noncomputable def x585_237 (P : Params) : Obj := ⟨.none, none, (.func (fn (S "look_of") (S "FaceTable.look_of") (sc 66 4) 0 .none .none .none .none none .none .none 0)),
  #[]⟩
noncomputable def x593_238 (P : Params) : Obj := ⟨(.type "super"), none, (.fields #[(rf 590), (rf 590), (rf 590)]), #[]⟩
noncomputable def x594_239 (P : Params) : Obj := ⟨(.type "builtin_function_or_method"), none, (.fields #[(.builtin "object.__init_subclass__"), (rf 590)]), #[]⟩
noncomputable def x596_240 (P : Params) : Obj := ⟨.none, none, (.fields #[]), #[]⟩
noncomputable def x597_241 (P : Params) : Obj := ⟨.none, none, (.func (fn (S "_law_pot") (S "_law_pot") (st 68) 0 .none .none .none .none none .none .none 0)), #[]⟩
noncomputable def x12_242 (P : Params) : Obj := ⟨.none, none, (.fields #[(.int 1 0), (.int 0 0), (rf 20), (.int 14 0), (.int 0 0), (rf 27), (.int 22 0), (.int 0 0), (rf
  49), (.int 24 0), (.int 0 0), (rf 56), (.int 26 0), (.int 0 0), (rf 63), (.int 28 0), (.int 0 0), (rf 70), (.int 41 0), (.int 0 0), (rf 77), (.int 68 0),
  (.int 0 0), (rf 148), (.int 74 0), (.int 0 0), (rf 169), (.int 76 0), (.int 0 0), (rf 176), (.int 80 0), (.int 0 0), (rf 181), (.int 86 0), (.int 0 0),
  (rf 186), (.int 88 0), (.int 0 0), (rf 193), (.int 94 0), (.int 0 0), (rf 198), (.int 107 0), (.int 0 0), (rf 205), (.int 136 0), (.int 0 0), (rf 254),
  (.int 159 0), (.int 0 0), (rf 289), (.int 162 0), (.int 0 0), (rf 296), (.int 171 0), (.int 0 0), (rf 303), (.int 181 0), (.int 0 0), (rf 310), (.int 199
  0), (.int 0 0), (rf 317), (.int 215 0), (.int 0 0), (rf 324), (.int 219 0), (.int 0 0), (rf 331), (.int 229 0), (.int 0 0), (rf 338), (.int 233 0), (.int
  0 0), (rf 345), (.int 239 0), (.int 0 0), (rf 352), (.int 241 0), (.int 0 0), (rf 359), (.int 246 0), (.int 0 0), (rf 366), (.int 248 0), (.int 0 0), (rf
  373), (.int 254 0), (.int 0 0), (rf 380), (.int 259 0), (.int 0 0), (rf 387), (.int 264 0), (.int 0 0), (rf 394), (.int 268 0), (.int 0 0), (rf 401), (.int
  276 0), (.int 0 0), (rf 408), (.int 282 0), (.int 0 0), (rf 415), (.int 294 0), (.int 0 0), (rf 422), (.int 299 0), (.int 0 0), (rf 444), (.int 315 0),
  (.int 0 0), (rf 479), (.int 317 0), (.int 0 0), (rf 486), (.int 320 0), (.int 0 0), (rf 493), (.int 327 0), (.int 0 0), (rf 500), (.int 329 0), (.int 0
  0), (rf 507), (.int 334 0), (.int 0 0), (rf 514), (.int 341 0), (.int 0 0), (rf 521), (.int 353 0), (.int 0 0), (rf 530), (.int 358 0), (.int 0 0), (rf
  553), (.int 391 0), (.int 0 0), (rf 598), (.int 394 0), (.int 0 0), (rf 605), (.int 401 0), (.int 0 0), (rf 610), (.int 404 0), (.int 0 0), (rf 617), (.int
  409 0), (.int 0 0), (rf 624), (.int 417 0), (.int 0 0), (rf 629)]), #[]⟩
noncomputable def x601_243 (P : Params) : Obj := ⟨.none, none, (.fields #[]), #[]⟩
noncomputable def x604_244 (P : Params) : Obj := ⟨.none, none, (.func (fn (S "_law_dip") (S "_law_dip") (st 69) 0 .none .none .none .none none .none .none 0)), #[]⟩
noncomputable def x608_245 (P : Params) : Obj := ⟨.none, none, (.fields #[]), #[]⟩
noncomputable def x609_246 (P : Params) : Obj := ⟨.none, none, (.func (fn (S "_law_row_of") (S "_law_row_of") (st 70) 0 .none .none .none .none none .none .none 0)),
  #[]⟩
noncomputable def x613_247 (P : Params) : Obj := ⟨.none, none, (.fields #[]), #[]⟩
noncomputable def x616_248 (P : Params) : Obj := ⟨.none, none, (.func (fn (S "_law_is_well") (S "_law_is_well") (st 71) 0 .none .none .none .none none .none .none 0)),
  #[]⟩
noncomputable def x620_249 (P : Params) : Obj := ⟨.none, none, (.fields #[]), #[]⟩
noncomputable def x623_250 (P : Params) : Obj := ⟨.none, none, (.func (fn (S "_law_begins") (S "_law_begins") (st 72) 0 .none .none .none .none none .none .none 0)),
  #[]⟩
noncomputable def x627_251 (P : Params) : Obj := ⟨.none, none, (.fields #[]), #[]⟩
noncomputable def x628_252 (P : Params) : Obj := ⟨.none, none, (.func (fn (S "law") (S "law") (st 73) 0 .none .none .none .none none .none .none 0)), #[]⟩
noncomputable def hp_a (P : Params) : Heap := ⟨Array.mk [(boot_o_0 P), (boot_o_1 P), (boot_o_2 P), (boot_o_3 P), (boot_o_4 P), (boot_o_5 P), (boot_o_6 P), (boot_o_7 P),
  (boot_o_8 P), (boot_o_9 P), (boot_o_10 P), (x11_1 P), (x12_2 P), (x13_3 P), (x14_4 P)], lf⟩
noncomputable def tr_b (P : Params) : BT := (.node (boot_o_0 P) (.node (boot_o_1 P) (.node (boot_o_3 P) (.node (boot_o_7 P) .nil .nil) (.node (x11_1 P) .nil .nil)) (.node
  (boot_o_5 P) (.node (boot_o_9 P) .nil .nil) (.node (x13_3 P) .nil .nil))) (.node (boot_o_2 P) (.node (boot_o_4 P) (.node (boot_o_8 P) .nil .nil) (.node
  (x12_2 P) .nil .nil)) (.node (boot_o_6 P) (.node (boot_o_10 P) .nil .nil) (.node (x14_4 P) .nil .nil))))
noncomputable def tr_1 (P : Params) : BT := (.node (boot_o_0 P) (.node (boot_o_1 P) (.node (x3_5 P) (.node (boot_o_7 P) (.node (k 15 P) (.node (x31_16 P) .nil .nil) (.node
  (k 47 P) .nil .nil)) (.node (x23_10 P) (.node (k 39 P) .nil .nil) .nil)) (.node (x11_1 P) (.node (x19_8 P) (.node (k 35 P) .nil .nil) .nil) (.node (x27_14
  P) (.node (x43_19 P) .nil .nil) .nil))) (.node (boot_o_5 P) (.node (boot_o_9 P) (.node (k 17 P) (.node (k 33 P) .nil .nil) (.node (k 49 P) .nil .nil)) (.node
  (x25_12 P) (.node (k 41 P) .nil .nil) .nil)) (.node (x13_3 P) (.node (k 21 P) (.node (k 37 P) .nil .nil) .nil) (.node (k 29 P) (.node (x45_20 P) .nil .nil)
  .nil)))) (.node (boot_o_2 P) (.node (boot_o_4 P) (.node (boot_o_8 P) (.node (x16_7 P) (.node (k 32 P) .nil .nil) (.node (x48_21 P) .nil .nil)) (.node (x24_11
  P) (.node (k 40 P) .nil .nil) .nil)) (.node (x12_6 P) (.node (k 20 P) (.node (k 36 P) .nil .nil) .nil) (.node (x28_15 P) (.node (k 44 P) .nil .nil) .nil)))
  (.node (boot_o_6 P) (.node (boot_o_10 P) (.node (k 18 P) (.node (x34_17 P) .nil .nil) (.node (k 50 P) .nil .nil)) (.node (x26_13 P) (.node (x42_18 P) .nil
  .nil) .nil)) (.node (x14_4 P) (.node (x22_9 P) (.node (k 38 P) .nil .nil) .nil) (.node (k 30 P) (.node (k 46 P) .nil .nil) .nil)))))
noncomputable def tr_2 (P : Params) : BT := (.node (boot_o_0 P) (.node (boot_o_1 P) (.node (x3_22 P) (.node (boot_o_7 P) (.node (k 15 P) (.node (x31_16 P) (.node (k 63
  P) .nil .nil) .nil) (.node (k 47 P) .nil .nil)) (.node (x23_10 P) (.node (k 39 P) (.node (k 71 P) .nil .nil) .nil) (.node (x55_25 P) .nil .nil))) (.node
  (x11_1 P) (.node (x19_8 P) (.node (k 35 P) (.node (k 67 P) .nil .nil) .nil) (.node (k 51 P) .nil .nil)) (.node (x27_14 P) (.node (x43_19 P) .nil .nil) (.node
  (x59_26 P) .nil .nil)))) (.node (boot_o_5 P) (.node (boot_o_9 P) (.node (k 17 P) (.node (k 33 P) (.node (k 65 P) .nil .nil) .nil) (.node (k 49 P) .nil .nil))
  (.node (x25_12 P) (.node (k 41 P) .nil .nil) (.node (k 57 P) .nil .nil))) (.node (x13_3 P) (.node (k 21 P) (.node (k 37 P) (.node (x69_29 P) .nil .nil)
  .nil) (.node (k 53 P) .nil .nil)) (.node (k 29 P) (.node (x45_20 P) .nil .nil) (.node (k 61 P) .nil .nil))))) (.node (boot_o_2 P) (.node (boot_o_4 P) (.node
  (boot_o_8 P) (.node (x16_7 P) (.node (k 32 P) (.node (k 64 P) .nil .nil) .nil) (.node (x48_21 P) .nil .nil)) (.node (x24_11 P) (.node (k 40 P) .nil .nil)
  (.node (k 56 P) .nil .nil))) (.node (x12_23 P) (.node (k 20 P) (.node (k 36 P) (.node (k 68 P) .nil .nil) .nil) (.node (x52_24 P) .nil .nil)) (.node (x28_15
  P) (.node (k 44 P) .nil .nil) (.node (k 60 P) .nil .nil)))) (.node (boot_o_6 P) (.node (boot_o_10 P) (.node (k 18 P) (.node (x34_17 P) (.node (x66_28 P)
  .nil .nil) .nil) (.node (k 50 P) .nil .nil)) (.node (x26_13 P) (.node (x42_18 P) .nil .nil) (.node (k 58 P) .nil .nil))) (.node (x14_4 P) (.node (x22_9
  P) (.node (k 38 P) (.node (k 70 P) .nil .nil) .nil) (.node (k 54 P) .nil .nil)) (.node (k 30 P) (.node (k 46 P) .nil .nil) (.node (x62_27 P) .nil .nil))))))
noncomputable def tr_3 (P : Params) : BT := (.node (boot_o_0 P) (.node (boot_o_1 P) (.node (x3_30 P) (.node (boot_o_7 P) (.node (k 15 P) (.node (x31_16 P) (.node (k 63
  P) (.node (k 127 P) .nil .nil) .nil) (.node (x95_43 P) .nil .nil)) (.node (k 47 P) (.node (k 79 P) .nil .nil) (.node (k 111 P) .nil .nil))) (.node (x23_10
  P) (.node (k 39 P) (.node (k 71 P) (.node (k 135 P) .nil .nil) .nil) (.node (k 103 P) .nil .nil)) (.node (x55_25 P) (.node (k 87 P) .nil .nil) (.node (x119_50
  P) .nil .nil)))) (.node (x11_1 P) (.node (x19_8 P) (.node (k 35 P) (.node (k 67 P) (.node (k 131 P) .nil .nil) .nil) (.node (k 99 P) .nil .nil)) (.node
  (k 51 P) (.node (k 83 P) .nil .nil) (.node (k 115 P) .nil .nil))) (.node (x27_14 P) (.node (x43_19 P) (.node (x75_35 P) (.node (k 139 P) .nil .nil) .nil)
  (.node (k 107 P) .nil .nil)) (.node (x59_26 P) (.node (x91_42 P) .nil .nil) (.node (x123_51 P) .nil .nil))))) (.node (boot_o_5 P) (.node (boot_o_9 P) (.node
  (k 17 P) (.node (k 33 P) (.node (k 65 P) (.node (k 129 P) .nil .nil) .nil) (.node (k 97 P) .nil .nil)) (.node (k 49 P) (.node (x81_39 P) .nil .nil) (.node
  (k 113 P) .nil .nil))) (.node (x25_12 P) (.node (k 41 P) (.node (x73_33 P) (.node (k 137 P) .nil .nil) .nil) (.node (x105_46 P) .nil .nil)) (.node (k 57
  P) (.node (k 89 P) .nil .nil) (.node (k 121 P) .nil .nil)))) (.node (x13_3 P) (.node (k 21 P) (.node (k 37 P) (.node (x69_29 P) (.node (x133_54 P) .nil
  .nil) .nil) (.node (k 101 P) .nil .nil)) (.node (k 53 P) (.node (k 85 P) .nil .nil) (.node (k 117 P) .nil .nil))) (.node (k 29 P) (.node (x45_20 P) (.node
  (x77_37 P) (.node (x141_55 P) .nil .nil) .nil) (.node (x109_47 P) .nil .nil)) (.node (k 61 P) (.node (k 93 P) .nil .nil) (.node (k 125 P) .nil .nil))))))
  (.node (boot_o_2 P) (.node (boot_o_4 P) (.node (boot_o_8 P) (.node (x16_7 P) (.node (k 32 P) (.node (k 64 P) (.node (k 128 P) .nil .nil) .nil) (.node (k
  96 P) .nil .nil)) (.node (x48_21 P) (.node (k 80 P) .nil .nil) (.node (x112_48 P) .nil .nil))) (.node (x24_11 P) (.node (k 40 P) (.node (x72_32 P) (.node
  (k 136 P) .nil .nil) .nil) (.node (k 104 P) .nil .nil)) (.node (k 56 P) (.node (x88_41 P) .nil .nil) (.node (k 120 P) .nil .nil)))) (.node (x12_31 P) (.node
  (k 20 P) (.node (k 36 P) (.node (k 68 P) (.node (k 132 P) .nil .nil) .nil) (.node (k 100 P) .nil .nil)) (.node (x52_24 P) (.node (x84_40 P) .nil .nil) (.node
  (x116_49 P) .nil .nil))) (.node (x28_15 P) (.node (k 44 P) (.node (x76_36 P) (.node (k 140 P) .nil .nil) .nil) (.node (k 108 P) .nil .nil)) (.node (k 60
  P) (.node (k 92 P) .nil .nil) (.node (k 124 P) .nil .nil))))) (.node (boot_o_6 P) (.node (boot_o_10 P) (.node (k 18 P) (.node (x34_17 P) (.node (x66_28
  P) (.node (x130_53 P) .nil .nil) .nil) (.node (x98_44 P) .nil .nil)) (.node (k 50 P) (.node (k 82 P) .nil .nil) (.node (k 114 P) .nil .nil))) (.node (x26_13
  P) (.node (x42_18 P) (.node (x74_34 P) (.node (k 138 P) .nil .nil) .nil) (.node (k 106 P) .nil .nil)) (.node (k 58 P) (.node (k 90 P) .nil .nil) (.node
  (k 122 P) .nil .nil)))) (.node (x14_4 P) (.node (x22_9 P) (.node (k 38 P) (.node (k 70 P) (.node (k 134 P) .nil .nil) .nil) (.node (x102_45 P) .nil .nil))
  (.node (k 54 P) (.node (k 86 P) .nil .nil) (.node (k 118 P) .nil .nil))) (.node (k 30 P) (.node (k 46 P) (.node (x78_38 P) (.node (x142_56 P) .nil .nil)
  .nil) (.node (k 110 P) .nil .nil)) (.node (x62_27 P) (.node (k 94 P) .nil .nil) (.node (x126_52 P) .nil .nil)))))))
noncomputable def tr_4 (P : Params) : BT := (.node (boot_o_0 P) (.node (boot_o_1 P) (.node (x3_57 P) (.node (boot_o_7 P) (.node (k 15 P) (.node (x31_16 P) (.node (k 63
  P) (.node (k 127 P) .nil .nil) (.node (k 191 P) .nil .nil)) (.node (x95_43 P) (.node (k 159 P) .nil .nil) .nil)) (.node (k 47 P) (.node (k 79 P) (.node
  (x143_59 P) .nil .nil) .nil) (.node (k 111 P) (.node (x175_73 P) .nil .nil) .nil))) (.node (x23_10 P) (.node (k 39 P) (.node (k 71 P) (.node (k 135 P) .nil
  .nil) .nil) (.node (k 103 P) (.node (k 167 P) .nil .nil) .nil)) (.node (x55_25 P) (.node (k 87 P) (.node (x151_66 P) .nil .nil) .nil) (.node (x119_50 P)
  (.node (k 183 P) .nil .nil) .nil)))) (.node (x11_1 P) (.node (x19_8 P) (.node (k 35 P) (.node (k 67 P) (.node (k 131 P) .nil .nil) .nil) (.node (k 99 P)
  (.node (x163_69 P) .nil .nil) .nil)) (.node (k 51 P) (.node (k 83 P) (.node (x147_63 P) .nil .nil) .nil) (.node (k 115 P) (.node (x179_74 P) .nil .nil)
  .nil))) (.node (x27_14 P) (.node (x43_19 P) (.node (x75_35 P) (.node (k 139 P) .nil .nil) .nil) (.node (k 107 P) (.node (k 171 P) .nil .nil) .nil)) (.node
  (x59_26 P) (.node (x91_42 P) (.node (k 155 P) .nil .nil) .nil) (.node (x123_51 P) (.node (k 187 P) .nil .nil) .nil))))) (.node (boot_o_5 P) (.node (boot_o_9
  P) (.node (k 17 P) (.node (k 33 P) (.node (k 65 P) (.node (k 129 P) .nil .nil) (.node (k 193 P) .nil .nil)) (.node (k 97 P) (.node (k 161 P) .nil .nil)
  .nil)) (.node (k 49 P) (.node (x81_39 P) (.node (x145_61 P) .nil .nil) .nil) (.node (k 113 P) (.node (k 177 P) .nil .nil) .nil))) (.node (x25_12 P) (.node
  (k 41 P) (.node (x73_33 P) (.node (k 137 P) .nil .nil) .nil) (.node (x105_46 P) (.node (k 169 P) .nil .nil) .nil)) (.node (k 57 P) (.node (k 89 P) (.node
  (k 153 P) .nil .nil) .nil) (.node (k 121 P) (.node (x185_77 P) .nil .nil) .nil)))) (.node (x13_3 P) (.node (k 21 P) (.node (k 37 P) (.node (x69_29 P) (.node
  (x133_54 P) .nil .nil) .nil) (.node (k 101 P) (.node (x165_70 P) .nil .nil) .nil)) (.node (k 53 P) (.node (k 85 P) (.node (x149_65 P) .nil .nil) .nil) (.node
  (k 117 P) (.node (k 181 P) .nil .nil) .nil))) (.node (k 29 P) (.node (x45_20 P) (.node (x77_37 P) (.node (x141_55 P) .nil .nil) .nil) (.node (x109_47 P)
  (.node (k 173 P) .nil .nil) .nil)) (.node (k 61 P) (.node (k 93 P) (.node (k 157 P) .nil .nil) .nil) (.node (k 125 P) (.node (x189_78 P) .nil .nil) .nil))))))
  (.node (boot_o_2 P) (.node (boot_o_4 P) (.node (boot_o_8 P) (.node (x16_7 P) (.node (k 32 P) (.node (k 64 P) (.node (k 128 P) .nil .nil) (.node (x192_79
  P) .nil .nil)) (.node (k 96 P) (.node (k 160 P) .nil .nil) .nil)) (.node (x48_21 P) (.node (k 80 P) (.node (x144_60 P) .nil .nil) .nil) (.node (x112_48
  P) (.node (k 176 P) .nil .nil) .nil))) (.node (x24_11 P) (.node (k 40 P) (.node (x72_32 P) (.node (k 136 P) .nil .nil) .nil) (.node (k 104 P) (.node (x168_71
  P) .nil .nil) .nil)) (.node (k 56 P) (.node (x88_41 P) (.node (k 152 P) .nil .nil) .nil) (.node (k 120 P) (.node (x184_76 P) .nil .nil) .nil)))) (.node
  (x12_58 P) (.node (k 20 P) (.node (k 36 P) (.node (k 68 P) (.node (k 132 P) .nil .nil) .nil) (.node (k 100 P) (.node (k 164 P) .nil .nil) .nil)) (.node
  (x52_24 P) (.node (x84_40 P) (.node (x148_64 P) .nil .nil) .nil) (.node (x116_49 P) (.node (x180_75 P) .nil .nil) .nil))) (.node (x28_15 P) (.node (k 44
  P) (.node (x76_36 P) (.node (k 140 P) .nil .nil) .nil) (.node (k 108 P) (.node (x172_72 P) .nil .nil) .nil)) (.node (k 60 P) (.node (k 92 P) (.node (k 156
  P) .nil .nil) .nil) (.node (k 124 P) (.node (k 188 P) .nil .nil) .nil))))) (.node (boot_o_6 P) (.node (boot_o_10 P) (.node (k 18 P) (.node (x34_17 P) (.node
  (x66_28 P) (.node (x130_53 P) .nil .nil) (.node (k 194 P) .nil .nil)) (.node (x98_44 P) (.node (x162_68 P) .nil .nil) .nil)) (.node (k 50 P) (.node (k 82
  P) (.node (x146_62 P) .nil .nil) .nil) (.node (k 114 P) (.node (k 178 P) .nil .nil) .nil))) (.node (x26_13 P) (.node (x42_18 P) (.node (x74_34 P) (.node
  (k 138 P) .nil .nil) .nil) (.node (k 106 P) (.node (k 170 P) .nil .nil) .nil)) (.node (k 58 P) (.node (k 90 P) (.node (x154_67 P) .nil .nil) .nil) (.node
  (k 122 P) (.node (k 186 P) .nil .nil) .nil)))) (.node (x14_4 P) (.node (x22_9 P) (.node (k 38 P) (.node (k 70 P) (.node (k 134 P) .nil .nil) .nil) (.node
  (x102_45 P) (.node (k 166 P) .nil .nil) .nil)) (.node (k 54 P) (.node (k 86 P) (.node (k 150 P) .nil .nil) .nil) (.node (k 118 P) (.node (k 182 P) .nil
  .nil) .nil))) (.node (k 30 P) (.node (k 46 P) (.node (x78_38 P) (.node (x142_56 P) .nil .nil) .nil) (.node (k 110 P) (.node (k 174 P) .nil .nil) .nil))
  (.node (x62_27 P) (.node (k 94 P) (.node (k 158 P) .nil .nil) .nil) (.node (x126_52 P) (.node (k 190 P) .nil .nil) .nil)))))))
noncomputable def tr_5 (P : Params) : BT := (.node (boot_o_0 P) (.node (boot_o_1 P) (.node (x3_80 P) (.node (boot_o_7 P) (.node (k 15 P) (.node (x31_16 P) (.node (k 63
  P) (.node (k 127 P) .nil .nil) (.node (k 191 P) .nil .nil)) (.node (x95_43 P) (.node (k 159 P) .nil .nil) (.node (k 223 P) .nil .nil))) (.node (k 47 P)
  (.node (k 79 P) (.node (x143_59 P) .nil .nil) (.node (k 207 P) .nil .nil)) (.node (k 111 P) (.node (x175_73 P) .nil .nil) (.node (x239_100 P) .nil .nil))))
  (.node (x23_10 P) (.node (k 39 P) (.node (k 71 P) (.node (k 135 P) .nil .nil) (.node (k 199 P) .nil .nil)) (.node (k 103 P) (.node (k 167 P) .nil .nil)
  (.node (k 231 P) .nil .nil))) (.node (x55_25 P) (.node (k 87 P) (.node (x151_66 P) .nil .nil) (.node (x215_93 P) .nil .nil)) (.node (x119_50 P) (.node (k
  183 P) .nil .nil) (.node (x247_101 P) .nil .nil))))) (.node (x11_1 P) (.node (x19_8 P) (.node (k 35 P) (.node (k 67 P) (.node (k 131 P) .nil .nil) (.node
  (k 195 P) .nil .nil)) (.node (k 99 P) (.node (x163_69 P) .nil .nil) (.node (k 227 P) .nil .nil))) (.node (k 51 P) (.node (k 83 P) (.node (x147_63 P) .nil
  .nil) (.node (x211_92 P) .nil .nil)) (.node (k 115 P) (.node (x179_74 P) .nil .nil) (.node (k 243 P) .nil .nil)))) (.node (x27_14 P) (.node (x43_19 P) (.node
  (x75_35 P) (.node (k 139 P) .nil .nil) (.node (x203_87 P) .nil .nil)) (.node (k 107 P) (.node (k 171 P) .nil .nil) (.node (k 235 P) .nil .nil))) (.node
  (x59_26 P) (.node (x91_42 P) (.node (k 155 P) .nil .nil) (.node (k 219 P) .nil .nil)) (.node (x123_51 P) (.node (k 187 P) .nil .nil) .nil))))) (.node (boot_o_5
  P) (.node (boot_o_9 P) (.node (k 17 P) (.node (k 33 P) (.node (k 65 P) (.node (k 129 P) .nil .nil) (.node (k 193 P) .nil .nil)) (.node (k 97 P) (.node (k
  161 P) .nil .nil) (.node (x225_96 P) .nil .nil))) (.node (k 49 P) (.node (x81_39 P) (.node (x145_61 P) .nil .nil) (.node (k 209 P) .nil .nil)) (.node (k
  113 P) (.node (k 177 P) .nil .nil) (.node (k 241 P) .nil .nil)))) (.node (x25_12 P) (.node (k 41 P) (.node (x73_33 P) (.node (k 137 P) .nil .nil) (.node
  (x201_85 P) .nil .nil)) (.node (x105_46 P) (.node (k 169 P) .nil .nil) (.node (k 233 P) .nil .nil))) (.node (k 57 P) (.node (k 89 P) (.node (k 153 P) .nil
  .nil) (.node (k 217 P) .nil .nil)) (.node (k 121 P) (.node (x185_77 P) .nil .nil) .nil)))) (.node (x13_3 P) (.node (k 21 P) (.node (k 37 P) (.node (x69_29
  P) (.node (x133_54 P) .nil .nil) (.node (x197_83 P) .nil .nil)) (.node (k 101 P) (.node (x165_70 P) .nil .nil) (.node (x229_97 P) .nil .nil))) (.node (k
  53 P) (.node (k 85 P) (.node (x149_65 P) .nil .nil) (.node (k 213 P) .nil .nil)) (.node (k 117 P) (.node (k 181 P) .nil .nil) (.node (k 245 P) .nil .nil))))
  (.node (k 29 P) (.node (x45_20 P) (.node (x77_37 P) (.node (x141_55 P) .nil .nil) (.node (x205_89 P) .nil .nil)) (.node (x109_47 P) (.node (k 173 P) .nil
  .nil) (.node (k 237 P) .nil .nil))) (.node (k 61 P) (.node (k 93 P) (.node (k 157 P) .nil .nil) (.node (k 221 P) .nil .nil)) (.node (k 125 P) (.node (x189_78
  P) .nil .nil) .nil)))))) (.node (boot_o_2 P) (.node (boot_o_4 P) (.node (boot_o_8 P) (.node (x16_7 P) (.node (k 32 P) (.node (k 64 P) (.node (k 128 P) .nil
  .nil) (.node (x192_79 P) .nil .nil)) (.node (k 96 P) (.node (k 160 P) .nil .nil) (.node (k 224 P) .nil .nil))) (.node (x48_21 P) (.node (k 80 P) (.node
  (x144_60 P) .nil .nil) (.node (x208_91 P) .nil .nil)) (.node (x112_48 P) (.node (k 176 P) .nil .nil) (.node (k 240 P) .nil .nil)))) (.node (x24_11 P) (.node
  (k 40 P) (.node (x72_32 P) (.node (k 136 P) .nil .nil) (.node (x200_84 P) .nil .nil)) (.node (k 104 P) (.node (x168_71 P) .nil .nil) (.node (x232_98 P)
  .nil .nil))) (.node (k 56 P) (.node (x88_41 P) (.node (k 152 P) .nil .nil) (.node (k 216 P) .nil .nil)) (.node (k 120 P) (.node (x184_76 P) .nil .nil) (.node
  (x248_102 P) .nil .nil))))) (.node (x12_81 P) (.node (k 20 P) (.node (k 36 P) (.node (k 68 P) (.node (k 132 P) .nil .nil) (.node (x196_82 P) .nil .nil))
  (.node (k 100 P) (.node (k 164 P) .nil .nil) (.node (k 228 P) .nil .nil))) (.node (x52_24 P) (.node (x84_40 P) (.node (x148_64 P) .nil .nil) (.node (k 212
  P) .nil .nil)) (.node (x116_49 P) (.node (x180_75 P) .nil .nil) (.node (k 244 P) .nil .nil)))) (.node (x28_15 P) (.node (k 44 P) (.node (x76_36 P) (.node
  (k 140 P) .nil .nil) (.node (x204_88 P) .nil .nil)) (.node (k 108 P) (.node (x172_72 P) .nil .nil) (.node (x236_99 P) .nil .nil))) (.node (k 60 P) (.node
  (k 92 P) (.node (k 156 P) .nil .nil) (.node (k 220 P) .nil .nil)) (.node (k 124 P) (.node (k 188 P) .nil .nil) .nil))))) (.node (boot_o_6 P) (.node (boot_o_10
  P) (.node (k 18 P) (.node (x34_17 P) (.node (x66_28 P) (.node (x130_53 P) .nil .nil) (.node (k 194 P) .nil .nil)) (.node (x98_44 P) (.node (x162_68 P) .nil
  .nil) (.node (k 226 P) .nil .nil))) (.node (k 50 P) (.node (k 82 P) (.node (x146_62 P) .nil .nil) (.node (k 210 P) .nil .nil)) (.node (k 114 P) (.node (k
  178 P) .nil .nil) (.node (k 242 P) .nil .nil)))) (.node (x26_13 P) (.node (x42_18 P) (.node (x74_34 P) (.node (k 138 P) .nil .nil) (.node (x202_86 P) .nil
  .nil)) (.node (k 106 P) (.node (k 170 P) .nil .nil) (.node (k 234 P) .nil .nil))) (.node (k 58 P) (.node (k 90 P) (.node (x154_67 P) .nil .nil) (.node (x218_94
  P) .nil .nil)) (.node (k 122 P) (.node (k 186 P) .nil .nil) .nil)))) (.node (x14_4 P) (.node (x22_9 P) (.node (k 38 P) (.node (k 70 P) (.node (k 134 P)
  .nil .nil) (.node (k 198 P) .nil .nil)) (.node (x102_45 P) (.node (k 166 P) .nil .nil) (.node (k 230 P) .nil .nil))) (.node (k 54 P) (.node (k 86 P) (.node
  (k 150 P) .nil .nil) (.node (k 214 P) .nil .nil)) (.node (k 118 P) (.node (k 182 P) .nil .nil) (.node (k 246 P) .nil .nil)))) (.node (k 30 P) (.node (k
  46 P) (.node (x78_38 P) (.node (x142_56 P) .nil .nil) (.node (x206_90 P) .nil .nil)) (.node (k 110 P) (.node (k 174 P) .nil .nil) (.node (k 238 P) .nil
  .nil))) (.node (x62_27 P) (.node (k 94 P) (.node (k 158 P) .nil .nil) (.node (x222_95 P) .nil .nil)) (.node (x126_52 P) (.node (k 190 P) .nil .nil) .nil)))))))
noncomputable def tr_6 (P : Params) : BT := (.node (boot_o_0 P) (.node (boot_o_1 P) (.node (x3_103 P) (.node (boot_o_7 P) (.node (k 15 P) (.node (x31_16 P) (.node (k
  63 P) (.node (k 127 P) (.node (x255_111 P) .nil .nil) .nil) (.node (k 191 P) .nil .nil)) (.node (x95_43 P) (.node (k 159 P) (.node (k 287 P) .nil .nil)
  .nil) (.node (k 223 P) .nil .nil))) (.node (k 47 P) (.node (k 79 P) (.node (x143_59 P) (.node (x271_116 P) .nil .nil) .nil) (.node (k 207 P) .nil .nil))
  (.node (k 111 P) (.node (x175_73 P) (.node (k 303 P) .nil .nil) .nil) (.node (x239_100 P) .nil .nil)))) (.node (x23_10 P) (.node (k 39 P) (.node (k 71 P)
  (.node (k 135 P) (.node (k 263 P) .nil .nil) .nil) (.node (k 199 P) .nil .nil)) (.node (k 103 P) (.node (k 167 P) (.node (x295_123 P) .nil .nil) .nil) (.node
  (k 231 P) .nil .nil))) (.node (x55_25 P) (.node (k 87 P) (.node (x151_66 P) (.node (k 279 P) .nil .nil) .nil) (.node (x215_93 P) .nil .nil)) (.node (x119_50
  P) (.node (k 183 P) .nil .nil) (.node (x247_101 P) .nil .nil))))) (.node (x11_1 P) (.node (x19_8 P) (.node (k 35 P) (.node (k 67 P) (.node (k 131 P) (.node
  (k 259 P) .nil .nil) .nil) (.node (k 195 P) .nil .nil)) (.node (k 99 P) (.node (x163_69 P) (.node (k 291 P) .nil .nil) .nil) (.node (k 227 P) .nil .nil)))
  (.node (k 51 P) (.node (k 83 P) (.node (x147_63 P) (.node (k 275 P) .nil .nil) .nil) (.node (x211_92 P) .nil .nil)) (.node (k 115 P) (.node (x179_74 P)
  .nil .nil) (.node (k 243 P) .nil .nil)))) (.node (x27_14 P) (.node (x43_19 P) (.node (x75_35 P) (.node (k 139 P) (.node (x267_115 P) .nil .nil) .nil) (.node
  (x203_87 P) .nil .nil)) (.node (k 107 P) (.node (k 171 P) (.node (x299_124 P) .nil .nil) .nil) (.node (k 235 P) .nil .nil))) (.node (x59_26 P) (.node (x91_42
  P) (.node (k 155 P) (.node (x283_119 P) .nil .nil) .nil) (.node (k 219 P) .nil .nil)) (.node (x123_51 P) (.node (k 187 P) .nil .nil) (.node (x251_107 P)
  .nil .nil)))))) (.node (boot_o_5 P) (.node (boot_o_9 P) (.node (k 17 P) (.node (k 33 P) (.node (k 65 P) (.node (k 129 P) (.node (x257_112 P) .nil .nil)
  .nil) (.node (k 193 P) .nil .nil)) (.node (k 97 P) (.node (k 161 P) (.node (k 289 P) .nil .nil) .nil) (.node (x225_96 P) .nil .nil))) (.node (k 49 P) (.node
  (x81_39 P) (.node (x145_61 P) (.node (k 273 P) .nil .nil) .nil) (.node (k 209 P) .nil .nil)) (.node (k 113 P) (.node (k 177 P) .nil .nil) (.node (k 241
  P) .nil .nil)))) (.node (x25_12 P) (.node (k 41 P) (.node (x73_33 P) (.node (k 137 P) (.node (k 265 P) .nil .nil) .nil) (.node (x201_85 P) .nil .nil)) (.node
  (x105_46 P) (.node (k 169 P) (.node (k 297 P) .nil .nil) .nil) (.node (k 233 P) .nil .nil))) (.node (k 57 P) (.node (k 89 P) (.node (k 153 P) (.node (k
  281 P) .nil .nil) .nil) (.node (k 217 P) .nil .nil)) (.node (k 121 P) (.node (x185_77 P) .nil .nil) (.node (x249_105 P) .nil .nil))))) (.node (x13_3 P)
  (.node (k 21 P) (.node (k 37 P) (.node (x69_29 P) (.node (x133_54 P) (.node (k 261 P) .nil .nil) .nil) (.node (x197_83 P) .nil .nil)) (.node (k 101 P) (.node
  (x165_70 P) (.node (k 293 P) .nil .nil) .nil) (.node (x229_97 P) .nil .nil))) (.node (k 53 P) (.node (k 85 P) (.node (x149_65 P) (.node (k 277 P) .nil .nil)
  .nil) (.node (k 213 P) .nil .nil)) (.node (k 117 P) (.node (k 181 P) .nil .nil) (.node (k 245 P) .nil .nil)))) (.node (k 29 P) (.node (x45_20 P) (.node
  (x77_37 P) (.node (x141_55 P) (.node (k 269 P) .nil .nil) .nil) (.node (x205_89 P) .nil .nil)) (.node (x109_47 P) (.node (k 173 P) (.node (k 301 P) .nil
  .nil) .nil) (.node (k 237 P) .nil .nil))) (.node (k 61 P) (.node (k 93 P) (.node (k 157 P) (.node (x285_120 P) .nil .nil) .nil) (.node (k 221 P) .nil .nil))
  (.node (k 125 P) (.node (x189_78 P) .nil .nil) (.node (x253_109 P) .nil .nil))))))) (.node (boot_o_2 P) (.node (boot_o_4 P) (.node (boot_o_8 P) (.node (x16_7
  P) (.node (k 32 P) (.node (k 64 P) (.node (k 128 P) (.node (k 256 P) .nil .nil) .nil) (.node (x192_79 P) .nil .nil)) (.node (k 96 P) (.node (k 160 P) (.node
  (x288_121 P) .nil .nil) .nil) (.node (k 224 P) .nil .nil))) (.node (x48_21 P) (.node (k 80 P) (.node (x144_60 P) (.node (k 272 P) .nil .nil) .nil) (.node
  (x208_91 P) .nil .nil)) (.node (x112_48 P) (.node (k 176 P) (.node (k 304 P) .nil .nil) .nil) (.node (k 240 P) .nil .nil)))) (.node (x24_11 P) (.node (k
  40 P) (.node (x72_32 P) (.node (k 136 P) (.node (x264_114 P) .nil .nil) .nil) (.node (x200_84 P) .nil .nil)) (.node (k 104 P) (.node (x168_71 P) (.node
  (k 296 P) .nil .nil) .nil) (.node (x232_98 P) .nil .nil))) (.node (k 56 P) (.node (x88_41 P) (.node (k 152 P) (.node (k 280 P) .nil .nil) .nil) (.node (k
  216 P) .nil .nil)) (.node (k 120 P) (.node (x184_76 P) .nil .nil) (.node (x248_102 P) .nil .nil))))) (.node (x12_104 P) (.node (k 20 P) (.node (k 36 P)
  (.node (k 68 P) (.node (k 132 P) (.node (x260_113 P) .nil .nil) .nil) (.node (x196_82 P) .nil .nil)) (.node (k 100 P) (.node (k 164 P) (.node (x292_122
  P) .nil .nil) .nil) (.node (k 228 P) .nil .nil))) (.node (x52_24 P) (.node (x84_40 P) (.node (x148_64 P) (.node (k 276 P) .nil .nil) .nil) (.node (k 212
  P) .nil .nil)) (.node (x116_49 P) (.node (x180_75 P) .nil .nil) (.node (k 244 P) .nil .nil)))) (.node (x28_15 P) (.node (k 44 P) (.node (x76_36 P) (.node
  (k 140 P) (.node (k 268 P) .nil .nil) .nil) (.node (x204_88 P) .nil .nil)) (.node (k 108 P) (.node (x172_72 P) (.node (k 300 P) .nil .nil) .nil) (.node
  (x236_99 P) .nil .nil))) (.node (k 60 P) (.node (k 92 P) (.node (k 156 P) (.node (k 284 P) .nil .nil) .nil) (.node (k 220 P) .nil .nil)) (.node (k 124 P)
  (.node (k 188 P) .nil .nil) (.node (x252_108 P) .nil .nil)))))) (.node (boot_o_6 P) (.node (boot_o_10 P) (.node (k 18 P) (.node (x34_17 P) (.node (x66_28
  P) (.node (x130_53 P) (.node (k 258 P) .nil .nil) .nil) (.node (k 194 P) .nil .nil)) (.node (x98_44 P) (.node (x162_68 P) (.node (k 290 P) .nil .nil) .nil)
  (.node (k 226 P) .nil .nil))) (.node (k 50 P) (.node (k 82 P) (.node (x146_62 P) (.node (x274_117 P) .nil .nil) .nil) (.node (k 210 P) .nil .nil)) (.node
  (k 114 P) (.node (k 178 P) .nil .nil) (.node (k 242 P) .nil .nil)))) (.node (x26_13 P) (.node (x42_18 P) (.node (x74_34 P) (.node (k 138 P) (.node (k 266
  P) .nil .nil) .nil) (.node (x202_86 P) .nil .nil)) (.node (k 106 P) (.node (k 170 P) (.node (k 298 P) .nil .nil) .nil) (.node (k 234 P) .nil .nil))) (.node
  (k 58 P) (.node (k 90 P) (.node (x154_67 P) (.node (x282_118 P) .nil .nil) .nil) (.node (x218_94 P) .nil .nil)) (.node (k 122 P) (.node (k 186 P) .nil .nil)
  (.node (x250_106 P) .nil .nil))))) (.node (x14_4 P) (.node (x22_9 P) (.node (k 38 P) (.node (k 70 P) (.node (k 134 P) (.node (k 262 P) .nil .nil) .nil)
  (.node (k 198 P) .nil .nil)) (.node (x102_45 P) (.node (k 166 P) (.node (k 294 P) .nil .nil) .nil) (.node (k 230 P) .nil .nil))) (.node (k 54 P) (.node
  (k 86 P) (.node (k 150 P) (.node (k 278 P) .nil .nil) .nil) (.node (k 214 P) .nil .nil)) (.node (k 118 P) (.node (k 182 P) .nil .nil) (.node (k 246 P) .nil
  .nil)))) (.node (k 30 P) (.node (k 46 P) (.node (x78_38 P) (.node (x142_56 P) (.node (k 270 P) .nil .nil) .nil) (.node (x206_90 P) .nil .nil)) (.node (k
  110 P) (.node (k 174 P) (.node (x302_125 P) .nil .nil) .nil) (.node (k 238 P) .nil .nil))) (.node (x62_27 P) (.node (k 94 P) (.node (k 158 P) (.node (k
  286 P) .nil .nil) .nil) (.node (x222_95 P) .nil .nil)) (.node (x126_52 P) (.node (k 190 P) .nil .nil) (.node (x254_110 P) .nil .nil))))))))
noncomputable def tr_7 (P : Params) : BT := (.node (boot_o_0 P) (.node (boot_o_1 P) (.node (x3_126 P) (.node (boot_o_7 P) (.node (k 15 P) (.node (x31_16 P) (.node (k
  63 P) (.node (k 127 P) (.node (x255_111 P) .nil .nil) .nil) (.node (k 191 P) (.node (k 319 P) .nil .nil) .nil)) (.node (x95_43 P) (.node (k 159 P) (.node
  (k 287 P) .nil .nil) .nil) (.node (k 223 P) (.node (x351_141 P) .nil .nil) .nil))) (.node (k 47 P) (.node (k 79 P) (.node (x143_59 P) (.node (x271_116 P)
  .nil .nil) .nil) (.node (k 207 P) (.node (k 335 P) .nil .nil) .nil)) (.node (k 111 P) (.node (x175_73 P) (.node (k 303 P) .nil .nil) .nil) (.node (x239_100
  P) (.node (k 367 P) .nil .nil) .nil)))) (.node (x23_10 P) (.node (k 39 P) (.node (k 71 P) (.node (k 135 P) (.node (k 263 P) .nil .nil) .nil) (.node (k 199
  P) (.node (x327_134 P) .nil .nil) .nil)) (.node (k 103 P) (.node (k 167 P) (.node (x295_123 P) .nil .nil) .nil) (.node (k 231 P) (.node (k 359 P) .nil .nil)
  .nil))) (.node (x55_25 P) (.node (k 87 P) (.node (x151_66 P) (.node (k 279 P) .nil .nil) .nil) (.node (x215_93 P) (.node (k 343 P) .nil .nil) .nil)) (.node
  (x119_50 P) (.node (k 183 P) (.node (k 311 P) .nil .nil) .nil) (.node (x247_101 P) (.node (k 375 P) .nil .nil) .nil))))) (.node (x11_1 P) (.node (x19_8
  P) (.node (k 35 P) (.node (k 67 P) (.node (k 131 P) (.node (k 259 P) .nil .nil) .nil) (.node (k 195 P) (.node (x323_133 P) .nil .nil) .nil)) (.node (k 99
  P) (.node (x163_69 P) (.node (k 291 P) .nil .nil) .nil) (.node (k 227 P) (.node (x355_142 P) .nil .nil) .nil))) (.node (k 51 P) (.node (k 83 P) (.node (x147_63
  P) (.node (k 275 P) .nil .nil) .nil) (.node (x211_92 P) (.node (k 339 P) .nil .nil) .nil)) (.node (k 115 P) (.node (x179_74 P) (.node (k 307 P) .nil .nil)
  .nil) (.node (k 243 P) (.node (k 371 P) .nil .nil) .nil)))) (.node (x27_14 P) (.node (x43_19 P) (.node (x75_35 P) (.node (k 139 P) (.node (x267_115 P) .nil
  .nil) .nil) (.node (x203_87 P) (.node (k 331 P) .nil .nil) .nil)) (.node (k 107 P) (.node (k 171 P) (.node (x299_124 P) .nil .nil) .nil) (.node (k 235 P)
  (.node (k 363 P) .nil .nil) .nil))) (.node (x59_26 P) (.node (x91_42 P) (.node (k 155 P) (.node (x283_119 P) .nil .nil) .nil) (.node (k 219 P) (.node (k
  347 P) .nil .nil) .nil)) (.node (x123_51 P) (.node (k 187 P) (.node (k 315 P) .nil .nil) .nil) (.node (x251_107 P) (.node (x379_149 P) .nil .nil) .nil))))))
  (.node (boot_o_5 P) (.node (boot_o_9 P) (.node (k 17 P) (.node (k 33 P) (.node (k 65 P) (.node (k 129 P) (.node (x257_112 P) .nil .nil) .nil) (.node (k
  193 P) (.node (k 321 P) .nil .nil) .nil)) (.node (k 97 P) (.node (k 161 P) (.node (k 289 P) .nil .nil) .nil) (.node (x225_96 P) (.node (k 353 P) .nil .nil)
  .nil))) (.node (k 49 P) (.node (x81_39 P) (.node (x145_61 P) (.node (k 273 P) .nil .nil) .nil) (.node (k 209 P) (.node (x337_137 P) .nil .nil) .nil)) (.node
  (k 113 P) (.node (k 177 P) (.node (k 305 P) .nil .nil) .nil) (.node (k 241 P) (.node (x369_146 P) .nil .nil) .nil)))) (.node (x25_12 P) (.node (k 41 P)
  (.node (x73_33 P) (.node (k 137 P) (.node (k 265 P) .nil .nil) .nil) (.node (x201_85 P) (.node (k 329 P) .nil .nil) .nil)) (.node (x105_46 P) (.node (k
  169 P) (.node (k 297 P) .nil .nil) .nil) (.node (k 233 P) (.node (k 361 P) .nil .nil) .nil))) (.node (k 57 P) (.node (k 89 P) (.node (k 153 P) (.node (k
  281 P) .nil .nil) .nil) (.node (k 217 P) (.node (k 345 P) .nil .nil) .nil)) (.node (k 121 P) (.node (x185_77 P) (.node (x313_130 P) .nil .nil) .nil) (.node
  (x249_105 P) (.node (k 377 P) .nil .nil) .nil))))) (.node (x13_3 P) (.node (k 21 P) (.node (k 37 P) (.node (x69_29 P) (.node (x133_54 P) (.node (k 261 P)
  .nil .nil) .nil) (.node (x197_83 P) (.node (k 325 P) .nil .nil) .nil)) (.node (k 101 P) (.node (x165_70 P) (.node (k 293 P) .nil .nil) .nil) (.node (x229_97
  P) (.node (k 357 P) .nil .nil) .nil))) (.node (k 53 P) (.node (k 85 P) (.node (x149_65 P) (.node (k 277 P) .nil .nil) .nil) (.node (k 213 P) (.node (x341_138
  P) .nil .nil) .nil)) (.node (k 117 P) (.node (k 181 P) (.node (x309_129 P) .nil .nil) .nil) (.node (k 245 P) (.node (k 373 P) .nil .nil) .nil)))) (.node
  (k 29 P) (.node (x45_20 P) (.node (x77_37 P) (.node (x141_55 P) (.node (k 269 P) .nil .nil) .nil) (.node (x205_89 P) (.node (k 333 P) .nil .nil) .nil))
  (.node (x109_47 P) (.node (k 173 P) (.node (k 301 P) .nil .nil) .nil) (.node (k 237 P) (.node (x365_145 P) .nil .nil) .nil))) (.node (k 61 P) (.node (k
  93 P) (.node (k 157 P) (.node (x285_120 P) .nil .nil) .nil) (.node (k 221 P) (.node (k 349 P) .nil .nil) .nil)) (.node (k 125 P) (.node (x189_78 P) (.node
  (k 317 P) .nil .nil) .nil) (.node (x253_109 P) (.node (k 381 P) .nil .nil) .nil))))))) (.node (boot_o_2 P) (.node (boot_o_4 P) (.node (boot_o_8 P) (.node
  (x16_7 P) (.node (k 32 P) (.node (k 64 P) (.node (k 128 P) (.node (k 256 P) .nil .nil) .nil) (.node (x192_79 P) (.node (x320_132 P) .nil .nil) .nil)) (.node
  (k 96 P) (.node (k 160 P) (.node (x288_121 P) .nil .nil) .nil) (.node (k 224 P) (.node (k 352 P) .nil .nil) .nil))) (.node (x48_21 P) (.node (k 80 P) (.node
  (x144_60 P) (.node (k 272 P) .nil .nil) .nil) (.node (x208_91 P) (.node (k 336 P) .nil .nil) .nil)) (.node (x112_48 P) (.node (k 176 P) (.node (k 304 P)
  .nil .nil) .nil) (.node (k 240 P) (.node (k 368 P) .nil .nil) .nil)))) (.node (x24_11 P) (.node (k 40 P) (.node (x72_32 P) (.node (k 136 P) (.node (x264_114
  P) .nil .nil) .nil) (.node (x200_84 P) (.node (k 328 P) .nil .nil) .nil)) (.node (k 104 P) (.node (x168_71 P) (.node (k 296 P) .nil .nil) .nil) (.node (x232_98
  P) (.node (k 360 P) .nil .nil) .nil))) (.node (k 56 P) (.node (x88_41 P) (.node (k 152 P) (.node (k 280 P) .nil .nil) .nil) (.node (k 216 P) (.node (x344_139
  P) .nil .nil) .nil)) (.node (k 120 P) (.node (x184_76 P) (.node (k 312 P) .nil .nil) .nil) (.node (x248_102 P) (.node (x376_148 P) .nil .nil) .nil)))))
  (.node (x12_127 P) (.node (k 20 P) (.node (k 36 P) (.node (k 68 P) (.node (k 132 P) (.node (x260_113 P) .nil .nil) .nil) (.node (x196_82 P) (.node (k 324
  P) .nil .nil) .nil)) (.node (k 100 P) (.node (k 164 P) (.node (x292_122 P) .nil .nil) .nil) (.node (k 228 P) (.node (k 356 P) .nil .nil) .nil))) (.node
  (x52_24 P) (.node (x84_40 P) (.node (x148_64 P) (.node (k 276 P) .nil .nil) .nil) (.node (k 212 P) (.node (k 340 P) .nil .nil) .nil)) (.node (x116_49 P)
  (.node (x180_75 P) (.node (k 308 P) .nil .nil) .nil) (.node (k 244 P) (.node (x372_147 P) .nil .nil) .nil)))) (.node (x28_15 P) (.node (k 44 P) (.node (x76_36
  P) (.node (k 140 P) (.node (k 268 P) .nil .nil) .nil) (.node (x204_88 P) (.node (k 332 P) .nil .nil) .nil)) (.node (k 108 P) (.node (x172_72 P) (.node (k
  300 P) .nil .nil) .nil) (.node (x236_99 P) (.node (k 364 P) .nil .nil) .nil))) (.node (k 60 P) (.node (k 92 P) (.node (k 156 P) (.node (k 284 P) .nil .nil)
  .nil) (.node (k 220 P) (.node (x348_140 P) .nil .nil) .nil)) (.node (k 124 P) (.node (k 188 P) (.node (x316_131 P) .nil .nil) .nil) (.node (x252_108 P)
  (.node (k 380 P) .nil .nil) .nil)))))) (.node (boot_o_6 P) (.node (boot_o_10 P) (.node (k 18 P) (.node (x34_17 P) (.node (x66_28 P) (.node (x130_53 P) (.node
  (k 258 P) .nil .nil) .nil) (.node (k 194 P) (.node (k 322 P) .nil .nil) .nil)) (.node (x98_44 P) (.node (x162_68 P) (.node (k 290 P) .nil .nil) .nil) (.node
  (k 226 P) (.node (k 354 P) .nil .nil) .nil))) (.node (k 50 P) (.node (k 82 P) (.node (x146_62 P) (.node (x274_117 P) .nil .nil) .nil) (.node (k 210 P) (.node
  (k 338 P) .nil .nil) .nil)) (.node (k 114 P) (.node (k 178 P) (.node (x306_128 P) .nil .nil) .nil) (.node (k 242 P) (.node (k 370 P) .nil .nil) .nil))))
  (.node (x26_13 P) (.node (x42_18 P) (.node (x74_34 P) (.node (k 138 P) (.node (k 266 P) .nil .nil) .nil) (.node (x202_86 P) (.node (x330_135 P) .nil .nil)
  .nil)) (.node (k 106 P) (.node (k 170 P) (.node (k 298 P) .nil .nil) .nil) (.node (k 234 P) (.node (x362_144 P) .nil .nil) .nil))) (.node (k 58 P) (.node
  (k 90 P) (.node (x154_67 P) (.node (x282_118 P) .nil .nil) .nil) (.node (x218_94 P) (.node (k 346 P) .nil .nil) .nil)) (.node (k 122 P) (.node (k 186 P)
  (.node (k 314 P) .nil .nil) .nil) (.node (x250_106 P) (.node (k 378 P) .nil .nil) .nil))))) (.node (x14_4 P) (.node (x22_9 P) (.node (k 38 P) (.node (k
  70 P) (.node (k 134 P) (.node (k 262 P) .nil .nil) .nil) (.node (k 198 P) (.node (k 326 P) .nil .nil) .nil)) (.node (x102_45 P) (.node (k 166 P) (.node
  (k 294 P) .nil .nil) .nil) (.node (k 230 P) (.node (x358_143 P) .nil .nil) .nil))) (.node (k 54 P) (.node (k 86 P) (.node (k 150 P) (.node (k 278 P) .nil
  .nil) .nil) (.node (k 214 P) (.node (k 342 P) .nil .nil) .nil)) (.node (k 118 P) (.node (k 182 P) (.node (k 310 P) .nil .nil) .nil) (.node (k 246 P) (.node
  (k 374 P) .nil .nil) .nil)))) (.node (k 30 P) (.node (k 46 P) (.node (x78_38 P) (.node (x142_56 P) (.node (k 270 P) .nil .nil) .nil) (.node (x206_90 P)
  (.node (x334_136 P) .nil .nil) .nil)) (.node (k 110 P) (.node (k 174 P) (.node (x302_125 P) .nil .nil) .nil) (.node (k 238 P) (.node (k 366 P) .nil .nil)
  .nil))) (.node (x62_27 P) (.node (k 94 P) (.node (k 158 P) (.node (k 286 P) .nil .nil) .nil) (.node (x222_95 P) (.node (k 350 P) .nil .nil) .nil)) (.node
  (x126_52 P) (.node (k 190 P) (.node (k 318 P) .nil .nil) .nil) (.node (x254_110 P) .nil .nil))))))))
noncomputable def tr_8 (P : Params) : BT := (.node (boot_o_0 P) (.node (boot_o_1 P) (.node (x3_150 P) (.node (boot_o_7 P) (.node (k 15 P) (.node (x31_16 P) (.node (k
  63 P) (.node (k 127 P) (.node (x255_111 P) .nil .nil) (.node (x383_152 P) .nil .nil)) (.node (k 191 P) (.node (k 319 P) .nil .nil) .nil)) (.node (x95_43
  P) (.node (k 159 P) (.node (k 287 P) .nil .nil) (.node (k 415 P) .nil .nil)) (.node (k 223 P) (.node (x351_141 P) .nil .nil) .nil))) (.node (k 47 P) (.node
  (k 79 P) (.node (x143_59 P) (.node (x271_116 P) .nil .nil) (.node (k 399 P) .nil .nil)) (.node (k 207 P) (.node (k 335 P) .nil .nil) .nil)) (.node (k 111
  P) (.node (x175_73 P) (.node (k 303 P) .nil .nil) .nil) (.node (x239_100 P) (.node (k 367 P) .nil .nil) .nil)))) (.node (x23_10 P) (.node (k 39 P) (.node
  (k 71 P) (.node (k 135 P) (.node (k 263 P) .nil .nil) (.node (k 391 P) .nil .nil)) (.node (k 199 P) (.node (x327_134 P) .nil .nil) .nil)) (.node (k 103
  P) (.node (k 167 P) (.node (x295_123 P) .nil .nil) .nil) (.node (k 231 P) (.node (k 359 P) .nil .nil) .nil))) (.node (x55_25 P) (.node (k 87 P) (.node (x151_66
  P) (.node (k 279 P) .nil .nil) (.node (x407_159 P) .nil .nil)) (.node (x215_93 P) (.node (k 343 P) .nil .nil) .nil)) (.node (x119_50 P) (.node (k 183 P)
  (.node (k 311 P) .nil .nil) .nil) (.node (x247_101 P) (.node (k 375 P) .nil .nil) .nil))))) (.node (x11_1 P) (.node (x19_8 P) (.node (k 35 P) (.node (k
  67 P) (.node (k 131 P) (.node (k 259 P) .nil .nil) (.node (k 387 P) .nil .nil)) (.node (k 195 P) (.node (x323_133 P) .nil .nil) .nil)) (.node (k 99 P) (.node
  (x163_69 P) (.node (k 291 P) .nil .nil) .nil) (.node (k 227 P) (.node (x355_142 P) .nil .nil) .nil))) (.node (k 51 P) (.node (k 83 P) (.node (x147_63 P)
  (.node (k 275 P) .nil .nil) (.node (k 403 P) .nil .nil)) (.node (x211_92 P) (.node (k 339 P) .nil .nil) .nil)) (.node (k 115 P) (.node (x179_74 P) (.node
  (k 307 P) .nil .nil) .nil) (.node (k 243 P) (.node (k 371 P) .nil .nil) .nil)))) (.node (x27_14 P) (.node (x43_19 P) (.node (x75_35 P) (.node (k 139 P)
  (.node (x267_115 P) .nil .nil) (.node (k 395 P) .nil .nil)) (.node (x203_87 P) (.node (k 331 P) .nil .nil) .nil)) (.node (k 107 P) (.node (k 171 P) (.node
  (x299_124 P) .nil .nil) .nil) (.node (k 235 P) (.node (k 363 P) .nil .nil) .nil))) (.node (x59_26 P) (.node (x91_42 P) (.node (k 155 P) (.node (x283_119
  P) .nil .nil) (.node (x411_160 P) .nil .nil)) (.node (k 219 P) (.node (k 347 P) .nil .nil) .nil)) (.node (x123_51 P) (.node (k 187 P) (.node (k 315 P) .nil
  .nil) .nil) (.node (x251_107 P) (.node (x379_149 P) .nil .nil) .nil)))))) (.node (boot_o_5 P) (.node (boot_o_9 P) (.node (k 17 P) (.node (k 33 P) (.node
  (k 65 P) (.node (k 129 P) (.node (x257_112 P) .nil .nil) (.node (k 385 P) .nil .nil)) (.node (k 193 P) (.node (k 321 P) .nil .nil) .nil)) (.node (k 97 P)
  (.node (k 161 P) (.node (k 289 P) .nil .nil) .nil) (.node (x225_96 P) (.node (k 353 P) .nil .nil) .nil))) (.node (k 49 P) (.node (x81_39 P) (.node (x145_61
  P) (.node (k 273 P) .nil .nil) (.node (k 401 P) .nil .nil)) (.node (k 209 P) (.node (x337_137 P) .nil .nil) .nil)) (.node (k 113 P) (.node (k 177 P) (.node
  (k 305 P) .nil .nil) .nil) (.node (k 241 P) (.node (x369_146 P) .nil .nil) .nil)))) (.node (x25_12 P) (.node (k 41 P) (.node (x73_33 P) (.node (k 137 P)
  (.node (k 265 P) .nil .nil) (.node (x393_155 P) .nil .nil)) (.node (x201_85 P) (.node (k 329 P) .nil .nil) .nil)) (.node (x105_46 P) (.node (k 169 P) (.node
  (k 297 P) .nil .nil) .nil) (.node (k 233 P) (.node (k 361 P) .nil .nil) .nil))) (.node (k 57 P) (.node (k 89 P) (.node (k 153 P) (.node (k 281 P) .nil .nil)
  (.node (k 409 P) .nil .nil)) (.node (k 217 P) (.node (k 345 P) .nil .nil) .nil)) (.node (k 121 P) (.node (x185_77 P) (.node (x313_130 P) .nil .nil) .nil)
  (.node (x249_105 P) (.node (k 377 P) .nil .nil) .nil))))) (.node (x13_3 P) (.node (k 21 P) (.node (k 37 P) (.node (x69_29 P) (.node (x133_54 P) (.node (k
  261 P) .nil .nil) (.node (k 389 P) .nil .nil)) (.node (x197_83 P) (.node (k 325 P) .nil .nil) .nil)) (.node (k 101 P) (.node (x165_70 P) (.node (k 293 P)
  .nil .nil) .nil) (.node (x229_97 P) (.node (k 357 P) .nil .nil) .nil))) (.node (k 53 P) (.node (k 85 P) (.node (x149_65 P) (.node (k 277 P) .nil .nil) (.node
  (k 405 P) .nil .nil)) (.node (k 213 P) (.node (x341_138 P) .nil .nil) .nil)) (.node (k 117 P) (.node (k 181 P) (.node (x309_129 P) .nil .nil) .nil) (.node
  (k 245 P) (.node (k 373 P) .nil .nil) .nil)))) (.node (k 29 P) (.node (x45_20 P) (.node (x77_37 P) (.node (x141_55 P) (.node (k 269 P) .nil .nil) (.node
  (x397_156 P) .nil .nil)) (.node (x205_89 P) (.node (k 333 P) .nil .nil) .nil)) (.node (x109_47 P) (.node (k 173 P) (.node (k 301 P) .nil .nil) .nil) (.node
  (k 237 P) (.node (x365_145 P) .nil .nil) .nil))) (.node (k 61 P) (.node (k 93 P) (.node (k 157 P) (.node (x285_120 P) .nil .nil) (.node (k 413 P) .nil .nil))
  (.node (k 221 P) (.node (k 349 P) .nil .nil) .nil)) (.node (k 125 P) (.node (x189_78 P) (.node (k 317 P) .nil .nil) .nil) (.node (x253_109 P) (.node (k
  381 P) .nil .nil) .nil))))))) (.node (boot_o_2 P) (.node (boot_o_4 P) (.node (boot_o_8 P) (.node (x16_7 P) (.node (k 32 P) (.node (k 64 P) (.node (k 128
  P) (.node (k 256 P) .nil .nil) (.node (k 384 P) .nil .nil)) (.node (x192_79 P) (.node (x320_132 P) .nil .nil) .nil)) (.node (k 96 P) (.node (k 160 P) (.node
  (x288_121 P) .nil .nil) (.node (k 416 P) .nil .nil)) (.node (k 224 P) (.node (k 352 P) .nil .nil) .nil))) (.node (x48_21 P) (.node (k 80 P) (.node (x144_60
  P) (.node (k 272 P) .nil .nil) (.node (x400_157 P) .nil .nil)) (.node (x208_91 P) (.node (k 336 P) .nil .nil) .nil)) (.node (x112_48 P) (.node (k 176 P)
  (.node (k 304 P) .nil .nil) .nil) (.node (k 240 P) (.node (k 368 P) .nil .nil) .nil)))) (.node (x24_11 P) (.node (k 40 P) (.node (x72_32 P) (.node (k 136
  P) (.node (x264_114 P) .nil .nil) (.node (k 392 P) .nil .nil)) (.node (x200_84 P) (.node (k 328 P) .nil .nil) .nil)) (.node (k 104 P) (.node (x168_71 P)
  (.node (k 296 P) .nil .nil) .nil) (.node (x232_98 P) (.node (k 360 P) .nil .nil) .nil))) (.node (k 56 P) (.node (x88_41 P) (.node (k 152 P) (.node (k 280
  P) .nil .nil) (.node (k 408 P) .nil .nil)) (.node (k 216 P) (.node (x344_139 P) .nil .nil) .nil)) (.node (k 120 P) (.node (x184_76 P) (.node (k 312 P) .nil
  .nil) .nil) (.node (x248_102 P) (.node (x376_148 P) .nil .nil) .nil))))) (.node (x12_151 P) (.node (k 20 P) (.node (k 36 P) (.node (k 68 P) (.node (k 132
  P) (.node (x260_113 P) .nil .nil) (.node (k 388 P) .nil .nil)) (.node (x196_82 P) (.node (k 324 P) .nil .nil) .nil)) (.node (k 100 P) (.node (k 164 P) (.node
  (x292_122 P) .nil .nil) .nil) (.node (k 228 P) (.node (k 356 P) .nil .nil) .nil))) (.node (x52_24 P) (.node (x84_40 P) (.node (x148_64 P) (.node (k 276
  P) .nil .nil) (.node (x404_158 P) .nil .nil)) (.node (k 212 P) (.node (k 340 P) .nil .nil) .nil)) (.node (x116_49 P) (.node (x180_75 P) (.node (k 308 P)
  .nil .nil) .nil) (.node (k 244 P) (.node (x372_147 P) .nil .nil) .nil)))) (.node (x28_15 P) (.node (k 44 P) (.node (x76_36 P) (.node (k 140 P) (.node (k
  268 P) .nil .nil) (.node (k 396 P) .nil .nil)) (.node (x204_88 P) (.node (k 332 P) .nil .nil) .nil)) (.node (k 108 P) (.node (x172_72 P) (.node (k 300 P)
  .nil .nil) .nil) (.node (x236_99 P) (.node (k 364 P) .nil .nil) .nil))) (.node (k 60 P) (.node (k 92 P) (.node (k 156 P) (.node (k 284 P) .nil .nil) (.node
  (k 412 P) .nil .nil)) (.node (k 220 P) (.node (x348_140 P) .nil .nil) .nil)) (.node (k 124 P) (.node (k 188 P) (.node (x316_131 P) .nil .nil) .nil) (.node
  (x252_108 P) (.node (k 380 P) .nil .nil) .nil)))))) (.node (boot_o_6 P) (.node (boot_o_10 P) (.node (k 18 P) (.node (x34_17 P) (.node (x66_28 P) (.node
  (x130_53 P) (.node (k 258 P) .nil .nil) (.node (x386_153 P) .nil .nil)) (.node (k 194 P) (.node (k 322 P) .nil .nil) .nil)) (.node (x98_44 P) (.node (x162_68
  P) (.node (k 290 P) .nil .nil) .nil) (.node (k 226 P) (.node (k 354 P) .nil .nil) .nil))) (.node (k 50 P) (.node (k 82 P) (.node (x146_62 P) (.node (x274_117
  P) .nil .nil) (.node (k 402 P) .nil .nil)) (.node (k 210 P) (.node (k 338 P) .nil .nil) .nil)) (.node (k 114 P) (.node (k 178 P) (.node (x306_128 P) .nil
  .nil) .nil) (.node (k 242 P) (.node (k 370 P) .nil .nil) .nil)))) (.node (x26_13 P) (.node (x42_18 P) (.node (x74_34 P) (.node (k 138 P) (.node (k 266 P)
  .nil .nil) (.node (k 394 P) .nil .nil)) (.node (x202_86 P) (.node (x330_135 P) .nil .nil) .nil)) (.node (k 106 P) (.node (k 170 P) (.node (k 298 P) .nil
  .nil) .nil) (.node (k 234 P) (.node (x362_144 P) .nil .nil) .nil))) (.node (k 58 P) (.node (k 90 P) (.node (x154_67 P) (.node (x282_118 P) .nil .nil) (.node
  (k 410 P) .nil .nil)) (.node (x218_94 P) (.node (k 346 P) .nil .nil) .nil)) (.node (k 122 P) (.node (k 186 P) (.node (k 314 P) .nil .nil) .nil) (.node (x250_106
  P) (.node (k 378 P) .nil .nil) .nil))))) (.node (x14_4 P) (.node (x22_9 P) (.node (k 38 P) (.node (k 70 P) (.node (k 134 P) (.node (k 262 P) .nil .nil)
  (.node (x390_154 P) .nil .nil)) (.node (k 198 P) (.node (k 326 P) .nil .nil) .nil)) (.node (x102_45 P) (.node (k 166 P) (.node (k 294 P) .nil .nil) .nil)
  (.node (k 230 P) (.node (x358_143 P) .nil .nil) .nil))) (.node (k 54 P) (.node (k 86 P) (.node (k 150 P) (.node (k 278 P) .nil .nil) (.node (k 406 P) .nil
  .nil)) (.node (k 214 P) (.node (k 342 P) .nil .nil) .nil)) (.node (k 118 P) (.node (k 182 P) (.node (k 310 P) .nil .nil) .nil) (.node (k 246 P) (.node (k
  374 P) .nil .nil) .nil)))) (.node (k 30 P) (.node (k 46 P) (.node (x78_38 P) (.node (x142_56 P) (.node (k 270 P) .nil .nil) (.node (k 398 P) .nil .nil))
  (.node (x206_90 P) (.node (x334_136 P) .nil .nil) .nil)) (.node (k 110 P) (.node (k 174 P) (.node (x302_125 P) .nil .nil) .nil) (.node (k 238 P) (.node
  (k 366 P) .nil .nil) .nil))) (.node (x62_27 P) (.node (k 94 P) (.node (k 158 P) (.node (k 286 P) .nil .nil) (.node (x414_161 P) .nil .nil)) (.node (x222_95
  P) (.node (k 350 P) .nil .nil) .nil)) (.node (x126_52 P) (.node (k 190 P) (.node (k 318 P) .nil .nil) .nil) (.node (x254_110 P) (.node (k 382 P) .nil .nil)
  .nil))))))))
noncomputable def tr_9 (P : Params) : BT := (.node (boot_o_0 P) (.node (boot_o_1 P) (.node (x3_162 P) (.node (boot_o_7 P) (.node (k 15 P) (.node (x31_16 P) (.node (k
  63 P) (.node (k 127 P) (.node (x255_111 P) .nil .nil) (.node (x383_152 P) .nil .nil)) (.node (k 191 P) (.node (k 319 P) .nil .nil) .nil)) (.node (x95_43
  P) (.node (k 159 P) (.node (k 287 P) .nil .nil) (.node (k 415 P) .nil .nil)) (.node (k 223 P) (.node (x351_141 P) .nil .nil) .nil))) (.node (k 47 P) (.node
  (k 79 P) (.node (x143_59 P) (.node (x271_116 P) .nil .nil) (.node (k 399 P) .nil .nil)) (.node (k 207 P) (.node (k 335 P) .nil .nil) .nil)) (.node (k 111
  P) (.node (x175_73 P) (.node (k 303 P) .nil .nil) (.node (k 431 P) .nil .nil)) (.node (x239_100 P) (.node (k 367 P) .nil .nil) .nil)))) (.node (x23_10 P)
  (.node (k 39 P) (.node (k 71 P) (.node (k 135 P) (.node (k 263 P) .nil .nil) (.node (k 391 P) .nil .nil)) (.node (k 199 P) (.node (x327_134 P) .nil .nil)
  .nil)) (.node (k 103 P) (.node (k 167 P) (.node (x295_123 P) .nil .nil) (.node (x423_170 P) .nil .nil)) (.node (k 231 P) (.node (k 359 P) .nil .nil) .nil)))
  (.node (x55_25 P) (.node (k 87 P) (.node (x151_66 P) (.node (k 279 P) .nil .nil) (.node (x407_159 P) .nil .nil)) (.node (x215_93 P) (.node (k 343 P) .nil
  .nil) .nil)) (.node (x119_50 P) (.node (k 183 P) (.node (k 311 P) .nil .nil) .nil) (.node (x247_101 P) (.node (k 375 P) .nil .nil) .nil))))) (.node (x11_1
  P) (.node (x19_8 P) (.node (k 35 P) (.node (k 67 P) (.node (k 131 P) (.node (k 259 P) .nil .nil) (.node (k 387 P) .nil .nil)) (.node (k 195 P) (.node (x323_133
  P) .nil .nil) .nil)) (.node (k 99 P) (.node (x163_69 P) (.node (k 291 P) .nil .nil) (.node (x419_166 P) .nil .nil)) (.node (k 227 P) (.node (x355_142 P)
  .nil .nil) .nil))) (.node (k 51 P) (.node (k 83 P) (.node (x147_63 P) (.node (k 275 P) .nil .nil) (.node (k 403 P) .nil .nil)) (.node (x211_92 P) (.node
  (k 339 P) .nil .nil) .nil)) (.node (k 115 P) (.node (x179_74 P) (.node (k 307 P) .nil .nil) (.node (k 435 P) .nil .nil)) (.node (k 243 P) (.node (k 371
  P) .nil .nil) .nil)))) (.node (x27_14 P) (.node (x43_19 P) (.node (x75_35 P) (.node (k 139 P) (.node (x267_115 P) .nil .nil) (.node (k 395 P) .nil .nil))
  (.node (x203_87 P) (.node (k 331 P) .nil .nil) .nil)) (.node (k 107 P) (.node (k 171 P) (.node (x299_124 P) .nil .nil) (.node (k 427 P) .nil .nil)) (.node
  (k 235 P) (.node (k 363 P) .nil .nil) .nil))) (.node (x59_26 P) (.node (x91_42 P) (.node (k 155 P) (.node (x283_119 P) .nil .nil) (.node (x411_160 P) .nil
  .nil)) (.node (k 219 P) (.node (k 347 P) .nil .nil) .nil)) (.node (x123_51 P) (.node (k 187 P) (.node (k 315 P) .nil .nil) .nil) (.node (x251_107 P) (.node
  (x379_149 P) .nil .nil) .nil)))))) (.node (boot_o_5 P) (.node (boot_o_9 P) (.node (k 17 P) (.node (k 33 P) (.node (k 65 P) (.node (k 129 P) (.node (x257_112
  P) .nil .nil) (.node (k 385 P) .nil .nil)) (.node (k 193 P) (.node (k 321 P) .nil .nil) .nil)) (.node (k 97 P) (.node (k 161 P) (.node (k 289 P) .nil .nil)
  (.node (x417_164 P) .nil .nil)) (.node (x225_96 P) (.node (k 353 P) .nil .nil) .nil))) (.node (k 49 P) (.node (x81_39 P) (.node (x145_61 P) (.node (k 273
  P) .nil .nil) (.node (k 401 P) .nil .nil)) (.node (k 209 P) (.node (x337_137 P) .nil .nil) .nil)) (.node (k 113 P) (.node (k 177 P) (.node (k 305 P) .nil
  .nil) (.node (k 433 P) .nil .nil)) (.node (k 241 P) (.node (x369_146 P) .nil .nil) .nil)))) (.node (x25_12 P) (.node (k 41 P) (.node (x73_33 P) (.node (k
  137 P) (.node (k 265 P) .nil .nil) (.node (x393_155 P) .nil .nil)) (.node (x201_85 P) (.node (k 329 P) .nil .nil) .nil)) (.node (x105_46 P) (.node (k 169
  P) (.node (k 297 P) .nil .nil) (.node (k 425 P) .nil .nil)) (.node (k 233 P) (.node (k 361 P) .nil .nil) .nil))) (.node (k 57 P) (.node (k 89 P) (.node
  (k 153 P) (.node (k 281 P) .nil .nil) (.node (k 409 P) .nil .nil)) (.node (k 217 P) (.node (k 345 P) .nil .nil) .nil)) (.node (k 121 P) (.node (x185_77
  P) (.node (x313_130 P) .nil .nil) .nil) (.node (x249_105 P) (.node (k 377 P) .nil .nil) .nil))))) (.node (x13_3 P) (.node (k 21 P) (.node (k 37 P) (.node
  (x69_29 P) (.node (x133_54 P) (.node (k 261 P) .nil .nil) (.node (k 389 P) .nil .nil)) (.node (x197_83 P) (.node (k 325 P) .nil .nil) .nil)) (.node (k 101
  P) (.node (x165_70 P) (.node (k 293 P) .nil .nil) (.node (x421_168 P) .nil .nil)) (.node (x229_97 P) (.node (k 357 P) .nil .nil) .nil))) (.node (k 53 P)
  (.node (k 85 P) (.node (x149_65 P) (.node (k 277 P) .nil .nil) (.node (k 405 P) .nil .nil)) (.node (k 213 P) (.node (x341_138 P) .nil .nil) .nil)) (.node
  (k 117 P) (.node (k 181 P) (.node (x309_129 P) .nil .nil) (.node (x437_173 P) .nil .nil)) (.node (k 245 P) (.node (k 373 P) .nil .nil) .nil)))) (.node (k
  29 P) (.node (x45_20 P) (.node (x77_37 P) (.node (x141_55 P) (.node (k 269 P) .nil .nil) (.node (x397_156 P) .nil .nil)) (.node (x205_89 P) (.node (k 333
  P) .nil .nil) .nil)) (.node (x109_47 P) (.node (k 173 P) (.node (k 301 P) .nil .nil) (.node (x429_172 P) .nil .nil)) (.node (k 237 P) (.node (x365_145 P)
  .nil .nil) .nil))) (.node (k 61 P) (.node (k 93 P) (.node (k 157 P) (.node (x285_120 P) .nil .nil) (.node (k 413 P) .nil .nil)) (.node (k 221 P) (.node
  (k 349 P) .nil .nil) .nil)) (.node (k 125 P) (.node (x189_78 P) (.node (k 317 P) .nil .nil) .nil) (.node (x253_109 P) (.node (k 381 P) .nil .nil) .nil)))))))
  (.node (boot_o_2 P) (.node (boot_o_4 P) (.node (boot_o_8 P) (.node (x16_7 P) (.node (k 32 P) (.node (k 64 P) (.node (k 128 P) (.node (k 256 P) .nil .nil)
  (.node (k 384 P) .nil .nil)) (.node (x192_79 P) (.node (x320_132 P) .nil .nil) .nil)) (.node (k 96 P) (.node (k 160 P) (.node (x288_121 P) .nil .nil) (.node
  (k 416 P) .nil .nil)) (.node (k 224 P) (.node (k 352 P) .nil .nil) .nil))) (.node (x48_21 P) (.node (k 80 P) (.node (x144_60 P) (.node (k 272 P) .nil .nil)
  (.node (x400_157 P) .nil .nil)) (.node (x208_91 P) (.node (k 336 P) .nil .nil) .nil)) (.node (x112_48 P) (.node (k 176 P) (.node (k 304 P) .nil .nil) (.node
  (k 432 P) .nil .nil)) (.node (k 240 P) (.node (k 368 P) .nil .nil) .nil)))) (.node (x24_11 P) (.node (k 40 P) (.node (x72_32 P) (.node (k 136 P) (.node
  (x264_114 P) .nil .nil) (.node (k 392 P) .nil .nil)) (.node (x200_84 P) (.node (k 328 P) .nil .nil) .nil)) (.node (k 104 P) (.node (x168_71 P) (.node (k
  296 P) .nil .nil) (.node (k 424 P) .nil .nil)) (.node (x232_98 P) (.node (k 360 P) .nil .nil) .nil))) (.node (k 56 P) (.node (x88_41 P) (.node (k 152 P)
  (.node (k 280 P) .nil .nil) (.node (k 408 P) .nil .nil)) (.node (k 216 P) (.node (x344_139 P) .nil .nil) .nil)) (.node (k 120 P) (.node (x184_76 P) (.node
  (k 312 P) .nil .nil) .nil) (.node (x248_102 P) (.node (x376_148 P) .nil .nil) .nil))))) (.node (x12_163 P) (.node (k 20 P) (.node (k 36 P) (.node (k 68
  P) (.node (k 132 P) (.node (x260_113 P) .nil .nil) (.node (k 388 P) .nil .nil)) (.node (x196_82 P) (.node (k 324 P) .nil .nil) .nil)) (.node (k 100 P) (.node
  (k 164 P) (.node (x292_122 P) .nil .nil) (.node (x420_167 P) .nil .nil)) (.node (k 228 P) (.node (k 356 P) .nil .nil) .nil))) (.node (x52_24 P) (.node (x84_40
  P) (.node (x148_64 P) (.node (k 276 P) .nil .nil) (.node (x404_158 P) .nil .nil)) (.node (k 212 P) (.node (k 340 P) .nil .nil) .nil)) (.node (x116_49 P)
  (.node (x180_75 P) (.node (k 308 P) .nil .nil) (.node (k 436 P) .nil .nil)) (.node (k 244 P) (.node (x372_147 P) .nil .nil) .nil)))) (.node (x28_15 P) (.node
  (k 44 P) (.node (x76_36 P) (.node (k 140 P) (.node (k 268 P) .nil .nil) (.node (k 396 P) .nil .nil)) (.node (x204_88 P) (.node (k 332 P) .nil .nil) .nil))
  (.node (k 108 P) (.node (x172_72 P) (.node (k 300 P) .nil .nil) (.node (k 428 P) .nil .nil)) (.node (x236_99 P) (.node (k 364 P) .nil .nil) .nil))) (.node
  (k 60 P) (.node (k 92 P) (.node (k 156 P) (.node (k 284 P) .nil .nil) (.node (k 412 P) .nil .nil)) (.node (k 220 P) (.node (x348_140 P) .nil .nil) .nil))
  (.node (k 124 P) (.node (k 188 P) (.node (x316_131 P) .nil .nil) .nil) (.node (x252_108 P) (.node (k 380 P) .nil .nil) .nil)))))) (.node (boot_o_6 P) (.node
  (boot_o_10 P) (.node (k 18 P) (.node (x34_17 P) (.node (x66_28 P) (.node (x130_53 P) (.node (k 258 P) .nil .nil) (.node (x386_153 P) .nil .nil)) (.node
  (k 194 P) (.node (k 322 P) .nil .nil) .nil)) (.node (x98_44 P) (.node (x162_68 P) (.node (k 290 P) .nil .nil) (.node (x418_165 P) .nil .nil)) (.node (k
  226 P) (.node (k 354 P) .nil .nil) .nil))) (.node (k 50 P) (.node (k 82 P) (.node (x146_62 P) (.node (x274_117 P) .nil .nil) (.node (k 402 P) .nil .nil))
  (.node (k 210 P) (.node (k 338 P) .nil .nil) .nil)) (.node (k 114 P) (.node (k 178 P) (.node (x306_128 P) .nil .nil) (.node (k 434 P) .nil .nil)) (.node
  (k 242 P) (.node (k 370 P) .nil .nil) .nil)))) (.node (x26_13 P) (.node (x42_18 P) (.node (x74_34 P) (.node (k 138 P) (.node (k 266 P) .nil .nil) (.node
  (k 394 P) .nil .nil)) (.node (x202_86 P) (.node (x330_135 P) .nil .nil) .nil)) (.node (k 106 P) (.node (k 170 P) (.node (k 298 P) .nil .nil) (.node (x426_171
  P) .nil .nil)) (.node (k 234 P) (.node (x362_144 P) .nil .nil) .nil))) (.node (k 58 P) (.node (k 90 P) (.node (x154_67 P) (.node (x282_118 P) .nil .nil)
  (.node (k 410 P) .nil .nil)) (.node (x218_94 P) (.node (k 346 P) .nil .nil) .nil)) (.node (k 122 P) (.node (k 186 P) (.node (k 314 P) .nil .nil) .nil) (.node
  (x250_106 P) (.node (k 378 P) .nil .nil) .nil))))) (.node (x14_4 P) (.node (x22_9 P) (.node (k 38 P) (.node (k 70 P) (.node (k 134 P) (.node (k 262 P) .nil
  .nil) (.node (x390_154 P) .nil .nil)) (.node (k 198 P) (.node (k 326 P) .nil .nil) .nil)) (.node (x102_45 P) (.node (k 166 P) (.node (k 294 P) .nil .nil)
  (.node (x422_169 P) .nil .nil)) (.node (k 230 P) (.node (x358_143 P) .nil .nil) .nil))) (.node (k 54 P) (.node (k 86 P) (.node (k 150 P) (.node (k 278 P)
  .nil .nil) (.node (k 406 P) .nil .nil)) (.node (k 214 P) (.node (k 342 P) .nil .nil) .nil)) (.node (k 118 P) (.node (k 182 P) (.node (k 310 P) .nil .nil)
  (.node (x438_174 P) .nil .nil)) (.node (k 246 P) (.node (k 374 P) .nil .nil) .nil)))) (.node (k 30 P) (.node (k 46 P) (.node (x78_38 P) (.node (x142_56
  P) (.node (k 270 P) .nil .nil) (.node (k 398 P) .nil .nil)) (.node (x206_90 P) (.node (x334_136 P) .nil .nil) .nil)) (.node (k 110 P) (.node (k 174 P) (.node
  (x302_125 P) .nil .nil) (.node (k 430 P) .nil .nil)) (.node (k 238 P) (.node (k 366 P) .nil .nil) .nil))) (.node (x62_27 P) (.node (k 94 P) (.node (k 158
  P) (.node (k 286 P) .nil .nil) (.node (x414_161 P) .nil .nil)) (.node (x222_95 P) (.node (k 350 P) .nil .nil) .nil)) (.node (x126_52 P) (.node (k 190 P)
  (.node (k 318 P) .nil .nil) .nil) (.node (x254_110 P) (.node (k 382 P) .nil .nil) .nil))))))))
noncomputable def tr_10 (P : Params) : BT := (.node (boot_o_0 P) (.node (boot_o_1 P) (.node (x3_175 P) (.node (boot_o_7 P) (.node (k 15 P) (.node (x31_16 P) (.node (k
  63 P) (.node (k 127 P) (.node (x255_111 P) .nil .nil) (.node (x383_152 P) .nil .nil)) (.node (k 191 P) (.node (k 319 P) .nil .nil) (.node (x447_184 P) .nil
  .nil))) (.node (x95_43 P) (.node (k 159 P) (.node (k 287 P) .nil .nil) (.node (k 415 P) .nil .nil)) (.node (k 223 P) (.node (x351_141 P) .nil .nil) (.node
  (k 479 P) .nil .nil)))) (.node (k 47 P) (.node (k 79 P) (.node (x143_59 P) (.node (x271_116 P) .nil .nil) (.node (k 399 P) .nil .nil)) (.node (k 207 P)
  (.node (k 335 P) .nil .nil) (.node (k 463 P) .nil .nil))) (.node (k 111 P) (.node (x175_73 P) (.node (k 303 P) .nil .nil) (.node (k 431 P) .nil .nil)) (.node
  (x239_100 P) (.node (k 367 P) .nil .nil) .nil)))) (.node (x23_10 P) (.node (k 39 P) (.node (k 71 P) (.node (k 135 P) (.node (k 263 P) .nil .nil) (.node
  (k 391 P) .nil .nil)) (.node (k 199 P) (.node (x327_134 P) .nil .nil) (.node (k 455 P) .nil .nil))) (.node (k 103 P) (.node (k 167 P) (.node (x295_123 P)
  .nil .nil) (.node (x423_170 P) .nil .nil)) (.node (k 231 P) (.node (k 359 P) .nil .nil) (.node (k 487 P) .nil .nil)))) (.node (x55_25 P) (.node (k 87 P)
  (.node (x151_66 P) (.node (k 279 P) .nil .nil) (.node (x407_159 P) .nil .nil)) (.node (x215_93 P) (.node (k 343 P) .nil .nil) (.node (k 471 P) .nil .nil)))
  (.node (x119_50 P) (.node (k 183 P) (.node (k 311 P) .nil .nil) (.node (x439_177 P) .nil .nil)) (.node (x247_101 P) (.node (k 375 P) .nil .nil) .nil)))))
  (.node (x11_1 P) (.node (x19_8 P) (.node (k 35 P) (.node (k 67 P) (.node (k 131 P) (.node (k 259 P) .nil .nil) (.node (k 387 P) .nil .nil)) (.node (k 195
  P) (.node (x323_133 P) .nil .nil) (.node (k 451 P) .nil .nil))) (.node (k 99 P) (.node (x163_69 P) (.node (k 291 P) .nil .nil) (.node (x419_166 P) .nil
  .nil)) (.node (k 227 P) (.node (x355_142 P) .nil .nil) (.node (k 483 P) .nil .nil)))) (.node (k 51 P) (.node (k 83 P) (.node (x147_63 P) (.node (k 275 P)
  .nil .nil) (.node (k 403 P) .nil .nil)) (.node (x211_92 P) (.node (k 339 P) .nil .nil) (.node (k 467 P) .nil .nil))) (.node (k 115 P) (.node (x179_74 P)
  (.node (k 307 P) .nil .nil) (.node (k 435 P) .nil .nil)) (.node (k 243 P) (.node (k 371 P) .nil .nil) .nil)))) (.node (x27_14 P) (.node (x43_19 P) (.node
  (x75_35 P) (.node (k 139 P) (.node (x267_115 P) .nil .nil) (.node (k 395 P) .nil .nil)) (.node (x203_87 P) (.node (k 331 P) .nil .nil) (.node (k 459 P)
  .nil .nil))) (.node (k 107 P) (.node (k 171 P) (.node (x299_124 P) .nil .nil) (.node (k 427 P) .nil .nil)) (.node (k 235 P) (.node (k 363 P) .nil .nil)
  (.node (k 491 P) .nil .nil)))) (.node (x59_26 P) (.node (x91_42 P) (.node (k 155 P) (.node (x283_119 P) .nil .nil) (.node (x411_160 P) .nil .nil)) (.node
  (k 219 P) (.node (k 347 P) .nil .nil) (.node (x475_192 P) .nil .nil))) (.node (x123_51 P) (.node (k 187 P) (.node (k 315 P) .nil .nil) (.node (x443_181
  P) .nil .nil)) (.node (x251_107 P) (.node (x379_149 P) .nil .nil) .nil)))))) (.node (boot_o_5 P) (.node (boot_o_9 P) (.node (k 17 P) (.node (k 33 P) (.node
  (k 65 P) (.node (k 129 P) (.node (x257_112 P) .nil .nil) (.node (k 385 P) .nil .nil)) (.node (k 193 P) (.node (k 321 P) .nil .nil) (.node (k 449 P) .nil
  .nil))) (.node (k 97 P) (.node (k 161 P) (.node (k 289 P) .nil .nil) (.node (x417_164 P) .nil .nil)) (.node (x225_96 P) (.node (k 353 P) .nil .nil) (.node
  (k 481 P) .nil .nil)))) (.node (k 49 P) (.node (x81_39 P) (.node (x145_61 P) (.node (k 273 P) .nil .nil) (.node (k 401 P) .nil .nil)) (.node (k 209 P) (.node
  (x337_137 P) .nil .nil) (.node (k 465 P) .nil .nil))) (.node (k 113 P) (.node (k 177 P) (.node (k 305 P) .nil .nil) (.node (k 433 P) .nil .nil)) (.node
  (k 241 P) (.node (x369_146 P) .nil .nil) .nil)))) (.node (x25_12 P) (.node (k 41 P) (.node (x73_33 P) (.node (k 137 P) (.node (k 265 P) .nil .nil) (.node
  (x393_155 P) .nil .nil)) (.node (x201_85 P) (.node (k 329 P) .nil .nil) (.node (x457_187 P) .nil .nil))) (.node (x105_46 P) (.node (k 169 P) (.node (k 297
  P) .nil .nil) (.node (k 425 P) .nil .nil)) (.node (k 233 P) (.node (k 361 P) .nil .nil) (.node (x489_196 P) .nil .nil)))) (.node (k 57 P) (.node (k 89 P)
  (.node (k 153 P) (.node (k 281 P) .nil .nil) (.node (k 409 P) .nil .nil)) (.node (k 217 P) (.node (k 345 P) .nil .nil) (.node (x473_191 P) .nil .nil)))
  (.node (k 121 P) (.node (x185_77 P) (.node (x313_130 P) .nil .nil) (.node (x441_179 P) .nil .nil)) (.node (x249_105 P) (.node (k 377 P) .nil .nil) .nil)))))
  (.node (x13_3 P) (.node (k 21 P) (.node (k 37 P) (.node (x69_29 P) (.node (x133_54 P) (.node (k 261 P) .nil .nil) (.node (k 389 P) .nil .nil)) (.node (x197_83
  P) (.node (k 325 P) .nil .nil) (.node (k 453 P) .nil .nil))) (.node (k 101 P) (.node (x165_70 P) (.node (k 293 P) .nil .nil) (.node (x421_168 P) .nil .nil))
  (.node (x229_97 P) (.node (k 357 P) .nil .nil) (.node (x485_195 P) .nil .nil)))) (.node (k 53 P) (.node (k 85 P) (.node (x149_65 P) (.node (k 277 P) .nil
  .nil) (.node (k 405 P) .nil .nil)) (.node (k 213 P) (.node (x341_138 P) .nil .nil) (.node (k 469 P) .nil .nil))) (.node (k 117 P) (.node (k 181 P) (.node
  (x309_129 P) .nil .nil) (.node (x437_173 P) .nil .nil)) (.node (k 245 P) (.node (k 373 P) .nil .nil) .nil)))) (.node (k 29 P) (.node (x45_20 P) (.node (x77_37
  P) (.node (x141_55 P) (.node (k 269 P) .nil .nil) (.node (x397_156 P) .nil .nil)) (.node (x205_89 P) (.node (k 333 P) .nil .nil) (.node (x461_188 P) .nil
  .nil))) (.node (x109_47 P) (.node (k 173 P) (.node (k 301 P) .nil .nil) (.node (x429_172 P) .nil .nil)) (.node (k 237 P) (.node (x365_145 P) .nil .nil)
  (.node (k 493 P) .nil .nil)))) (.node (k 61 P) (.node (k 93 P) (.node (k 157 P) (.node (x285_120 P) .nil .nil) (.node (k 413 P) .nil .nil)) (.node (k 221
  P) (.node (k 349 P) .nil .nil) (.node (k 477 P) .nil .nil))) (.node (k 125 P) (.node (x189_78 P) (.node (k 317 P) .nil .nil) (.node (x445_183 P) .nil .nil))
  (.node (x253_109 P) (.node (k 381 P) .nil .nil) .nil))))))) (.node (boot_o_2 P) (.node (boot_o_4 P) (.node (boot_o_8 P) (.node (x16_7 P) (.node (k 32 P)
  (.node (k 64 P) (.node (k 128 P) (.node (k 256 P) .nil .nil) (.node (k 384 P) .nil .nil)) (.node (x192_79 P) (.node (x320_132 P) .nil .nil) (.node (k 448
  P) .nil .nil))) (.node (k 96 P) (.node (k 160 P) (.node (x288_121 P) .nil .nil) (.node (k 416 P) .nil .nil)) (.node (k 224 P) (.node (k 352 P) .nil .nil)
  (.node (k 480 P) .nil .nil)))) (.node (x48_21 P) (.node (k 80 P) (.node (x144_60 P) (.node (k 272 P) .nil .nil) (.node (x400_157 P) .nil .nil)) (.node (x208_91
  P) (.node (k 336 P) .nil .nil) (.node (x464_189 P) .nil .nil))) (.node (x112_48 P) (.node (k 176 P) (.node (k 304 P) .nil .nil) (.node (k 432 P) .nil .nil))
  (.node (k 240 P) (.node (k 368 P) .nil .nil) .nil)))) (.node (x24_11 P) (.node (k 40 P) (.node (x72_32 P) (.node (k 136 P) (.node (x264_114 P) .nil .nil)
  (.node (k 392 P) .nil .nil)) (.node (x200_84 P) (.node (k 328 P) .nil .nil) (.node (k 456 P) .nil .nil))) (.node (k 104 P) (.node (x168_71 P) (.node (k
  296 P) .nil .nil) (.node (k 424 P) .nil .nil)) (.node (x232_98 P) (.node (k 360 P) .nil .nil) (.node (k 488 P) .nil .nil)))) (.node (k 56 P) (.node (x88_41
  P) (.node (k 152 P) (.node (k 280 P) .nil .nil) (.node (k 408 P) .nil .nil)) (.node (k 216 P) (.node (x344_139 P) .nil .nil) (.node (x472_190 P) .nil .nil)))
  (.node (k 120 P) (.node (x184_76 P) (.node (k 312 P) .nil .nil) (.node (x440_178 P) .nil .nil)) (.node (x248_102 P) (.node (x376_148 P) .nil .nil) .nil)))))
  (.node (x12_176 P) (.node (k 20 P) (.node (k 36 P) (.node (k 68 P) (.node (k 132 P) (.node (x260_113 P) .nil .nil) (.node (k 388 P) .nil .nil)) (.node (x196_82
  P) (.node (k 324 P) .nil .nil) (.node (k 452 P) .nil .nil))) (.node (k 100 P) (.node (k 164 P) (.node (x292_122 P) .nil .nil) (.node (x420_167 P) .nil .nil))
  (.node (k 228 P) (.node (k 356 P) .nil .nil) (.node (k 484 P) .nil .nil)))) (.node (x52_24 P) (.node (x84_40 P) (.node (x148_64 P) (.node (k 276 P) .nil
  .nil) (.node (x404_158 P) .nil .nil)) (.node (k 212 P) (.node (k 340 P) .nil .nil) (.node (k 468 P) .nil .nil))) (.node (x116_49 P) (.node (x180_75 P) (.node
  (k 308 P) .nil .nil) (.node (k 436 P) .nil .nil)) (.node (k 244 P) (.node (x372_147 P) .nil .nil) .nil)))) (.node (x28_15 P) (.node (k 44 P) (.node (x76_36
  P) (.node (k 140 P) (.node (k 268 P) .nil .nil) (.node (k 396 P) .nil .nil)) (.node (x204_88 P) (.node (k 332 P) .nil .nil) (.node (k 460 P) .nil .nil)))
  (.node (k 108 P) (.node (x172_72 P) (.node (k 300 P) .nil .nil) (.node (k 428 P) .nil .nil)) (.node (x236_99 P) (.node (k 364 P) .nil .nil) (.node (x492_197
  P) .nil .nil)))) (.node (k 60 P) (.node (k 92 P) (.node (k 156 P) (.node (k 284 P) .nil .nil) (.node (k 412 P) .nil .nil)) (.node (k 220 P) (.node (x348_140
  P) .nil .nil) (.node (k 476 P) .nil .nil))) (.node (k 124 P) (.node (k 188 P) (.node (x316_131 P) .nil .nil) (.node (x444_182 P) .nil .nil)) (.node (x252_108
  P) (.node (k 380 P) .nil .nil) .nil)))))) (.node (boot_o_6 P) (.node (boot_o_10 P) (.node (k 18 P) (.node (x34_17 P) (.node (x66_28 P) (.node (x130_53 P)
  (.node (k 258 P) .nil .nil) (.node (x386_153 P) .nil .nil)) (.node (k 194 P) (.node (k 322 P) .nil .nil) (.node (x450_185 P) .nil .nil))) (.node (x98_44
  P) (.node (x162_68 P) (.node (k 290 P) .nil .nil) (.node (x418_165 P) .nil .nil)) (.node (k 226 P) (.node (k 354 P) .nil .nil) (.node (x482_194 P) .nil
  .nil)))) (.node (k 50 P) (.node (k 82 P) (.node (x146_62 P) (.node (x274_117 P) .nil .nil) (.node (k 402 P) .nil .nil)) (.node (k 210 P) (.node (k 338 P)
  .nil .nil) (.node (k 466 P) .nil .nil))) (.node (k 114 P) (.node (k 178 P) (.node (x306_128 P) .nil .nil) (.node (k 434 P) .nil .nil)) (.node (k 242 P)
  (.node (k 370 P) .nil .nil) .nil)))) (.node (x26_13 P) (.node (x42_18 P) (.node (x74_34 P) (.node (k 138 P) (.node (k 266 P) .nil .nil) (.node (k 394 P)
  .nil .nil)) (.node (x202_86 P) (.node (x330_135 P) .nil .nil) (.node (k 458 P) .nil .nil))) (.node (k 106 P) (.node (k 170 P) (.node (k 298 P) .nil .nil)
  (.node (x426_171 P) .nil .nil)) (.node (k 234 P) (.node (x362_144 P) .nil .nil) (.node (k 490 P) .nil .nil)))) (.node (k 58 P) (.node (k 90 P) (.node (x154_67
  P) (.node (x282_118 P) .nil .nil) (.node (k 410 P) .nil .nil)) (.node (x218_94 P) (.node (k 346 P) .nil .nil) (.node (k 474 P) .nil .nil))) (.node (k 122
  P) (.node (k 186 P) (.node (k 314 P) .nil .nil) (.node (x442_180 P) .nil .nil)) (.node (x250_106 P) (.node (k 378 P) .nil .nil) .nil))))) (.node (x14_4
  P) (.node (x22_9 P) (.node (k 38 P) (.node (k 70 P) (.node (k 134 P) (.node (k 262 P) .nil .nil) (.node (x390_154 P) .nil .nil)) (.node (k 198 P) (.node
  (k 326 P) .nil .nil) (.node (x454_186 P) .nil .nil))) (.node (x102_45 P) (.node (k 166 P) (.node (k 294 P) .nil .nil) (.node (x422_169 P) .nil .nil)) (.node
  (k 230 P) (.node (x358_143 P) .nil .nil) (.node (k 486 P) .nil .nil)))) (.node (k 54 P) (.node (k 86 P) (.node (k 150 P) (.node (k 278 P) .nil .nil) (.node
  (k 406 P) .nil .nil)) (.node (k 214 P) (.node (k 342 P) .nil .nil) (.node (k 470 P) .nil .nil))) (.node (k 118 P) (.node (k 182 P) (.node (k 310 P) .nil
  .nil) (.node (x438_174 P) .nil .nil)) (.node (k 246 P) (.node (k 374 P) .nil .nil) .nil)))) (.node (k 30 P) (.node (k 46 P) (.node (x78_38 P) (.node (x142_56
  P) (.node (k 270 P) .nil .nil) (.node (k 398 P) .nil .nil)) (.node (x206_90 P) (.node (x334_136 P) .nil .nil) (.node (k 462 P) .nil .nil))) (.node (k 110
  P) (.node (k 174 P) (.node (x302_125 P) .nil .nil) (.node (k 430 P) .nil .nil)) (.node (k 238 P) (.node (k 366 P) .nil .nil) (.node (k 494 P) .nil .nil))))
  (.node (x62_27 P) (.node (k 94 P) (.node (k 158 P) (.node (k 286 P) .nil .nil) (.node (x414_161 P) .nil .nil)) (.node (x222_95 P) (.node (k 350 P) .nil
  .nil) (.node (x478_193 P) .nil .nil))) (.node (x126_52 P) (.node (k 190 P) (.node (k 318 P) .nil .nil) (.node (k 446 P) .nil .nil)) (.node (x254_110 P)
  (.node (k 382 P) .nil .nil) .nil))))))))
noncomputable def tr_11 (P : Params) : BT := (.node (boot_o_0 P) (.node (boot_o_1 P) (.node (x3_198 P) (.node (boot_o_7 P) (.node (k 15 P) (.node (x31_16 P) (.node (k
  63 P) (.node (k 127 P) (.node (x255_111 P) (.node (k 511 P) .nil .nil) .nil) (.node (x383_152 P) .nil .nil)) (.node (k 191 P) (.node (k 319 P) .nil .nil)
  (.node (x447_184 P) .nil .nil))) (.node (x95_43 P) (.node (k 159 P) (.node (k 287 P) (.node (k 543 P) .nil .nil) .nil) (.node (k 415 P) .nil .nil)) (.node
  (k 223 P) (.node (x351_141 P) .nil .nil) (.node (k 479 P) .nil .nil)))) (.node (k 47 P) (.node (k 79 P) (.node (x143_59 P) (.node (x271_116 P) (.node (x527_210
  P) .nil .nil) .nil) (.node (k 399 P) .nil .nil)) (.node (k 207 P) (.node (k 335 P) .nil .nil) (.node (k 463 P) .nil .nil))) (.node (k 111 P) (.node (x175_73
  P) (.node (k 303 P) .nil .nil) (.node (k 431 P) .nil .nil)) (.node (x239_100 P) (.node (k 367 P) .nil .nil) (.node (k 495 P) .nil .nil))))) (.node (x23_10
  P) (.node (k 39 P) (.node (k 71 P) (.node (k 135 P) (.node (k 263 P) (.node (k 519 P) .nil .nil) .nil) (.node (k 391 P) .nil .nil)) (.node (k 199 P) (.node
  (x327_134 P) .nil .nil) (.node (k 455 P) .nil .nil))) (.node (k 103 P) (.node (k 167 P) (.node (x295_123 P) .nil .nil) (.node (x423_170 P) .nil .nil)) (.node
  (k 231 P) (.node (k 359 P) .nil .nil) (.node (k 487 P) .nil .nil)))) (.node (x55_25 P) (.node (k 87 P) (.node (x151_66 P) (.node (k 279 P) (.node (x535_215
  P) .nil .nil) .nil) (.node (x407_159 P) .nil .nil)) (.node (x215_93 P) (.node (k 343 P) .nil .nil) (.node (k 471 P) .nil .nil))) (.node (x119_50 P) (.node
  (k 183 P) (.node (k 311 P) .nil .nil) (.node (x439_177 P) .nil .nil)) (.node (x247_101 P) (.node (k 375 P) .nil .nil) (.node (x503_202 P) .nil .nil))))))
  (.node (x11_1 P) (.node (x19_8 P) (.node (k 35 P) (.node (k 67 P) (.node (k 131 P) (.node (k 259 P) (.node (k 515 P) .nil .nil) .nil) (.node (k 387 P) .nil
  .nil)) (.node (k 195 P) (.node (x323_133 P) .nil .nil) (.node (k 451 P) .nil .nil))) (.node (k 99 P) (.node (x163_69 P) (.node (k 291 P) (.node (x547_218
  P) .nil .nil) .nil) (.node (x419_166 P) .nil .nil)) (.node (k 227 P) (.node (x355_142 P) .nil .nil) (.node (k 483 P) .nil .nil)))) (.node (k 51 P) (.node
  (k 83 P) (.node (x147_63 P) (.node (k 275 P) (.node (x531_214 P) .nil .nil) .nil) (.node (k 403 P) .nil .nil)) (.node (x211_92 P) (.node (k 339 P) .nil
  .nil) (.node (k 467 P) .nil .nil))) (.node (k 115 P) (.node (x179_74 P) (.node (k 307 P) .nil .nil) (.node (k 435 P) .nil .nil)) (.node (k 243 P) (.node
  (k 371 P) .nil .nil) (.node (x499_201 P) .nil .nil))))) (.node (x27_14 P) (.node (x43_19 P) (.node (x75_35 P) (.node (k 139 P) (.node (x267_115 P) (.node
  (k 523 P) .nil .nil) .nil) (.node (k 395 P) .nil .nil)) (.node (x203_87 P) (.node (k 331 P) .nil .nil) (.node (k 459 P) .nil .nil))) (.node (k 107 P) (.node
  (k 171 P) (.node (x299_124 P) .nil .nil) (.node (k 427 P) .nil .nil)) (.node (k 235 P) (.node (k 363 P) .nil .nil) (.node (k 491 P) .nil .nil)))) (.node
  (x59_26 P) (.node (x91_42 P) (.node (k 155 P) (.node (x283_119 P) (.node (k 539 P) .nil .nil) .nil) (.node (x411_160 P) .nil .nil)) (.node (k 219 P) (.node
  (k 347 P) .nil .nil) (.node (x475_192 P) .nil .nil))) (.node (x123_51 P) (.node (k 187 P) (.node (k 315 P) .nil .nil) (.node (x443_181 P) .nil .nil)) (.node
  (x251_107 P) (.node (x379_149 P) .nil .nil) (.node (k 507 P) .nil .nil))))))) (.node (boot_o_5 P) (.node (boot_o_9 P) (.node (k 17 P) (.node (k 33 P) (.node
  (k 65 P) (.node (k 129 P) (.node (x257_112 P) (.node (x513_205 P) .nil .nil) .nil) (.node (k 385 P) .nil .nil)) (.node (k 193 P) (.node (k 321 P) .nil .nil)
  (.node (k 449 P) .nil .nil))) (.node (k 97 P) (.node (k 161 P) (.node (k 289 P) (.node (k 545 P) .nil .nil) .nil) (.node (x417_164 P) .nil .nil)) (.node
  (x225_96 P) (.node (k 353 P) .nil .nil) (.node (k 481 P) .nil .nil)))) (.node (k 49 P) (.node (x81_39 P) (.node (x145_61 P) (.node (k 273 P) (.node (x529_212
  P) .nil .nil) .nil) (.node (k 401 P) .nil .nil)) (.node (k 209 P) (.node (x337_137 P) .nil .nil) (.node (k 465 P) .nil .nil))) (.node (k 113 P) (.node (k
  177 P) (.node (k 305 P) .nil .nil) (.node (k 433 P) .nil .nil)) (.node (k 241 P) (.node (x369_146 P) .nil .nil) (.node (k 497 P) .nil .nil))))) (.node (x25_12
  P) (.node (k 41 P) (.node (x73_33 P) (.node (k 137 P) (.node (k 265 P) (.node (k 521 P) .nil .nil) .nil) (.node (x393_155 P) .nil .nil)) (.node (x201_85
  P) (.node (k 329 P) .nil .nil) (.node (x457_187 P) .nil .nil))) (.node (x105_46 P) (.node (k 169 P) (.node (k 297 P) .nil .nil) (.node (k 425 P) .nil .nil))
  (.node (k 233 P) (.node (k 361 P) .nil .nil) (.node (x489_196 P) .nil .nil)))) (.node (k 57 P) (.node (k 89 P) (.node (k 153 P) (.node (k 281 P) (.node
  (k 537 P) .nil .nil) .nil) (.node (k 409 P) .nil .nil)) (.node (k 217 P) (.node (k 345 P) .nil .nil) (.node (x473_191 P) .nil .nil))) (.node (k 121 P) (.node
  (x185_77 P) (.node (x313_130 P) .nil .nil) (.node (x441_179 P) .nil .nil)) (.node (x249_105 P) (.node (k 377 P) .nil .nil) (.node (k 505 P) .nil .nil))))))
  (.node (x13_3 P) (.node (k 21 P) (.node (k 37 P) (.node (x69_29 P) (.node (x133_54 P) (.node (k 261 P) (.node (x517_206 P) .nil .nil) .nil) (.node (k 389
  P) .nil .nil)) (.node (x197_83 P) (.node (k 325 P) .nil .nil) (.node (k 453 P) .nil .nil))) (.node (k 101 P) (.node (x165_70 P) (.node (k 293 P) .nil .nil)
  (.node (x421_168 P) .nil .nil)) (.node (x229_97 P) (.node (k 357 P) .nil .nil) (.node (x485_195 P) .nil .nil)))) (.node (k 53 P) (.node (k 85 P) (.node
  (x149_65 P) (.node (k 277 P) (.node (k 533 P) .nil .nil) .nil) (.node (k 405 P) .nil .nil)) (.node (k 213 P) (.node (x341_138 P) .nil .nil) (.node (k 469
  P) .nil .nil))) (.node (k 117 P) (.node (k 181 P) (.node (x309_129 P) .nil .nil) (.node (x437_173 P) .nil .nil)) (.node (k 245 P) (.node (k 373 P) .nil
  .nil) (.node (k 501 P) .nil .nil))))) (.node (k 29 P) (.node (x45_20 P) (.node (x77_37 P) (.node (x141_55 P) (.node (k 269 P) (.node (x525_208 P) .nil .nil)
  .nil) (.node (x397_156 P) .nil .nil)) (.node (x205_89 P) (.node (k 333 P) .nil .nil) (.node (x461_188 P) .nil .nil))) (.node (x109_47 P) (.node (k 173 P)
  (.node (k 301 P) .nil .nil) (.node (x429_172 P) .nil .nil)) (.node (k 237 P) (.node (x365_145 P) .nil .nil) (.node (k 493 P) .nil .nil)))) (.node (k 61
  P) (.node (k 93 P) (.node (k 157 P) (.node (x285_120 P) (.node (k 541 P) .nil .nil) .nil) (.node (k 413 P) .nil .nil)) (.node (k 221 P) (.node (k 349 P)
  .nil .nil) (.node (k 477 P) .nil .nil))) (.node (k 125 P) (.node (x189_78 P) (.node (k 317 P) .nil .nil) (.node (x445_183 P) .nil .nil)) (.node (x253_109
  P) (.node (k 381 P) .nil .nil) (.node (k 509 P) .nil .nil)))))))) (.node (boot_o_2 P) (.node (boot_o_4 P) (.node (boot_o_8 P) (.node (x16_7 P) (.node (k
  32 P) (.node (k 64 P) (.node (k 128 P) (.node (k 256 P) (.node (k 512 P) .nil .nil) .nil) (.node (k 384 P) .nil .nil)) (.node (x192_79 P) (.node (x320_132
  P) .nil .nil) (.node (k 448 P) .nil .nil))) (.node (k 96 P) (.node (k 160 P) (.node (x288_121 P) (.node (k 544 P) .nil .nil) .nil) (.node (k 416 P) .nil
  .nil)) (.node (k 224 P) (.node (k 352 P) .nil .nil) (.node (k 480 P) .nil .nil)))) (.node (x48_21 P) (.node (k 80 P) (.node (x144_60 P) (.node (k 272 P)
  (.node (x528_211 P) .nil .nil) .nil) (.node (x400_157 P) .nil .nil)) (.node (x208_91 P) (.node (k 336 P) .nil .nil) (.node (x464_189 P) .nil .nil))) (.node
  (x112_48 P) (.node (k 176 P) (.node (k 304 P) .nil .nil) (.node (k 432 P) .nil .nil)) (.node (k 240 P) (.node (k 368 P) .nil .nil) (.node (x496_200 P) .nil
  .nil))))) (.node (x24_11 P) (.node (k 40 P) (.node (x72_32 P) (.node (k 136 P) (.node (x264_114 P) (.node (x520_207 P) .nil .nil) .nil) (.node (k 392 P)
  .nil .nil)) (.node (x200_84 P) (.node (k 328 P) .nil .nil) (.node (k 456 P) .nil .nil))) (.node (k 104 P) (.node (x168_71 P) (.node (k 296 P) .nil .nil)
  (.node (k 424 P) .nil .nil)) (.node (x232_98 P) (.node (k 360 P) .nil .nil) (.node (k 488 P) .nil .nil)))) (.node (k 56 P) (.node (x88_41 P) (.node (k 152
  P) (.node (k 280 P) (.node (k 536 P) .nil .nil) .nil) (.node (k 408 P) .nil .nil)) (.node (k 216 P) (.node (x344_139 P) .nil .nil) (.node (x472_190 P) .nil
  .nil))) (.node (k 120 P) (.node (x184_76 P) (.node (k 312 P) .nil .nil) (.node (x440_178 P) .nil .nil)) (.node (x248_102 P) (.node (x376_148 P) .nil .nil)
  (.node (k 504 P) .nil .nil)))))) (.node (x12_199 P) (.node (k 20 P) (.node (k 36 P) (.node (k 68 P) (.node (k 132 P) (.node (x260_113 P) (.node (k 516 P)
  .nil .nil) .nil) (.node (k 388 P) .nil .nil)) (.node (x196_82 P) (.node (k 324 P) .nil .nil) (.node (k 452 P) .nil .nil))) (.node (k 100 P) (.node (k 164
  P) (.node (x292_122 P) .nil .nil) (.node (x420_167 P) .nil .nil)) (.node (k 228 P) (.node (k 356 P) .nil .nil) (.node (k 484 P) .nil .nil)))) (.node (x52_24
  P) (.node (x84_40 P) (.node (x148_64 P) (.node (k 276 P) (.node (k 532 P) .nil .nil) .nil) (.node (x404_158 P) .nil .nil)) (.node (k 212 P) (.node (k 340
  P) .nil .nil) (.node (k 468 P) .nil .nil))) (.node (x116_49 P) (.node (x180_75 P) (.node (k 308 P) .nil .nil) (.node (k 436 P) .nil .nil)) (.node (k 244
  P) (.node (x372_147 P) .nil .nil) (.node (k 500 P) .nil .nil))))) (.node (x28_15 P) (.node (k 44 P) (.node (x76_36 P) (.node (k 140 P) (.node (k 268 P)
  (.node (k 524 P) .nil .nil) .nil) (.node (k 396 P) .nil .nil)) (.node (x204_88 P) (.node (k 332 P) .nil .nil) (.node (k 460 P) .nil .nil))) (.node (k 108
  P) (.node (x172_72 P) (.node (k 300 P) .nil .nil) (.node (k 428 P) .nil .nil)) (.node (x236_99 P) (.node (k 364 P) .nil .nil) (.node (x492_197 P) .nil .nil))))
  (.node (k 60 P) (.node (k 92 P) (.node (k 156 P) (.node (k 284 P) (.node (k 540 P) .nil .nil) .nil) (.node (k 412 P) .nil .nil)) (.node (k 220 P) (.node
  (x348_140 P) .nil .nil) (.node (k 476 P) .nil .nil))) (.node (k 124 P) (.node (k 188 P) (.node (x316_131 P) .nil .nil) (.node (x444_182 P) .nil .nil)) (.node
  (x252_108 P) (.node (k 380 P) .nil .nil) (.node (k 508 P) .nil .nil))))))) (.node (boot_o_6 P) (.node (boot_o_10 P) (.node (k 18 P) (.node (x34_17 P) (.node
  (x66_28 P) (.node (x130_53 P) (.node (k 258 P) (.node (k 514 P) .nil .nil) .nil) (.node (x386_153 P) .nil .nil)) (.node (k 194 P) (.node (k 322 P) .nil
  .nil) (.node (x450_185 P) .nil .nil))) (.node (x98_44 P) (.node (x162_68 P) (.node (k 290 P) (.node (x546_217 P) .nil .nil) .nil) (.node (x418_165 P) .nil
  .nil)) (.node (k 226 P) (.node (k 354 P) .nil .nil) (.node (x482_194 P) .nil .nil)))) (.node (k 50 P) (.node (k 82 P) (.node (x146_62 P) (.node (x274_117
  P) (.node (x530_213 P) .nil .nil) .nil) (.node (k 402 P) .nil .nil)) (.node (k 210 P) (.node (k 338 P) .nil .nil) (.node (k 466 P) .nil .nil))) (.node (k
  114 P) (.node (k 178 P) (.node (x306_128 P) .nil .nil) (.node (k 434 P) .nil .nil)) (.node (k 242 P) (.node (k 370 P) .nil .nil) (.node (k 498 P) .nil .nil)))))
  (.node (x26_13 P) (.node (x42_18 P) (.node (x74_34 P) (.node (k 138 P) (.node (k 266 P) (.node (k 522 P) .nil .nil) .nil) (.node (k 394 P) .nil .nil)) (.node
  (x202_86 P) (.node (x330_135 P) .nil .nil) (.node (k 458 P) .nil .nil))) (.node (k 106 P) (.node (k 170 P) (.node (k 298 P) .nil .nil) (.node (x426_171
  P) .nil .nil)) (.node (k 234 P) (.node (x362_144 P) .nil .nil) (.node (k 490 P) .nil .nil)))) (.node (k 58 P) (.node (k 90 P) (.node (x154_67 P) (.node
  (x282_118 P) (.node (x538_216 P) .nil .nil) .nil) (.node (k 410 P) .nil .nil)) (.node (x218_94 P) (.node (k 346 P) .nil .nil) (.node (k 474 P) .nil .nil)))
  (.node (k 122 P) (.node (k 186 P) (.node (k 314 P) .nil .nil) (.node (x442_180 P) .nil .nil)) (.node (x250_106 P) (.node (k 378 P) .nil .nil) (.node (x506_203
  P) .nil .nil)))))) (.node (x14_4 P) (.node (x22_9 P) (.node (k 38 P) (.node (k 70 P) (.node (k 134 P) (.node (k 262 P) (.node (k 518 P) .nil .nil) .nil)
  (.node (x390_154 P) .nil .nil)) (.node (k 198 P) (.node (k 326 P) .nil .nil) (.node (x454_186 P) .nil .nil))) (.node (x102_45 P) (.node (k 166 P) (.node
  (k 294 P) .nil .nil) (.node (x422_169 P) .nil .nil)) (.node (k 230 P) (.node (x358_143 P) .nil .nil) (.node (k 486 P) .nil .nil)))) (.node (k 54 P) (.node
  (k 86 P) (.node (k 150 P) (.node (k 278 P) (.node (k 534 P) .nil .nil) .nil) (.node (k 406 P) .nil .nil)) (.node (k 214 P) (.node (k 342 P) .nil .nil) (.node
  (k 470 P) .nil .nil))) (.node (k 118 P) (.node (k 182 P) (.node (k 310 P) .nil .nil) (.node (x438_174 P) .nil .nil)) (.node (k 246 P) (.node (k 374 P) .nil
  .nil) (.node (k 502 P) .nil .nil))))) (.node (k 30 P) (.node (k 46 P) (.node (x78_38 P) (.node (x142_56 P) (.node (k 270 P) (.node (x526_209 P) .nil .nil)
  .nil) (.node (k 398 P) .nil .nil)) (.node (x206_90 P) (.node (x334_136 P) .nil .nil) (.node (k 462 P) .nil .nil))) (.node (k 110 P) (.node (k 174 P) (.node
  (x302_125 P) .nil .nil) (.node (k 430 P) .nil .nil)) (.node (k 238 P) (.node (k 366 P) .nil .nil) (.node (k 494 P) .nil .nil)))) (.node (x62_27 P) (.node
  (k 94 P) (.node (k 158 P) (.node (k 286 P) (.node (k 542 P) .nil .nil) .nil) (.node (x414_161 P) .nil .nil)) (.node (x222_95 P) (.node (k 350 P) .nil .nil)
  (.node (x478_193 P) .nil .nil))) (.node (x126_52 P) (.node (k 190 P) (.node (k 318 P) .nil .nil) (.node (k 446 P) .nil .nil)) (.node (x254_110 P) (.node
  (k 382 P) .nil .nil) (.node (x510_204 P) .nil .nil)))))))))
noncomputable def tr_12 (P : Params) : BT := (.node (boot_o_0 P) (.node (boot_o_1 P) (.node (x3_219 P) (.node (boot_o_7 P) (.node (k 15 P) (.node (x31_16 P) (.node (k
  63 P) (.node (k 127 P) (.node (x255_111 P) (.node (k 511 P) .nil .nil) .nil) (.node (x383_152 P) .nil .nil)) (.node (k 191 P) (.node (k 319 P) (.node (x575_234
  P) .nil .nil) .nil) (.node (x447_184 P) .nil .nil))) (.node (x95_43 P) (.node (k 159 P) (.node (k 287 P) (.node (k 543 P) .nil .nil) .nil) (.node (k 415
  P) .nil .nil)) (.node (k 223 P) (.node (x351_141 P) .nil .nil) (.node (k 479 P) .nil .nil)))) (.node (k 47 P) (.node (k 79 P) (.node (x143_59 P) (.node
  (x271_116 P) (.node (x527_210 P) .nil .nil) .nil) (.node (k 399 P) .nil .nil)) (.node (k 207 P) (.node (k 335 P) (.node (k 591 P) .nil .nil) .nil) (.node
  (k 463 P) .nil .nil))) (.node (k 111 P) (.node (x175_73 P) (.node (k 303 P) (.node (x559_229 P) .nil .nil) .nil) (.node (k 431 P) .nil .nil)) (.node (x239_100
  P) (.node (k 367 P) .nil .nil) (.node (k 495 P) .nil .nil))))) (.node (x23_10 P) (.node (k 39 P) (.node (k 71 P) (.node (k 135 P) (.node (k 263 P) (.node
  (k 519 P) .nil .nil) .nil) (.node (k 391 P) .nil .nil)) (.node (k 199 P) (.node (x327_134 P) (.node (k 583 P) .nil .nil) .nil) (.node (k 455 P) .nil .nil)))
  (.node (k 103 P) (.node (k 167 P) (.node (x295_123 P) (.node (x551_224 P) .nil .nil) .nil) (.node (x423_170 P) .nil .nil)) (.node (k 231 P) (.node (k 359
  P) .nil .nil) (.node (k 487 P) .nil .nil)))) (.node (x55_25 P) (.node (k 87 P) (.node (x151_66 P) (.node (k 279 P) (.node (x535_215 P) .nil .nil) .nil)
  (.node (x407_159 P) .nil .nil)) (.node (x215_93 P) (.node (k 343 P) (.node (k 599 P) .nil .nil) .nil) (.node (k 471 P) .nil .nil))) (.node (x119_50 P) (.node
  (k 183 P) (.node (k 311 P) (.node (k 567 P) .nil .nil) .nil) (.node (x439_177 P) .nil .nil)) (.node (x247_101 P) (.node (k 375 P) .nil .nil) (.node (x503_202
  P) .nil .nil)))))) (.node (x11_1 P) (.node (x19_8 P) (.node (k 35 P) (.node (k 67 P) (.node (k 131 P) (.node (k 259 P) (.node (k 515 P) .nil .nil) .nil)
  (.node (k 387 P) .nil .nil)) (.node (k 195 P) (.node (x323_133 P) (.node (k 579 P) .nil .nil) .nil) (.node (k 451 P) .nil .nil))) (.node (k 99 P) (.node
  (x163_69 P) (.node (k 291 P) (.node (x547_218 P) .nil .nil) .nil) (.node (x419_166 P) .nil .nil)) (.node (k 227 P) (.node (x355_142 P) .nil .nil) (.node
  (k 483 P) .nil .nil)))) (.node (k 51 P) (.node (k 83 P) (.node (x147_63 P) (.node (k 275 P) (.node (x531_214 P) .nil .nil) .nil) (.node (k 403 P) .nil .nil))
  (.node (x211_92 P) (.node (k 339 P) (.node (k 595 P) .nil .nil) .nil) (.node (k 467 P) .nil .nil))) (.node (k 115 P) (.node (x179_74 P) (.node (k 307 P)
  (.node (x563_230 P) .nil .nil) .nil) (.node (k 435 P) .nil .nil)) (.node (k 243 P) (.node (k 371 P) .nil .nil) (.node (x499_201 P) .nil .nil))))) (.node
  (x27_14 P) (.node (x43_19 P) (.node (x75_35 P) (.node (k 139 P) (.node (x267_115 P) (.node (k 523 P) .nil .nil) .nil) (.node (k 395 P) .nil .nil)) (.node
  (x203_87 P) (.node (k 331 P) (.node (k 587 P) .nil .nil) .nil) (.node (k 459 P) .nil .nil))) (.node (k 107 P) (.node (k 171 P) (.node (x299_124 P) (.node
  (k 555 P) .nil .nil) .nil) (.node (k 427 P) .nil .nil)) (.node (k 235 P) (.node (k 363 P) .nil .nil) (.node (k 491 P) .nil .nil)))) (.node (x59_26 P) (.node
  (x91_42 P) (.node (k 155 P) (.node (x283_119 P) (.node (k 539 P) .nil .nil) .nil) (.node (x411_160 P) .nil .nil)) (.node (k 219 P) (.node (k 347 P) .nil
  .nil) (.node (x475_192 P) .nil .nil))) (.node (x123_51 P) (.node (k 187 P) (.node (k 315 P) (.node (x571_233 P) .nil .nil) .nil) (.node (x443_181 P) .nil
  .nil)) (.node (x251_107 P) (.node (x379_149 P) .nil .nil) (.node (k 507 P) .nil .nil))))))) (.node (boot_o_5 P) (.node (boot_o_9 P) (.node (k 17 P) (.node
  (k 33 P) (.node (k 65 P) (.node (k 129 P) (.node (x257_112 P) (.node (x513_205 P) .nil .nil) .nil) (.node (k 385 P) .nil .nil)) (.node (k 193 P) (.node
  (k 321 P) (.node (k 577 P) .nil .nil) .nil) (.node (k 449 P) .nil .nil))) (.node (k 97 P) (.node (k 161 P) (.node (k 289 P) (.node (k 545 P) .nil .nil)
  .nil) (.node (x417_164 P) .nil .nil)) (.node (x225_96 P) (.node (k 353 P) .nil .nil) (.node (k 481 P) .nil .nil)))) (.node (k 49 P) (.node (x81_39 P) (.node
  (x145_61 P) (.node (k 273 P) (.node (x529_212 P) .nil .nil) .nil) (.node (k 401 P) .nil .nil)) (.node (k 209 P) (.node (x337_137 P) (.node (x593_238 P)
  .nil .nil) .nil) (.node (k 465 P) .nil .nil))) (.node (k 113 P) (.node (k 177 P) (.node (k 305 P) (.node (k 561 P) .nil .nil) .nil) (.node (k 433 P) .nil
  .nil)) (.node (k 241 P) (.node (x369_146 P) .nil .nil) (.node (k 497 P) .nil .nil))))) (.node (x25_12 P) (.node (k 41 P) (.node (x73_33 P) (.node (k 137
  P) (.node (k 265 P) (.node (k 521 P) .nil .nil) .nil) (.node (x393_155 P) .nil .nil)) (.node (x201_85 P) (.node (k 329 P) (.node (x585_237 P) .nil .nil)
  .nil) (.node (x457_187 P) .nil .nil))) (.node (x105_46 P) (.node (k 169 P) (.node (k 297 P) (.node (x553_226 P) .nil .nil) .nil) (.node (k 425 P) .nil .nil))
  (.node (k 233 P) (.node (k 361 P) .nil .nil) (.node (x489_196 P) .nil .nil)))) (.node (k 57 P) (.node (k 89 P) (.node (k 153 P) (.node (k 281 P) (.node
  (k 537 P) .nil .nil) .nil) (.node (k 409 P) .nil .nil)) (.node (k 217 P) (.node (k 345 P) .nil .nil) (.node (x473_191 P) .nil .nil))) (.node (k 121 P) (.node
  (x185_77 P) (.node (x313_130 P) (.node (k 569 P) .nil .nil) .nil) (.node (x441_179 P) .nil .nil)) (.node (x249_105 P) (.node (k 377 P) .nil .nil) (.node
  (k 505 P) .nil .nil)))))) (.node (x13_3 P) (.node (k 21 P) (.node (k 37 P) (.node (x69_29 P) (.node (x133_54 P) (.node (k 261 P) (.node (x517_206 P) .nil
  .nil) .nil) (.node (k 389 P) .nil .nil)) (.node (x197_83 P) (.node (k 325 P) (.node (k 581 P) .nil .nil) .nil) (.node (k 453 P) .nil .nil))) (.node (k 101
  P) (.node (x165_70 P) (.node (k 293 P) (.node (x549_222 P) .nil .nil) .nil) (.node (x421_168 P) .nil .nil)) (.node (x229_97 P) (.node (k 357 P) .nil .nil)
  (.node (x485_195 P) .nil .nil)))) (.node (k 53 P) (.node (k 85 P) (.node (x149_65 P) (.node (k 277 P) (.node (k 533 P) .nil .nil) .nil) (.node (k 405 P)
  .nil .nil)) (.node (k 213 P) (.node (x341_138 P) (.node (x597_241 P) .nil .nil) .nil) (.node (k 469 P) .nil .nil))) (.node (k 117 P) (.node (k 181 P) (.node
  (x309_129 P) (.node (k 565 P) .nil .nil) .nil) (.node (x437_173 P) .nil .nil)) (.node (k 245 P) (.node (k 373 P) .nil .nil) (.node (k 501 P) .nil .nil)))))
  (.node (k 29 P) (.node (x45_20 P) (.node (x77_37 P) (.node (x141_55 P) (.node (k 269 P) (.node (x525_208 P) .nil .nil) .nil) (.node (x397_156 P) .nil .nil))
  (.node (x205_89 P) (.node (k 333 P) (.node (k 589 P) .nil .nil) .nil) (.node (x461_188 P) .nil .nil))) (.node (x109_47 P) (.node (k 173 P) (.node (k 301
  P) (.node (k 557 P) .nil .nil) .nil) (.node (x429_172 P) .nil .nil)) (.node (k 237 P) (.node (x365_145 P) .nil .nil) (.node (k 493 P) .nil .nil)))) (.node
  (k 61 P) (.node (k 93 P) (.node (k 157 P) (.node (x285_120 P) (.node (k 541 P) .nil .nil) .nil) (.node (k 413 P) .nil .nil)) (.node (k 221 P) (.node (k
  349 P) .nil .nil) (.node (k 477 P) .nil .nil))) (.node (k 125 P) (.node (x189_78 P) (.node (k 317 P) (.node (k 573 P) .nil .nil) .nil) (.node (x445_183
  P) .nil .nil)) (.node (x253_109 P) (.node (k 381 P) .nil .nil) (.node (k 509 P) .nil .nil)))))))) (.node (boot_o_2 P) (.node (boot_o_4 P) (.node (boot_o_8
  P) (.node (x16_7 P) (.node (k 32 P) (.node (k 64 P) (.node (k 128 P) (.node (k 256 P) (.node (k 512 P) .nil .nil) .nil) (.node (k 384 P) .nil .nil)) (.node
  (x192_79 P) (.node (x320_132 P) (.node (k 576 P) .nil .nil) .nil) (.node (k 448 P) .nil .nil))) (.node (k 96 P) (.node (k 160 P) (.node (x288_121 P) (.node
  (k 544 P) .nil .nil) .nil) (.node (k 416 P) .nil .nil)) (.node (k 224 P) (.node (k 352 P) .nil .nil) (.node (k 480 P) .nil .nil)))) (.node (x48_21 P) (.node
  (k 80 P) (.node (x144_60 P) (.node (k 272 P) (.node (x528_211 P) .nil .nil) .nil) (.node (x400_157 P) .nil .nil)) (.node (x208_91 P) (.node (k 336 P) (.node
  (k 592 P) .nil .nil) .nil) (.node (x464_189 P) .nil .nil))) (.node (x112_48 P) (.node (k 176 P) (.node (k 304 P) (.node (k 560 P) .nil .nil) .nil) (.node
  (k 432 P) .nil .nil)) (.node (k 240 P) (.node (k 368 P) .nil .nil) (.node (x496_200 P) .nil .nil))))) (.node (x24_11 P) (.node (k 40 P) (.node (x72_32 P)
  (.node (k 136 P) (.node (x264_114 P) (.node (x520_207 P) .nil .nil) .nil) (.node (k 392 P) .nil .nil)) (.node (x200_84 P) (.node (k 328 P) (.node (k 584
  P) .nil .nil) .nil) (.node (k 456 P) .nil .nil))) (.node (k 104 P) (.node (x168_71 P) (.node (k 296 P) (.node (x552_225 P) .nil .nil) .nil) (.node (k 424
  P) .nil .nil)) (.node (x232_98 P) (.node (k 360 P) .nil .nil) (.node (k 488 P) .nil .nil)))) (.node (k 56 P) (.node (x88_41 P) (.node (k 152 P) (.node (k
  280 P) (.node (k 536 P) .nil .nil) .nil) (.node (k 408 P) .nil .nil)) (.node (k 216 P) (.node (x344_139 P) .nil .nil) (.node (x472_190 P) .nil .nil))) (.node
  (k 120 P) (.node (x184_76 P) (.node (k 312 P) (.node (k 568 P) .nil .nil) .nil) (.node (x440_178 P) .nil .nil)) (.node (x248_102 P) (.node (x376_148 P)
  .nil .nil) (.node (k 504 P) .nil .nil)))))) (.node (x12_220 P) (.node (k 20 P) (.node (k 36 P) (.node (k 68 P) (.node (k 132 P) (.node (x260_113 P) (.node
  (k 516 P) .nil .nil) .nil) (.node (k 388 P) .nil .nil)) (.node (x196_82 P) (.node (k 324 P) (.node (k 580 P) .nil .nil) .nil) (.node (k 452 P) .nil .nil)))
  (.node (k 100 P) (.node (k 164 P) (.node (x292_122 P) (.node (x548_221 P) .nil .nil) .nil) (.node (x420_167 P) .nil .nil)) (.node (k 228 P) (.node (k 356
  P) .nil .nil) (.node (k 484 P) .nil .nil)))) (.node (x52_24 P) (.node (x84_40 P) (.node (x148_64 P) (.node (k 276 P) (.node (k 532 P) .nil .nil) .nil) (.node
  (x404_158 P) .nil .nil)) (.node (k 212 P) (.node (k 340 P) (.node (x596_240 P) .nil .nil) .nil) (.node (k 468 P) .nil .nil))) (.node (x116_49 P) (.node
  (x180_75 P) (.node (k 308 P) (.node (k 564 P) .nil .nil) .nil) (.node (k 436 P) .nil .nil)) (.node (k 244 P) (.node (x372_147 P) .nil .nil) (.node (k 500
  P) .nil .nil))))) (.node (x28_15 P) (.node (k 44 P) (.node (x76_36 P) (.node (k 140 P) (.node (k 268 P) (.node (k 524 P) .nil .nil) .nil) (.node (k 396
  P) .nil .nil)) (.node (x204_88 P) (.node (k 332 P) (.node (k 588 P) .nil .nil) .nil) (.node (k 460 P) .nil .nil))) (.node (k 108 P) (.node (x172_72 P) (.node
  (k 300 P) (.node (x556_228 P) .nil .nil) .nil) (.node (k 428 P) .nil .nil)) (.node (x236_99 P) (.node (k 364 P) .nil .nil) (.node (x492_197 P) .nil .nil))))
  (.node (k 60 P) (.node (k 92 P) (.node (k 156 P) (.node (k 284 P) (.node (k 540 P) .nil .nil) .nil) (.node (k 412 P) .nil .nil)) (.node (k 220 P) (.node
  (x348_140 P) .nil .nil) (.node (k 476 P) .nil .nil))) (.node (k 124 P) (.node (k 188 P) (.node (x316_131 P) (.node (k 572 P) .nil .nil) .nil) (.node (x444_182
  P) .nil .nil)) (.node (x252_108 P) (.node (k 380 P) .nil .nil) (.node (k 508 P) .nil .nil))))))) (.node (boot_o_6 P) (.node (boot_o_10 P) (.node (k 18 P)
  (.node (x34_17 P) (.node (x66_28 P) (.node (x130_53 P) (.node (k 258 P) (.node (k 514 P) .nil .nil) .nil) (.node (x386_153 P) .nil .nil)) (.node (k 194
  P) (.node (k 322 P) (.node (x578_235 P) .nil .nil) .nil) (.node (x450_185 P) .nil .nil))) (.node (x98_44 P) (.node (x162_68 P) (.node (k 290 P) (.node (x546_217
  P) .nil .nil) .nil) (.node (x418_165 P) .nil .nil)) (.node (k 226 P) (.node (k 354 P) .nil .nil) (.node (x482_194 P) .nil .nil)))) (.node (k 50 P) (.node
  (k 82 P) (.node (x146_62 P) (.node (x274_117 P) (.node (x530_213 P) .nil .nil) .nil) (.node (k 402 P) .nil .nil)) (.node (k 210 P) (.node (k 338 P) (.node
  (x594_239 P) .nil .nil) .nil) (.node (k 466 P) .nil .nil))) (.node (k 114 P) (.node (k 178 P) (.node (x306_128 P) (.node (k 562 P) .nil .nil) .nil) (.node
  (k 434 P) .nil .nil)) (.node (k 242 P) (.node (k 370 P) .nil .nil) (.node (k 498 P) .nil .nil))))) (.node (x26_13 P) (.node (x42_18 P) (.node (x74_34 P)
  (.node (k 138 P) (.node (k 266 P) (.node (k 522 P) .nil .nil) .nil) (.node (k 394 P) .nil .nil)) (.node (x202_86 P) (.node (x330_135 P) (.node (k 586 P)
  .nil .nil) .nil) (.node (k 458 P) .nil .nil))) (.node (k 106 P) (.node (k 170 P) (.node (k 298 P) (.node (x554_227 P) .nil .nil) .nil) (.node (x426_171
  P) .nil .nil)) (.node (k 234 P) (.node (x362_144 P) .nil .nil) (.node (k 490 P) .nil .nil)))) (.node (k 58 P) (.node (k 90 P) (.node (x154_67 P) (.node
  (x282_118 P) (.node (x538_216 P) .nil .nil) .nil) (.node (k 410 P) .nil .nil)) (.node (x218_94 P) (.node (k 346 P) .nil .nil) (.node (k 474 P) .nil .nil)))
  (.node (k 122 P) (.node (k 186 P) (.node (k 314 P) (.node (x570_232 P) .nil .nil) .nil) (.node (x442_180 P) .nil .nil)) (.node (x250_106 P) (.node (k 378
  P) .nil .nil) (.node (x506_203 P) .nil .nil)))))) (.node (x14_4 P) (.node (x22_9 P) (.node (k 38 P) (.node (k 70 P) (.node (k 134 P) (.node (k 262 P) (.node
  (k 518 P) .nil .nil) .nil) (.node (x390_154 P) .nil .nil)) (.node (k 198 P) (.node (k 326 P) (.node (x582_236 P) .nil .nil) .nil) (.node (x454_186 P) .nil
  .nil))) (.node (x102_45 P) (.node (k 166 P) (.node (k 294 P) (.node (x550_223 P) .nil .nil) .nil) (.node (x422_169 P) .nil .nil)) (.node (k 230 P) (.node
  (x358_143 P) .nil .nil) (.node (k 486 P) .nil .nil)))) (.node (k 54 P) (.node (k 86 P) (.node (k 150 P) (.node (k 278 P) (.node (k 534 P) .nil .nil) .nil)
  (.node (k 406 P) .nil .nil)) (.node (k 214 P) (.node (k 342 P) (.node (k 598 P) .nil .nil) .nil) (.node (k 470 P) .nil .nil))) (.node (k 118 P) (.node (k
  182 P) (.node (k 310 P) (.node (x566_231 P) .nil .nil) .nil) (.node (x438_174 P) .nil .nil)) (.node (k 246 P) (.node (k 374 P) .nil .nil) (.node (k 502
  P) .nil .nil))))) (.node (k 30 P) (.node (k 46 P) (.node (x78_38 P) (.node (x142_56 P) (.node (k 270 P) (.node (x526_209 P) .nil .nil) .nil) (.node (k 398
  P) .nil .nil)) (.node (x206_90 P) (.node (x334_136 P) (.node (k 590 P) .nil .nil) .nil) (.node (k 462 P) .nil .nil))) (.node (k 110 P) (.node (k 174 P)
  (.node (x302_125 P) (.node (k 558 P) .nil .nil) .nil) (.node (k 430 P) .nil .nil)) (.node (k 238 P) (.node (k 366 P) .nil .nil) (.node (k 494 P) .nil .nil))))
  (.node (x62_27 P) (.node (k 94 P) (.node (k 158 P) (.node (k 286 P) (.node (k 542 P) .nil .nil) .nil) (.node (x414_161 P) .nil .nil)) (.node (x222_95 P)
  (.node (k 350 P) .nil .nil) (.node (x478_193 P) .nil .nil))) (.node (x126_52 P) (.node (k 190 P) (.node (k 318 P) (.node (k 574 P) .nil .nil) .nil) (.node
  (k 446 P) .nil .nil)) (.node (x254_110 P) (.node (k 382 P) .nil .nil) (.node (x510_204 P) .nil .nil)))))))))
noncomputable def tr_13 (P : Params) : BT := (.node (boot_o_0 P) (.node (boot_o_1 P) (.node (k 3 P) (.node (boot_o_7 P) (.node (k 15 P) (.node (x31_16 P) (.node (k 63
  P) (.node (k 127 P) (.node (x255_111 P) (.node (k 511 P) .nil .nil) .nil) (.node (x383_152 P) .nil .nil)) (.node (k 191 P) (.node (k 319 P) (.node (x575_234
  P) .nil .nil) .nil) (.node (x447_184 P) .nil .nil))) (.node (x95_43 P) (.node (k 159 P) (.node (k 287 P) (.node (k 543 P) .nil .nil) .nil) (.node (k 415
  P) .nil .nil)) (.node (k 223 P) (.node (x351_141 P) (.node (k 607 P) .nil .nil) .nil) (.node (k 479 P) .nil .nil)))) (.node (k 47 P) (.node (k 79 P) (.node
  (x143_59 P) (.node (x271_116 P) (.node (x527_210 P) .nil .nil) .nil) (.node (k 399 P) .nil .nil)) (.node (k 207 P) (.node (k 335 P) (.node (k 591 P) .nil
  .nil) .nil) (.node (k 463 P) .nil .nil))) (.node (k 111 P) (.node (x175_73 P) (.node (k 303 P) (.node (x559_229 P) .nil .nil) .nil) (.node (k 431 P) .nil
  .nil)) (.node (x239_100 P) (.node (k 367 P) (.node (x623_250 P) .nil .nil) .nil) (.node (k 495 P) .nil .nil))))) (.node (x23_10 P) (.node (k 39 P) (.node
  (k 71 P) (.node (k 135 P) (.node (k 263 P) (.node (k 519 P) .nil .nil) .nil) (.node (k 391 P) .nil .nil)) (.node (k 199 P) (.node (x327_134 P) (.node (k
  583 P) .nil .nil) .nil) (.node (k 455 P) .nil .nil))) (.node (k 103 P) (.node (k 167 P) (.node (x295_123 P) (.node (x551_224 P) .nil .nil) .nil) (.node
  (x423_170 P) .nil .nil)) (.node (k 231 P) (.node (k 359 P) (.node (k 615 P) .nil .nil) .nil) (.node (k 487 P) .nil .nil)))) (.node (x55_25 P) (.node (k
  87 P) (.node (x151_66 P) (.node (k 279 P) (.node (x535_215 P) .nil .nil) .nil) (.node (x407_159 P) .nil .nil)) (.node (x215_93 P) (.node (k 343 P) (.node
  (k 599 P) .nil .nil) .nil) (.node (k 471 P) .nil .nil))) (.node (x119_50 P) (.node (k 183 P) (.node (k 311 P) (.node (k 567 P) .nil .nil) .nil) (.node (x439_177
  P) .nil .nil)) (.node (x247_101 P) (.node (k 375 P) .nil .nil) (.node (x503_202 P) .nil .nil)))))) (.node (x11_1 P) (.node (x19_8 P) (.node (k 35 P) (.node
  (k 67 P) (.node (k 131 P) (.node (k 259 P) (.node (k 515 P) .nil .nil) .nil) (.node (k 387 P) .nil .nil)) (.node (k 195 P) (.node (x323_133 P) (.node (k
  579 P) .nil .nil) .nil) (.node (k 451 P) .nil .nil))) (.node (k 99 P) (.node (x163_69 P) (.node (k 291 P) (.node (x547_218 P) .nil .nil) .nil) (.node (x419_166
  P) .nil .nil)) (.node (k 227 P) (.node (x355_142 P) (.node (k 611 P) .nil .nil) .nil) (.node (k 483 P) .nil .nil)))) (.node (k 51 P) (.node (k 83 P) (.node
  (x147_63 P) (.node (k 275 P) (.node (x531_214 P) .nil .nil) .nil) (.node (k 403 P) .nil .nil)) (.node (x211_92 P) (.node (k 339 P) (.node (k 595 P) .nil
  .nil) .nil) (.node (k 467 P) .nil .nil))) (.node (k 115 P) (.node (x179_74 P) (.node (k 307 P) (.node (x563_230 P) .nil .nil) .nil) (.node (k 435 P) .nil
  .nil)) (.node (k 243 P) (.node (k 371 P) (.node (x627_251 P) .nil .nil) .nil) (.node (x499_201 P) .nil .nil))))) (.node (x27_14 P) (.node (x43_19 P) (.node
  (x75_35 P) (.node (k 139 P) (.node (x267_115 P) (.node (k 523 P) .nil .nil) .nil) (.node (k 395 P) .nil .nil)) (.node (x203_87 P) (.node (k 331 P) (.node
  (k 587 P) .nil .nil) .nil) (.node (k 459 P) .nil .nil))) (.node (k 107 P) (.node (k 171 P) (.node (x299_124 P) (.node (k 555 P) .nil .nil) .nil) (.node
  (k 427 P) .nil .nil)) (.node (k 235 P) (.node (k 363 P) (.node (k 619 P) .nil .nil) .nil) (.node (k 491 P) .nil .nil)))) (.node (x59_26 P) (.node (x91_42
  P) (.node (k 155 P) (.node (x283_119 P) (.node (k 539 P) .nil .nil) .nil) (.node (x411_160 P) .nil .nil)) (.node (k 219 P) (.node (k 347 P) (.node (k 603
  P) .nil .nil) .nil) (.node (x475_192 P) .nil .nil))) (.node (x123_51 P) (.node (k 187 P) (.node (k 315 P) (.node (x571_233 P) .nil .nil) .nil) (.node (x443_181
  P) .nil .nil)) (.node (x251_107 P) (.node (x379_149 P) .nil .nil) (.node (k 507 P) .nil .nil))))))) (.node (boot_o_5 P) (.node (boot_o_9 P) (.node (k 17
  P) (.node (k 33 P) (.node (k 65 P) (.node (k 129 P) (.node (x257_112 P) (.node (x513_205 P) .nil .nil) .nil) (.node (k 385 P) .nil .nil)) (.node (k 193
  P) (.node (k 321 P) (.node (k 577 P) .nil .nil) .nil) (.node (k 449 P) .nil .nil))) (.node (k 97 P) (.node (k 161 P) (.node (k 289 P) (.node (k 545 P) .nil
  .nil) .nil) (.node (x417_164 P) .nil .nil)) (.node (x225_96 P) (.node (k 353 P) (.node (x609_246 P) .nil .nil) .nil) (.node (k 481 P) .nil .nil)))) (.node
  (k 49 P) (.node (x81_39 P) (.node (x145_61 P) (.node (k 273 P) (.node (x529_212 P) .nil .nil) .nil) (.node (k 401 P) .nil .nil)) (.node (k 209 P) (.node
  (x337_137 P) (.node (x593_238 P) .nil .nil) .nil) (.node (k 465 P) .nil .nil))) (.node (k 113 P) (.node (k 177 P) (.node (k 305 P) (.node (k 561 P) .nil
  .nil) .nil) (.node (k 433 P) .nil .nil)) (.node (k 241 P) (.node (x369_146 P) (.node (k 625 P) .nil .nil) .nil) (.node (k 497 P) .nil .nil))))) (.node (x25_12
  P) (.node (k 41 P) (.node (x73_33 P) (.node (k 137 P) (.node (k 265 P) (.node (k 521 P) .nil .nil) .nil) (.node (x393_155 P) .nil .nil)) (.node (x201_85
  P) (.node (k 329 P) (.node (x585_237 P) .nil .nil) .nil) (.node (x457_187 P) .nil .nil))) (.node (x105_46 P) (.node (k 169 P) (.node (k 297 P) (.node (x553_226
  P) .nil .nil) .nil) (.node (k 425 P) .nil .nil)) (.node (k 233 P) (.node (k 361 P) (.node (k 617 P) .nil .nil) .nil) (.node (x489_196 P) .nil .nil)))) (.node
  (k 57 P) (.node (k 89 P) (.node (k 153 P) (.node (k 281 P) (.node (k 537 P) .nil .nil) .nil) (.node (k 409 P) .nil .nil)) (.node (k 217 P) (.node (k 345
  P) (.node (x601_243 P) .nil .nil) .nil) (.node (x473_191 P) .nil .nil))) (.node (k 121 P) (.node (x185_77 P) (.node (x313_130 P) (.node (k 569 P) .nil .nil)
  .nil) (.node (x441_179 P) .nil .nil)) (.node (x249_105 P) (.node (k 377 P) .nil .nil) (.node (k 505 P) .nil .nil)))))) (.node (x13_3 P) (.node (k 21 P)
  (.node (k 37 P) (.node (x69_29 P) (.node (x133_54 P) (.node (k 261 P) (.node (x517_206 P) .nil .nil) .nil) (.node (k 389 P) .nil .nil)) (.node (x197_83
  P) (.node (k 325 P) (.node (k 581 P) .nil .nil) .nil) (.node (k 453 P) .nil .nil))) (.node (k 101 P) (.node (x165_70 P) (.node (k 293 P) (.node (x549_222
  P) .nil .nil) .nil) (.node (x421_168 P) .nil .nil)) (.node (x229_97 P) (.node (k 357 P) (.node (x613_247 P) .nil .nil) .nil) (.node (x485_195 P) .nil .nil))))
  (.node (k 53 P) (.node (k 85 P) (.node (x149_65 P) (.node (k 277 P) (.node (k 533 P) .nil .nil) .nil) (.node (k 405 P) .nil .nil)) (.node (k 213 P) (.node
  (x341_138 P) (.node (x597_241 P) .nil .nil) .nil) (.node (k 469 P) .nil .nil))) (.node (k 117 P) (.node (k 181 P) (.node (x309_129 P) (.node (k 565 P) .nil
  .nil) .nil) (.node (x437_173 P) .nil .nil)) (.node (k 245 P) (.node (k 373 P) (.node (k 629 P) .nil .nil) .nil) (.node (k 501 P) .nil .nil))))) (.node (k
  29 P) (.node (x45_20 P) (.node (x77_37 P) (.node (x141_55 P) (.node (k 269 P) (.node (x525_208 P) .nil .nil) .nil) (.node (x397_156 P) .nil .nil)) (.node
  (x205_89 P) (.node (k 333 P) (.node (k 589 P) .nil .nil) .nil) (.node (x461_188 P) .nil .nil))) (.node (x109_47 P) (.node (k 173 P) (.node (k 301 P) (.node
  (k 557 P) .nil .nil) .nil) (.node (x429_172 P) .nil .nil)) (.node (k 237 P) (.node (x365_145 P) (.node (k 621 P) .nil .nil) .nil) (.node (k 493 P) .nil
  .nil)))) (.node (k 61 P) (.node (k 93 P) (.node (k 157 P) (.node (x285_120 P) (.node (k 541 P) .nil .nil) .nil) (.node (k 413 P) .nil .nil)) (.node (k 221
  P) (.node (k 349 P) (.node (k 605 P) .nil .nil) .nil) (.node (k 477 P) .nil .nil))) (.node (k 125 P) (.node (x189_78 P) (.node (k 317 P) (.node (k 573 P)
  .nil .nil) .nil) (.node (x445_183 P) .nil .nil)) (.node (x253_109 P) (.node (k 381 P) .nil .nil) (.node (k 509 P) .nil .nil)))))))) (.node (boot_o_2 P)
  (.node (boot_o_4 P) (.node (boot_o_8 P) (.node (x16_7 P) (.node (k 32 P) (.node (k 64 P) (.node (k 128 P) (.node (k 256 P) (.node (k 512 P) .nil .nil) .nil)
  (.node (k 384 P) .nil .nil)) (.node (x192_79 P) (.node (x320_132 P) (.node (k 576 P) .nil .nil) .nil) (.node (k 448 P) .nil .nil))) (.node (k 96 P) (.node
  (k 160 P) (.node (x288_121 P) (.node (k 544 P) .nil .nil) .nil) (.node (k 416 P) .nil .nil)) (.node (k 224 P) (.node (k 352 P) (.node (x608_245 P) .nil
  .nil) .nil) (.node (k 480 P) .nil .nil)))) (.node (x48_21 P) (.node (k 80 P) (.node (x144_60 P) (.node (k 272 P) (.node (x528_211 P) .nil .nil) .nil) (.node
  (x400_157 P) .nil .nil)) (.node (x208_91 P) (.node (k 336 P) (.node (k 592 P) .nil .nil) .nil) (.node (x464_189 P) .nil .nil))) (.node (x112_48 P) (.node
  (k 176 P) (.node (k 304 P) (.node (k 560 P) .nil .nil) .nil) (.node (k 432 P) .nil .nil)) (.node (k 240 P) (.node (k 368 P) (.node (k 624 P) .nil .nil)
  .nil) (.node (x496_200 P) .nil .nil))))) (.node (x24_11 P) (.node (k 40 P) (.node (x72_32 P) (.node (k 136 P) (.node (x264_114 P) (.node (x520_207 P) .nil
  .nil) .nil) (.node (k 392 P) .nil .nil)) (.node (x200_84 P) (.node (k 328 P) (.node (k 584 P) .nil .nil) .nil) (.node (k 456 P) .nil .nil))) (.node (k 104
  P) (.node (x168_71 P) (.node (k 296 P) (.node (x552_225 P) .nil .nil) .nil) (.node (k 424 P) .nil .nil)) (.node (x232_98 P) (.node (k 360 P) (.node (x616_248
  P) .nil .nil) .nil) (.node (k 488 P) .nil .nil)))) (.node (k 56 P) (.node (x88_41 P) (.node (k 152 P) (.node (k 280 P) (.node (k 536 P) .nil .nil) .nil)
  (.node (k 408 P) .nil .nil)) (.node (k 216 P) (.node (x344_139 P) (.node (k 600 P) .nil .nil) .nil) (.node (x472_190 P) .nil .nil))) (.node (k 120 P) (.node
  (x184_76 P) (.node (k 312 P) (.node (k 568 P) .nil .nil) .nil) (.node (x440_178 P) .nil .nil)) (.node (x248_102 P) (.node (x376_148 P) .nil .nil) (.node
  (k 504 P) .nil .nil)))))) (.node (x12_242 P) (.node (k 20 P) (.node (k 36 P) (.node (k 68 P) (.node (k 132 P) (.node (x260_113 P) (.node (k 516 P) .nil
  .nil) .nil) (.node (k 388 P) .nil .nil)) (.node (x196_82 P) (.node (k 324 P) (.node (k 580 P) .nil .nil) .nil) (.node (k 452 P) .nil .nil))) (.node (k 100
  P) (.node (k 164 P) (.node (x292_122 P) (.node (x548_221 P) .nil .nil) .nil) (.node (x420_167 P) .nil .nil)) (.node (k 228 P) (.node (k 356 P) (.node (k
  612 P) .nil .nil) .nil) (.node (k 484 P) .nil .nil)))) (.node (x52_24 P) (.node (x84_40 P) (.node (x148_64 P) (.node (k 276 P) (.node (k 532 P) .nil .nil)
  .nil) (.node (x404_158 P) .nil .nil)) (.node (k 212 P) (.node (k 340 P) (.node (x596_240 P) .nil .nil) .nil) (.node (k 468 P) .nil .nil))) (.node (x116_49
  P) (.node (x180_75 P) (.node (k 308 P) (.node (k 564 P) .nil .nil) .nil) (.node (k 436 P) .nil .nil)) (.node (k 244 P) (.node (x372_147 P) (.node (x628_252
  P) .nil .nil) .nil) (.node (k 500 P) .nil .nil))))) (.node (x28_15 P) (.node (k 44 P) (.node (x76_36 P) (.node (k 140 P) (.node (k 268 P) (.node (k 524
  P) .nil .nil) .nil) (.node (k 396 P) .nil .nil)) (.node (x204_88 P) (.node (k 332 P) (.node (k 588 P) .nil .nil) .nil) (.node (k 460 P) .nil .nil))) (.node
  (k 108 P) (.node (x172_72 P) (.node (k 300 P) (.node (x556_228 P) .nil .nil) .nil) (.node (k 428 P) .nil .nil)) (.node (x236_99 P) (.node (k 364 P) (.node
  (x620_249 P) .nil .nil) .nil) (.node (x492_197 P) .nil .nil)))) (.node (k 60 P) (.node (k 92 P) (.node (k 156 P) (.node (k 284 P) (.node (k 540 P) .nil
  .nil) .nil) (.node (k 412 P) .nil .nil)) (.node (k 220 P) (.node (x348_140 P) (.node (x604_244 P) .nil .nil) .nil) (.node (k 476 P) .nil .nil))) (.node
  (k 124 P) (.node (k 188 P) (.node (x316_131 P) (.node (k 572 P) .nil .nil) .nil) (.node (x444_182 P) .nil .nil)) (.node (x252_108 P) (.node (k 380 P) .nil
  .nil) (.node (k 508 P) .nil .nil))))))) (.node (boot_o_6 P) (.node (boot_o_10 P) (.node (k 18 P) (.node (x34_17 P) (.node (x66_28 P) (.node (x130_53 P)
  (.node (k 258 P) (.node (k 514 P) .nil .nil) .nil) (.node (x386_153 P) .nil .nil)) (.node (k 194 P) (.node (k 322 P) (.node (x578_235 P) .nil .nil) .nil)
  (.node (x450_185 P) .nil .nil))) (.node (x98_44 P) (.node (x162_68 P) (.node (k 290 P) (.node (x546_217 P) .nil .nil) .nil) (.node (x418_165 P) .nil .nil))
  (.node (k 226 P) (.node (k 354 P) (.node (k 610 P) .nil .nil) .nil) (.node (x482_194 P) .nil .nil)))) (.node (k 50 P) (.node (k 82 P) (.node (x146_62 P)
  (.node (x274_117 P) (.node (x530_213 P) .nil .nil) .nil) (.node (k 402 P) .nil .nil)) (.node (k 210 P) (.node (k 338 P) (.node (x594_239 P) .nil .nil) .nil)
  (.node (k 466 P) .nil .nil))) (.node (k 114 P) (.node (k 178 P) (.node (x306_128 P) (.node (k 562 P) .nil .nil) .nil) (.node (k 434 P) .nil .nil)) (.node
  (k 242 P) (.node (k 370 P) (.node (k 626 P) .nil .nil) .nil) (.node (k 498 P) .nil .nil))))) (.node (x26_13 P) (.node (x42_18 P) (.node (x74_34 P) (.node
  (k 138 P) (.node (k 266 P) (.node (k 522 P) .nil .nil) .nil) (.node (k 394 P) .nil .nil)) (.node (x202_86 P) (.node (x330_135 P) (.node (k 586 P) .nil .nil)
  .nil) (.node (k 458 P) .nil .nil))) (.node (k 106 P) (.node (k 170 P) (.node (k 298 P) (.node (x554_227 P) .nil .nil) .nil) (.node (x426_171 P) .nil .nil))
  (.node (k 234 P) (.node (x362_144 P) (.node (k 618 P) .nil .nil) .nil) (.node (k 490 P) .nil .nil)))) (.node (k 58 P) (.node (k 90 P) (.node (x154_67 P)
  (.node (x282_118 P) (.node (x538_216 P) .nil .nil) .nil) (.node (k 410 P) .nil .nil)) (.node (x218_94 P) (.node (k 346 P) (.node (k 602 P) .nil .nil) .nil)
  (.node (k 474 P) .nil .nil))) (.node (k 122 P) (.node (k 186 P) (.node (k 314 P) (.node (x570_232 P) .nil .nil) .nil) (.node (x442_180 P) .nil .nil)) (.node
  (x250_106 P) (.node (k 378 P) .nil .nil) (.node (x506_203 P) .nil .nil)))))) (.node (x14_4 P) (.node (x22_9 P) (.node (k 38 P) (.node (k 70 P) (.node (k
  134 P) (.node (k 262 P) (.node (k 518 P) .nil .nil) .nil) (.node (x390_154 P) .nil .nil)) (.node (k 198 P) (.node (k 326 P) (.node (x582_236 P) .nil .nil)
  .nil) (.node (x454_186 P) .nil .nil))) (.node (x102_45 P) (.node (k 166 P) (.node (k 294 P) (.node (x550_223 P) .nil .nil) .nil) (.node (x422_169 P) .nil
  .nil)) (.node (k 230 P) (.node (x358_143 P) (.node (k 614 P) .nil .nil) .nil) (.node (k 486 P) .nil .nil)))) (.node (k 54 P) (.node (k 86 P) (.node (k 150
  P) (.node (k 278 P) (.node (k 534 P) .nil .nil) .nil) (.node (k 406 P) .nil .nil)) (.node (k 214 P) (.node (k 342 P) (.node (k 598 P) .nil .nil) .nil) (.node
  (k 470 P) .nil .nil))) (.node (k 118 P) (.node (k 182 P) (.node (k 310 P) (.node (x566_231 P) .nil .nil) .nil) (.node (x438_174 P) .nil .nil)) (.node (k
  246 P) (.node (k 374 P) (.node (k 630 P) .nil .nil) .nil) (.node (k 502 P) .nil .nil))))) (.node (k 30 P) (.node (k 46 P) (.node (x78_38 P) (.node (x142_56
  P) (.node (k 270 P) (.node (x526_209 P) .nil .nil) .nil) (.node (k 398 P) .nil .nil)) (.node (x206_90 P) (.node (x334_136 P) (.node (k 590 P) .nil .nil)
  .nil) (.node (k 462 P) .nil .nil))) (.node (k 110 P) (.node (k 174 P) (.node (x302_125 P) (.node (k 558 P) .nil .nil) .nil) (.node (k 430 P) .nil .nil))
  (.node (k 238 P) (.node (k 366 P) (.node (k 622 P) .nil .nil) .nil) (.node (k 494 P) .nil .nil)))) (.node (x62_27 P) (.node (k 94 P) (.node (k 158 P) (.node
  (k 286 P) (.node (k 542 P) .nil .nil) .nil) (.node (x414_161 P) .nil .nil)) (.node (x222_95 P) (.node (k 350 P) (.node (k 606 P) .nil .nil) .nil) (.node
  (x478_193 P) .nil .nil))) (.node (x126_52 P) (.node (k 190 P) (.node (k 318 P) (.node (k 574 P) .nil .nil) .nil) (.node (k 446 P) .nil .nil)) (.node (x254_110
  P) (.node (k 382 P) .nil .nil) (.node (x510_204 P) .nil .nil)))))))))
noncomputable def hp_f (P : Params) : Heap := ⟨Array.mk [(boot_o_0 P), (boot_o_1 P), (boot_o_2 P), (k 3 P), (boot_o_4 P), (boot_o_5 P), (boot_o_6 P), (boot_o_7 P), (boot_o_8
  P), (boot_o_9 P), (boot_o_10 P), (x11_1 P), (x12_242 P), (x13_3 P), (x14_4 P), (k 15 P), (x16_7 P), (k 17 P), (k 18 P), (x19_8 P), (k 20 P), (k 21 P), (x22_9
  P), (x23_10 P), (x24_11 P), (x25_12 P), (x26_13 P), (x27_14 P), (x28_15 P), (k 29 P), (k 30 P), (x31_16 P), (k 32 P), (k 33 P), (x34_17 P), (k 35 P), (k
  36 P), (k 37 P), (k 38 P), (k 39 P), (k 40 P), (k 41 P), (x42_18 P), (x43_19 P), (k 44 P), (x45_20 P), (k 46 P), (k 47 P), (x48_21 P), (k 49 P), (k 50 P),
  (k 51 P), (x52_24 P), (k 53 P), (k 54 P), (x55_25 P), (k 56 P), (k 57 P), (k 58 P), (x59_26 P), (k 60 P), (k 61 P), (x62_27 P), (k 63 P), (k 64 P), (k 65
  P), (x66_28 P), (k 67 P), (k 68 P), (x69_29 P), (k 70 P), (k 71 P), (x72_32 P), (x73_33 P), (x74_34 P), (x75_35 P), (x76_36 P), (x77_37 P), (x78_38 P),
  (k 79 P), (k 80 P), (x81_39 P), (k 82 P), (k 83 P), (x84_40 P), (k 85 P), (k 86 P), (k 87 P), (x88_41 P), (k 89 P), (k 90 P), (x91_42 P), (k 92 P), (k 93
  P), (k 94 P), (x95_43 P), (k 96 P), (k 97 P), (x98_44 P), (k 99 P), (k 100 P), (k 101 P), (x102_45 P), (k 103 P), (k 104 P), (x105_46 P), (k 106 P), (k
  107 P), (k 108 P), (x109_47 P), (k 110 P), (k 111 P), (x112_48 P), (k 113 P), (k 114 P), (k 115 P), (x116_49 P), (k 117 P), (k 118 P), (x119_50 P), (k 120
  P), (k 121 P), (k 122 P), (x123_51 P), (k 124 P), (k 125 P), (x126_52 P), (k 127 P), (k 128 P), (k 129 P), (x130_53 P), (k 131 P), (k 132 P), (x133_54 P),
  (k 134 P), (k 135 P), (k 136 P), (k 137 P), (k 138 P), (k 139 P), (k 140 P), (x141_55 P), (x142_56 P), (x143_59 P), (x144_60 P), (x145_61 P), (x146_62 P),
  (x147_63 P), (x148_64 P), (x149_65 P), (k 150 P), (x151_66 P), (k 152 P), (k 153 P), (x154_67 P), (k 155 P), (k 156 P), (k 157 P), (k 158 P), (k 159 P),
  (k 160 P), (k 161 P), (x162_68 P), (x163_69 P), (k 164 P), (x165_70 P), (k 166 P), (k 167 P), (x168_71 P), (k 169 P), (k 170 P), (k 171 P), (x172_72 P),
  (k 173 P), (k 174 P), (x175_73 P), (k 176 P), (k 177 P), (k 178 P), (x179_74 P), (x180_75 P), (k 181 P), (k 182 P), (k 183 P), (x184_76 P), (x185_77 P),
  (k 186 P), (k 187 P), (k 188 P), (x189_78 P), (k 190 P), (k 191 P), (x192_79 P), (k 193 P), (k 194 P), (k 195 P), (x196_82 P), (x197_83 P), (k 198 P), (k
  199 P), (x200_84 P), (x201_85 P), (x202_86 P), (x203_87 P), (x204_88 P), (x205_89 P), (x206_90 P), (k 207 P), (x208_91 P), (k 209 P), (k 210 P), (x211_92
  P), (k 212 P), (k 213 P), (k 214 P), (x215_93 P), (k 216 P), (k 217 P), (x218_94 P), (k 219 P), (k 220 P), (k 221 P), (x222_95 P), (k 223 P), (k 224 P),
  (x225_96 P), (k 226 P), (k 227 P), (k 228 P), (x229_97 P), (k 230 P), (k 231 P), (x232_98 P), (k 233 P), (k 234 P), (k 235 P), (x236_99 P), (k 237 P), (k
  238 P), (x239_100 P), (k 240 P), (k 241 P), (k 242 P), (k 243 P), (k 244 P), (k 245 P), (k 246 P), (x247_101 P), (x248_102 P), (x249_105 P), (x250_106 P),
  (x251_107 P), (x252_108 P), (x253_109 P), (x254_110 P), (x255_111 P), (k 256 P), (x257_112 P), (k 258 P), (k 259 P), (x260_113 P), (k 261 P), (k 262 P),
  (k 263 P), (x264_114 P), (k 265 P), (k 266 P), (x267_115 P), (k 268 P), (k 269 P), (k 270 P), (x271_116 P), (k 272 P), (k 273 P), (x274_117 P), (k 275 P),
  (k 276 P), (k 277 P), (k 278 P), (k 279 P), (k 280 P), (k 281 P), (x282_118 P), (x283_119 P), (k 284 P), (x285_120 P), (k 286 P), (k 287 P), (x288_121 P),
  (k 289 P), (k 290 P), (k 291 P), (x292_122 P), (k 293 P), (k 294 P), (x295_123 P), (k 296 P), (k 297 P), (k 298 P), (x299_124 P), (k 300 P), (k 301 P),
  (x302_125 P), (k 303 P), (k 304 P), (k 305 P), (x306_128 P), (k 307 P), (k 308 P), (x309_129 P), (k 310 P), (k 311 P), (k 312 P), (x313_130 P), (k 314 P),
  (k 315 P), (x316_131 P), (k 317 P), (k 318 P), (k 319 P), (x320_132 P), (k 321 P), (k 322 P), (x323_133 P), (k 324 P), (k 325 P), (k 326 P), (x327_134 P),
  (k 328 P), (k 329 P), (x330_135 P), (k 331 P), (k 332 P), (k 333 P), (x334_136 P), (k 335 P), (k 336 P), (x337_137 P), (k 338 P), (k 339 P), (k 340 P),
  (x341_138 P), (k 342 P), (k 343 P), (x344_139 P), (k 345 P), (k 346 P), (k 347 P), (x348_140 P), (k 349 P), (k 350 P), (x351_141 P), (k 352 P), (k 353 P),
  (k 354 P), (x355_142 P), (k 356 P), (k 357 P), (x358_143 P), (k 359 P), (k 360 P), (k 361 P), (x362_144 P), (k 363 P), (k 364 P), (x365_145 P), (k 366 P),
  (k 367 P), (k 368 P), (x369_146 P), (k 370 P), (k 371 P), (x372_147 P), (k 373 P), (k 374 P), (k 375 P), (x376_148 P), (k 377 P), (k 378 P), (x379_149 P),
  (k 380 P), (k 381 P), (k 382 P), (x383_152 P), (k 384 P), (k 385 P), (x386_153 P), (k 387 P), (k 388 P), (k 389 P), (x390_154 P), (k 391 P), (k 392 P),
  (x393_155 P), (k 394 P), (k 395 P), (k 396 P), (x397_156 P), (k 398 P), (k 399 P), (x400_157 P), (k 401 P), (k 402 P), (k 403 P), (x404_158 P), (k 405 P),
  (k 406 P), (x407_159 P), (k 408 P), (k 409 P), (k 410 P), (x411_160 P), (k 412 P), (k 413 P), (x414_161 P), (k 415 P), (k 416 P), (x417_164 P), (x418_165
  P), (x419_166 P), (x420_167 P), (x421_168 P), (x422_169 P), (x423_170 P), (k 424 P), (k 425 P), (x426_171 P), (k 427 P), (k 428 P), (x429_172 P), (k 430
  P), (k 431 P), (k 432 P), (k 433 P), (k 434 P), (k 435 P), (k 436 P), (x437_173 P), (x438_174 P), (x439_177 P), (x440_178 P), (x441_179 P), (x442_180 P),
  (x443_181 P), (x444_182 P), (x445_183 P), (k 446 P), (x447_184 P), (k 448 P), (k 449 P), (x450_185 P), (k 451 P), (k 452 P), (k 453 P), (x454_186 P), (k
  455 P), (k 456 P), (x457_187 P), (k 458 P), (k 459 P), (k 460 P), (x461_188 P), (k 462 P), (k 463 P), (x464_189 P), (k 465 P), (k 466 P), (k 467 P), (k
  468 P), (k 469 P), (k 470 P), (k 471 P), (x472_190 P), (x473_191 P), (k 474 P), (x475_192 P), (k 476 P), (k 477 P), (x478_193 P), (k 479 P), (k 480 P),
  (k 481 P), (x482_194 P), (k 483 P), (k 484 P), (x485_195 P), (k 486 P), (k 487 P), (k 488 P), (x489_196 P), (k 490 P), (k 491 P), (x492_197 P), (k 493 P),
  (k 494 P), (k 495 P), (x496_200 P), (k 497 P), (k 498 P), (x499_201 P), (k 500 P), (k 501 P), (k 502 P), (x503_202 P), (k 504 P), (k 505 P), (x506_203 P),
  (k 507 P), (k 508 P), (k 509 P), (x510_204 P), (k 511 P), (k 512 P), (x513_205 P), (k 514 P), (k 515 P), (k 516 P), (x517_206 P), (k 518 P), (k 519 P),
  (x520_207 P), (k 521 P), (k 522 P), (k 523 P), (k 524 P), (x525_208 P), (x526_209 P), (x527_210 P), (x528_211 P), (x529_212 P), (x530_213 P), (x531_214
  P), (k 532 P), (k 533 P), (k 534 P), (x535_215 P), (k 536 P), (k 537 P), (x538_216 P), (k 539 P), (k 540 P), (k 541 P), (k 542 P), (k 543 P), (k 544 P),
  (k 545 P), (x546_217 P), (x547_218 P), (x548_221 P), (x549_222 P), (x550_223 P), (x551_224 P), (x552_225 P), (x553_226 P), (x554_227 P), (k 555 P), (x556_228
  P), (k 557 P), (k 558 P), (x559_229 P), (k 560 P), (k 561 P), (k 562 P), (x563_230 P), (k 564 P), (k 565 P), (x566_231 P), (k 567 P), (k 568 P), (k 569
  P), (x570_232 P), (x571_233 P), (k 572 P), (k 573 P), (k 574 P), (x575_234 P), (k 576 P), (k 577 P), (x578_235 P), (k 579 P), (k 580 P), (k 581 P), (x582_236
  P), (k 583 P), (k 584 P), (x585_237 P), (k 586 P), (k 587 P), (k 588 P), (k 589 P), (k 590 P), (k 591 P), (k 592 P), (x593_238 P), (x594_239 P), (k 595
  P), (x596_240 P), (x597_241 P), (k 598 P), (k 599 P), (k 600 P), (x601_243 P), (k 602 P), (k 603 P), (x604_244 P), (k 605 P), (k 606 P), (k 607 P), (x608_245
  P), (x609_246 P), (k 610 P), (k 611 P), (k 612 P), (x613_247 P), (k 614 P), (k 615 P), (x616_248 P), (k 617 P), (k 618 P), (k 619 P), (x620_249 P), (k 621
  P), (k 622 P), (x623_250 P), (k 624 P), (k 625 P), (k 626 P), (x627_251 P), (x628_252 P), (k 629 P), (k 630 P)], lf⟩
noncomputable def bE : List Stmt := behindTheImports pw
noncomputable def env : Env := { scope := pw.main.scope, locals := mainNs, globals := mainNs, cells := [], code := .ref 13, frame := some 14 }
noncomputable abbrev cE : Code := .body bE env
noncomputable abbrev B : List Frame := [topFrame ⟨0, 0, 0, 0⟩]
noncomputable abbrev ann : Option Value := some (.ref 6)
noncomputable abbrev dr : Drawn := ⟨0, 0, 0, 0⟩
noncomputable abbrev gs : Array GenState := Array.mk []
noncomputable def sts (i n : Nat) : List Stmt := (pw.main.body.drop i).take n
theorem bE_eq : bE = (sts 0 13 ++ (sts 13 6 ++ (sts 19 1 ++ (sts 20 7 ++ (sts 27 3 ++ (sts 30 4 ++ (sts 34 12 ++ (sts 46 6 ++ (sts 52 1 ++ (sts 53 4 ++ (sts 57 9 ++ (sts 66 3 ++ (sts 69 5 ++ ([] : List Stmt)))))))))))))) := by kernel_rfl
theorem pa (w : World) : (fun os => topGo treeTable pw w 11 ann 12 ⟨boot_heap w.params, gs, boot_drawn, boot_toks, os⟩ (topStub pw)) = fun os => some ((⟨hp_a w.params, gs, dr, 187, os⟩ : Shared), (⟨denote treeTable cE, cE, ⟨0, 0, 0, 0⟩, B⟩ : Thread)) := by
  rw [PySem.W.Fast.te15667345088766844465, PySem.W.Fast.te14364793385576792824, PySem.W.Fast.te11892475500146522536]
  kernel_rfl
theorem pb (w : World) : (fun os => segRun treeTable pw w 11 ann 1 1 (⟨hp_a w.params, gs, dr, 187, os⟩ : Shared) (blockOf bE env cE ⟨0, 0, 0, 0⟩ B)) = fun os => some (Flow.next, (⟨tr_b w.params, 15, lf, gs, dr, 187, os⟩ : SharedT).abs, cE, (⟨0, 0, 0, 0⟩ : Pos)) := by
  rw [PySem.W.Fast.te14374325043358763698, PySem.W.Fast.te14364793385576792824]
  kernel_rfl
theorem p1 (w : World) : (fun os => segRunT treeTable pw w 11 ann 1 387 (⟨tr_b w.params, 15, lf, gs, dr, 187, os⟩ : SharedT) (piecesOf (sts 0 13) env cE ⟨0, 0, 0, 0⟩ B)) = fun os => some (Flow.next, (⟨tr_1 w.params, 51, lf, gs, dr, 261, os⟩ : SharedT), cE, (⟨22, 0, 23, 84⟩ : Pos)) := by
  rw [PySem.W.Fast.te10110043849684766642, PySem.W.Fast.te14364793385576792824]
  kernel_rfl
theorem p2 (w : World) : (fun os => segRunT treeTable pw w 11 ann 1 117 (⟨tr_1 w.params, 51, lf, gs, dr, 261, os⟩ : SharedT) (piecesOf (sts 13 6) env cE ⟨22, 0, 23, 84⟩ B)) = fun os => some (Flow.next, (⟨tr_2 w.params, 72, lf, gs, dr, 290, os⟩ : SharedT), cE, (⟨40, 0, 40, 6⟩ : Pos)) := by
  rw [PySem.W.Fast.te10110043849684766642, PySem.W.Fast.te14364793385576792824]
  kernel_rfl
theorem p3 (w : World) : (fun os => segRunT treeTable pw w 11 ann 1 449 (⟨tr_2 w.params, 72, lf, gs, dr, 290, os⟩ : SharedT) (piecesOf (sts 19 1) env cE ⟨40, 0, 40, 6⟩ B)) = fun os => some (Flow.next, (⟨tr_3 w.params, 143, lf, gs, dr, 376, os⟩ : SharedT), cE, (⟨41, 0, 66, 17⟩ : Pos)) := by
  rw [PySem.W.Fast.te10110043849684766642, PySem.W.Fast.te14364793385576792824]
  kernel_rfl
theorem p4 (w : World) : (fun os => segRunT treeTable pw w 11 ann 1 382 (⟨tr_3 w.params, 143, lf, gs, dr, 376, os⟩ : SharedT) (piecesOf (sts 20 7) env cE ⟨41, 0, 66, 17⟩ B)) = fun os => some (Flow.next, (⟨tr_4 w.params, 195, lf, gs, dr, 451, os⟩ : SharedT), cE, (⟨88, 0, 93, 65⟩ : Pos)) := by
  rw [PySem.W.Fast.te10110043849684766642, PySem.W.Fast.te14364793385576792824]
  kernel_rfl
theorem p5 (w : World) : (fun os => segRunT treeTable pw w 11 ann 1 389 (⟨tr_4 w.params, 195, lf, gs, dr, 451, os⟩ : SharedT) (piecesOf (sts 27 3) env cE ⟨88, 0, 93, 65⟩ B)) = fun os => some (Flow.next, (⟨tr_5 w.params, 249, lf, gs, dr, 523, os⟩ : SharedT), cE, (⟨135, 0, 135, 8⟩ : Pos)) := by
  rw [PySem.W.Fast.te10110043849684766642, PySem.W.Fast.te14364793385576792824]
  kernel_rfl
theorem p6 (w : World) : (fun os => segRunT treeTable pw w 11 ann 1 400 (⟨tr_5 w.params, 249, lf, gs, dr, 523, os⟩ : SharedT) (piecesOf (sts 30 4) env cE ⟨135, 0, 135, 8⟩ B)) = fun os => some (Flow.next, (⟨tr_6 w.params, 305, lf, gs, dr, 615, os⟩ : SharedT), cE, (⟨171, 0, 180, 69⟩ : Pos)) := by
  rw [PySem.W.Fast.te10110043849684766642, PySem.W.Fast.te14364793385576792824]
  kernel_rfl
theorem p7 (w : World) : (fun os => segRunT treeTable pw w 11 ann 1 381 (⟨tr_6 w.params, 305, lf, gs, dr, 615, os⟩ : SharedT) (piecesOf (sts 34 12) env cE ⟨171, 0, 180, 69⟩ B)) = fun os => some (Flow.next, (⟨tr_7 w.params, 382, lf, gs, dr, 746, os⟩ : SharedT), cE, (⟨254, 0, 258, 26⟩ : Pos)) := by
  rw [PySem.W.Fast.te10110043849684766642, PySem.W.Fast.te14364793385576792824]
  kernel_rfl
theorem p8 (w : World) : (fun os => segRunT treeTable pw w 11 ann 1 186 (⟨tr_7 w.params, 382, lf, gs, dr, 746, os⟩ : SharedT) (piecesOf (sts 46 6) env cE ⟨254, 0, 258, 26⟩ B)) = fun os => some (Flow.next, (⟨tr_8 w.params, 417, lf, gs, dr, 814, os⟩ : SharedT), cE, (⟨293, 0, 293, 8⟩ : Pos)) := by
  rw [PySem.W.Fast.te10110043849684766642, PySem.W.Fast.te14364793385576792824]
  kernel_rfl
theorem p9 (w : World) : (fun os => segRunT treeTable pw w 11 ann 1 228 (⟨tr_8 w.params, 417, lf, gs, dr, 814, os⟩ : SharedT) (piecesOf (sts 52 1) env cE ⟨293, 0, 293, 8⟩ B)) = fun os => some (Flow.next, (⟨tr_9 w.params, 439, lf, gs, dr, 847, os⟩ : SharedT), cE, (⟨294, 0, 298, 22⟩ : Pos)) := by
  rw [PySem.W.Fast.te10110043849684766642, PySem.W.Fast.te14364793385576792824]
  kernel_rfl
theorem p10 (w : World) : (fun os => segRunT treeTable pw w 11 ann 1 394 (⟨tr_9 w.params, 439, lf, gs, dr, 847, os⟩ : SharedT) (piecesOf (sts 53 4) env cE ⟨294, 0, 298, 22⟩ B)) = fun os => some (Flow.next, (⟨tr_10 w.params, 495, lf, gs, dr, 933, os⟩ : SharedT), cE, (⟨320, 0, 326, 76⟩ : Pos)) := by
  rw [PySem.W.Fast.te10110043849684766642, PySem.W.Fast.te14364793385576792824]
  kernel_rfl
theorem p11 (w : World) : (fun os => segRunT treeTable pw w 11 ann 1 401 (⟨tr_10 w.params, 495, lf, gs, dr, 933, os⟩ : SharedT) (piecesOf (sts 57 9) env cE ⟨320, 0, 326, 76⟩ B)) = fun os => some (Flow.next, (⟨tr_11 w.params, 548, lf, gs, dr, 1017, os⟩ : SharedT), cE, (⟨353, 0, 357, 30⟩ : Pos)) := by
  rw [PySem.W.Fast.te10110043849684766642, PySem.W.Fast.te14364793385576792824]
  kernel_rfl
theorem p12 (w : World) : (fun os => segRunT treeTable pw w 11 ann 1 385 (⟨tr_11 w.params, 548, lf, gs, dr, 1017, os⟩ : SharedT) (piecesOf (sts 66 3) env cE ⟨353, 0, 357, 30⟩ B)) = fun os => some (Flow.next, (⟨tr_12 w.params, 600, lf, gs, dr, 1087, os⟩ : SharedT), cE, (⟨391, 0, 393, 47⟩ : Pos)) := by
  rw [PySem.W.Fast.te10110043849684766642, PySem.W.Fast.te14364793385576792824]
  kernel_rfl
theorem p13 (w : World) : (fun os => segRunT treeTable pw w 11 ann 1 155 (⟨tr_12 w.params, 600, lf, gs, dr, 1087, os⟩ : SharedT) (piecesOf (sts 69 5) env cE ⟨391, 0, 393, 47⟩ B)) = fun os => some (Flow.next, (⟨tr_13 w.params, 631, lf, gs, dr, 1135, os⟩ : SharedT), cE, (⟨417, 0, 443, 15⟩ : Pos)) := by
  rw [PySem.W.Fast.te10110043849684766642, PySem.W.Fast.te14364793385576792824]
  kernel_rfl
theorem pf (w : World) : (fun os => topRun treeTable pw w 11 ann 2 (⟨tr_13 w.params, 631, lf, gs, dr, 1135, os⟩ : SharedT).abs ⟨doneF Flow.next, cE, ⟨417, 0, 443, 15⟩, B⟩) = fun os => some (⟨hp_f w.params, gs, dr, 1135, os⟩ : Shared) := by
  rw [PySem.W.Fast.te14082659384304107361, PySem.W.Fast.te14364793385576792824]
  kernel_rfl
theorem run (w : World) (os : OsState) : topRun treeTable pw w 11 ann (12 + (1 + (387 + (117 + (449 + (382 + (389 + (400 + (381 + (186 + (228 + (394 + (401 + (385 + (155 + 2))))))))))))))) ⟨boot_heap w.params, gs, boot_drawn, boot_toks, os⟩ (topStub pw) = some (⟨hp_f w.params, gs, dr, 1135, os⟩ : Shared) :=
  go_top (congrFun (pa w) os) (piece_block (congrFun (pb w) os) (Eq.mpr (congrArg (fun b => topRun treeTable pw w 11 ann ((387 + (117 + (449 + (382 + (389 + (400 + (381 + (186 + (228 + (394 + (401 + (385 + (155 + 2)))))))))))))) (⟨tr_b w.params, 15, lf, gs, dr, 187, os⟩ : SharedT).abs (restOf b env cE ⟨0, 0, 0, 0⟩ B) = some (⟨hp_f w.params, gs, dr, 1135, os⟩ : Shared)) bE_eq)
    (piece_app (segRun_of (congrFun (p1 w) os)) (piece_app (segRun_of (congrFun (p2 w) os)) (piece_app (segRun_of (congrFun (p3 w) os)) (piece_app (segRun_of (congrFun (p4 w) os)) (piece_app (segRun_of (congrFun (p5 w) os)) (piece_app (segRun_of (congrFun (p6 w) os)) (piece_app (segRun_of (congrFun (p7 w) os)) (piece_app (segRun_of (congrFun (p8 w) os)) (piece_app (segRun_of (congrFun (p9 w) os)) (piece_app (segRun_of (congrFun (p10 w) os)) (piece_app (segRun_of (congrFun (p11 w) os)) (piece_app (segRun_of (congrFun (p12 w) os)) (piece_app (segRun_of (congrFun (p13 w) os)) (piece_nil (congrFun (pf w) os)))))))))))))))))
theorem op (w : World) : (fencedOpening treeTable pw w 8608).map (fun s => (s.heap, s.gens, s.drawn, s.toks)) = some (boot_heap w.params, gs, boot_drawn, boot_toks) :=
  boot_open (by kernel_rfl) (by decide +kernel) (by
    intro s
    rw [PySem.W.Fast.te14289696077712309145]
    kernel_rfl) w
theorem sz (w : World) : ((boot_heap w.params).isNs mainGlobals && gs.size == 0, (boot_heap w.params).objs.size, (boot_heap w.params).nsMap mainGlobals "__annotations__") = (true, 11, ann) := by
  rw [PySem.W.Fast.te8920871248978507458]
  kernel_rfl
theorem lk1 (w : World) : (fun os => (staticsOk (importedModules pw.main.body) (boot_heap w.params) (hp_f w.params) && namesBound pw (hp_f w.params) && gensDone (⟨hp_f w.params, gs, dr, 1135, os⟩ : Shared) && laidKept (boot_heap w.params) (hp_f w.params))) = fun _ => true := by
  rw [PySem.W.Fast.te5923862056798008813]
  kernel_rfl
noncomputable abbrev Xt (s : Shared) : Bool := xlAt q [] s && recOk (RowW.records PySem.Challenge.rw_np0085_01.row.toRowW) s
theorem seen_of {p : Program} {l ms : List PySem.Str} {X : Shared → Bool} {s : Shared} (h1 : seen ((recsOf p).map (·.name)) (ownsOf p) [] { s with gens := #[] } = expectedOf p) (h2 : s.heap.bltView = bltViewBooted)
    (k1 : s.heap.keysOk (looseW p l) ((recsOf p).map (·.name)) ((litsOf p).map (·.1)) ((clssOf p (looseW p l)).map (·.name)) = true) (k2 : s.heap.accountedOkI ms = true) (k3 : s.heap.isNs mainGlobals = true) (k4 : s.heap.isNs builtinsNs = true) (k5 : tablesOk p s.heap = true) (k6 : X s = true) (k7 : (s.gens.size == 0) = true)
    (h4 : tabsOk p s = true) (h5 : pinSeenD p (drecsOf p) s = pinGoodD (drecsOf p)) (h6 : plainSeenE p (looseW p l) s = plainGoodE p (looseW p l)) (h7 : plainSeenD p l s = plainGoodD p l) (h8 : wideSeen p s = wideGood p) (h9 : clsSeenW p l s = clsGoodW p l) : openSeen p l ms X true s = openGood p l := by
  unfold openSeen openGood
  rw [h1, h2, k1, k2, k3, k4, k5, k6, h4, h5, h6, h7, h8, h9, if_pos rfl, k7]
  rfl
noncomputable abbrev SH (w : World) (os : OsState) : Shared := ⟨hp_f w.params, gs, dr, 1135, os⟩
theorem a1 (w : World) : (fun os => seen ((recsOf q).map (·.name)) (ownsOf q) [] { SH w os with gens := #[] }) = fun _ => expectedOf q := by kernel_rfl
theorem a2 (w : World) : (hp_f w.params).bltView = bltViewBooted := by kernel_rfl
theorem b1 (w : World) : (hp_f w.params).keysOk (looseW q lo) ((recsOf q).map (·.name)) ((litsOf q).map (·.1)) ((clssOf q (looseW q lo)).map (·.name)) = true := by
  rw [PySem.W.Fast.te10880121769531294198, PySem.W.Fast.te821141287760084731, PySem.W.Fast.te7409074990110511671, PySem.W.Fast.te13664370479719496447]; kernel_rfl
theorem b2 (w : World) : (hp_f w.params).accountedOkI (importedModules pw.main.body) = true := by
  rw [PySem.W.Fast.te14722251495701143533]; kernel_rfl
theorem b3 (w : World) : (hp_f w.params).isNs mainGlobals = true := by kernel_rfl
theorem b4 (w : World) : (hp_f w.params).isNs builtinsNs = true := by kernel_rfl
theorem b5 (w : World) : tablesOk q (hp_f w.params) = true := by
  rw [PySem.W.Fast.te10994771534591457954]; kernel_rfl
theorem b6 (w : World) : (fun os => xlAt q [] (SH w os)) = fun _ => true := by kernel_rfl
theorem b7 (w : World) : (fun os => recOk (RowW.records PySem.Challenge.rw_np0085_01.row.toRowW) (SH w os)) = fun _ => true := by kernel_rfl
theorem c1 (w : World) : (fun os => tabsOk q (SH w os)) = fun _ => true := by
  rw [PySem.W.Fast.te479339242167458305]; kernel_rfl
theorem c2 (w : World) : (fun os => pinSeenD q (drecsOf q) (SH w os)) = fun _ => pinGoodD (drecsOf q) := by
  rw [PySem.W.Fast.te16090120013241838585]; kernel_rfl
theorem c3 (w : World) : (fun os => plainSeenE q (looseW q lo) (SH w os)) = fun _ => plainGoodE q (looseW q lo) := by
  rw [PySem.W.Fast.te2386780881361962483]; kernel_rfl
theorem c4 (w : World) : (fun os => plainSeenD q lo (SH w os)) = fun _ => plainGoodD q lo := by
  rw [PySem.W.Fast.te11698064438423848299]; kernel_rfl
theorem c5 (w : World) : (fun os => wideSeen q (SH w os)) = fun _ => wideGood q := by
  rw [PySem.W.Fast.te7317090234206586261]; kernel_rfl
theorem c6 (w : World) : (fun os => clsSeenW q lo (SH w os)) = fun _ => clsGoodW q lo := by
  rw [PySem.W.Fast.te7369524293546568484]; kernel_rfl
theorem lk2 (w : World) : (fun os => openSeen q lo (importedModules pw.main.body) Xt true (⟨hp_f w.params, gs, dr, 1135, os⟩ : Shared)) = fun _ => openGood q lo := by
  funext os
  have e : Xt (SH w os) = true := Bool.and_eq_true_iff.mpr ⟨congrFun (b6 w) os, congrFun (b7 w) os⟩
  exact seen_of (s := SH w os) (congrFun (a1 w) os) (a2 w) (b1 w) (b2 w) (b3 w) (b4 w) (b5 w) e rfl (congrFun (c1 w) os) (congrFun (c2 w) os) (congrFun (c3 w) os) (congrFun (c4 w) os) (congrFun (c5 w) os) (congrFun (c6 w) os)
theorem lk3 (w : World) : (fun os => hk.obs (⟨hp_f w.params, gs, dr, 1135, os⟩ : Shared)) = fun _ => hk.val w := by kernel_rfl
theorem left : LeftO pw q lo Xt hk.obs hk.val 8608 :=
  LeftO.of_pieces op sz run (by decide +kernel) (fun w => funext fun os => by
    refine Prod.ext (congrFun (lk1 w) os) (Prod.ext (congrFun (lk2 w) os) (congrFun (lk3 w) os)))
end Hd
-- what the law says of itself, look by look
theorem filter3 {f : PySem.Str → Bool} {a b c : PySem.Str} (h1 : f a = false) (h2 : f b = false) (h3 : f c = false) : [a, b, c].filter f = [] := by simp [List.filter, h1, h2, h3]
theorem sdA : ((importedModules PySem.Challenge.rw_np0085_01.row.prog.main.body).all cThrough.contains) = true := by kernel_rfl
theorem sdV : readsOut PySem.Challenge.rw_np0085_01.row.prog PySem.Challenge.rw_np0085_01.row.prog.main.body "vars" = false := by
  rw [PySem.W.Fast.te13343964577679436407]
  kernel_rfl
theorem sdD : readsOut PySem.Challenge.rw_np0085_01.row.prog PySem.Challenge.rw_np0085_01.row.prog.main.body "dir" = false := by
  rw [PySem.W.Fast.te13343964577679436407]
  kernel_rfl
theorem sdL : readsOut PySem.Challenge.rw_np0085_01.row.prog PySem.Challenge.rw_np0085_01.row.prog.main.body "locals" = false := by
  rw [PySem.W.Fast.te13343964577679436407]
  kernel_rfl
theorem sdB : (["vars", "dir", "locals"] : List PySem.Str).filter (readsOut PySem.Challenge.rw_np0085_01.row.prog PySem.Challenge.rw_np0085_01.row.prog.main.body) = [] := filter3 sdV sdD sdL
theorem sd1 : noRoadLSs { strict := !(importedModules PySem.Challenge.rw_np0085_01.row.prog.main.body).all cThrough.contains, foot := none, bare := (["vars", "dir", "locals"] : List PySem.Str).filter (readsOut PySem.Challenge.rw_np0085_01.row.prog PySem.Challenge.rw_np0085_01.row.prog.main.body) } PySem.Challenge.rw_np0085_01.row.prog.main.body = true := by
  rw [sdA, sdB, PySem.W.Fast.te8326940854005059898]
  kernel_rfl
theorem sd2 : namesResolve PySem.Challenge.rw_np0085_01.row.prog = true := by
  rw [PySem.W.Fast.te8377067652309620493]
  kernel_rfl
theorem sd3 : (namesMeet PySem.Challenge.rw_np0085_01.row.prog PySem.Challenge.rw_np0085_01.row.prog.main.body fun _ n => attrL n) = true := by
  rw [PySem.W.Fast.te17119622794617984870]
  kernel_rfl
theorem sd4 : (PySem.Challenge.rw_np0085_01.bound'.all fun n => !builtinNamed n || PySem.Challenge.rw_np0085_01.about == [n] || !PySem.Challenge.rw_np0085_01.reads n) = true := by
  rw [PySem.W.Fast.named_eq, PySem.W.Fast.te6984425678791042302]
  kernel_rfl
theorem sd5 : (namesMeet PySem.Challenge.rw_np0085_01.prog PySem.Challenge.rw_np0085_01.above fun _ n => !PySem.Challenge.rw_np0085_01.own.contains n) = true := by
  rw [PySem.W.Fast.te17119622794617984870]
  kernel_rfl
theorem said : PySem.Challenge.rw_np0085_01.wellSaid = true := by
  delta OpenLaw.wellSaid
  repeat' (with_reducible refine look_both ?_ ?_)
  all_goals (try (delta OpenRow.wellSaid; repeat' (with_reducible refine look_both ?_ ?_)))
  all_goals (try (delta OpenRow.partSaid; repeat' (with_reducible refine look_both ?_ ?_)))
  all_goals (try (delta looksOpen; repeat' (with_reducible refine look_both ?_ ?_)))
  all_goals first | with_reducible exact sd1 | with_reducible exact sd2 | with_reducible exact sd3 | with_reducible exact sd4 | with_reducible exact sd5 | kernel_rfl
theorem look1 : namesOk Hd.q (looseW Hd.q Hd.lo) (namesW Hd.q Hd.lo) = true := by
  rw [PySem.W.Fast.te17448422675489707002, PySem.W.Fast.te821141287760084731]
  kernel_rfl
theorem look2 : importsNone Hd.q = true := by
  rw [PySem.W.Fast.te2458874890965802552]
  kernel_rfl
-- R1

abbrev Led := List (Addr × Obj)

inductive V where
  | none : V
  | bool (b : Bool)
  | int (i : Int)
  | ptr (a : Addr)
  | raw (u : Value)
  | tup (l : List V)
  | lst (l : List V)
  | obj (C : Addr) (ns : List Str) (l : List V)
  | rng (a b : Int)

abbrev tupOf (vs : List Value) (n : Nat) : Obj := { cls := .type "tuple", data := .seq vs.toArray n }
abbrev lstOf (vs : List Value) (n : Nat) : Obj := { cls := .type "list", data := .seq vs.toArray n }

abbrev rngOf (a b : Int) (t u c : Tok) : Obj := { cls := .type "range", data := .fields #[.int a t, .int b u, .int 1 c] }

def KeysAre : List DictEntry → List Str → Prop
  | [], ns => ns = []
  | e :: r, ns => ∃ n ns', ns = n :: ns' ∧ (∃ t, e.key = .str n t) ∧ KeysAre r ns'

mutual
def Den (fz : Led) : V → Value → Prop
  | .none, v => v = .none
  | .bool b, v => v = .bool b
  | .int i, v => ∃ t, v = .int i t
  | .ptr a, v => v = .ref a
  | .raw u, v => v = u
  | .tup l, v => ∃ a vs n, v = .ref a ∧ (a, tupOf vs n) ∈ fz ∧ DenL fz l vs
  | .lst l, v => ∃ a vs n, v = .ref a ∧ (a, lstOf vs n) ∈ fz ∧ DenL fz l vs
  | .obj C ns l, v => ∃ a d es n, v = .ref a ∧ (a, instObj C d) ∈ fz ∧ (d, dictOf es n) ∈ fz ∧ KeysAre es ns ∧ DenL fz l (es.map (·.val))
  | .rng a b, v => ∃ r t u c, v = .ref r ∧ (r, rngOf a b t u c) ∈ fz
def DenL (fz : Led) : List V → List Value → Prop
  | [], vs => vs = []
  | x :: r, vs => ∃ v vs', vs = v :: vs' ∧ Den fz x v ∧ DenL fz r vs'
end

mutual
theorem Den.mono {fz fz' : Led} (hs : ∀ p ∈ fz, p ∈ fz') : ∀ {x : V} {v : Value}, Den fz x v → Den fz' x v
  | .none, v, h => by simpa only [Den] using h
  | .bool b, v, h => by simpa only [Den] using h
  | .int i, v, h => by simpa only [Den] using h
  | .ptr a, v, h => by simpa only [Den] using h
  | .raw u, v, h => by simpa only [Den] using h
  | .tup l, v, h => by
    simp only [Den] at h ⊢
    obtain ⟨a, vs, n, e, hm, hl⟩ := h
    exact ⟨a, vs, n, e, hs _ hm, DenL.mono hs hl⟩
  | .lst l, v, h => by
    simp only [Den] at h ⊢
    obtain ⟨a, vs, n, e, hm, hl⟩ := h
    exact ⟨a, vs, n, e, hs _ hm, DenL.mono hs hl⟩
  | .obj C ns l, v, h => by
    simp only [Den] at h ⊢
    obtain ⟨a, d, es, n, e, hm, hd, hk, hl⟩ := h
    exact ⟨a, d, es, n, e, hs _ hm, hs _ hd, hk, DenL.mono hs hl⟩
  | .rng a b, v, h => by
    simp only [Den] at h ⊢
    obtain ⟨r, t, u, c, e, hm⟩ := h
    exact ⟨r, t, u, c, e, hs _ hm⟩
theorem DenL.mono {fz fz' : Led} (hs : ∀ p ∈ fz, p ∈ fz') : ∀ {l : List V} {vs : List Value}, DenL fz l vs → DenL fz' l vs
  | [], vs, h => by simpa only [DenL] using h
  | x :: r, vs, h => by
    simp only [DenL] at h ⊢
    obtain ⟨v, vs', e, hd, hl⟩ := h
    exact ⟨v, vs', e, Den.mono hs hd, DenL.mono hs hl⟩
end

theorem DenL.length {fz : Led} : ∀ {l : List V} {vs : List Value}, DenL fz l vs → vs.length = l.length
  | [], _, h => by simp only [DenL] at h; subst h; rfl
  | x :: r, _, h => by
    simp only [DenL] at h
    obtain ⟨v, vs', rfl, _, hl⟩ := h
    simp [hl.length]
theorem DenL.nil {fz : Led} : DenL fz [] [] := by simp only [DenL]
theorem DenL.cons {fz : Led} {x : V} {v : Value} {l : List V} {vs : List Value} (h : Den fz x v) (hl : DenL fz l vs) : DenL fz (x :: l) (v :: vs) := by
  simp only [DenL]; exact ⟨v, vs, rfl, h, hl⟩
theorem DenL.get {fz : Led} : ∀ {l : List V} {vs : List Value}, DenL fz l vs → ∀ {i : Nat} {x : V}, l[i]? = some x → ∃ v, vs[i]? = some v ∧ Den fz x v
  | [], _, h, i, x, e => by simp at e
  | y :: r, _, h, i, x, e => by
    simp only [DenL] at h
    obtain ⟨v, vs', rfl, hd, hl⟩ := h
    cases i with
    | zero => simp at e; subst e; exact ⟨v, by simp, hd⟩
    | succ i => simp at e; obtain ⟨v', e', d'⟩ := hl.get e; exact ⟨v', by simpa using e', d'⟩
theorem DenL.app {fz : Led} : ∀ {l : List V} {vs : List Value} {l' : List V} {vs' : List Value}, DenL fz l vs → DenL fz l' vs' → DenL fz (l ++ l') (vs ++ vs')
  | [], _, _, _, h, h' => by simp only [DenL] at h; subst h; exact h'
  | x :: r, _, _, _, h, h' => by
    simp only [DenL] at h
    obtain ⟨v, vs', rfl, hd, hl⟩ := h
    exact DenL.cons hd (hl.app h')
theorem DenL.take {fz : Led} : ∀ {l : List V} {vs : List Value} (n : Nat), DenL fz l vs → DenL fz (l.take n) (vs.take n)
  | [], _, n, h => by simp only [DenL] at h; subst h; simp [DenL]
  | x :: r, _, n, h => by
    simp only [DenL] at h
    obtain ⟨v, vs', rfl, hd, hl⟩ := h
    cases n with
    | zero => simp [DenL]
    | succ n => simpa using DenL.cons hd (hl.take n)
theorem DenL.drop {fz : Led} : ∀ {l : List V} {vs : List Value} (n : Nat), DenL fz l vs → DenL fz (l.drop n) (vs.drop n)
  | [], _, n, h => by simp only [DenL] at h; subst h; simp [DenL]
  | x :: r, vs, n, h => by
    cases n with
    | zero => simpa using h
    | succ n =>
      simp only [DenL] at h
      obtain ⟨v, vs', rfl, hd, hl⟩ := h
      simpa using hl.drop n
theorem DenL.set {fz : Led} {y : V} {w : Value} (hw : Den fz y w) : ∀ {l : List V} {vs : List Value} (n : Nat), DenL fz l vs → DenL fz (l.set n y) (vs.set n w)
  | [], _, n, h => by simp only [DenL] at h; subst h; simp [DenL]
  | x :: r, vs, n, h => by
    simp only [DenL] at h
    obtain ⟨v, vs', rfl, hd, hl⟩ := h
    cases n with
    | zero => simpa using DenL.cons hw hl
    | succ n => simpa using DenL.cons hd (hl.set hw n)

inductive AO where
  | lst (l : List V)
  | arr (l : List V)
  | cel
  | obj (C : Addr) (ns : List Str) (l : List V)
abbrev AH := Addr → Option AO
def upd (H : AH) (a : Addr) (o : Option AO) : AH := fun b => if b = a then o else H b
@[simp] theorem upd_same (H : AH) (a : Addr) (o : Option AO) : upd H a o a = o := by simp [upd]
theorem upd_ne (H : AH) {a b : Addr} (o : Option AO) (h : b ≠ a) : upd H a o b = H b := by simp [upd, h]

def ORep (fz mt : Led) (δ : Addr → Addr) (a : Addr) : AO → Prop
  | .lst l => ∃ vs n, (a, lstOf vs n) ∈ mt ∧ DenL fz l vs
  | .cel => ∃ o, (a, o) ∈ mt ∧ o.data = .cell Option.none
  | .arr l => ∃ o vs n, (a, o) ∈ mt ∧ o.cls = .type "list" ∧ o.data = .seq (List.toArray vs) n ∧ DenL fz l vs
  | .obj C ns l => ∃ es n, (a, instObj C (δ a)) ∈ mt ∧ (δ a, dictOf es n) ∈ mt ∧ KeysAre es ns ∧ DenL fz l (es.map (·.val))

structure MRep (fz mt : Led) (δ : Addr → Addr) (H : AH) : Prop where
  at_ : ∀ a o, H a = some o → ORep fz mt δ a o
  inj : ∀ a b C ns l C' ns' l', H a = some (.obj C ns l) → H b = some (.obj C' ns' l') → δ a = δ b → a = b

structure St (fr : Led) (h₀ : Heap) (L : Addr) (m : Str → Option Value) (fz : Led) (H : AH) (h : Heap) : Prop where
  frm : Fr h₀ L h m
  ex : ∃ mt δ, News h₀ L h ((fz ++ fr) ++ mt) ∧ (((fz ++ fr) ++ mt).map Prod.fst).Nodup ∧ MRep fz mt δ H

section
variable {h₀ h h' : Heap} {L : Addr} {m m' : Str → Option Value} {fz fr mt : Led} {H H' : AH} {δ : Addr → Addr}

theorem ORep.mono {fz' : Led} (hs : ∀ p ∈ fz, p ∈ fz') {mt' : Led} {a : Addr} {o : AO} (r : ORep fz mt δ a o) (hm : ∀ p ∈ mt, p ∈ mt') : ORep fz' mt' δ a o := by
  cases o with
  | lst l => obtain ⟨vs, n, h1, h2⟩ := r; exact ⟨vs, n, hm _ h1, h2.mono hs⟩
  | arr l => obtain ⟨o, vs, n, h1, h2, h3, h4⟩ := r; exact ⟨o, vs, n, hm _ h1, h2, h3, h4.mono hs⟩
  | cel => obtain ⟨o, h1, h2⟩ := r; exact ⟨o, hm _ h1, h2⟩
  | obj C ns l => obtain ⟨es, n, h1, h2, h3, h4⟩ := r; exact ⟨es, n, hm _ h1, hm _ h2, h3, h4.mono hs⟩

theorem St.grown (S : St fr h₀ L m fz H h) (hk : ∀ b o, h.get? b = some o → h'.get? b = some o) : St fr h₀ L m fz H h' := by
  obtain ⟨F, mt, δ, N, nd, R⟩ := S
  exact ⟨F.grownK hk, mt, δ, N.grown hk, nd, R⟩

theorem St.weaken (S : St fr h₀ L m fz H h) (hw : ∀ a o, H' a = some o → H a = some o) : St fr h₀ L m fz H' h := by
  obtain ⟨F, mt, δ, N, nd, R⟩ := S
  exact ⟨F, mt, δ, N, nd, fun a o e => R.at_ a o (hw _ _ e), fun a b C ns l C' ns' l' e e' => R.inj a b C ns l C' ns' l' (hw _ _ e) (hw _ _ e')⟩

theorem keys_lt {l : Led} (N : News h₀ L h l) : ∀ p ∈ l, p.1 < h.objs.size := fun p hp => Heap.lt_size (N p hp).1
theorem not_key {l : Led} {a : Addr} (hl : ∀ p ∈ l, p.1 < a) : a ∉ l.map Prod.fst := by
  intro hm
  obtain ⟨p, hp, e⟩ := List.mem_map.mp hm
  exact absurd (hl p hp) (by rw [e]; exact Nat.lt_irrefl _)
theorem News.sub {l l' : Led} (N : News h₀ L h l) (hs : ∀ p ∈ l', p ∈ l) : News h₀ L h l' := fun p hp => N p (hs p hp)

/-- a new object that the state forgets -/
theorem St.junk {a : Addr} {o : Obj} (F' : Fr h₀ L h' m') (N' : News h₀ L h' ((a, o) :: ((fz ++ fr) ++ mt))) (hl : ∀ p ∈ (fz ++ fr) ++ mt, p.1 < a) (nd : (((fz ++ fr) ++ mt).map Prod.fst).Nodup) (R : MRep fz mt δ H) : St fr h₀ L m' fz H h' :=
  ⟨F', (mt ++ [(a, o)]), δ, News.sub N' (fun p hp => by simp only [List.mem_append, List.mem_cons] at hp ⊢; rcases hp with h | h | h <;> simp_all), by
    rw [← List.append_assoc, List.map_append, List.nodup_append]
    refine ⟨nd, by simp, ?_⟩
    intro x hx y hy e
    simp at hy
    subst hy; subst e
    exact not_key hl hx,
    fun b o' e => (R.at_ b o' e).mono (fun _ h => h) (fun p hp => List.mem_append_left _ hp), R.inj⟩

/-- a new object that is frozen at once -/
theorem St.frozen {a : Addr} {o : Obj} (F' : Fr h₀ L h' m') (N' : News h₀ L h' ((a, o) :: ((fz ++ fr) ++ mt))) (hl : ∀ p ∈ (fz ++ fr) ++ mt, p.1 < a) (nd : (((fz ++ fr) ++ mt).map Prod.fst).Nodup) (R : MRep fz mt δ H) : St fr h₀ L m' ((a, o) :: fz) H h' :=
  ⟨F', mt, δ, N', by
    exact List.nodup_cons.mpr ⟨not_key hl, nd⟩,
    fun b o' e => (R.at_ b o' e).mono (fun _ h => List.mem_cons_of_mem _ h) (fun p hp => hp), R.inj⟩

theorem MRep.fresh {a : Addr} (R : MRep fz mt δ H) (hl : ∀ p ∈ mt, p.1 < a) : H a = none := by
  cases e : H a with
  | none => rfl
  | some o =>
    have r := R.at_ a o e
    cases o with
    | lst l => obtain ⟨vs, n, h1, _⟩ := r; exact absurd (hl _ h1) (Nat.lt_irrefl _)
    | arr l => obtain ⟨o, vs, n, h1, _⟩ := r; exact absurd (hl _ h1) (Nat.lt_irrefl _)
    | cel => obtain ⟨o, h1, _⟩ := r; exact absurd (hl _ h1) (Nat.lt_irrefl _)
    | obj C ns l => obtain ⟨es, n, h1, _⟩ := r; exact absurd (hl _ h1) (Nat.lt_irrefl _)

/-- a new list that may still turn -/
theorem St.newL {a : Addr} {vs : List Value} {n : Nat} {l : List V} (F' : Fr h₀ L h' m') (N' : News h₀ L h' ((a, lstOf vs n) :: ((fz ++ fr) ++ mt))) (hl : ∀ p ∈ (fz ++ fr) ++ mt, p.1 < a) (nd : (((fz ++ fr) ++ mt).map Prod.fst).Nodup) (R : MRep fz mt δ H)
    (hd : DenL fz l vs) : St fr h₀ L m' fz (upd H a (some (.lst l))) h' := by
  refine ⟨F', (a, lstOf vs n) :: mt, δ, News.sub N' (fun p hp => by simp only [List.mem_append, List.mem_cons] at hp ⊢; rcases hp with h | h | h <;> simp_all), ?_, ?_, ?_⟩
  · have : (((fz ++ fr) ++ (a, lstOf vs n) :: mt).map Prod.fst).Perm (((a, lstOf vs n) :: ((fz ++ fr) ++ mt)).map Prod.fst) := (List.perm_middle).map _
    rw [this.nodup_iff, List.map_cons]
    exact List.nodup_cons.mpr ⟨not_key hl, nd⟩
  · intro b o e
    by_cases hb : b = a
    · subst hb; rw [upd_same] at e; cases e; exact ⟨vs, n, .head _, hd⟩
    · rw [upd_ne _ _ hb] at e; exact (R.at_ b o e).mono (fun _ h => h) (fun p hp => .tail _ hp)
  · intro b c C ns l C' ns' l' e e' q
    by_cases hb : b = a
    · subst hb; rw [upd_same] at e; cases e
    · by_cases hc : c = a
      · subst hc; rw [upd_same] at e'; cases e'
      · rw [upd_ne _ _ hb] at e; rw [upd_ne _ _ hc] at e'; exact R.inj b c C ns l C' ns' l' e e' q

/-- a new object, its dict empty -/
theorem St.newI {x dx C : Addr} (F' : Fr h₀ L h' m') (N' : News h₀ L h' ((x, instObj C dx) :: (dx, dictOf [] 0) :: ((fz ++ fr) ++ mt))) (hl : ∀ p ∈ (fz ++ fr) ++ mt, p.1 < dx) (hx : dx < x) (nd : (((fz ++ fr) ++ mt).map Prod.fst).Nodup) (R : MRep fz mt δ H) :
    St fr h₀ L m' fz (upd H x (some (.obj C [] []))) h' := by
  have hlx : ∀ p ∈ (fz ++ fr) ++ mt, p.1 < x := fun p hp => Nat.lt_trans (hl p hp) hx
  have hne : ∀ b o, H b = some o → b ≠ x := fun b o e q => by rw [q, R.fresh (fun p hp => hlx p (List.mem_append_right _ hp))] at e; cases e
  refine ⟨F', (x, instObj C dx) :: (dx, dictOf [] 0) :: mt, (fun b => if b = x then dx else δ b), News.sub N' (fun p hp => by simp only [List.mem_append, List.mem_cons] at hp ⊢; rcases hp with h | h | h | h <;> simp_all), ?_, ?_, ?_⟩
  · have : (((fz ++ fr) ++ (x, instObj C dx) :: (dx, dictOf [] 0) :: mt).map Prod.fst).Perm (((x, instObj C dx) :: (dx, dictOf [] 0) :: ((fz ++ fr) ++ mt)).map Prod.fst) :=
      ((List.perm_middle).trans (List.perm_middle.cons _)).map _
    rw [this.nodup_iff, List.map_cons, List.map_cons]
    refine List.nodup_cons.mpr ⟨?_, List.nodup_cons.mpr ⟨not_key hl, nd⟩⟩
    intro hm
    rcases List.mem_cons.mp hm with e | hm
    · exact Nat.ne_of_gt hx e
    · exact not_key hlx hm
  · intro b o e
    by_cases hb : b = x
    · subst hb; rw [upd_same] at e; cases e
      refine ⟨[], 0, ?_, ?_, by simp [KeysAre], by simp [DenL]⟩
      · simp
      · simp
    · rw [upd_ne _ _ hb] at e
      have r := R.at_ b o e
      cases o with
      | lst l => obtain ⟨vs, n, h1, h2⟩ := r; exact ⟨vs, n, .tail _ (.tail _ h1), h2⟩
      | arr l => obtain ⟨o, vs, n, h1, h2⟩ := r; exact ⟨o, vs, n, .tail _ (.tail _ h1), h2⟩
      | cel => obtain ⟨o, h1, h2⟩ := r; exact ⟨o, .tail _ (.tail _ h1), h2⟩
      | obj C ns l =>
        obtain ⟨es, n, h1, h2, h3, h4⟩ := r
        refine ⟨es, n, ?_, ?_, h3, h4⟩
        · simp only [if_neg hb]; exact .tail _ (.tail _ h1)
        · simp only [if_neg hb]; exact .tail _ (.tail _ h2)
  · intro b c C ns l C' ns' l' e e' q
    have key : ∀ b C ns l, H b = some (.obj C ns l) → δ b ≠ dx := fun b C ns l e q => by
      obtain ⟨es, n, _, h2, _⟩ := R.at_ b _ e
      exact absurd (hl _ (List.mem_append_right _ h2)) (by rw [q]; exact Nat.lt_irrefl _)
    by_cases hb : b = x
    · by_cases hc : c = x
      · rw [hb, hc]
      · rw [upd_ne _ _ hc] at e'
        simp only [if_pos hb, if_neg hc] at q
        exact absurd q.symm (key _ _ _ _ e')
    · by_cases hc : c = x
      · rw [upd_ne _ _ hb] at e
        simp only [if_neg hb, if_pos hc] at q
        exact absurd q (key _ _ _ _ e)
      · rw [upd_ne _ _ hb] at e; rw [upd_ne _ _ hc] at e'
        simp only [if_neg hb, if_neg hc] at q
        exact R.inj b c C ns l C' ns' l' e e' q

/-- one entry of a ledger replaced -/
def rep (d : Addr) (o' : Obj) (l : Led) : Led := l.map fun p => if p.1 = d then (d, o') else p
theorem rep_keys (d : Addr) (o' : Obj) (l : Led) : (rep d o' l).map Prod.fst = l.map Prod.fst := by
  unfold rep
  rw [List.map_map]
  refine List.map_congr_left fun p _ => ?_
  by_cases h : p.1 = d
  · simp [h]
  · simp [h]
theorem rep_app (d : Addr) (o' : Obj) (l l' : Led) : rep d o' (l ++ l') = rep d o' l ++ rep d o' l' := by simp [rep]
theorem rep_not {d : Addr} {o' : Obj} {l : Led} (h : ∀ p ∈ l, p.1 ≠ d) : rep d o' l = l := by
  unfold rep
  conv => rhs; rw [← List.map_id l]
  refine List.map_congr_left fun p hp => ?_
  simp [h p hp]
theorem rep_mem {d : Addr} {o' : Obj} {l : Led} {p : Addr × Obj} (hp : p ∈ l) (h : p.1 ≠ d) : p ∈ rep d o' l := List.mem_map.mpr ⟨p, hp, by simp [h]⟩
theorem rep_new {d : Addr} {o o' : Obj} {l : Led} (hp : (d, o) ∈ l) : (d, o') ∈ rep d o' l := List.mem_map.mpr ⟨_, hp, by simp⟩
theorem upd_rep {d : Addr} {o o' : Obj} : ∀ {l : Led}, (l.map Prod.fst).Nodup → (d, o) ∈ l → Upd d o o' l (rep d o' l)
  | [], _, hm => nomatch hm
  | p :: r, nd, hm => by
    rw [List.map_cons, List.nodup_cons] at nd
    by_cases h : p.1 = d
    · have hr : ∀ q ∈ r, q.1 ≠ d := fun q hq e => nd.1 (by rw [h, ← e]; exact List.mem_map_of_mem hq)
      have hp : p = (d, o) := by
        rcases List.mem_cons.mp hm with e | hm
        · exact e.symm
        · exact absurd rfl (hr _ hm)
      subst hp
      have : rep d o' ((d, o) :: r) = (d, o') :: r := by
        show (if d = d then (d, o') else (d, o)) :: rep d o' r = _
        rw [if_pos rfl, rep_not hr]
      rw [this]
      exact .head hr
    · have : rep d o' (p :: r) = p :: rep d o' r := by show (if p.1 = d then _ else p) :: _ = _; rw [if_neg h]; rfl
      rw [this]
      refine .tail h (upd_rep nd.2 ?_)
      rcases List.mem_cons.mp hm with e | hm
      · exact absurd (by rw [← e]) h
      · exact hm
theorem led_fun {l : Led} (nd : (l.map Prod.fst).Nodup) {a : Addr} {o o' : Obj} (h : (a, o) ∈ l) (h' : (a, o') ∈ l) : o = o' := by
  induction l with
  | nil => cases h
  | cons p r ih =>
    rw [List.map_cons, List.nodup_cons] at nd
    rcases List.mem_cons.mp h with e | h1
    · rcases List.mem_cons.mp h' with e' | h2
      · rw [← e] at e'; exact (congrArg Prod.snd e').symm
      · have z : a ∈ r.map Prod.fst := List.mem_map_of_mem (f := Prod.fst) h2
        exact absurd (by rw [← e]; exact z) nd.1
    · rcases List.mem_cons.mp h' with e' | h2
      · have z : a ∈ r.map Prod.fst := List.mem_map_of_mem (f := Prod.fst) h1
        exact absurd (by rw [← e']; exact z) nd.1
      · exact ih nd.2 h1 h2
theorem app_apart {l l' : Led} (nd : ((l ++ l').map Prod.fst).Nodup) {q : Addr × Obj} (hq : q ∈ l') : ∀ p ∈ l, p.1 ≠ q.1 := by
  intro p hp
  rw [List.map_append, List.nodup_append] at nd
  exact nd.2.2 _ (List.mem_map_of_mem hp) _ (List.mem_map_of_mem hq)

/-- a turned list -/
theorem St.setL {a : Addr} {vs vs' : List Value} {n n' : Nat} {l l' : List V} (F' : Fr h₀ L h' m') (N' : News h₀ L h' (rep a (lstOf vs' n') ((fz ++ fr) ++ mt))) (nd : (((fz ++ fr) ++ mt).map Prod.fst).Nodup) (R : MRep fz mt δ H)
    (ha : (a, lstOf vs n) ∈ mt) (_e : H a = some (.lst l)) (hd : DenL fz l' vs') : St fr h₀ L m' fz (upd H a (some (.lst l'))) h' := by
  have hf : rep a (lstOf vs' n') ((fz ++ fr) ++ mt) = (fz ++ fr) ++ rep a (lstOf vs' n') mt := by rw [rep_app, rep_not (app_apart nd ha)]
  rw [hf] at N'
  have ndm : (mt.map Prod.fst).Nodup := by rw [List.map_append, List.nodup_append] at nd; exact nd.2.1
  refine ⟨F', _, δ, N', by rw [← hf, rep_keys]; exact nd, ?_, ?_⟩
  · intro b o e
    by_cases hb : b = a
    · subst hb; rw [upd_same] at e; cases e; exact ⟨vs', n', rep_new ha, hd⟩
    · rw [upd_ne _ _ hb] at e
      have r := R.at_ b o e
      cases o with
      | lst l => obtain ⟨vs, n, h1, h2⟩ := r; exact ⟨vs, n, rep_mem h1 hb, h2⟩
      | arr l => obtain ⟨o, vs, n, h1, h2⟩ := r; exact ⟨o, vs, n, rep_mem h1 hb, h2⟩
      | cel => obtain ⟨o, h1, h2⟩ := r; exact ⟨o, rep_mem h1 hb, h2⟩
      | obj C ns l =>
        obtain ⟨es, n, h1, h2, h3, h4⟩ := r
        refine ⟨es, n, rep_mem h1 hb, rep_mem h2 fun q => ?_, h3, h4⟩
        have q' : δ b = a := q
        rw [q'] at h2
        have := led_fun ndm h2 ha
        simp at this
  · intro b c C ns l C' ns' l' e e' q
    by_cases hb : b = a
    · subst hb; rw [upd_same] at e; cases e
    · by_cases hc : c = a
      · subst hc; rw [upd_same] at e'; cases e'
      · rw [upd_ne _ _ hb] at e; rw [upd_ne _ _ hc] at e'; exact R.inj b c C ns l C' ns' l' e e' q

/-- a turned object -/
theorem St.setI {a C : Addr} {es es' : List DictEntry} {n n' : Nat} {ns ns' : List Str} {l l' : List V} (F' : Fr h₀ L h' m') (N' : News h₀ L h' (rep (δ a) (dictOf es' n') ((fz ++ fr) ++ mt))) (nd : (((fz ++ fr) ++ mt).map Prod.fst).Nodup) (R : MRep fz mt δ H)
    (hi : (a, instObj C (δ a)) ∈ mt) (ha : (δ a, dictOf es n) ∈ mt) (e : H a = some (.obj C ns l)) (hk : KeysAre es' ns') (hd : DenL fz l' (es'.map (·.val))) : St fr h₀ L m' fz (upd H a (some (.obj C ns' l'))) h' := by
  have hf : rep (δ a) (dictOf es' n') ((fz ++ fr) ++ mt) = (fz ++ fr) ++ rep (δ a) (dictOf es' n') mt := by rw [rep_app, rep_not (app_apart nd ha)]
  rw [hf] at N'
  have ndm : (mt.map Prod.fst).Nodup := by rw [List.map_append, List.nodup_append] at nd; exact nd.2.1
  have hia : ∀ b D d, (b, instObj D d) ∈ mt → b ≠ δ a := fun b D d h q => by
    rw [q] at h
    have := led_fun ndm h ha
    simp at this
  refine ⟨F', _, δ, N', by rw [← hf, rep_keys]; exact nd, ?_, ?_⟩
  · intro b o eb
    by_cases hb : b = a
    · subst hb; rw [upd_same] at eb; cases eb; exact ⟨es', n', rep_mem hi (hia _ _ _ hi), rep_new ha, hk, hd⟩
    · rw [upd_ne _ _ hb] at eb
      have r := R.at_ b o eb
      cases o with
      | lst l =>
        obtain ⟨vs, n, h1, h2⟩ := r
        refine ⟨vs, n, rep_mem h1 fun q => ?_, h2⟩
        have q' : b = δ a := q
        rw [q'] at h1
        have := led_fun ndm h1 ha
        simp at this
      | arr l =>
        obtain ⟨o, vs, n, h1, h2, h3⟩ := r
        refine ⟨o, vs, n, rep_mem h1 fun q => ?_, h2, h3⟩
        have q' : b = δ a := q
        rw [q'] at h1
        have := led_fun ndm h1 ha
        subst this
        simp at h2
      | cel =>
        obtain ⟨o, h1, h2⟩ := r
        refine ⟨o, rep_mem h1 fun q => ?_, h2⟩
        have q' : b = δ a := q
        rw [q'] at h1
        have := led_fun ndm h1 ha
        subst this
        simp at h2
      | obj C ns l =>
        obtain ⟨es, n, h1, h2, h3, h4⟩ := r
        exact ⟨es, n, rep_mem h1 (hia _ _ _ h1), rep_mem h2 fun q => hb (R.inj _ _ _ _ _ _ _ _ eb e q), h3, h4⟩
  · have up : ∀ b C ns l, upd H a (some (.obj C ns l')) b = some (.obj C ns l) → True := fun _ _ _ _ _ => trivial
    intro b c C₁ ns₁ l₁ C₂ ns₂ l₂ e1 e2 q
    have g : ∀ b C ns l, upd H a (some (.obj C ns' l')) b = some (.obj C ns l) → ∃ C ns l, H b = some (.obj C ns l) := by
      intro b C ns l eb
      by_cases hb : b = a
      · exact ⟨_, _, _, by rw [hb]; exact e⟩
      · rw [upd_ne _ _ hb] at eb; exact ⟨_, _, _, eb⟩
    have g' : ∀ b D ns₃ l₃, upd H a (some (.obj C ns' l')) b = some (.obj D ns₃ l₃) → ∃ C ns l, H b = some (.obj C ns l) := by
      intro b D ns₃ l₃ eb
      by_cases hb : b = a
      · exact ⟨_, _, _, by rw [hb]; exact e⟩
      · rw [upd_ne _ _ hb] at eb; exact ⟨_, _, _, eb⟩
    obtain ⟨_, _, _, x1⟩ := g' _ _ _ _ e1
    obtain ⟨_, _, _, x2⟩ := g' _ _ _ _ e2
    exact R.inj _ _ _ _ _ _ _ _ x1 x2 q

theorem nodup_move {x : Addr × Obj} (nd : ((fz ++ mt).map Prod.fst).Nodup) (hx : x ∈ mt) : (((x :: fz) ++ mt.filter (fun p => decide (p.1 ≠ x.1))).map Prod.fst).Nodup := by
  rw [List.cons_append, List.map_cons, List.nodup_cons]
  have ap := app_apart nd hx
  rw [List.map_append, List.nodup_append] at nd
  refine ⟨?_, ?_⟩
  · intro hm
    obtain ⟨p, hp, e⟩ := List.mem_map.mp hm
    rcases List.mem_append.mp hp with hp | hp
    · exact ap p hp e
    · have := (List.mem_filter.mp hp).2
      simp at this
      exact this e
  · rw [List.map_append, List.nodup_append]
    refine ⟨nd.1, ?_, ?_⟩
    · exact nd.2.1.sublist (List.Sublist.map _ List.filter_sublist)
    · intro a ha b hb
      refine nd.2.2 a ha b ?_
      obtain ⟨p, hp, e⟩ := List.mem_map.mp hb
      exact e ▸ List.mem_map_of_mem (List.mem_filter.mp hp).1
theorem mem_move {x p : Addr × Obj} (hx : x ∈ mt) (hp : p ∈ (x :: fz) ++ mt.filter (fun p => decide (p.1 ≠ x.1))) : p ∈ fz ++ mt := by
  rcases List.mem_append.mp hp with hp | hp
  · rcases List.mem_cons.mp hp with rfl | hp
    · exact List.mem_append_right _ hx
    · exact List.mem_append_left _ hp
  · exact List.mem_append_right _ (List.mem_filter.mp hp).1

/-- a list frozen -/
theorem St.freezeL {a : Addr} {l : List V} (S : St fr h₀ L m fz H h) (e : H a = some (.lst l)) :
    ∃ fz', (∀ p ∈ fz, p ∈ fz') ∧ Den fz' (.lst l) (.ref a) ∧ St fr h₀ L m fz' (upd H a none) h := by
  obtain ⟨F, mt, δ, N, nd, R⟩ := S
  obtain ⟨vs, n, h1, h2⟩ := R.at_ a _ e
  have ndm : (mt.map Prod.fst).Nodup := by rw [List.map_append, List.nodup_append] at nd; exact nd.2.1
  have hs : ∀ p ∈ fz, p ∈ (a, lstOf vs n) :: fz := fun p hp => .tail _ hp
  refine ⟨(a, lstOf vs n) :: fz, hs, by simp only [Den]; exact ⟨a, vs, n, rfl, .head _, h2.mono hs⟩, F, mt.filter (fun p => decide (p.1 ≠ a)), δ, News.sub N (fun p hp => mem_move h1 hp), nodup_move nd h1, ?_, ?_⟩
  · intro b o eb
    by_cases hb : b = a
    · subst hb; rw [upd_same] at eb; cases eb
    · rw [upd_ne _ _ hb] at eb
      have r := R.at_ b o eb
      cases o with
      | lst l => obtain ⟨vs, n, k1, k2⟩ := r; exact ⟨vs, n, List.mem_filter.mpr ⟨k1, by simpa using hb⟩, k2.mono hs⟩
      | arr l => obtain ⟨o, vs, n, k1, k2, k3, k4⟩ := r; exact ⟨o, vs, n, List.mem_filter.mpr ⟨k1, by simpa using hb⟩, k2, k3, k4.mono hs⟩
      | cel => obtain ⟨o, k1, k2⟩ := r; exact ⟨o, List.mem_filter.mpr ⟨k1, by simpa using hb⟩, k2⟩
      | obj C ns l =>
        obtain ⟨es, n, k1, k2, k3, k4⟩ := r
        refine ⟨es, n, List.mem_filter.mpr ⟨k1, by simpa using hb⟩, List.mem_filter.mpr ⟨k2, ?_⟩, k3, k4.mono hs⟩
        have : δ b ≠ a := fun q => by
          rw [q] at k2
          have := led_fun ndm k2 h1
          simp at this
        simpa using this
  · intro b c C ns l C' ns' l' e1 e2 q
    by_cases hb : b = a
    · subst hb; rw [upd_same] at e1; cases e1
    · by_cases hc : c = a
      · subst hc; rw [upd_same] at e2; cases e2
      · rw [upd_ne _ _ hb] at e1; rw [upd_ne _ _ hc] at e2; exact R.inj b c C ns l C' ns' l' e1 e2 q

/-- an object frozen -/
theorem St.freezeI {a C : Addr} {ns : List Str} {l : List V} (S : St fr h₀ L m fz H h) (e : H a = some (.obj C ns l)) :
    ∃ fz', (∀ p ∈ fz, p ∈ fz') ∧ Den fz' (.obj C ns l) (.ref a) ∧ St fr h₀ L m fz' (upd H a none) h := by
  obtain ⟨F, mt, δ, N, nd, R⟩ := S
  obtain ⟨es, n, h1, h2, h3, h4⟩ := R.at_ a _ e
  have ndm : (mt.map Prod.fst).Nodup := by rw [List.map_append, List.nodup_append] at nd; exact nd.2.1
  have hne : a ≠ δ a := fun q => by
    have z : (a, dictOf es n) ∈ mt := by rw [← q] at h2; exact h2
    have := led_fun ndm h1 z
    simp at this
  have h1' : (a, instObj C (δ a)) ∈ mt.filter (fun p => decide (p.1 ≠ δ a)) := List.mem_filter.mpr ⟨h1, by simpa using hne⟩
  have nd1 := nodup_move nd h2
  have nd2 := nodup_move nd1 h1'
  have hs : ∀ p ∈ fz, p ∈ (a, instObj C (δ a)) :: (δ a, dictOf es n) :: fz := fun p hp => .tail _ (.tail _ hp)
  refine ⟨(a, instObj C (δ a)) :: (δ a, dictOf es n) :: fz, hs, by simp only [Den]; exact ⟨a, δ a, es, n, rfl, .head _, .tail _ (.head _), h3, h4.mono hs⟩, F, _, δ, News.sub N (fun p hp => mem_move h2 (mem_move h1' hp)), nd2, ?_, ?_⟩
  · intro b o eb
    by_cases hb : b = a
    · subst hb; rw [upd_same] at eb; cases eb
    · rw [upd_ne _ _ hb] at eb
      have r := R.at_ b o eb
      have mm : ∀ p : Addr × Obj, p ∈ mt → p.1 ≠ a → p.1 ≠ δ a → p ∈ (mt.filter (fun p => decide (p.1 ≠ δ a))).filter (fun p => decide (p.1 ≠ a)) := fun p hp n1 n2 =>
        List.mem_filter.mpr ⟨List.mem_filter.mpr ⟨hp, by simpa using n2⟩, by simpa using n1⟩
      cases o with
      | lst l =>
        obtain ⟨vs, n, k1, k2⟩ := r
        refine ⟨vs, n, mm _ k1 hb fun q => ?_, k2.mono hs⟩
        have q' : b = δ a := q
        rw [q'] at k1
        have := led_fun ndm k1 h2
        simp at this
      | arr l =>
        obtain ⟨o, vs, n, k1, k2, k3, k4⟩ := r
        refine ⟨o, vs, n, mm _ k1 hb fun q => ?_, k2, k3, k4.mono hs⟩
        have q' : b = δ a := q
        rw [q'] at k1
        have := led_fun ndm k1 h2
        subst this
        simp at k2
      | cel =>
        obtain ⟨o, k1, k2⟩ := r
        refine ⟨o, mm _ k1 hb fun q => ?_, k2⟩
        have q' : b = δ a := q
        rw [q'] at k1
        have := led_fun ndm k1 h2
        subst this
        simp at k2
      | obj C' ns l =>
        obtain ⟨es, n, k1, k2, k3, k4⟩ := r
        refine ⟨es, n, mm _ k1 hb fun q => ?_, mm _ k2 (fun q => ?_) (fun q => hb (R.inj _ _ _ _ _ _ _ _ eb e q)), k3, k4.mono hs⟩
        · have q' : b = δ a := q
          rw [q'] at k1
          have := led_fun ndm k1 h2
          simp at this
        · have q' : δ b = a := q
          rw [q'] at k2
          have := led_fun ndm k2 h1
          simp at this
  · intro b c C ns l C' ns' l' e1 e2 q
    by_cases hb : b = a
    · subst hb; rw [upd_same] at e1; cases e1
    · by_cases hc : c = a
      · subst hc; rw [upd_same] at e2; cases e2
      · rw [upd_ne _ _ hb] at e1; rw [upd_ne _ _ hc] at e2; exact R.inj b c C ns l C' ns' l' e1 e2 q

/-- an object's fields said anew -/
theorem St.resay {a C : Addr} {ns : List Str} {l l' : List V} (S : St fr h₀ L m fz H h) (e : H a = some (.obj C ns l)) (hl : ∀ vs, DenL fz l vs → DenL fz l' vs) : St fr h₀ L m fz (upd H a (some (.obj C ns l'))) h := by
  obtain ⟨F, mt, δ, N, nd, R⟩ := S
  refine ⟨F, mt, δ, N, nd, ?_, ?_⟩
  · intro b o eb
    by_cases hb : b = a
    · subst hb
      rw [upd_same] at eb; cases eb
      obtain ⟨es, n, h1, h2, h3, h4⟩ := R.at_ b _ e
      exact ⟨es, n, h1, h2, h3, hl _ h4⟩
    · rw [upd_ne _ _ hb] at eb; exact R.at_ b o eb
  · intro b c C₁ ns₁ l₁ C₂ ns₂ l₂ e1 e2 q
    have g' : ∀ b D ns₃ l₃, upd H a (some (.obj C ns l')) b = some (.obj D ns₃ l₃) → ∃ C ns l, H b = some (.obj C ns l) := by
      intro b D ns₃ l₃ eb
      by_cases hb : b = a
      · exact ⟨_, _, _, by rw [hb]; exact e⟩
      · rw [upd_ne _ _ hb] at eb; exact ⟨_, _, _, eb⟩
    obtain ⟨_, _, _, x1⟩ := g' _ _ _ _ e1
    obtain ⟨_, _, _, x2⟩ := g' _ _ _ _ e2
    exact R.inj _ _ _ _ _ _ _ _ x1 x2 q

/-- a list said as an array: only its items are known -/
theorem St.toArr {a : Addr} {l : List V} (S : St fr h₀ L m fz H h) (e : H a = some (.lst l)) : St fr h₀ L m fz (upd H a (some (.arr l))) h := by
  obtain ⟨F, mt, δ, N, nd, R⟩ := S
  refine ⟨F, mt, δ, N, nd, ?_, ?_⟩
  · intro b o eb
    by_cases hb : b = a
    · subst hb
      rw [upd_same] at eb; cases eb
      obtain ⟨vs, n, h1, h2⟩ := R.at_ b _ e
      exact ⟨_, vs, n, h1, rfl, rfl, h2⟩
    · rw [upd_ne _ _ hb] at eb; exact R.at_ b o eb
  · intro b c C₁ ns₁ l₁ C₂ ns₂ l₂ e1 e2 q
    by_cases hb : b = a
    · subst hb; rw [upd_same] at e1; cases e1
    · by_cases hc : c = a
      · subst hc; rw [upd_same] at e2; cases e2
      · rw [upd_ne _ _ hb] at e1; rw [upd_ne _ _ hc] at e2; exact R.inj _ _ _ _ _ _ _ _ e1 e2 q
theorem News.setB {l : Led} {a : Addr} {o' : Obj} {o : Obj} (N : News h₀ L h l) (hm : (a, o) ∈ l) (hs : Heap.SameBut a h h') (ho' : h'.get? a = some o') : News h₀ L h' (rep a o' l) := by
  intro q hq
  obtain ⟨p, hp, e⟩ := List.mem_map.mp hq
  by_cases h1 : p.1 = a
  · rw [if_pos h1] at e; subst e
    exact ⟨ho', (N _ hm).2⟩
  · rw [if_neg h1] at e; subst e
    exact ⟨(hs.2 _ h1).trans (N _ hp).1, (N _ hp).2⟩
/-- a turned array -/
theorem St.setA {a : Addr} {o o' : Obj} {vs' : List Value} {n' : Nat} {l l' : List V} (F' : Fr h₀ L h' m') (N' : News h₀ L h' (rep a o' ((fz ++ fr) ++ mt))) (nd : (((fz ++ fr) ++ mt).map Prod.fst).Nodup) (R : MRep fz mt δ H)
    (ha : (a, o) ∈ mt) (ho : o.cls = .type "list") (_e : H a = some (.arr l)) (hc : o'.cls = .type "list") (hd' : o'.data = .seq (List.toArray vs') n') (hd : DenL fz l' vs') : St fr h₀ L m' fz (upd H a (some (.arr l'))) h' := by
  have hf : rep a o' ((fz ++ fr) ++ mt) = (fz ++ fr) ++ rep a o' mt := by rw [rep_app, rep_not (app_apart nd ha)]
  rw [hf] at N'
  have ndm : (mt.map Prod.fst).Nodup := by rw [List.map_append, List.nodup_append] at nd; exact nd.2.1
  refine ⟨F', _, δ, N', by rw [← hf, rep_keys]; exact nd, ?_, ?_⟩
  · intro b ob e
    by_cases hb : b = a
    · subst hb; rw [upd_same] at e; cases e; exact ⟨o', vs', n', rep_new ha, hc, hd', hd⟩
    · rw [upd_ne _ _ hb] at e
      have r := R.at_ b ob e
      cases ob with
      | lst l => obtain ⟨vs, n, h1, h2⟩ := r; exact ⟨vs, n, rep_mem h1 hb, h2⟩
      | arr l => obtain ⟨o, vs, n, h1, h2⟩ := r; exact ⟨o, vs, n, rep_mem h1 hb, h2⟩
      | cel => obtain ⟨o, h1, h2⟩ := r; exact ⟨o, rep_mem h1 hb, h2⟩
      | obj C ns l =>
        obtain ⟨es, n, h1, h2, h3, h4⟩ := r
        refine ⟨es, n, rep_mem h1 hb, rep_mem h2 fun q => ?_, h3, h4⟩
        have q' : δ b = a := q
        rw [q'] at h2
        have := led_fun ndm h2 ha
        subst this
        simp at ho
  · intro b c C ns l C' ns' l' e e' q
    by_cases hb : b = a
    · subst hb; rw [upd_same] at e; cases e
    · by_cases hc : c = a
      · subst hc; rw [upd_same] at e'; cases e'
      · rw [upd_ne _ _ hb] at e; rw [upd_ne _ _ hc] at e'; exact R.inj b c C ns l C' ns' l' e e' q

/-- a new object that stays as it is: into the frame -/
theorem St.enframe {a : Addr} {o : Obj} (F' : Fr h₀ L h' m') (N' : News h₀ L h' ((a, o) :: ((fz ++ fr) ++ mt))) (hl : ∀ p ∈ (fz ++ fr) ++ mt, p.1 < a) (nd : (((fz ++ fr) ++ mt).map Prod.fst).Nodup) (R : MRep fz mt δ H) : St ((a, o) :: fr) h₀ L m' fz H h' := by
  have pm : (((fz ++ (a, o) :: fr) ++ mt)).Perm ((a, o) :: ((fz ++ fr) ++ mt)) := (List.perm_middle (l₁ := fz) (l₂ := fr)).append_right mt
  refine ⟨F', mt, δ, News.sub N' (fun p hp => pm.mem_iff.mp hp), ?_, R⟩
  rw [(pm.map _).nodup_iff, List.map_cons]
  exact List.nodup_cons.mpr ⟨not_key hl, nd⟩
/-- out of the frame again: forgotten -/
theorem St.deframe {p : Addr × Obj} (S : St (p :: fr) h₀ L m fz H h) : St fr h₀ L m fz H h := by
  obtain ⟨F, mt, δ, N, nd, R⟩ := S
  have pm : (((fz ++ p :: fr) ++ mt)).Perm ((fz ++ fr) ++ (p :: mt)) := ((List.perm_middle (l₁ := fz) (l₂ := fr)).append_right mt).trans (List.perm_middle (l₁ := fz ++ fr) (l₂ := mt)).symm
  refine ⟨F, p :: mt, δ, News.sub N (fun q hq => pm.mem_iff.mpr hq), ?_, fun b o e => (R.at_ b o e).mono (fun _ h => h) (fun q hq => .tail _ hq), R.inj⟩
  rw [← (pm.map _).nodup_iff]; exact nd
theorem St.frame_at {p : Addr × Obj} (S : St (p :: fr) h₀ L m fz H h) : h.get? p.1 = some p.2 ∧ p.1 ≠ L ∧ h₀.get? p.1 = none := by
  obtain ⟨F, mt, δ, N, nd, R⟩ := S
  exact N p (by simp)
/-- the frame's entry turned -/
theorem St.reframe {a : Addr} {o o' : Obj} (S : St ((a, o) :: fr) h₀ L m fz H h) (hs : Heap.SameBut a h h') (ho' : h'.get? a = some o') : St ((a, o') :: fr) h₀ L m fz H h' := by
  obtain ⟨F, mt, δ, N, nd, R⟩ := S
  have pm : ∀ o, (((fz ++ (a, o) :: fr) ++ mt)).Perm ((a, o) :: ((fz ++ fr) ++ mt)) := fun o => (List.perm_middle (l₁ := fz) (l₂ := fr)).append_right mt
  have nd' : (((a, o) :: ((fz ++ fr) ++ mt)).map Prod.fst).Nodup := by rw [← ((pm o).map _).nodup_iff]; exact nd
  have za := N (a, o) (by simp)
  have hne : ∀ p ∈ (fz ++ fr) ++ mt, p.1 ≠ a := fun p hp q => by
    rw [List.map_cons, List.nodup_cons] at nd'
    have := List.mem_map_of_mem (f := Prod.fst) hp
    rw [q] at this
    exact nd'.1 this
  refine ⟨F.change hs za.2.1 za.2.2, mt, δ, ?_, ?_, R⟩
  · intro p hp
    rcases List.mem_cons.mp ((pm o').mem_iff.mp hp) with rfl | hp
    · exact ⟨ho', za.2⟩
    · have z := N p ((pm o).mem_iff.mpr (.tail _ hp))
      exact ⟨(hs.2 _ (hne p hp)).trans z.1, z.2⟩
  · rw [((pm o').map _).nodup_iff]; exact nd'
/-- an empty cell is new -/
theorem St.newC {a : Addr} {o : Obj} (F' : Fr h₀ L h' m') (N' : News h₀ L h' ((a, o) :: ((fz ++ fr) ++ mt))) (nd : (((a, o) :: ((fz ++ fr) ++ mt)).map Prod.fst).Nodup) (R : MRep fz mt δ H)
    (hd : o.data = .cell none) : St fr h₀ L m' fz (upd H a (some .cel)) h' ∧ H a = none := by
  have hne : H a = none := by
    rw [List.map_cons, List.nodup_cons] at nd
    cases e : H a with
    | none => rfl
    | some oo =>
      have : ∃ ob, (a, ob) ∈ mt := by
        have r := R.at_ a oo e
        cases oo with
        | lst l => obtain ⟨vs, n, h1, _⟩ := r; exact ⟨_, h1⟩
        | arr l => obtain ⟨o, vs, n, h1, _⟩ := r; exact ⟨_, h1⟩
        | cel => obtain ⟨o, h1, _⟩ := r; exact ⟨_, h1⟩
        | obj C ns l => obtain ⟨es, n, h1, _⟩ := r; exact ⟨_, h1⟩
      obtain ⟨ob, hm⟩ := this
      exact absurd (List.mem_map_of_mem (f := Prod.fst) (List.mem_append_right (fz ++ fr) hm)) nd.1
  refine ⟨⟨F', (a, o) :: mt, δ, News.sub N' (fun p hp => by simp only [List.mem_append, List.mem_cons] at hp ⊢; rcases hp with h | h | h <;> simp_all), ?_, ?_, ?_⟩, hne⟩
  · have : (((fz ++ fr) ++ (a, o) :: mt).map Prod.fst).Perm (((a, o) :: ((fz ++ fr) ++ mt)).map Prod.fst) := (List.perm_middle).map _
    rw [this.nodup_iff]; exact nd
  · intro b o' e
    by_cases hb : b = a
    · subst hb; rw [upd_same] at e; cases e; exact ⟨o, .head _, hd⟩
    · rw [upd_ne _ _ hb] at e; exact (R.at_ b o' e).mono (fun _ h => h) (fun p hp => .tail _ hp)
  · intro b c C ns l C' ns' l' e e' q
    by_cases hb : b = a
    · subst hb; rw [upd_same] at e; cases e
    · by_cases hc : c = a
      · subst hc; rw [upd_same] at e'; cases e'
      · rw [upd_ne _ _ hb] at e; rw [upd_ne _ _ hc] at e'; exact R.inj b c C ns l C' ns' l' e e' q
/-- an empty cell filled: it will not turn again -/
theorem St.setC {a : Addr} {o' : Obj} (F' : Fr h₀ L h' m') (S : St fr h₀ L m fz H h) (e : H a = some .cel) (hs : Heap.SameBut a h h') (ho' : h'.get? a = some o') :
    St fr h₀ L m' ((a, o') :: fz) (upd H a none) h' := by
  obtain ⟨F, mt, δ, N, nd, R⟩ := S
  obtain ⟨o, h1, h2⟩ := R.at_ a _ e
  have ndm : (mt.map Prod.fst).Nodup := by rw [List.map_append, List.nodup_append] at nd; exact nd.2.1
  have za := N _ (List.mem_append_right _ h1)
  have nd1 := nodup_move nd h1
  refine ⟨F', mt.filter (fun p => decide (p.1 ≠ a)), δ, ?_, ?_, ?_, ?_⟩
  · intro p hp
    rw [List.cons_append, List.cons_append] at hp
    rcases List.mem_cons.mp hp with rfl | hp
    · exact ⟨ho', za.2⟩
    · have hp' : p ∈ ((a, o) :: (fz ++ fr)) ++ mt.filter (fun p => decide (p.1 ≠ (a, o).1)) := by rw [List.cons_append]; exact .tail _ hp
      have z := N p (mem_move h1 hp')
      have hne : p.1 ≠ a := fun q => by
        rw [List.cons_append, List.map_cons, List.nodup_cons] at nd1
        have := List.mem_map_of_mem (f := Prod.fst) hp
        rw [q] at this
        exact nd1.1 this
      exact ⟨(hs.2 _ hne).trans z.1, z.2⟩
  · exact nd1
  · intro b ob eb
    by_cases hb : b = a
    · subst hb; rw [upd_same] at eb; cases eb
    · rw [upd_ne _ _ hb] at eb
      have r := R.at_ b ob eb
      have hsb : ∀ p ∈ fz, p ∈ (a, o') :: fz := fun p hp => .tail _ hp
      cases ob with
      | lst l => obtain ⟨vs, n, k1, k2⟩ := r; exact ⟨vs, n, List.mem_filter.mpr ⟨k1, by simpa using hb⟩, k2.mono hsb⟩
      | arr l => obtain ⟨o, vs, n, k1, k2, k3, k4⟩ := r; exact ⟨o, vs, n, List.mem_filter.mpr ⟨k1, by simpa using hb⟩, k2, k3, k4.mono hsb⟩
      | cel => obtain ⟨o, k1, k2⟩ := r; exact ⟨o, List.mem_filter.mpr ⟨k1, by simpa using hb⟩, k2⟩
      | obj C ns l =>
        obtain ⟨es, n, k1, k2, k3, k4⟩ := r
        refine ⟨es, n, List.mem_filter.mpr ⟨k1, by simpa using hb⟩, List.mem_filter.mpr ⟨k2, ?_⟩, k3, k4.mono hsb⟩
        have : δ b ≠ a := fun q => by
          rw [q] at k2
          have := led_fun ndm k2 h1
          subst this
          simp at h2
        simpa using this
  · intro b c C ns l C' ns' l' e1 e2 q
    by_cases hb : b = a
    · subst hb; rw [upd_same] at e1; cases e1
    · by_cases hc : c = a
      · subst hc; rw [upd_same] at e2; cases e2
      · rw [upd_ne _ _ hb] at e1; rw [upd_ne _ _ hc] at e2; exact R.inj b c C ns l C' ns' l' e1 e2 q
end
-- R2

abbrev Rho := List (Str × V)

/-- a block's own scope: its names are told by the scope sc, its own variable is .free there -/
def EnvB (env : Env) (sc : Scope) (cl : List (Str × Addr)) : Prop := env.globals = mainGlobals ∧ env.builtins = builtinsNs ∧ env.scope.kind = .function ∧ (∀ x, sc.names.lookup x ≠ some .local) ∧
  (∀ x, sc.names.lookup x = some .globalImplicit → env.kindOf x = some .globalImplicit) ∧
  (∀ x c, sc.names.lookup x = some .cell → cl.lookup x = some c → env.kindOf x = some .cell ∧ env.cells.lookup x = some c) ∧
  (∀ x, sc.names.lookup x = some .free → env.kindOf x = some .local ∧ cl.lookup x = some env.locals)
structure CX (K : Frag) (d : Nat) (sc : Scope) (cl : List (Str × Addr)) (env : Env) (A : Around) (h₀ : Heap) (L : Addr) : Prop where
  env_ : ((∃ cn a ccd, env = envX cn sc L a ccd cl) ∧ ∀ x, sc.names.lookup x ≠ some .free) ∨ EnvB env sc cl
  kind : sc.kind = .function
  frames : ∃ envF outer A₀ base, Below A₀ base outer h₀ ∧ A.frames = some (envF :: outer) ∧ envF.frame = some L ∧ envF.scope.kind = .function
  KX : K.In h₀
  top : ∃ p loose mean mg mb, Top p loose mean mg mb h₀
  hd : A.handled = none
  room : A.depth + 10 * d ≤ 900
  units : A.units + 100 * d ≤ 9000

theorem CX.mono {K : Frag} {d d' : Nat} {sc : Scope} {cl : List (Str × Addr)} {env : Env} {A : Around} {h₀ : Heap} {L : Addr} (C : CX K d sc cl env A h₀ L) (h : d' ≤ d) : CX K d' sc cl env A h₀ L :=
  ⟨C.env_, C.kind, C.frames, C.KX, C.top, C.hd, by have := C.room; omega, by have := C.units; omega⟩

def NsObj (o : Obj) (m : Str → Option Value) : Prop := ∃ es ep, o.data = .dict es ep ∧ StrKeys es ∧ ∀ name, nsFind es name = m name
def Loc (sc : Scope) (cl : List (Str × Addr)) (fr fz : Led) (m : Str → Option Value) (ρ : Rho) : Prop := ∀ x V, ρ.lookup x = some V →
  (sc.names.lookup x = some .local → ∃ v, m x = some v ∧ Den fz V v) ∧
  (sc.names.lookup x = some .cell → ∃ c o v, cl.lookup x = some c ∧ (c, o) ∈ fz ∧ o.data = .cell (some v) ∧ Den fz V v) ∧
  (sc.names.lookup x = some .free → ∃ c o v m₂, cl.lookup x = some c ∧ (c, o) ∈ fr ∧ NsObj o m₂ ∧ m₂ x = some v ∧ Den fz V v)

theorem Loc.mono {sc : Scope} {cl : List (Str × Addr)} {fr fz fz' : Led} {m : Str → Option Value} {ρ : Rho} (h : Loc sc cl fr fz m ρ) (hs : ∀ p ∈ fz, p ∈ fz') : Loc sc cl fr fz' m ρ := fun x V e => by
  obtain ⟨a, b, c⟩ := h x V e
  refine ⟨fun k => ?_, fun k => ?_, fun k => ?_⟩
  · obtain ⟨v, e1, e2⟩ := a k; exact ⟨v, e1, e2.mono hs⟩
  · obtain ⟨c, o, v, e1, e2, e3, e4⟩ := b k; exact ⟨c, o, v, e1, hs _ e2, e3, e4.mono hs⟩
  · obtain ⟨c, o, v, m₂, e1, e2, e3, e4, e5⟩ := c k; exact ⟨c, o, v, m₂, e1, e2, e3, e4, e5.mono hs⟩
theorem Loc.e {sc : Scope} {cl : List (Str × Addr)} {fr fz : Led} {m : Str → Option Value} {ρ : Rho} (h : Loc sc cl [] fz m ρ) : Loc sc cl fr fz m ρ := fun x V e => by
  obtain ⟨a, b, c⟩ := h x V e
  refine ⟨a, b, fun k => ?_⟩
  obtain ⟨c, o, v, m₂, e1, e2, e3, e4, e5⟩ := c k
  nomatch e2
def Agree (ρ ρ' : Rho) : Prop := ∀ x V, ρ'.lookup x = some V → ρ.lookup x = some V
theorem Agree.nil {ρ : Rho} : Agree ρ [] := fun _ _ e => nomatch e
theorem Agree.cons {ρ ρ' : Rho} {x : Str} {v : V} (h : ρ.lookup x = some v) (r : Agree ρ ρ') : Agree ρ ((x, v) :: ρ') := fun y W e => by
  rw [List.lookup_cons] at e
  by_cases q : (y == x) = true
  · simp only [q] at e
    cases e
    have : y = x := eq_of_beq q
    rw [this]; exact h
  · simp only [q] at e
    exact r y W e
theorem Agree.refl {ρ : Rho} : Agree ρ ρ := fun _ _ e => e
theorem Loc.agree {sc : Scope} {cl : List (Str × Addr)} {fr fz : Led} {m : Str → Option Value} {ρ ρ' : Rho} (h : Loc sc cl fr fz m ρ) (a : Agree ρ ρ') : Loc sc cl fr fz m ρ' := fun x V e => h x V (a x V e)

inductive Fl where
  | next | brk | cont
  | ret (v : V)
def Fl.val : Fl → V
  | .ret v => v
  | _ => .none
def FDen (fz : Led) : Fl → Flow → Prop
  | .next, f => f = .next
  | .brk, f => f = .brk
  | .cont, f => f = .cont
  | .ret v, f => ∃ u, f = .ret u ∧ Den fz v u

def WV (prog : Program) (w : World) (A : Around) (fr : Led) (h₀ : Heap) (L : Addr) (m : Str → Option Value) (fz : Led) (s : Shared) (t : Sem Value) (Q : V → AH → Prop) : Prop :=
  ∀ Q' : Value → Shared → Prop, (∀ v x fz' H' h' tk', St fr h₀ L m fz' H' h' → (∀ p ∈ fz, p ∈ fz') → Den fz' x v → Q x H' → Q' v { s with heap := h', toks := tk' }) → wpAny (model prog w) A t Q' (fun _ _ => False) s
def WB (prog : Program) (w : World) (A : Around) (fr : Led) (h₀ : Heap) (L : Addr) (m : Str → Option Value) (fz : Led) (s : Shared) (t : Sem Bool) (Q : Bool → AH → Prop) : Prop :=
  ∀ Q' : Bool → Shared → Prop, (∀ b fz' H' h' tk', St fr h₀ L m fz' H' h' → (∀ p ∈ fz, p ∈ fz') → Q b H' → Q' b { s with heap := h', toks := tk' }) → wpAny (model prog w) A t Q' (fun _ _ => False) s
def WL (prog : Program) (w : World) (A : Around) (fr : Led) (h₀ : Heap) (L : Addr) (m : Str → Option Value) (fz : Led) (s : Shared) (t : Sem (List Value)) (Q : List V → AH → Prop) : Prop :=
  ∀ Q' : List Value → Shared → Prop, (∀ vs xs fz' H' h' tk', St fr h₀ L m fz' H' h' → (∀ p ∈ fz, p ∈ fz') → DenL fz' xs vs → Q xs H' → Q' vs { s with heap := h', toks := tk' }) → wpAny (model prog w) A t Q' (fun _ _ => False) s
def WF (prog : Program) (w : World) (A : Around) (fr : Led) (h₀ : Heap) (L : Addr) (sc : Scope) (cl : List (Str × Addr)) (fz : Led) (s : Shared) (t : Sem Flow) (Q : Fl → Rho → AH → Prop) : Prop :=
  ∀ Q' : Flow → Shared → Prop, (∀ f F ρ' m' fz' H' h' tk', St fr h₀ L m' fz' H' h' → (∀ p ∈ fz, p ∈ fz') → Loc sc cl [] fz' m' ρ' → FDen fz' F f → Q F ρ' H' → Q' f { s with heap := h', toks := tk' }) → wpAny (model prog w) A t Q' (fun _ _ => False) s

section defs
variable (prog : Program) (w : World) (K : Frag) (d : Nat) (sc : Scope) (cl : List (Str × Addr))
def EV (e : Expr) (ρ : Rho) (H : AH) (Q : V → AH → Prop) : Prop :=
  ∀ env A fr h₀ L m fz s, CX K d sc cl env A h₀ L → St fr h₀ L m fz H s.heap → Loc sc cl fr fz m ρ → WV prog w A fr h₀ L m fz s (eval e env) Q
def TS (e : Expr) (ρ : Rho) (H : AH) (Q : Bool → AH → Prop) : Prop :=
  ∀ env A fr h₀ L m fz s, CX K d sc cl env A h₀ L → St fr h₀ L m fz H s.heap → Loc sc cl fr fz m ρ → WB prog w A fr h₀ L m fz s (isTrue e env (eval e env)) Q
def ARGS (es : List Expr) (ρ : Rho) (H : AH) (Q : List V → AH → Prop) : Prop :=
  ∀ env A fr h₀ L m fz s pos, CX K d sc cl env A h₀ L → St fr h₀ L m fz H s.heap → Loc sc cl fr fz m ρ → WL prog w A fr h₀ L m fz s (spliced (backTo pos (starEach es env))) Q
def S1 (st : Stmt) (ρ : Rho) (H : AH) (Q : Fl → Rho → AH → Prop) : Prop :=
  ∀ env A fr h₀ L m fz s, CX K d sc cl env A h₀ L → St fr h₀ L m fz H s.heap → Loc sc cl [] fz m ρ → WF prog w A fr h₀ L sc cl fz s (exec st env) Q
def SS (ss : List Stmt) (ρ : Rho) (H : AH) (Q : Fl → Rho → AH → Prop) : Prop :=
  ∀ env A fr h₀ L m fz s, CX K d sc cl env A h₀ L → St fr h₀ L m fz H s.heap → Loc sc cl [] fz m ρ → WF prog w A fr h₀ L sc cl fz s (execs ss env) Q
def AS (t : Expr) (x : V) (ρ : Rho) (H : AH) (Q : Rho → AH → Prop) : Prop :=
  ∀ env A fr h₀ L m fz s v, CX K d sc cl env A h₀ L → St fr h₀ L m fz H s.heap → Loc sc cl [] fz m ρ → Den fz x v →
    ∀ Q' : Unit → Shared → Prop, (∀ ρ' m' fz' H' h' tk', St fr h₀ L m' fz' H' h' → (∀ p ∈ fz, p ∈ fz') → Loc sc cl [] fz' m' ρ' → Q ρ' H' → Q' () { s with heap := h', toks := tk' }) → wpAny (model prog w) A (assign t env v) Q' (fun _ _ => False) s
end defs
section defs2
variable (prog : Program) (w : World) (K : Frag) (d : Nat)
def OP2 (f : Value → Value → Sem Value) (a b : V) (H : AH) (Q : V → AH → Prop) : Prop :=
  ∀ sc cl env A fr h₀ L m fz s va vb, CX K d sc cl env A h₀ L → St fr h₀ L m fz H s.heap → Den fz a va → Den fz b vb → WV prog w A fr h₀ L m fz s (f va vb) Q
def OP1 (f : Value → Sem Value) (a : V) (H : AH) (Q : V → AH → Prop) : Prop :=
  ∀ sc cl env A fr h₀ L m fz s va, CX K d sc cl env A h₀ L → St fr h₀ L m fz H s.heap → Den fz a va → WV prog w A fr h₀ L m fz s (f va) Q
def TR (a : V) (H : AH) (Q : Bool → AH → Prop) : Prop :=
  ∀ sc cl env A fr h₀ L m fz s va, CX K d sc cl env A h₀ L → St fr h₀ L m fz H s.heap → Den fz a va → WB prog w A fr h₀ L m fz s (truthy va) Q
def CALL (f : Value) (xs : List V) (H : AH) (Q : V → AH → Prop) : Prop :=
  ∀ sc cl env A fr h₀ L m fz s vals (R : Result → Shared → Prop), CX K d sc cl env A h₀ L → St fr h₀ L m fz H s.heap → DenL fz xs vals →
    (∀ v x fz' H' h' tk', St fr h₀ L m fz' H' h' → (∀ p ∈ fz, p ∈ fz') → Den fz' x v → Q x H' → R (.ok (.ret v)) { s with heap := h', toks := tk' }) → codeAny (model prog w) A (.call f ⟨vals, []⟩) R s
end defs2

section
variable {prog : Program} {w : World} {K : Frag} {d : Nat} {sc : Scope} {cl : List (Str × Addr)} {ρ : Rho} {H : AH}

theorem EV.mono {e : Expr} {Q Q' : V → AH → Prop} (h : EV prog w K d sc cl e ρ H Q) (hq : ∀ x H, Q x H → Q' x H) : EV prog w K d sc cl e ρ H Q' :=
  fun env A fr h₀ L m fz s C S LO R k => h env A fr h₀ L m fz s C S LO R fun v x fz' H' h' tk' a b c q => k v x fz' H' h' tk' a b c (hq _ _ q)
theorem CALL.mono {f : Value} {xs : List V} {Q Q' : V → AH → Prop} (h : CALL prog w K d f xs H Q) (hq : ∀ x H, Q x H → Q' x H) : CALL prog w K d f xs H Q' :=
  fun sc cl env A fr h₀ L m fz s vals R C S D k => h sc cl env A fr h₀ L m fz s vals R C S D fun v x fz' H' h' tk' a b c q => k v x fz' H' h' tk' a b c (hq _ _ q)
theorem CALL.up {f : Value} {xs : List V} {Q : V → AH → Prop} {d' : Nat} (h : CALL prog w K d f xs H Q) (hd : d ≤ d') : CALL prog w K d' f xs H Q :=
  fun sc cl env A fr h₀ L m fz s vals R C S D k => h sc cl env A fr h₀ L m fz s vals R (C.mono hd) S D k
theorem CALL.wv {f : Value} {xs : List V} {Q : V → AH → Prop} (h : CALL prog w K d f xs H Q) {sc : Scope} {cl : List (Str × Addr)} {env : Env} {A : Around} {fr : Led} {h₀ : Heap} {L : Addr} {m : Str → Option Value} {fz : Led} {s : Shared} {vals : List Value}
    (C : CX K d sc cl env A h₀ L) (S : St fr h₀ L m fz H s.heap) (D : DenL fz xs vals) : WV prog w A fr h₀ L m fz s (call f vals) Q :=
  fun Q' k => wpAny_call (h sc cl env A fr h₀ L m fz s vals _ C S D fun v x fz' H' h' tk' a b c q => k v x fz' H' h' tk' a b c q)

-- constants
theorem EV.cint {i : Int} {k : Nat} {p : Pos} {Q : V → AH → Prop} (h : Q (.int i) H) : EV prog w K d sc cl (.Constant (.int i) k p) ρ H Q :=
  fun env A fr h₀ L m fz s C S LO R k => wpAny_Constant_int (k _ (.int i) fz H _ _ S (fun _ h => h) (by simp only [Den]; exact ⟨_, rfl⟩) h)
theorem EV.cnone {k : Nat} {p : Pos} {Q : V → AH → Prop} (h : Q .none H) : EV prog w K d sc cl (.Constant .none k p) ρ H Q :=
  fun env A fr h₀ L m fz s C S LO R k => wpAny_pure (k _ .none fz H s.heap s.toks S (fun _ h => h) (by simp only [Den]) h)
theorem EV.cbool {b : Bool} {k : Nat} {p : Pos} {Q : V → AH → Prop} (h : Q (.bool b) H) : EV prog w K d sc cl (.Constant (.bool b) k p) ρ H Q :=
  fun env A fr h₀ L m fz s C S LO R k => wpAny_pure (k _ (.bool b) fz H s.heap s.toks S (fun _ h => h) (by simp only [Den]) h)

-- names
def isLoc (sc : Scope) (x : Str) : Bool := decide (sc.names.lookup x = some .local) && !(x == ("__debug__" : Str))
def isGlob (sc : Scope) (x : Str) : Bool := decide (sc.names.lookup x = some .globalImplicit) && !(x == ("__debug__" : Str))
def isCell (sc : Scope) (x : Str) : Bool := decide (sc.names.lookup x = some .cell) && !(x == ("__debug__" : Str))
theorem EV.nameL {x : Str} {p : Pos} {v : V} {Q : V → AH → Prop} (hk : isLoc sc x = true) (hv : ρ.lookup x = some v) (h : Q v H) : EV prog w K d sc cl (.Name x p) ρ H Q := by
  intro env A fr h₀ L m fz s C S LO Q' k
  simp only [isLoc, Bool.and_eq_true, decide_eq_true_eq, Bool.not_eq_true'] at hk
  rcases C.env_.symm with ⟨_, _, _, z, _⟩ | ⟨⟨cn, a, ccd, rfl⟩, _⟩
  · exact absurd hk.1 (z x)
  obtain ⟨u, e, hd⟩ := (LO x v hv).1 hk.1
  exact nameX_L S.frm e (k u v fz H _ _ S (fun _ h => h) hd h) C.kind hk.1 hk.2
theorem EV.nameC {x : Str} {p : Pos} {v : V} {Q : V → AH → Prop} (hk : isCell sc x = true) (hv : ρ.lookup x = some v) (h : Q v H) : EV prog w K d sc cl (.Name x p) ρ H Q := by
  intro env A fr h₀ L m fz s C S LO Q' k
  simp only [isCell, Bool.and_eq_true, decide_eq_true_eq, Bool.not_eq_true'] at hk
  obtain ⟨c, o, u, e1, e2, e3, hd⟩ := (LO x v hv).2.1 hk.1
  obtain ⟨mt, δ, N, nd, R⟩ := S.ex
  rcases C.env_.symm with ⟨_, _, z1, _, _, z2, _⟩ | ⟨⟨cn, a, ccd, rfl⟩, _⟩
  ·
    obtain ⟨y1, y2⟩ := z2 x c hk.1 e1
    exact wpAny_Name (wpAny_loadName_cell z1 y1 y2 ⟨o, N.get (List.mem_append_left _ (List.mem_append_left _ e2)), e3⟩ (k u v fz H _ _ S (fun _ h => h) hd h)) hk.2
  exact nameX_C N e1 (List.mem_append_left _ (List.mem_append_left _ e2)) e3 (k u v fz H _ _ S (fun _ h => h) hd h) C.kind hk.1 hk.2
def isVar (sc : Scope) (x : Str) : Bool := decide (sc.names.lookup x = some .free) && !(x == ("__debug__" : Str))
theorem EV.nameV {x : Str} {p : Pos} {v : V} {Q : V → AH → Prop} (hk : isVar sc x = true) (hv : ρ.lookup x = some v) (h : Q v H) : EV prog w K d sc cl (.Name x p) ρ H Q := by
  intro env A fr h₀ L m fz s C S LO Q' k
  simp only [isVar, Bool.and_eq_true, decide_eq_true_eq, Bool.not_eq_true'] at hk
  obtain ⟨c, o, u, m₂, e1, e2, ⟨es, ep, f1, f2, f3⟩, e4, hd⟩ := (LO x v hv).2.2 hk.1
  obtain ⟨mt, δ, N, nd, R⟩ := S.ex
  rcases C.env_ with ⟨_, z⟩ | ⟨_, _, z1, _, _, _, z2⟩
  · exact absurd hk.1 (z x)
  obtain ⟨y1, y2⟩ := z2 x hk.1
  rw [e1] at y2
  cases y2
  exact wpAny_Name (wpAny_loadName_local z1 y1 ⟨o, es, ep, (N _ (List.mem_append_left _ (List.mem_append_right _ e2))).1, f1, f2, f3⟩ e4 (k u v fz H _ _ S (fun _ h => h) hd h)) hk.2
theorem EV.nameG {x : Str} {p : Pos} {u : Value} {Q : V → AH → Prop} (hk : isGlob sc x = true) (hv : nsIn K mainGlobals x = some (some u)) (h : Q (.raw u) H) : EV prog w K d sc cl (.Name x p) ρ H Q := by
  intro env A fr h₀ L m fz s C S LO Q' k
  simp only [isGlob, Bool.and_eq_true, decide_eq_true_eq, Bool.not_eq_true'] at hk
  obtain ⟨p, loose, mean, mg, mb, T⟩ := C.top
  rcases C.env_.symm with ⟨y1, y2, z1, _, z2, _⟩ | ⟨⟨cn, a, ccd, rfl⟩, _⟩
  · exact nameG_K S.frm C.KX (topRead_of T) hv (k u (.raw u) fz H _ _ S (fun _ h => h) (by simp only [Den]) h) y1 z1 (z2 x hk.1) hk.2
  exact nameX_K S.frm C.KX (topRead_of T) hv (k u (.raw u) fz H _ _ S (fun _ h => h) (by simp only [Den]) h) C.kind hk.1 hk.2
theorem EV.nameGi {x : Str} {p : Pos} {i : Int} {t : Tok} {Q : V → AH → Prop} (hk : isGlob sc x = true) (hv : nsIn K mainGlobals x = some (some (.int i t))) (h : Q (.int i) H) : EV prog w K d sc cl (.Name x p) ρ H Q := by
  intro env A fr h₀ L m fz s C S LO Q' k
  simp only [isGlob, Bool.and_eq_true, decide_eq_true_eq, Bool.not_eq_true'] at hk
  obtain ⟨p, loose, mean, mg, mb, T⟩ := C.top
  rcases C.env_.symm with ⟨y1, y2, z1, _, z2, _⟩ | ⟨⟨cn, a, ccd, rfl⟩, _⟩
  · exact nameG_K S.frm C.KX (topRead_of T) hv (k _ (.int i) fz H _ _ S (fun _ h => h) (by simp only [Den]; exact ⟨_, rfl⟩) h) y1 z1 (z2 x hk.1) hk.2
  exact nameX_K S.frm C.KX (topRead_of T) hv (k _ (.int i) fz H _ _ S (fun _ h => h) (by simp only [Den]; exact ⟨_, rfl⟩) h) C.kind hk.1 hk.2
theorem EV.nameB {x : Str} {p : Pos} {u : Value} {Q : V → AH → Prop} (hk : isGlob sc x = true) (hv : nsIn K mainGlobals x = some none) (hb : bootBuiltins x = some u) (hn : (x == ("__name__" : Str)) = false) (h : Q (.raw u) H) : EV prog w K d sc cl (.Name x p) ρ H Q := by
  intro env A fr h₀ L m fz s C S LO Q' k
  simp only [isGlob, Bool.and_eq_true, decide_eq_true_eq, Bool.not_eq_true'] at hk
  obtain ⟨p, loose, mean, mg, mb, T⟩ := C.top
  rcases C.env_.symm with ⟨y1, y2, z1, _, z2, _⟩ | ⟨⟨cn, a, ccd, rfl⟩, _⟩
  · exact Name_function_global z1 (z2 x hk.1) (loadGlobal_builtin (env := env) (by rw [y1]; exact (topRead_of T).g.keeps S.frm.keep) (mg_none_of C.KX (topRead_of T).g hv) (by rw [y2]; exact (topRead_of T).b.keeps S.frm.keep) (((topRead_of T).builtins x (fun e => by rw [e] at hn; simp at hn)).trans hb) (k u (.raw u) fz H _ _ S (fun _ h => h) (by simp only [Den]) h)) hk.2
  exact nameX_B S.frm C.KX (topRead_of T) hv hb (fun e => by rw [e] at hn; simp at hn) (k u (.raw u) fz H _ _ S (fun _ h => h) (by simp only [Den]) h) C.kind hk.1 hk.2

-- operators
theorem EV.bin {l r : Expr} {op : Operator} {p : Pos} {Q : V → AH → Prop} (h : EV prog w K d sc cl l ρ H (fun a H1 => EV prog w K d sc cl r ρ H1 (fun b H2 => OP2 prog w K d (binaryOp op) a b H2 Q))) : EV prog w K d sc cl (.BinOp l op r p) ρ H Q :=
  fun env A fr h₀ L m fz s C S LO Q' k => wpAny_BinOp (h env A fr h₀ L m fz s C S LO _ fun va a fz1 H1 h1 t1 S1 s1 D1 q1 =>
    q1 env A fr h₀ L m fz1 _ C S1 (LO.mono s1) _ fun vb b fz2 H2 h2 t2 S2 s2 D2 q2 =>
      q2 sc cl env A fr h₀ L m fz2 _ va vb C S2 (D1.mono s2) D2 _ fun v x fz3 H3 h3 t3 S3 s3 D3 q3 => k v x fz3 H3 h3 t3 S3 (fun p hp => s3 _ (s2 _ (s1 _ hp))) D3 q3)
theorem EV.un {x : Expr} {op : UnaryOp} {p : Pos} {Q : V → AH → Prop} (h : EV prog w K d sc cl x ρ H (fun a H1 => OP1 prog w K d (unaryOp op) a H1 Q)) : EV prog w K d sc cl (.UnaryOp op x p) ρ H Q :=
  fun env A fr h₀ L m fz s C S LO Q' k => wpAny_UnaryOp (h env A fr h₀ L m fz s C S LO _ fun va a fz1 H1 h1 t1 S1 s1 D1 q1 =>
      q1 sc cl env A fr h₀ L m fz1 _ va C S1 D1 _ fun v x fz3 H3 h3 t3 S3 s3 D3 q3 => k v x fz3 H3 h3 t3 S3 (fun p hp => s3 _ (s1 _ hp)) D3 q3)
theorem EV.cmp {l r : Expr} {op : CmpOp} {p : Pos} {Q : V → AH → Prop} (hm : behindInMarks op r = false) (h : EV prog w K d sc cl l ρ H (fun a H1 => EV prog w K d sc cl r ρ H1 (fun b H2 => OP2 prog w K d (compareOp op) a b H2 Q))) : EV prog w K d sc cl (.Compare l [op] [r] p) ρ H Q :=
  fun env A fr h₀ L m fz s C S LO Q' k => wpAny_Compare1 (hm := hm) (h env A fr h₀ L m fz s C S LO _ fun va a fz1 H1 h1 t1 S1 s1 D1 q1 =>
    q1 env A fr h₀ L m fz1 _ C S1 (LO.mono s1) _ fun vb b fz2 H2 h2 t2 S2 s2 D2 q2 =>
      q2 sc cl env A fr h₀ L m fz2 _ va vb C S2 (D1.mono s2) D2 _ fun v x fz3 H3 h3 t3 S3 s3 D3 q3 => k v x fz3 H3 h3 t3 S3 (fun p hp => s3 _ (s2 _ (s1 _ hp))) D3 q3)
theorem TS.cmp {l r : Expr} {op : CmpOp} {p : Pos} {Q : Bool → AH → Prop} (hm : behindInMarks op r = false) (h : EV prog w K d sc cl l ρ H (fun a H1 => EV prog w K d sc cl r ρ H1 (fun b H2 => OP2 prog w K d (compareOp op) a b H2 (fun c H3 => TR prog w K d c H3 Q)))) : TS prog w K d sc cl (.Compare l [op] [r] p) ρ H Q :=
  fun env A fr h₀ L m fz s C S LO Q' k => wpAny_isTrue_Compare1 (hm := hm) (h env A fr h₀ L m fz s C S LO _ fun va a fz1 H1 h1 t1 S1 s1 D1 q1 =>
    q1 env A fr h₀ L m fz1 _ C S1 (LO.mono s1) _ fun vb b fz2 H2 h2 t2 S2 s2 D2 q2 =>
      q2 sc cl env A fr h₀ L m fz2 _ va vb C S2 (D1.mono s2) D2 _ fun v x fz3 H3 h3 t3 S3 s3 D3 q3 =>
        q3 sc cl env A fr h₀ L m fz3 _ v C S3 D3 _ fun b fz4 H4 h4 t4 S4 s4 q4 => k b fz4 H4 h4 t4 S4 (fun p hp => s4 _ (s3 _ (s2 _ (s1 _ hp)))) q4)
theorem TS.cmp2 {l r r' : Expr} {op op' : CmpOp} {p : Pos} {Q : Bool → AH → Prop} (hm : lastMarks [op, op'] [r, r'] = false)
    (h : EV prog w K d sc cl l ρ H (fun a H1 => EV prog w K d sc cl r ρ H1 (fun b H2 => OP2 prog w K d (compareOp op) a b H2 (fun c H3 => TR prog w K d c H3 fun t H4 =>
      (t = true → EV prog w K d sc cl r' ρ H4 (fun b' H5 => OP2 prog w K d (compareOp op') b b' H5 (fun c' H6 => TR prog w K d c' H6 Q))) ∧ (t = false → Q false H4))))) : TS prog w K d sc cl (.Compare l [op, op'] [r, r'] p) ρ H Q :=
  fun env A fr h₀ L m fz s C S LO Q' k => isTrue_chain (rs := []) (ops := []) (hm := hm) (h env A fr h₀ L m fz s C S LO _ fun va a fz1 H1 h1 t1 S1 s1 D1 q1 =>
    test_link (q1 env A fr h₀ L m fz1 _ C S1 (LO.mono s1) _ fun vb b fz2 H2 h2 t2 S2 s2 D2 q2 =>
      q2 sc cl env A fr h₀ L m fz2 _ va vb C S2 (D1.mono s2) D2 _ fun v x fz3 H3 h3 t3 S3 s3 D3 q3 =>
        q3 sc cl env A fr h₀ L m fz3 _ v C S3 D3 _ fun t fz4 H4 h4 t4 S4 s4 q4 => by
          cases t with
          | false => exact k false fz4 H4 h4 t4 S4 (fun p hp => s4 _ (s3 _ (s2 _ (s1 _ hp)))) (q4.2 rfl)
          | true =>
            refine test_last (q4.1 rfl env A fr h₀ L m fz4 _ C S4 (LO.mono fun p hp => s4 _ (s3 _ (s2 _ (s1 _ hp)))) _ fun vb' b' fz5 H5 h5 t5 S5 s5 D5 q5 => ?_)
            refine q5 sc cl env A fr h₀ L m fz5 _ vb vb' C S5 (D2.mono fun p hp => s5 _ (s4 _ (s3 _ hp))) D5 _ fun c' x' fz6 H6 h6 t6 S6 s6 D6 q6 => ?_
            exact q6 sc cl env A fr h₀ L m fz6 _ c' C S6 D6 _ fun b fz7 H7 h7 t7 S7 s7 q7 => k b fz7 H7 h7 t7 S7 (fun p hp => s7 _ (s6 _ (s5 _ (s4 _ (s3 _ (s2 _ (s1 _ hp))))))) q7))
theorem EV.cmp2 {l r r' : Expr} {op op' : CmpOp} {p : Pos} {Q : V → AH → Prop} (hm : lastMarks [op, op'] [r, r'] = false)
    (h : EV prog w K d sc cl l ρ H (fun a H1 => EV prog w K d sc cl r ρ H1 (fun b H2 => OP2 prog w K d (compareOp op) a b H2 (fun c H3 => TR prog w K d c H3 fun t H4 =>
      (t = true → EV prog w K d sc cl r' ρ H4 (fun b' H5 => OP2 prog w K d (compareOp op') b b' H5 Q)) ∧ (t = false → Q c H4))))) : EV prog w K d sc cl (.Compare l [op, op'] [r, r'] p) ρ H Q :=
  fun env A fr h₀ L m fz s C S LO Q' k => Compare_chain (rs := []) (ops := []) (hm := hm) (h env A fr h₀ L m fz s C S LO _ fun va a fz1 H1 h1 t1 S1 s1 D1 q1 =>
    chain_link (q1 env A fr h₀ L m fz1 _ C S1 (LO.mono s1) _ fun vb b fz2 H2 h2 t2 S2 s2 D2 q2 =>
      q2 sc cl env A fr h₀ L m fz2 _ va vb C S2 (D1.mono s2) D2 _ fun v x fz3 H3 h3 t3 S3 s3 D3 q3 =>
        q3 sc cl env A fr h₀ L m fz3 _ v C S3 D3 _ fun t fz4 H4 h4 t4 S4 s4 q4 => by
          cases t with
          | false => exact k v x fz4 H4 h4 t4 S4 (fun p hp => s4 _ (s3 _ (s2 _ (s1 _ hp)))) (D3.mono s4) (q4.2 rfl)
          | true =>
            refine chain_last (q4.1 rfl env A fr h₀ L m fz4 _ C S4 (LO.mono fun p hp => s4 _ (s3 _ (s2 _ (s1 _ hp)))) _ fun vb' b' fz5 H5 h5 t5 S5 s5 D5 q5 => ?_)
            exact q5 sc cl env A fr h₀ L m fz5 _ vb vb' C S5 (D2.mono fun p hp => s5 _ (s4 _ (s3 _ hp))) D5 _ fun c' x' fz6 H6 h6 t6 S6 s6 D6 q6 =>
              k c' x' fz6 H6 h6 t6 S6 (fun p hp => s6 _ (s5 _ (s4 _ (s3 _ (s2 _ (s1 _ hp)))))) D6 q6))
theorem EV.ifx {t b o : Expr} {p : Pos} {Q : V → AH → Prop} (h : TS prog w K d sc cl t ρ H (fun c H1 => (c = true → EV prog w K d sc cl b ρ H1 Q) ∧ (c = false → EV prog w K d sc cl o ρ H1 Q))) : EV prog w K d sc cl (.IfExp t b o p) ρ H Q :=
  fun env A fr h₀ L m fz s C S LO Q' k => wpAny_IfExp (h env A fr h₀ L m fz s C S LO _ fun c fz1 H1 h1 t1 S1 s1 q1 => by
    cases c with
    | true => exact q1.1 rfl env A fr h₀ L m fz1 _ C S1 (LO.mono s1) _ fun v x fz2 H2 h2 t2 S2 s2 D2 q2 => k v x fz2 H2 h2 t2 S2 (fun p hp => s2 _ (s1 _ hp)) D2 q2
    | false => exact q1.2 rfl env A fr h₀ L m fz1 _ C S1 (LO.mono s1) _ fun v x fz2 H2 h2 t2 S2 s2 D2 q2 => k v x fz2 H2 h2 t2 S2 (fun p hp => s2 _ (s1 _ hp)) D2 q2)
theorem TS.not {x : Expr} {p : Pos} {Q : Bool → AH → Prop} (h : TS prog w K d sc cl x ρ H (fun c H1 => Q (!c) H1)) : TS prog w K d sc cl (.UnaryOp .Not x p) ρ H Q :=
  fun env A fr h₀ L m fz s C S LO Q' k => isTrue_not (h env A fr h₀ L m fz s C S LO _ fun c fz1 H1 h1 t1 S1 s1 q1 => k (!c) fz1 H1 h1 t1 S1 s1 q1)
theorem TS.plain {e : Expr} {Q : Bool → AH → Prop} (he : ∀ (env : Env) (whole : Sem Value), isTrue e env whole = (do let v ← whole; standAt e.pos; holding [v] (truthy v))) (h : EV prog w K d sc cl e ρ H (fun a H1 => TR prog w K d a H1 Q)) : TS prog w K d sc cl e ρ H Q :=
  fun env A fr h₀ L m fz s C S LO Q' k => isTrue_plain (he := he env _) (h env A fr h₀ L m fz s C S LO _ fun v a fz1 H1 h1 t1 S1 s1 D1 q1 =>
    q1 sc cl env A fr h₀ L m fz1 _ v C S1 D1 _ fun b fz2 H2 h2 t2 S2 s2 q2 => k b fz2 H2 h2 t2 S2 (fun p hp => s2 _ (s1 _ hp)) q2)
/-- a chain of and | or, as a test -/
def TSS (prog : Program) (w : World) (K : Frag) (d : Nat) (sc : Scope) (cl : List (Str × Addr)) (op : BoolOp) (es : List Expr) (ρ : Rho) (H : AH) (Q : Bool → AH → Prop) : Prop :=
  ∀ env A fr h₀ L m fz s, CX K d sc cl env A h₀ L → St fr h₀ L m fz H s.heap → Loc sc cl fr fz m ρ → WB prog w A fr h₀ L m fz s (allTrue op es env) Q
theorem TS.bool {op : BoolOp} {es : List Expr} {p : Pos} {Q : Bool → AH → Prop} (h : TSS prog w K d sc cl op es ρ H Q) : TS prog w K d sc cl (.BoolOp op es p) ρ H Q := h
theorem TSS.and_nil {Q : Bool → AH → Prop} (h : Q true H) : TSS prog w K d sc cl .And [] ρ H Q :=
  fun env A fr h₀ L m fz s C S LO Q' k => wpAny_pure (a := true) (k true fz H s.heap s.toks S (fun _ h => h) h)
theorem TSS.or_nil {Q : Bool → AH → Prop} (h : Q false H) : TSS prog w K d sc cl .Or [] ρ H Q :=
  fun env A fr h₀ L m fz s C S LO Q' k => wpAny_pure (a := false) (k false fz H s.heap s.toks S (fun _ h => h) h)
theorem TSS.and {x : Expr} {r : List Expr} {Q : Bool → AH → Prop} (h : TS prog w K d sc cl x ρ H (fun c H1 => (c = true → TSS prog w K d sc cl .And r ρ H1 Q) ∧ (c = false → Q false H1))) : TSS prog w K d sc cl .And (x :: r) ρ H Q :=
  fun env A fr h₀ L m fz s C S LO Q' k => isTrue_and (pos := default) (whole := pure .none) (h env A fr h₀ L m fz s C S LO _ fun c fz1 H1 h1 t1 S1 s1 q1 => by
    cases c with
    | true => exact q1.1 rfl env A fr h₀ L m fz1 _ C S1 (LO.mono s1) _ fun b fz2 H2 h2 t2 S2 s2 q2 => k b fz2 H2 h2 t2 S2 (fun p hp => s2 _ (s1 _ hp)) q2
    | false => exact k false fz1 H1 h1 t1 S1 s1 (q1.2 rfl))
theorem TSS.or {x : Expr} {r : List Expr} {Q : Bool → AH → Prop} (h : TS prog w K d sc cl x ρ H (fun c H1 => (c = true → Q true H1) ∧ (c = false → TSS prog w K d sc cl .Or r ρ H1 Q))) : TSS prog w K d sc cl .Or (x :: r) ρ H Q :=
  fun env A fr h₀ L m fz s C S LO Q' k => isTrue_or (pos := default) (whole := pure .none) (h env A fr h₀ L m fz s C S LO _ fun c fz1 H1 h1 t1 S1 s1 q1 => by
    cases c with
    | false => exact q1.2 rfl env A fr h₀ L m fz1 _ C S1 (LO.mono s1) _ fun b fz2 H2 h2 t2 S2 s2 q2 => k b fz2 H2 h2 t2 S2 (fun p hp => s2 _ (s1 _ hp)) q2
    | true => exact k true fz1 H1 h1 t1 S1 s1 (q1.1 rfl))
theorem EV.one {op : BoolOp} {e : Expr} {p : Pos} {Q : V → AH → Prop} (h : EV prog w K d sc cl e ρ H Q) : EV prog w K d sc cl (.BoolOp op [e] p) ρ H Q := h
theorem EV.and {x y : Expr} {r : List Expr} {p : Pos} {Q : V → AH → Prop} (h : EV prog w K d sc cl x ρ H (fun a H1 => TR prog w K d a H1 fun c H2 => (c = true → EV prog w K d sc cl (.BoolOp .And (y :: r) p) ρ H2 Q) ∧ (c = false → Q a H2))) : EV prog w K d sc cl (.BoolOp .And (x :: y :: r) p) ρ H Q :=
  fun env A fr h₀ L m fz s C S LO Q' k => BoolOp_and (h env A fr h₀ L m fz s C S LO _ fun v a fz1 H1 h1 t1 S1 s1 D1 q1 =>
    q1 sc cl env A fr h₀ L m fz1 _ v C S1 D1 _ fun c fz2 H2 h2 t2 S2 s2 q2 => by
      cases c with
      | true => exact q2.1 rfl env A fr h₀ L m fz2 _ C S2 (LO.mono fun p hp => s2 _ (s1 _ hp)) _ fun v x fz3 H3 h3 t3 S3 s3 D3 q3 => k v x fz3 H3 h3 t3 S3 (fun p hp => s3 _ (s2 _ (s1 _ hp))) D3 q3
      | false => exact k v a fz2 H2 h2 t2 S2 (fun p hp => s2 _ (s1 _ hp)) (D1.mono s2) (q2.2 rfl))
theorem EV.or {x y : Expr} {r : List Expr} {p : Pos} {Q : V → AH → Prop} (h : EV prog w K d sc cl x ρ H (fun a H1 => TR prog w K d a H1 fun c H2 => (c = true → Q a H2) ∧ (c = false → EV prog w K d sc cl (.BoolOp .Or (y :: r) p) ρ H2 Q))) : EV prog w K d sc cl (.BoolOp .Or (x :: y :: r) p) ρ H Q :=
  fun env A fr h₀ L m fz s C S LO Q' k => BoolOp_or (h env A fr h₀ L m fz s C S LO _ fun v a fz1 H1 h1 t1 S1 s1 D1 q1 =>
    q1 sc cl env A fr h₀ L m fz1 _ v C S1 D1 _ fun c fz2 H2 h2 t2 S2 s2 q2 => by
      cases c with
      | false => exact q2.2 rfl env A fr h₀ L m fz2 _ C S2 (LO.mono fun p hp => s2 _ (s1 _ hp)) _ fun v x fz3 H3 h3 t3 S3 s3 D3 q3 => k v x fz3 H3 h3 t3 S3 (fun p hp => s3 _ (s2 _ (s1 _ hp))) D3 q3
      | true => exact k v a fz2 H2 h2 t2 S2 (fun p hp => s2 _ (s1 _ hp)) (D1.mono s2) (q2.1 rfl))

-- truth
theorem TR.bool {b : Bool} {Q : Bool → AH → Prop} (h : Q b H) : TR prog w K d (.bool b) H Q :=
  fun sc cl env A fr h₀ L m fz s va C S D Q' k => by
    simp only [Den] at D; subst D
    exact wpAny_truthy_bool (k b fz H s.heap s.toks S (fun _ h => h) h)

-- integers
theorem den_int {fz : Led} {i : Int} {t : Tok} : Den fz (.int i) (.int i t) := by simp only [Den]; exact ⟨_, rfl⟩
theorem den_bool {fz : Led} {b : Bool} : Den fz (.bool b) (.bool b) := by simp only [Den]
theorem den_none {fz : Led} : Den fz .none .none := by simp only [Den]
theorem OP2.add {a b : Int} {Q : V → AH → Prop} (h : Q (.int (a + b)) H) : OP2 prog w K d (binaryOp .Add) (.int a) (.int b) H Q :=
  fun sc cl env A fr h₀ L m fz s va vb C S D1 D2 Q' k => by
    simp only [Den] at D1 D2; obtain ⟨t, rfl⟩ := D1; obtain ⟨u, rfl⟩ := D2
    exact P.add_int (k _ _ fz H _ _ S (fun _ h => h) den_int h)
theorem OP2.sub {a b : Int} {Q : V → AH → Prop} (h : Q (.int (a - b)) H) : OP2 prog w K d (binaryOp .Sub) (.int a) (.int b) H Q :=
  fun sc cl env A fr h₀ L m fz s va vb C S D1 D2 Q' k => by
    simp only [Den] at D1 D2; obtain ⟨t, rfl⟩ := D1; obtain ⟨u, rfl⟩ := D2
    exact P.sub_int (k _ _ fz H _ _ S (fun _ h => h) den_int h)
theorem OP2.mul {a b : Int} {Q : V → AH → Prop} (hm : IntMulOk a b) (h : Q (.int (a * b)) H) : OP2 prog w K d (binaryOp .Mult) (.int a) (.int b) H Q :=
  fun sc cl env A fr h₀ L m fz s va vb C S D1 D2 Q' k => by
    simp only [Den] at D1 D2; obtain ⟨t, rfl⟩ := D1; obtain ⟨u, rfl⟩ := D2
    exact P.mul_int (k _ _ fz H _ _ S (fun _ h => h) den_int h) hm
theorem OP2.mod {a b : Int} {Q : V → AH → Prop} (hb : b ≠ 0) (h : Q (.int (a.fmod b)) H) : OP2 prog w K d (binaryOp .Mod) (.int a) (.int b) H Q :=
  fun sc cl env A fr h₀ L m fz s va vb C S D1 D2 Q' k => by
    simp only [Den] at D1 D2; obtain ⟨t, rfl⟩ := D1; obtain ⟨u, rfl⟩ := D2
    exact mod_int' hb (k _ _ fz H _ _ S (fun _ h => h) den_int h)
theorem OP2.div {a b : Int} {Q : V → AH → Prop} (hb : b ≠ 0) (hp : Builtin.divisionGoesByPylong a b = false) (h : Q (.int (a.fdiv b)) H) : OP2 prog w K d (binaryOp .FloorDiv) (.int a) (.int b) H Q :=
  fun sc cl env A fr h₀ L m fz s va vb C S D1 D2 Q' k => by
    simp only [Den] at D1 D2; obtain ⟨t, rfl⟩ := D1; obtain ⟨u, rfl⟩ := D2
    exact floordiv_int hb (k _ _ fz H _ _ S (fun _ h => h) den_int h) (.inl hp)
theorem OP1.neg {a : Int} {Q : V → AH → Prop} (h : Q (.int (-a)) H) : OP1 prog w K d (unaryOp .USub) (.int a) H Q :=
  fun sc cl env A fr h₀ L m fz s va C S D1 Q' k => by
    simp only [Den] at D1; obtain ⟨t, rfl⟩ := D1
    exact P.neg_int (k _ _ fz H _ _ S (fun _ h => h) den_int h)
theorem OP2.lt {a b : Int} {Q : V → AH → Prop} (h : Q (.bool (decide (a < b))) H) : OP2 prog w K d (compareOp .Lt) (.int a) (.int b) H Q :=
  fun sc cl env A fr h₀ L m fz s va vb C S D1 D2 Q' k => by
    simp only [Den] at D1 D2; obtain ⟨t, rfl⟩ := D1; obtain ⟨u, rfl⟩ := D2
    exact P.lt_int (k _ _ fz H s.heap s.toks S (fun _ h => h) den_bool h)
theorem OP2.le {a b : Int} {Q : V → AH → Prop} (h : Q (.bool (decide (a ≤ b))) H) : OP2 prog w K d (compareOp .LtE) (.int a) (.int b) H Q :=
  fun sc cl env A fr h₀ L m fz s va vb C S D1 D2 Q' k => by
    simp only [Den] at D1 D2; obtain ⟨t, rfl⟩ := D1; obtain ⟨u, rfl⟩ := D2
    exact P.le_int (k _ _ fz H s.heap s.toks S (fun _ h => h) den_bool h)
theorem OP2.gt {a b : Int} {Q : V → AH → Prop} (h : Q (.bool (decide (a > b))) H) : OP2 prog w K d (compareOp .Gt) (.int a) (.int b) H Q :=
  fun sc cl env A fr h₀ L m fz s va vb C S D1 D2 Q' k => by
    simp only [Den] at D1 D2; obtain ⟨t, rfl⟩ := D1; obtain ⟨u, rfl⟩ := D2
    exact P.gt_int (k _ _ fz H s.heap s.toks S (fun _ h => h) den_bool h)
theorem OP2.ge {a b : Int} {Q : V → AH → Prop} (h : Q (.bool (decide (a ≥ b))) H) : OP2 prog w K d (compareOp .GtE) (.int a) (.int b) H Q :=
  fun sc cl env A fr h₀ L m fz s va vb C S D1 D2 Q' k => by
    simp only [Den] at D1 D2; obtain ⟨t, rfl⟩ := D1; obtain ⟨u, rfl⟩ := D2
    exact P.ge_int (k _ _ fz H s.heap s.toks S (fun _ h => h) den_bool h)
theorem OP2.eq {a b : Int} {Q : V → AH → Prop} (h : Q (.bool (decide (a = b))) H) : OP2 prog w K d (compareOp .Eq) (.int a) (.int b) H Q :=
  fun sc cl env A fr h₀ L m fz s va vb C S D1 D2 Q' k => by
    simp only [Den] at D1 D2; obtain ⟨t, rfl⟩ := D1; obtain ⟨u, rfl⟩ := D2
    refine P.eq_int (k _ (.bool (decide (a = b))) fz H s.heap s.toks S (fun _ h => h) ?_ h)
    simp only [Den]; congr 1
theorem OP2.ne {a b : Int} {Q : V → AH → Prop} (h : Q (.bool (decide (a ≠ b))) H) : OP2 prog w K d (compareOp .NotEq) (.int a) (.int b) H Q :=
  fun sc cl env A fr h₀ L m fz s va vb C S D1 D2 Q' k => by
    simp only [Den] at D1 D2; obtain ⟨t, rfl⟩ := D1; obtain ⟨u, rfl⟩ := D2
    refine PyProof.Rows.ne_int (k _ (.bool (decide (a ≠ b))) fz H s.heap s.toks S (fun _ h => h) ?_ h)
    simp only [Den]; congr 1
    by_cases h : a = b <;> simp [h, bne]
def V.isNone : V → Bool
  | .none => true
  | _ => false
def V.sure : V → Bool
  | .raw _ => false
  | _ => true
theorem den_isNone {fz : Led} {x : V} {v : Value} (D : Den fz x v) (hs : x.sure = true) : (v == .none) = x.isNone := by
  cases x with
  | none => simp only [Den] at D; subst D; rfl
  | bool b => simp only [Den] at D; subst D; rfl
  | int i => simp only [Den] at D; obtain ⟨t, rfl⟩ := D; rfl
  | ptr a => simp only [Den] at D; subst D; rfl
  | raw u => simp [V.sure] at hs
  | tup l => simp only [Den] at D; obtain ⟨a, vs, n, rfl, _⟩ := D; rfl
  | lst l => simp only [Den] at D; obtain ⟨a, vs, n, rfl, _⟩ := D; rfl
  | obj C ns l => simp only [Den] at D; obtain ⟨a, d, es, n, rfl, _⟩ := D; rfl
  | rng a b => simp only [Den] at D; obtain ⟨r, t, u, c, rfl, _⟩ := D; rfl
theorem OP2.isN {x : V} {Q : V → AH → Prop} (hs : x.sure = true) (h : Q (.bool x.isNone) H) : OP2 prog w K d (compareOp .Is) x .none H Q :=
  fun sc cl env A fr h₀ L m fz s va vb C S D1 D2 Q' k => by
    simp only [Den] at D2; subst D2
    refine is_none (k _ (.bool x.isNone) fz H s.heap s.toks S (fun _ h => h) ?_ h)
    simp only [Den]; rw [den_isNone D1 hs]
theorem OP2.isnN {x : V} {Q : V → AH → Prop} (hs : x.sure = true) (h : Q (.bool (!x.isNone)) H) : OP2 prog w K d (compareOp .IsNot) x .none H Q :=
  fun sc cl env A fr h₀ L m fz s va vb C S D1 D2 Q' k => by
    simp only [Den] at D2; subst D2
    refine isNot_none (k _ (.bool (!x.isNone)) fz H s.heap s.toks S (fun _ h => h) ?_ h)
    simp only [Den]; rw [den_isNone D1 hs]

-- arguments
theorem ARGS.nil {Q : List V → AH → Prop} (h : Q [] H) : ARGS prog w K d sc cl [] ρ H Q :=
  fun env A fr h₀ L m fz s pos C S LO Q' k => spliced_nil (k [] [] fz H s.heap s.toks S (fun _ h => h) DenL.nil h)
theorem ARGS.cons {e : Expr} {r : List Expr} {Q : List V → AH → Prop} (he : ∀ env, starEach (e :: r) env = (false, eval e env) :: starEach r env)
    (h : EV prog w K d sc cl e ρ H (fun x H1 => ARGS prog w K d sc cl r ρ H1 (fun xs H2 => Q (x :: xs) H2))) : ARGS prog w K d sc cl (e :: r) ρ H Q :=
  fun env A fr h₀ L m fz s pos C S LO Q' k => by
    rw [he env]
    show wpAny _ _ (spliced ((false, eval e env) :: backTo pos (starEach r env))) _ _ _
    exact spliced_cons (h env A fr h₀ L m fz s C S LO _ fun v x fz1 H1 h1 t1 S1 s1 D1 q1 =>
      q1 env A fr h₀ L m fz1 _ pos C S1 (LO.mono s1) _ fun vs xs fz2 H2 h2 t2 S2 s2 D2 q2 =>
        k (v :: vs) (x :: xs) fz2 H2 h2 t2 S2 (fun p hp => s2 _ (s1 _ hp)) (DenL.cons (D1.mono s2) D2) q2)

-- displays
theorem EV.tuple {es : List Expr} {k : Nat} {p : Pos} {Q : V → AH → Prop} (h : ARGS prog w K d sc cl es ρ H (fun xs H1 => xs.length ≤ 1000 ∧ Q (.tup xs) H1)) : EV prog w K d sc cl (.Tuple es k p) ρ H Q :=
  fun env A fr h₀ L m fz s C S LO Q' k => Tuple_ (h env A fr h₀ L m fz s p C S LO _ fun vs xs fz1 H1 h1 t1 S1 s1 D1 q1 => by
    obtain ⟨F, mt, δ, N, nd, R⟩ := S1
    refine newTuple_N F N (fun h' F' N' => ?_) ?_
    · have S' := St.frozen F' N' (keys_lt N) nd R
      refine k _ (.tup xs) _ H1 h' t1 S' (fun p hp => .tail _ (s1 _ hp)) ?_ q1.2
      simp only [Den]
      exact ⟨_, vs, 0, rfl, .head _, D1.mono fun p hp => .tail _ hp⟩
    · rw [D1.length, sizeLine_eq]; have := q1.1; omega)
theorem EV.listF {es : List Expr} {p : Pos} {Q : V → AH → Prop} (h : ARGS prog w K d sc cl es ρ H (fun xs H1 => xs.length ≤ 1000 ∧ Q (.lst xs) H1)) : EV prog w K d sc cl (.List es p) ρ H Q :=
  fun env A fr h₀ L m fz s C S LO Q' k => List_ (h env A fr h₀ L m fz s p C S LO _ fun vs xs fz1 H1 h1 t1 S1 s1 D1 q1 => by
    obtain ⟨F, mt, δ, N, nd, R⟩ := S1
    refine newList_N F N (fun h' F' N' => ?_) ?_
    · have S' := St.frozen F' N' (keys_lt N) nd R
      refine k _ (.lst xs) _ H1 h' t1 S' (fun p hp => .tail _ (s1 _ hp)) ?_ q1.2
      simp only [Den]
      exact ⟨_, vs, 0, rfl, .head _, D1.mono fun p hp => .tail _ hp⟩
    · rw [D1.length, sizeLine_eq]; have := q1.1; omega)
theorem EV.listM {es : List Expr} {p : Pos} {Q : V → AH → Prop} (h : ARGS prog w K d sc cl es ρ H (fun xs H1 => xs.length ≤ 1000 ∧ ∀ a, H1 a = none → Q (.ptr a) (upd H1 a (some (.lst xs))))) : EV prog w K d sc cl (.List es p) ρ H Q :=
  fun env A fr h₀ L m fz s C S LO Q' k => List_ (h env A fr h₀ L m fz s p C S LO _ fun vs xs fz1 H1 h1 t1 S1 s1 D1 q1 => by
    obtain ⟨F, mt, δ, N, nd, R⟩ := S1
    refine newList_N F N (fun h' F' N' => ?_) ?_
    · have S' := St.newL F' N' (keys_lt N) nd R D1
      refine k _ (.ptr _) _ _ h' t1 S' (fun p hp => s1 _ hp) ?_ (q1.2 _ (R.fresh (fun p hp => keys_lt N p (List.mem_append_right _ hp))))
      simp only [Den]
    · rw [D1.length, sizeLine_eq]; have := q1.1; omega)
end
-- R3

def noStar (es : List Expr) : Bool := es.all (fun e => !isStarred e)
theorem star_cons {env : Env} {e : Expr} {r : List Expr} (h : isStarred e = false) : starEach (e :: r) env = (false, eval e env) :: starEach r env := by
  cases e <;> first | rfl | cases h
theorem starEach_eq {env : Env} : ∀ {es : List Expr}, noStar es = true → starEach es env = es.map (fun e => (false, eval e env))
  | [], _ => rfl
  | e :: r, h => by
    unfold noStar at h
    rw [List.all_cons, Bool.and_eq_true, Bool.not_eq_true'] at h
    rw [List.map_cons, ← starEach_eq (es := r) h.2]
    exact star_cons h.1
theorem noStar_any {env : Env} {es : List Expr} {pos : Pos} (h : noStar es = true) : (backTo pos (starEach es env)).any (·.1) = false := by
  rw [starEach_eq h]
  unfold backTo
  rw [List.map_map]
  clear h
  induction es with
  | nil => rfl
  | cons e r ih => rw [List.map_cons, List.any_cons, ih]; rfl

def callable (K : Frag) : Value → Prop
  | .ref a => keepIn K (.ref a) = true
  | .builtin _ => True
  | .type _ => True
  | _ => False

def CALLV (prog : Program) (w : World) (K : Frag) (d : Nat) (f : Value) (xs : List V) (H : AH) (Q : V → AH → Prop) : Prop :=
  ∀ sc cl env A fr h₀ L m fz s vals, CX K d sc cl env A h₀ L → St fr h₀ L m fz H s.heap → DenL fz xs vals → WV prog w A fr h₀ L m fz s (call f vals) Q

section
variable {prog : Program} {w : World} {K : Frag} {d : Nat} {sc : Scope} {cl : List (Str × Addr)} {ρ : Rho} {H : AH}

theorem CALL.v {d' : Nat} {f : Value} {xs : List V} {Q : V → AH → Prop} (h : CALL prog w K d' f xs H Q) (hd : d' ≤ d) : CALLV prog w K d f xs H Q :=
  fun sc cl env A fr h₀ L m fz s vals C S D => (h.up hd).wv C S D

theorem ARGS.cons' {e : Expr} {r : List Expr} {Q : List V → AH → Prop} (he : isStarred e = false)
    (h : EV prog w K d sc cl e ρ H (fun x H1 => ARGS prog w K d sc cl r ρ H1 (fun xs H2 => Q (x :: xs) H2))) : ARGS prog w K d sc cl (e :: r) ρ H Q := ARGS.cons (fun _ => star_cons he) h

theorem callWith_any {A : Around} {fr : Led} {h₀ : Heap} {L : Addr} {m : Str → Option Value} {fz : Led} {s : Shared} {env : Env} {pos : Pos} {u : Value} {x : List V} {first : List Value} {e : Expr} {r : List Expr} {Q : V → AH → Prop}
    (hn : noStar (e :: r) = true) (hu : callable K u) (C : CX K d sc cl env A h₀ L) (S : St fr h₀ L m fz H s.heap) (LO : Loc sc cl fr fz m ρ) (D : DenL fz x first)
    (h : ARGS prog w K d sc cl (e :: r) ρ H (fun xs H2 => CALLV prog w K d u (x ++ xs) H2 Q)) : WV prog w A fr h₀ L m fz s (callWith pos u first (backTo pos (starEach (e :: r) env)) []) Q := by
  intro Q' k
  have key : wpAny (model prog w) A (spliced (backTo pos (starEach (e :: r) env))) (fun vs s₁ => K.In s₁.heap ∧ wpAny (model prog w) A (call u (first ++ vs)) Q' (fun _ _ => False) s₁) (fun _ _ => False) s :=
    h env A fr h₀ L m fz s pos C S LO _ fun vs xs fz1 H1 h1 t1 S1 s1 D1 q1 => ⟨C.KX.keeps S1.frm.keep, q1 sc cl env A fr h₀ L m fz1 _ _ C S1 ((D.mono s1).app D1) _ fun v y fz2 H2 h2 t2 S2 s2 D2 q2 => k v y fz2 H2 h2 t2 S2 (fun p hp => s2 _ (s1 _ hp)) D2 q2⟩
  have hn2 : isStarred e = false ∧ noStar r = true := by unfold noStar at hn ⊢; rw [List.all_cons, Bool.and_eq_true, Bool.not_eq_true'] at hn; exact hn
  have hs := star_cons (env := env) (r := r) hn2.1
  have key2 : wpAny (model prog w) A (spliced (backTo pos (starEach (e :: r) env))) (fun vs s₁ => wpAny (model prog w) A (call u (first ++ vs)) Q' (fun _ _ => False) s₁) (fun _ _ => False) s := wpAny_mono key (fun _ _ x => x.2) fun _ _ x => x
  cases u with
  | ref a => exact callWith_K (_X := C.KX) hu key hs (noStar_any hn2.2)
  | builtin id =>
    rw [hs] at key2 ⊢
    exact callWith_builtin (by show (false || (backTo pos (starEach r env)).any (·.1)) = false; rw [noStar_any hn2.2]; rfl) (evalArgs_plain key2)
  | type T =>
    rw [hs] at key2 ⊢
    exact PySem.callWith_type (by show (false || (backTo pos (starEach r env)).any (·.1)) = false; rw [noStar_any hn2.2]; rfl) (evalArgs_plain key2)
  | _ => exact hu.elim
theorem callWith_none {A : Around} {fr : Led} {h₀ : Heap} {L : Addr} {m : Str → Option Value} {fz : Led} {s : Shared} {env : Env} {pos : Pos} {u : Value} {x : List V} {first : List Value} {Q : V → AH → Prop}
    (hu : callable K u) (C : CX K d sc cl env A h₀ L) (S : St fr h₀ L m fz H s.heap) (D : DenL fz x first)
    (h : CALLV prog w K d u x H Q) : WV prog w A fr h₀ L m fz s (callWith pos u first (backTo pos (starEach [] env)) []) Q := by
  intro Q' k
  have key : wpAny (model prog w) A (call u (first ++ [])) Q' (fun _ _ => False) s := by
    rw [List.append_nil]
    exact h sc cl env A fr h₀ L m fz _ _ C S D _ k
  cases u with
  | ref a => exact callWith_K0 (C.KX.keeps S.frm.keep) hu key
  | builtin id => exact callWith_builtin rfl (evalArgs_nil3 key)
  | type T => exact PySem.callWith_type rfl (evalArgs_nil3 key)
  | _ => exact hu.elim

-- calls
theorem EV.call {func e : Expr} {r : List Expr} {p : Pos} {Q : V → AH → Prop} (hn : noStar (e :: r) = true)
    (he : ∀ env, eval (.Call func (e :: r) [] p) env = (do callWith p (← eval func env) [] (backTo p (starEach (e :: r) env)) (backToKw p (keywordEach [] env))))
    (h : EV prog w K d sc cl func ρ H (fun x H1 => ∃ u, x = .raw u ∧ callable K u ∧ ARGS prog w K d sc cl (e :: r) ρ H1 (fun xs H2 => CALLV prog w K d u xs H2 Q))) : EV prog w K d sc cl (.Call func (e :: r) [] p) ρ H Q :=
  fun env A fr h₀ L m fz s C S LO Q' k => Call_ (he := he env) (h env A fr h₀ L m fz s C S LO _ fun v x fz1 H1 h1 t1 S1 s1 D1 q1 => by
    obtain ⟨u, rfl, hu, q⟩ := q1
    simp only [Den] at D1; subst D1
    exact callWith_any (x := []) hn hu C S1 (LO.mono s1) DenL.nil q _ fun v x fz2 H2 h2 t2 S2 s2 D2 q2 => k v x fz2 H2 h2 t2 S2 (fun p hp => s2 _ (s1 _ hp)) D2 q2)
theorem EV.call0 {func : Expr} {p : Pos} {Q : V → AH → Prop}
    (he : ∀ env, eval (.Call func [] [] p) env = (do callWith p (← eval func env) [] (backTo p (starEach [] env)) (backToKw p (keywordEach [] env))))
    (h : EV prog w K d sc cl func ρ H (fun x H1 => ∃ u, x = .raw u ∧ callable K u ∧ CALLV prog w K d u [] H1 Q)) : EV prog w K d sc cl (.Call func [] [] p) ρ H Q :=
  fun env A fr h₀ L m fz s C S LO Q' k => Call_ (he := he env) (h env A fr h₀ L m fz s C S LO _ fun v x fz1 H1 h1 t1 S1 s1 D1 q1 => by
    obtain ⟨u, rfl, hu, q⟩ := q1
    simp only [Den] at D1; subst D1
    exact callWith_none hu C S1 DenL.nil q _ fun v x fz2 H2 h2 t2 S2 s2 D2 q2 => k v x fz2 H2 h2 t2 S2 (fun p hp => s2 _ (s1 _ hp)) D2 q2)

-- instances
def InstV (H : AH) (x : V) (C : Addr) (ns : List Str) (l : List V) : Prop := x = .obj C ns l ∨ ∃ a, x = .ptr a ∧ H a = some (.obj C ns l)
def fld : List Str → List V → Str → Option V
  | n :: ns, v :: l, x => if n = x then some v else fld ns l x
  | _, _, _ => none
theorem fld_get {fz : Led} {x : Str} {v : V} : ∀ {es : List DictEntry} {ns : List Str} {l : List V}, KeysAre es ns → DenL fz l (es.map (·.val)) → fld ns l x = some v → ∃ u, getL x es = some (some u) ∧ Den fz v u
  | [], ns, l, hk, hd, h => by simp only [KeysAre] at hk; subst hk; simp [fld] at h
  | e :: es, ns, l, hk, hd, h => by
    simp only [KeysAre] at hk
    obtain ⟨n, ns', rfl, ⟨t, et⟩, hk'⟩ := hk
    cases l with
    | nil => simp [fld] at h
    | cons y l =>
      rw [List.map_cons] at hd
      simp only [DenL] at hd
      obtain ⟨u, us, eu, hu, hl⟩ := hd
      cases eu
      unfold fld at h
      by_cases q : n = x
      · rw [if_pos q] at h; cases h
        refine ⟨e.val, ?_, hu⟩
        unfold getL
        rw [List.find?_cons, et]
        simp [Value.isStr, q]
      · rw [if_neg q] at h
        obtain ⟨u', e1, e2⟩ := fld_get hk' hl h
        refine ⟨u', ?_, e2⟩
        unfold getL at e1 ⊢
        have e0 : e.key.isStr x = false := by rw [et]; simp [Value.isStr, q]
        have er : e.refKey = false := by simp [DictEntry.refKey, et]
        rw [List.find?_cons, e0, List.any_cons, er]
        simpa using e1
theorem fld_none {fz : Led} {x : Str} : ∀ {es : List DictEntry} {ns : List Str}, KeysAre es ns → x ∉ ns → getL x es = some none
  | [], ns, hk, h => rfl
  | e :: es, ns, hk, h => by
    simp only [KeysAre] at hk
    obtain ⟨n, ns', rfl, ⟨t, et⟩, hk'⟩ := hk
    have h1 : n ≠ x := fun q => h (by rw [q]; exact .head _)
    have ih := fld_none (fz := fz) hk' (fun q => h (.tail _ q))
    unfold getL at ih ⊢
    have e0 : e.key.isStr x = false := by rw [et]; simp [Value.isStr, h1]
    have er : e.refKey = false := by simp [DictEntry.refKey, et]
    rw [List.find?_cons, e0, List.any_cons, er]
    simpa using ih
theorem InstV.at {fr : Led} {h₀ h : Heap} {L : Addr} {m : Str → Option Value} {fz : Led} {x : V} {v : Value} {C : Addr} {ns : List Str} {l : List V} (S : St fr h₀ L m fz H h) (D : Den fz x v) (I : InstV H x C ns l) :
    ∃ a dx es n, v = .ref a ∧ PySem.W.InstAt h a (instObj C dx) C (some (dictOf es n)) ∧ KeysAre es ns ∧ DenL fz l (es.map (·.val)) := by
  obtain ⟨F, mt, δ, N, nd, R⟩ := S
  rcases I with rfl | ⟨a, rfl, e⟩
  · simp only [Den] at D
    obtain ⟨a, dx, es, n, rfl, h1, h2, h3, h4⟩ := D
    exact ⟨a, dx, es, n, rfl, InstAt.of_news (sl := #[]) N (List.mem_append_left _ (List.mem_append_left _ h1)) (List.mem_append_left _ (List.mem_append_left _ h2)), h3, h4⟩
  · simp only [Den] at D; subst D
    obtain ⟨es, n, h1, h2, h3, h4⟩ := R.at_ a _ e
    exact ⟨a, δ a, es, n, rfl, InstAt.of_news (sl := #[]) N (List.mem_append_right _ h1) (List.mem_append_right _ h2), h3, h4⟩

theorem EV.attr {o : Expr} {attr : Str} {p : Pos} {Q : V → AH → Prop}
    (he : ∀ env, eval (.Attribute o attr p) env = (do let ov ← eval o env; standAt p.atName; let r ← holding [ov] (getAttr ov attr true); letTemporaryGo o ov r; pure r))
    (h : EV prog w K d sc cl o ρ H (fun x H1 => ∃ C ns l v, InstV H1 x C ns l ∧ fld ns l attr = some v ∧ (plainGet K C attr = true ∧ hasDictIn K C = true ∧ findIn K (.ref C) attr = some none) ∧ v.sure = true ∧ Q v H1)) : EV prog w K d sc cl (.Attribute o attr p) ρ H Q :=
  fun env A fr h₀ L m fz s CC S LO Q' k => Attribute_any_ (he := he env) (h env A fr h₀ L m fz s CC S LO _ fun u x fz1 H1 h1 t1 S1 s1 D1 q1 => by
    obtain ⟨C, ns, l, v, I, hf, ⟨g1, g2, g3⟩, hs, q⟩ := q1
    obtain ⟨a, dx, es, n, rfl, IA, hk, hl⟩ := I.at S1 D1
    obtain ⟨y, e1, e2⟩ := fld_get hk hl hf
    refine get_own S1.frm CC.KX IA g1 g2 g3 rfl e1 ?_ (k y v fz1 H1 _ _ S1 s1 e2 q)
    cases v <;> simp only [Den] at e2 <;> first | (subst e2; rfl) | (obtain ⟨_, rfl⟩ := e2; rfl) | (obtain ⟨_, _, _, rfl, _⟩ := e2; rfl) | (obtain ⟨_, _, _, _, rfl, _⟩ := e2; rfl) | (simp [V.sure] at hs))

theorem EV.meth {o e : Expr} {r : List Expr} {name : Str} {ap p : Pos} {Q : V → AH → Prop} (hn : noStar (e :: r) = true)
    (he : ∀ env, eval (.Call (.Attribute o name ap) (e :: r) [] p) env = (do let ov ← eval o env; standAt ap.atName; let x ← holding [ov] (getMethod ov name (do return (← importBound o env).getD true)); match x with | (f, first) => callWith p f first (backTo p (starEach (e :: r) env)) []))
    (h : EV prog w K d sc cl o ρ H (fun x H1 => ∃ C ns l f, InstV H1 x C ns l ∧ (name ∉ ns) ∧ (plainGet K C name = true ∧ findIn K (.ref C) name = some (some (.ref f)) ∧ isFn K (.ref f) = true ∧ keepIn K (.ref f) = true) ∧
      ARGS prog w K d sc cl (e :: r) ρ H1 (fun xs H2 => CALLV prog w K d (.ref f) (x :: xs) H2 Q))) : EV prog w K d sc cl (.Call (.Attribute o name ap) (e :: r) [] p) ρ H Q :=
  fun env A fr h₀ L m fz s CC S LO Q' k => MethodCall_ (he := he env) (h env A fr h₀ L m fz s CC S LO _ fun u x fz1 H1 h1 t1 S1 s1 D1 q1 => by
    obtain ⟨C, ns, l, f, I, hx, ⟨g1, g2, g3, g4⟩, q⟩ := q1
    obtain ⟨a, dx, es, n, rfl, IA, hk, hl⟩ := I.at S1 D1
    refine method_inst S1.frm CC.KX IA g1 g2 g3 (fld_none (fz := fz) hk hx) ?_
    exact callWith_any (x := [x]) hn (show callable K (.ref f) from g4) CC S1 (LO.mono s1) (DenL.cons D1 DenL.nil) q _ fun v x fz2 H2 h2 t2 S2 s2 D2 q2 => k v x fz2 H2 h2 t2 S2 (fun p hp => s2 _ (s1 _ hp)) D2 q2)
theorem EV.meth0 {o : Expr} {name : Str} {ap p : Pos} {Q : V → AH → Prop}
    (he : ∀ env, eval (.Call (.Attribute o name ap) [] [] p) env = (do let ov ← eval o env; standAt ap.atName; let x ← holding [ov] (getMethod ov name (do return (← importBound o env).getD true)); match x with | (f, first) => callWith p f first (backTo p (starEach [] env)) []))
    (h : EV prog w K d sc cl o ρ H (fun x H1 => ∃ C ns l f, InstV H1 x C ns l ∧ (name ∉ ns) ∧ (plainGet K C name = true ∧ findIn K (.ref C) name = some (some (.ref f)) ∧ isFn K (.ref f) = true ∧ keepIn K (.ref f) = true) ∧
      CALLV prog w K d (.ref f) [x] H1 Q)) : EV prog w K d sc cl (.Call (.Attribute o name ap) [] [] p) ρ H Q :=
  fun env A fr h₀ L m fz s CC S LO Q' k => MethodCall_ (he := he env) (h env A fr h₀ L m fz s CC S LO _ fun u x fz1 H1 h1 t1 S1 s1 D1 q1 => by
    obtain ⟨C, ns, l, f, I, hx, ⟨g1, g2, g3, g4⟩, q⟩ := q1
    obtain ⟨a, dx, es, n, rfl, IA, hk, hl⟩ := I.at S1 D1
    refine method_inst S1.frm CC.KX IA g1 g2 g3 (fld_none (fz := fz) hk hx) ?_
    exact callWith_none (x := [x]) (show callable K (.ref f) from g4) CC S1 (DenL.cons D1 DenL.nil) q _ fun v x fz2 H2 h2 t2 S2 s2 D2 q2 => k v x fz2 H2 h2 t2 S2 (fun p hp => s2 _ (s1 _ hp)) D2 q2)

-- list methods on a list that may turn
theorem St.listAt {fr : Led} {h₀ h : Heap} {L : Addr} {m : Str → Option Value} {fz : Led} {a : Addr} {l : List V} (S : St fr h₀ L m fz H h) (e : H a = some (.lst l)) :
    ∃ vs n, h.get? a = some (lstOf vs n) ∧ DenL fz l vs := by
  obtain ⟨F, mt, δ, N, nd, R⟩ := S
  obtain ⟨vs, n, h1, h2⟩ := R.at_ a _ e
  exact ⟨vs, n, (N _ (List.mem_append_right _ h1)).1, h2⟩
theorem EV.append {o e : Expr} {ap p : Pos} {Q : V → AH → Prop} (hn : isStarred e = false)
    (he : ∀ env, eval (.Call (.Attribute o (Str.ofString "append") ap) [e] [] p) env = (do let ov ← eval o env; standAt ap.atName; let x ← holding [ov] (getMethod ov (Str.ofString "append") (do return (← importBound o env).getD true)); match x with | (f, first) => callWith p f first (backTo p (starEach [e] env)) []))
    (h : EV prog w K d sc cl o ρ H (fun x H1 => ∃ a l₀, x = .ptr a ∧ H1 a = some (.lst l₀) ∧ EV prog w K d sc cl e ρ H1 (fun y H2 => ∃ l, H2 a = some (.lst l) ∧ l.length ≤ 1000 ∧ Q .none (upd H2 a (some (.lst (l ++ [y]))))))) :
    EV prog w K d sc cl (.Call (.Attribute o (Str.ofString "append") ap) [e] [] p) ρ H Q :=
  fun env A fr h₀ L m fz s CC S LO Q' k => MethodCall_ (he := he env) (h env A fr h₀ L m fz s CC S LO _ fun u x fz1 H1 h1 t1 S1 s1 D1 q1 => by
    obtain ⟨a, l₀, rfl, ha, q⟩ := q1
    simp only [Den] at D1; subst D1
    obtain ⟨vs, n, hg, _⟩ := S1.listAt ha
    refine getMethod_list_append hg rfl rfl ?_
    have hs := star_cons (env := env) (r := []) hn
    dsimp only
    rw [hs]
    refine callWith_builtin rfl (evalArgs_plain (spliced_cons (q env A fr h₀ L m fz1 _ CC S1 (LO.mono s1) _ fun v y fz2 H2 h2 t2 S2 s2 D2 q2 => spliced_nil ?_)))
    obtain ⟨l, e2, hl, q3⟩ := q2
    obtain ⟨F, mt, δ, N, nd, R⟩ := S2
    obtain ⟨vs, n, k1, k2⟩ := R.at_ a _ e2
    have k1' : (a, lstOf vs n) ∈ (fz2 ++ fr) ++ mt := List.mem_append_right _ k1
    refine append_K F N (upd_rep nd k1') (fun h' F' N' => ?_) ?_
    · refine k _ .none fz2 _ h' t2 (St.setL (vs' := vs ++ [v]) (n' := n + 1) F' ?_ nd R k1 e2 (k2.app (DenL.cons D2 DenL.nil))) (fun p hp => s2 _ (s1 _ hp)) den_none q3
      have : ((vs ++ [v]).toArray : Array Value) = vs.toArray.push v := by simp
      unfold lstOf
      rw [this]; exact N'
    · rw [List.size_toArray, k2.length, sizeLine_eq]; omega)
theorem rep_mid {d : Addr} {o o' : Obj} {l l' : Led} (h1 : ∀ p ∈ l, p.1 ≠ d) (h2 : ∀ p ∈ l', p.1 ≠ d) : rep d o' (l ++ (d, o) :: l') = l ++ (d, o') :: l' := by
  rw [rep_app, rep_not h1]
  show l ++ (if d = d then (d, o') else (d, o)) :: rep d o' l' = _
  rw [if_pos rfl, rep_not h2]
theorem EV.extend {o e : Expr} {ap p : Pos} {Q : V → AH → Prop} (hn : isStarred e = false)
    (he : ∀ env, eval (.Call (.Attribute o (Str.ofString "extend") ap) [e] [] p) env = (do let ov ← eval o env; standAt ap.atName; let x ← holding [ov] (getMethod ov (Str.ofString "extend") (do return (← importBound o env).getD true)); match x with | (f, first) => callWith p f first (backTo p (starEach [e] env)) []))
    (h : EV prog w K d sc cl o ρ H (fun x H1 => ∃ a l₀, x = .ptr a ∧ H1 a = some (.lst l₀) ∧ EV prog w K d sc cl e ρ H1 (fun y H2 => ∃ l l', y = .lst l' ∧ H2 a = some (.lst l) ∧ l.length + l'.length ≤ 1000 ∧ Q .none (upd H2 a (some (.lst (l ++ l'))))))) :
    EV prog w K d sc cl (.Call (.Attribute o (Str.ofString "extend") ap) [e] [] p) ρ H Q :=
  fun env A fr h₀ L m fz s CC S LO Q' k => MethodCall_ (he := he env) (h env A fr h₀ L m fz s CC S LO _ fun u x fz1 H1 h1 t1 S1 s1 D1 q1 => by
    obtain ⟨a, l₀, rfl, ha, q⟩ := q1
    simp only [Den] at D1; subst D1
    obtain ⟨vs, n, hg, _⟩ := S1.listAt ha
    refine getMethod_list_of PySem.F.slot_list_extend PySem.F.type_list_extend (items := vs.toArray) ⟨_, hg, rfl, n, rfl⟩ ?_ ?_
    · exact ⟨_, hg, rfl⟩
    have hs := star_cons (env := env) (r := []) hn
    dsimp only
    rw [hs]
    refine callWith_builtin rfl (evalArgs_plain (spliced_cons (q env A fr h₀ L m fz1 _ CC S1 (LO.mono s1) _ fun v y fz2 H2 h2 t2 S2 s2 D2 q2 => spliced_nil ?_)))
    obtain ⟨l, l', rfl, e2, hl, q3⟩ := q2
    obtain ⟨F, mt, δ, N, nd, R⟩ := S2
    obtain ⟨vs, n, k1, k2⟩ := R.at_ a _ e2
    simp only [Den] at D2
    obtain ⟨b, ws, n2, rfl, hb, Dw⟩ := D2
    have k1' : (a, lstOf vs n) ∈ (fz2 ++ fr) ++ mt := List.mem_append_right _ k1
    obtain ⟨own, rest, e1, _, hown, hrest⟩ := (upd_rep (o' := lstOf [] 0) nd k1').split
    have hbg := (N _ (List.mem_append_left _ (List.mem_append_left _ hb))).1
    have Nx := N
    rw [e1] at Nx
    refine extend_in (own := own) (rest := rest) F Nx hown hrest hbg (fun h' n' F' N' => ?_) ?_
    · refine k _ .none fz2 _ h' t2 (St.setL (vs' := vs ++ ws) (n' := n') F' ?_ nd R k1 e2 (k2.app Dw)) (fun p hp => s2 _ (s1 _ hp)) den_none q3
      rw [e1, rep_mid hown hrest]
      have : ws.toArray.toList = ws := by simp
      rw [this] at N'
      exact N'
    · rw [List.size_toArray, k2.length, Dw.length, sizeLine_eq]; omega)
end
-- R4

section
variable {prog : Program} {w : World} {K : Frag} {d : Nat} {sc : Scope} {cl : List (Str × Addr)} {ρ : Rho} {H : AH}

-- blocks
theorem SS.nil {Q : Fl → Rho → AH → Prop} (h : Q .next ρ H) : SS prog w K d sc cl [] ρ H Q :=
  fun env A fr h₀ L m fz s C S LO Q' k => wpAny_execs_nil (k .next .next ρ m fz H _ _ S (fun _ h => h) LO (by simp only [FDen]) h)
theorem SS.cons {st : Stmt} {r : List Stmt} {Q : Fl → Rho → AH → Prop} (h : S1 prog w K d sc cl st ρ H (fun F ρ' H' => match F with | .next => SS prog w K d sc cl r ρ' H' Q | F => Q F ρ' H')) : SS prog w K d sc cl (st :: r) ρ H Q :=
  fun env A fr h₀ L m fz s C S LO Q' k => wpAny_execs_cons (h env A fr h₀ L m fz s C S LO _ fun f F ρ1 m1 fz1 H1 h1 t1 S1 s1 L1 D1 q1 => by
    cases F with
    | next =>
      simp only [FDen] at D1; subst D1
      exact q1 env A fr h₀ L m1 fz1 _ C S1 L1 _ fun f F ρ2 m2 fz2 H2 h2 t2 S2 s2 L2 D2 q2 => k f F ρ2 m2 fz2 H2 h2 t2 S2 (fun p hp => s2 _ (s1 _ hp)) L2 D2 q2
    | brk => simp only [FDen] at D1; subst D1; exact k _ .brk ρ1 m1 fz1 H1 h1 t1 S1 s1 L1 (by simp only [FDen]) q1
    | cont => simp only [FDen] at D1; subst D1; exact k _ .cont ρ1 m1 fz1 H1 h1 t1 S1 s1 L1 (by simp only [FDen]) q1
    | ret v =>
      have D1' := D1
      simp only [FDen] at D1; obtain ⟨u, rfl, _⟩ := D1
      exact k _ (.ret v) ρ1 m1 fz1 H1 h1 t1 S1 s1 L1 D1' q1)
theorem S1.mono {st : Stmt} {Q Q' : Fl → Rho → AH → Prop} (h : S1 prog w K d sc cl st ρ H Q) (hq : ∀ F ρ H, Q F ρ H → Q' F ρ H) : S1 prog w K d sc cl st ρ H Q' :=
  fun env A fr h₀ L m fz s C S LO R k => h env A fr h₀ L m fz s C S LO R fun f F ρ1 m1 fz1 H1 h1 t1 a b c e q => k f F ρ1 m1 fz1 H1 h1 t1 a b c e (hq _ _ _ q)
theorem SS.mono {st : List Stmt} {Q Q' : Fl → Rho → AH → Prop} (h : SS prog w K d sc cl st ρ H Q) (hq : ∀ F ρ H, Q F ρ H → Q' F ρ H) : SS prog w K d sc cl st ρ H Q' :=
  fun env A fr h₀ L m fz s C S LO R k => h env A fr h₀ L m fz s C S LO R fun f F ρ1 m1 fz1 H1 h1 t1 a b c e q => k f F ρ1 m1 fz1 H1 h1 t1 a b c e (hq _ _ _ q)
/-- less said of the state -/
theorem SS.less {ss : List Stmt} {ρ' : Rho} {H' : AH} {Q : Fl → Rho → AH → Prop} (ha : Agree ρ ρ') (hh : ∀ a o, H' a = some o → H a = some o) (h : SS prog w K d sc cl ss ρ' H' Q) : SS prog w K d sc cl ss ρ H Q :=
  fun env A fr h₀ L m fz s C S LO Q' k => h env A fr h₀ L m fz s C (S.weaken hh) (LO.agree ha) Q' k

theorem S1.ret {e : Expr} {p : Pos} {Q : Fl → Rho → AH → Prop} (h : EV prog w K d sc cl e ρ H (fun x H1 => Q (.ret x) ρ H1)) : S1 prog w K d sc cl (.Return (some e) p) ρ H Q :=
  fun env A fr h₀ L m fz s C S LO Q' k => wpAny_Return_some (h env A fr h₀ L m fz s C S LO.e _ fun v x fz1 H1 h1 t1 S1 s1 D1 q1 => k _ (.ret x) ρ m fz1 H1 h1 t1 S1 s1 (LO.mono s1) (by simp only [FDen]; exact ⟨v, rfl, D1⟩) q1)
theorem S1.expr {e : Expr} {p : Pos} {Q : Fl → Rho → AH → Prop} (hs : ∀ env, swapsWith e none p.line env = pure false) (h : EV prog w K d sc cl e ρ H (fun x H1 => x = .none ∧ Q .next ρ H1)) : S1 prog w K d sc cl (.Expr e p) ρ H Q :=
  fun env A fr h₀ L m fz s C S LO Q' k => wpAny_Expr (h env A fr h₀ L m fz s C S LO.e _ fun v x fz1 H1 h1 t1 S1 s1 D1 q1 => by
    obtain ⟨rfl, q⟩ := q1
    simp only [Den] at D1; subst D1
    exact k .next .next ρ m fz1 H1 h1 t1 S1 s1 (LO.mono s1) (by simp only [FDen]) q) (by
      have hk2 : env.scope.kind = .function := by
        rcases C.env_ with ⟨⟨cn, a, ccd, rfl⟩, _⟩ | ⟨_, _, z, _⟩
        · exact C.kind
        · exact z
      unfold interactive; rw [hk2]; rfl) (hs env)
theorem S1.ifs {t : Expr} {b o : List Stmt} {p : Pos} {Q : Fl → Rho → AH → Prop} (h : TS prog w K d sc cl t ρ H (fun c H1 => (c = true → SS prog w K d sc cl b ρ H1 Q) ∧ (c = false → SS prog w K d sc cl o ρ H1 Q))) : S1 prog w K d sc cl (.If t b o p) ρ H Q :=
  fun env A fr h₀ L m fz s C S LO Q' k => wpAny_If (h env A fr h₀ L m fz s C S LO.e _ fun c fz1 H1 h1 t1 S1 s1 q1 => by
    cases c with
    | true => exact q1.1 rfl env A fr h₀ L m fz1 _ C S1 (LO.mono s1) _ fun f F ρ2 m2 fz2 H2 h2 t2 S2 s2 L2 D2 q2 => k f F ρ2 m2 fz2 H2 h2 t2 S2 (fun p hp => s2 _ (s1 _ hp)) L2 D2 q2
    | false => exact q1.2 rfl env A fr h₀ L m fz1 _ C S1 (LO.mono s1) _ fun f F ρ2 m2 fz2 H2 h2 t2 S2 s2 L2 D2 q2 => k f F ρ2 m2 fz2 H2 h2 t2 S2 (fun p hp => s2 _ (s1 _ hp)) L2 D2 q2)

-- stores
theorem Loc.put {fz : Led} {m : Str → Option Value} {x : Str} {v : V} {u : Value} (LO : Loc sc cl [] fz m ρ) (hk : sc.names.lookup x = some .local) (D : Den fz v u) :
    Loc sc cl [] fz (fun y => if y = x then some u else m y) ((x, v) :: ρ) := fun y W e => by
  rw [List.lookup_cons] at e
  by_cases q : (y == x) = true
  · simp only [q] at e
    cases e
    have : y = x := eq_of_beq q
    subst this
    exact ⟨fun _ => ⟨u, by simp, D⟩, (fun k => by rw [hk] at k; cases k), (fun k => by rw [hk] at k; cases k)⟩
  · simp only [q] at e
    have ne : y ≠ x := fun z => q (by rw [z]; simp)
    obtain ⟨a, b⟩ := LO y W e
    refine ⟨fun k => ?_, b⟩
    obtain ⟨v', e1, e2⟩ := a k
    exact ⟨v', by simp [ne, e1], e2⟩
theorem store_loc {A : Around} {fr : Led} {h₀ : Heap} {L : Addr} {m : Str → Option Value} {fz : Led} {s : Shared} {env : Env} {x : Str} {v : V} {u : Value} {Q' : Unit → Shared → Prop}
    (hk : isLoc sc x = true) (C : CX K d sc cl env A h₀ L) (S : St fr h₀ L m fz H s.heap) (LO : Loc sc cl [] fz m ρ) (D : Den fz v u)
    (k : ∀ m' h' tk', St fr h₀ L m' fz H h' → Loc sc cl [] fz m' ((x, v) :: ρ) → Q' () { s with heap := h', toks := tk' }) : wpAny (model prog w) A (storeName env x u) Q' (fun _ _ => False) s := by
  simp only [isLoc, Bool.and_eq_true, decide_eq_true_eq, Bool.not_eq_true'] at hk
  rcases C.env_.symm with ⟨_, _, _, z, _⟩ | ⟨⟨cn, a, ccd, rfl⟩, _⟩
  · exact absurd hk.1 (z x)
  obtain ⟨F, mt, δ, N, nd, R⟩ := S
  exact storeX_L F N (fun h' F' N' => k _ h' _ ⟨F', mt, δ, N', nd, R⟩ (LO.put hk.1 D)) C.kind hk.1
theorem AS.name {x : Str} {p : Pos} {v : V} {Q : Rho → AH → Prop} (hk : isLoc sc x = true) (h : Q ((x, v) :: ρ) H) : AS prog w K d sc cl (.Name x p) v ρ H Q :=
  fun env A fr h₀ L m fz s u C S LO D Q' k => wpAny_assign_Name (store_loc hk C S LO D fun m' h' tk' S' L' => k _ m' fz H h' tk' S' (fun _ h => h) L' h)
theorem S1.assign {x : Str} {p p' : Pos} {e : Expr} {Q : Fl → Rho → AH → Prop} (hk : isLoc sc x = true) (hs : ∀ env, swapsWith e (some (.Name x p')) p.line env = pure false)
    (h : EV prog w K d sc cl e ρ H (fun v H1 => Q .next ((x, v) :: ρ) H1)) : S1 prog w K d sc cl (.Assign [.Name x p'] e p) ρ H Q :=
  fun env A fr h₀ L m fz s C S LO Q' k => wpAny_Assign_Name (hs := hs env) (h env A fr h₀ L m fz s C S LO.e _ fun u v fz1 H1 h1 t1 S1 s1 D1 q1 =>
    store_loc hk C S1 (LO.mono s1) D1 fun m' h' tk' S' L' => k _ .next _ m' fz1 H1 h' tk' S' s1 L' (by simp only [FDen]) q1)

-- a field's store
def putF (x : Str) (v : V) : List Str → List V → List Str × List V
  | n :: ns, y :: l => if n = x then (n :: ns, v :: l) else (n :: (putF x v ns l).1, y :: (putF x v ns l).2)
  | _, _ => ([x], [v])
theorem putL_says {fz : Led} {x : Str} {v : V} {u : Value} (D : Den fz v u) (hsh : Int) (t : Tok) : ∀ {es : List DictEntry} {ns : List Str} {l : List V}, KeysAre es ns → DenL fz l (es.map (·.val)) →
    KeysAre (putL x hsh (.str x t) u es) (putF x v ns l).1 ∧ DenL fz (putF x v ns l).2 ((putL x hsh (.str x t) u es).map (·.val)) ∧ (putL x hsh (.str x t) u es).length ≤ es.length + 1
  | [], ns, l, hk, hd => by
    simp only [KeysAre] at hk; subst hk
    have : l = [] := by
      cases l with
      | nil => rfl
      | cons a l => simp only [DenL] at hd; obtain ⟨_, _, h, _⟩ := hd; cases h
    subst this
    refine ⟨?_, ?_, by simp [putL]⟩
    · simp only [putL, putF, KeysAre]; exact ⟨x, [], rfl, ⟨t, rfl⟩, rfl⟩
    · simp only [putL, putF, List.map_cons, List.map_nil]; exact DenL.cons D DenL.nil
  | e :: es, ns, l, hk, hd => by
    simp only [KeysAre] at hk
    obtain ⟨n, ns', rfl, ⟨t', et⟩, hk'⟩ := hk
    cases l with
    | nil => simp only [DenL] at hd; cases hd
    | cons y l =>
      rw [List.map_cons] at hd
      simp only [DenL] at hd
      obtain ⟨u', us, eu, hu, hl⟩ := hd
      cases eu
      unfold putL putF
      by_cases q : n = x
      · subst q
        have : e.key.isStr n = true := by rw [et]; simp [Value.isStr]
        rw [if_pos this, if_pos rfl]
        refine ⟨?_, ?_, by simp⟩
        · simp only [KeysAre]; exact ⟨n, ns', rfl, ⟨t', et⟩, hk'⟩
        · rw [List.map_cons]; exact DenL.cons D hl
      · have : e.key.isStr x = false := by rw [et]; simp [Value.isStr, q]
        rw [if_neg (by rw [this]; decide), if_neg q]
        obtain ⟨a, b, c⟩ := putL_says D hsh t hk' hl
        refine ⟨?_, ?_, by simp; omega⟩
        · simp only [KeysAre]; exact ⟨n, _, rfl, ⟨t', et⟩, a⟩
        · rw [List.map_cons]; exact DenL.cons hu b
theorem KeysAre.length : ∀ {es : List DictEntry} {ns : List Str}, KeysAre es ns → es.length = ns.length
  | [], ns, h => by simp only [KeysAre] at h; subst h; rfl
  | e :: es, ns, h => by simp only [KeysAre] at h; obtain ⟨n, ns', rfl, _, h⟩ := h; simp [h.length]
theorem getL_some {x : Str} : ∀ {es : List DictEntry} {ns : List Str}, KeysAre es ns → (getL x es).isSome = true
  | [], ns, h => rfl
  | e :: es, ns, h => by
    simp only [KeysAre] at h
    obtain ⟨n, ns', rfl, ⟨t', et⟩, hk'⟩ := h
    have ih := getL_some (x := x) hk'
    unfold getL at ih ⊢
    have er : e.refKey = false := by simp [DictEntry.refKey, et]
    rw [List.find?_cons, List.any_cons, er]
    cases e.key.isStr x with
    | true => simp
    | false => simpa using ih

theorem set_fld {A : Around} {fr : Led} {h₀ : Heap} {L : Addr} {m : Str → Option Value} {fz : Led} {s : Shared} {env : Env} {a C : Addr} {x : Str} {v : V} {u : Value} {ns : List Str} {l : List V} {Q' : Unit → Shared → Prop}
    (CC : CX K d sc cl env A h₀ L) (S : St fr h₀ L m fz H s.heap) (D : Den fz v u) (e : H a = some (.obj C ns l)) (hz : ns.length ≤ 900)
    (g : findIn K (.ref C) "__setattr__" = some (some (.builtin "object.__setattr__")) ∧ plainOver K C = true ∧ takerIn K C x = some none ∧ hasDictIn K C = true)
    (k : ∀ h' tk', St fr h₀ L m fz (upd H a (some (.obj C (putF x v ns l).1 (putF x v ns l).2))) h' → Q' () { s with heap := h', toks := tk' }) : wpAny (model prog w) A (setAttr (.ref a) x u) Q' (fun _ _ => False) s := by
  obtain ⟨F, mt, δ, N, nd, R⟩ := S
  obtain ⟨es, n, h1, h2, h3, h4⟩ := R.at_ a _ e
  obtain ⟨g1, g2, g3, g4⟩ := g
  obtain ⟨p1, p2, p3⟩ := putL_says (x := x) D (PyData.keyHash w.params x) (s.toks + 1) h3 h4
  exact set_dict F CC.KX N (InstAt.of_news (sl := #[]) N (List.mem_append_right _ h1) (List.mem_append_right _ h2)) rfl g1 g2 g3 g4 (getL_some h3) rfl (upd_rep nd (List.mem_append_right _ h2))
    (by have := h3.length; omega) fun h' F' N' => k h' _ (St.setI F' N' nd R h1 h2 e p1 p2)
theorem S1.assignAttr {o e : Expr} {x : Str} {p p' : Pos} {Q : Fl → Rho → AH → Prop} (hs : ∀ env, swapsWith e (some (.Attribute o x p')) p.line env = pure false)
    (h : EV prog w K d sc cl e ρ H (fun v H1 => EV prog w K d sc cl o ρ H1 (fun y H2 => ∃ a C ns l, y = .ptr a ∧ H2 a = some (.obj C ns l) ∧ ns.length ≤ 900 ∧
      (findIn K (.ref C) "__setattr__" = some (some (.builtin "object.__setattr__")) ∧ plainOver K C = true ∧ takerIn K C x = some none ∧ hasDictIn K C = true) ∧ Q .next ρ (upd H2 a (some (.obj C (putF x v ns l).1 (putF x v ns l).2)))))) :
    S1 prog w K d sc cl (.Assign [.Attribute o x p'] e p) ρ H Q :=
  fun env A fr h₀ L m fz s CC S LO Q' k => plainObj_wpAny_Assign_Attribute (hs := hs env) (h env A fr h₀ L m fz s CC S LO.e _ fun u v fz1 H1 h1 t1 S1 s1 D1 q1 =>
    q1 env A fr h₀ L m fz1 _ CC S1 (LO.mono s1).e _ fun u2 y fz2 H2 h2 t2 S2 s2 D2 q2 => by
      obtain ⟨a, C, ns, l, rfl, e, hz, g, q⟩ := q2
      simp only [Den] at D2; subst D2
      exact set_fld CC S2 (D1.mono s2) e hz g fun h' tk' S' => k .next .next ρ m fz2 _ h' tk' S' (fun p hp => s2 _ (s1 _ hp)) (LO.mono fun p hp => s2 _ (s1 _ hp)) (by simp only [FDen]) q)
/-- an attribute as a target, its object a name -/
theorem AS.attr {o : Expr} {x : Str} {p : Pos} {v : V} {Q : Rho → AH → Prop}
    (h : EV prog w K d sc cl o ρ H (fun y H2 => ∃ a C ns l, y = .ptr a ∧ H2 a = some (.obj C ns l) ∧ ns.length ≤ 900 ∧
      (findIn K (.ref C) "__setattr__" = some (some (.builtin "object.__setattr__")) ∧ plainOver K C = true ∧ takerIn K C x = some none ∧ hasDictIn K C = true) ∧ Q ρ (upd H2 a (some (.obj C (putF x v ns l).1 (putF x v ns l).2))))) :
    AS prog w K d sc cl (.Attribute o x p) v ρ H Q :=
  fun env A fr h₀ L m fz s u CC S LO D Q' k => by
    show wpAny _ A (do
      let ov ← holding [u] (eval o env)
      standAt p.atName
      holding [u, ov] (setAttr ov x u)
      release [u, ov] []) Q' _ s
    refine wpAny_bind (wpAny_holding (h env A fr h₀ L m fz s CC S LO.e _ fun u2 y fz2 H2 h2 t2 S2 s2 D2 q2 => ?_))
    obtain ⟨a, C, ns, l, rfl, e, hz, g, q⟩ := q2
    simp only [Den] at D2; subst D2
    refine wpAny_bind (wpAny_standAt (wpAny_bind (wpAny_holding (set_fld CC S2 (D.mono s2) e hz g fun h' tk' S' => wpAny_release' ?_))))
    exact k ρ m fz2 _ h' tk' S' s2 (LO.mono s2) q

-- tuples taken apart
theorem tupAt {fr : Led} {h₀ h : Heap} {L : Addr} {m : Str → Option Value} {fz : Led} {v : Value} {l : List V} (S : St fr h₀ L m fz H h) (D : Den fz (.tup l) v) : ∃ a vs, v = .ref a ∧ IsTup h a (List.toArray vs) ∧ DenL fz l vs := by
  obtain ⟨F, mt, δ, N, nd, R⟩ := S
  simp only [Den] at D
  obtain ⟨a, vs, n, rfl, h1, h2⟩ := D
  exact ⟨a, vs, rfl, ⟨_, (N _ (List.mem_append_left _ (List.mem_append_left _ h1))).1, rfl, n, rfl⟩, h2⟩
theorem lstAt {fr : Led} {h₀ h : Heap} {L : Addr} {m : Str → Option Value} {fz : Led} {v : Value} {l : List V} (S : St fr h₀ L m fz H h) (D : Den fz (.lst l) v) : ∃ a vs n, v = .ref a ∧ h.get? a = some (lstOf vs n) ∧ DenL fz l vs := by
  obtain ⟨F, mt, δ, N, nd, R⟩ := S
  simp only [Den] at D
  obtain ⟨a, vs, n, rfl, h1, h2⟩ := D
  exact ⟨a, vs, n, rfl, (N _ (List.mem_append_left _ (List.mem_append_left _ h1))).1, h2⟩
/-- targets in order -/
def ASS (prog : Program) (w : World) (K : Frag) (d : Nat) (sc : Scope) (cl : List (Str × Addr)) : List Expr → List V → Rho → AH → (Rho → AH → Prop) → Prop
  | t :: ts, x :: xs, ρ, H, Q => AS prog w K d sc cl t x ρ H (fun ρ1 H1 => ASS prog w K d sc cl ts xs ρ1 H1 Q)
  | [], [], ρ, H, Q => Q ρ H
  | _, _, _, _, _ => False
theorem inOrder : ∀ {ts : List Expr} {xs : List V} {ρ : Rho} {H : AH} {Q : Rho → AH → Prop} {env : Env} {A : Around} {fr : Led} {h₀ : Heap} {L : Addr} {m : Str → Option Value} {fz : Led} {s : Shared} {vs : List Value} {Q' : Unit → Shared → Prop},
    CX K d sc cl env A h₀ L → St fr h₀ L m fz H s.heap → Loc sc cl [] fz m ρ → DenL fz xs vs → ASS prog w K d sc cl ts xs ρ H Q →
    (∀ ρ' m' fz' H' h' tk', St fr h₀ L m' fz' H' h' → (∀ p ∈ fz, p ∈ fz') → Loc sc cl [] fz' m' ρ' → Q ρ' H' → Q' () { s with heap := h', toks := tk' }) → wpAny (model prog w) A (assignInOrder (ts.map fun t => assign t env) vs) Q' (fun _ _ => False) s
  | [], [], ρ, H, Q, env, A, fr, h₀, L, m, fz, s, vs, Q', C, S, LO, D, q, k => by
    simp only [DenL] at D; subst D
    exact wpAny_pure (k ρ m fz H s.heap s.toks S (fun _ h => h) LO q)
  | t :: ts, x :: xs, ρ, H, Q, env, A, fr, h₀, L, m, fz, s, vs, Q', C, S, LO, D, q, k => by
    simp only [DenL] at D
    obtain ⟨v, vs', rfl, D1, D2⟩ := D
    show wpAny _ A (do holding vs' (assign t env v); assignInOrder (ts.map fun t => assign t env) vs') Q' _ s
    exact wpAny_bind (wpAny_holding (q env A fr h₀ L m fz s v C S LO D1 _ fun ρ1 m1 fz1 H1 h1 t1 S1 s1 L1 q1 => inOrder C S1 L1 (D2.mono s1) q1 fun ρ2 m2 fz2 H2 h2 t2 S2 s2 L2 q2 => k ρ2 m2 fz2 H2 h2 t2 S2 (fun p hp => s2 _ (s1 _ hp)) L2 q2))
  | [], _ :: _, _, _, _, _, _, _, _, _, _, _, _, _, _, _, _, _, _, q, _ => q.elim
  | _ :: _, [], _, _, _, _, _, _, _, _, _, _, _, _, _, _, _, _, _, q, _ => q.elim
theorem noStar_ts {ts : List Expr} {env : Env} (hn : noStar ts = true) : assignEach ts env = ts.map fun t => (false, assign t env) := by
  induction ts with
  | nil => rfl
  | cons t r ih =>
    have hn2 : isStarred t = false ∧ noStar r = true := by unfold noStar at hn ⊢; rw [List.all_cons, Bool.and_eq_true, Bool.not_eq_true'] at hn; exact hn
    rw [List.map_cons, ← ih hn2.2]
    have h1 := hn2.1
    cases t <;> first | rfl | cases h1
theorem AS.tuple {ts : List Expr} {k : Nat} {p : Pos} {xs : List V} {Q : Rho → AH → Prop} (hn : noStar ts = true) (hl : ts.length = xs.length) (h : ASS prog w K d sc cl ts xs ρ H Q) : AS prog w K d sc cl (.Tuple ts k p) (.tup xs) ρ H Q :=
  fun env A fr h₀ L m fz s u C S LO D Q' k => by
    obtain ⟨a, vs, rfl, ht, D'⟩ := tupAt S D
    refine assign_Tuple_tuple C.hd ht ?_ ?_ fun h' hx => ?_
    · rw [noStar_ts hn, List.length_map, List.size_toArray, D'.length, hl]
    · rw [noStar_ts hn, List.findIdx?_map]
      simp [Function.comp_def]
    · rw [noStar_ts hn, List.map_map]
      have S' : St fr h₀ L m fz H h' := S.grown fun b o e => hx b o (Nat.ne_of_lt (Heap.lt_size e)) e
      exact inOrder (ts := ts) C (s := { s with heap := h' }) S' LO D' h k
theorem S1.assignTup {ts : List Expr} {n : Nat} {p p' : Pos} {e : Expr} {Q : Fl → Rho → AH → Prop} (hs : ∀ env, swapsWithSole [.Tuple ts n p'] e p.line env = pure false) (hw : ∀ env, swappedStores [.Tuple ts n p'] e env = pure none)
    (h : EV prog w K d sc cl e ρ H (fun v H1 => AS prog w K d sc cl (.Tuple ts n p') v ρ H1 (fun ρ2 H2 => Q .next ρ2 H2))) : S1 prog w K d sc cl (.Assign [.Tuple ts n p'] e p) ρ H Q :=
  fun env A fr h₀ L m fz s C S LO Q' k => Assign_Tuple (hs := hs env) (hw := hw env) (h env A fr h₀ L m fz s C S LO.e _ fun u v fz1 H1 h1 t1 S1 s1 D1 q1 =>
    q1 env A fr h₀ L m fz1 _ u C S1 (LO.mono s1) D1 _ fun ρ2 m2 fz2 H2 h2 t2 S2 s2 L2 q2 => k .next .next ρ2 m2 fz2 H2 h2 t2 S2 (fun p hp => s2 _ (s1 _ hp)) L2 (by simp only [FDen]) q2)

/-- names, stored from the last to the first -/
def putAll : List Str → List V → Rho → Rho
  | n :: ns, x :: xs, ρ => (n, x) :: putAll ns xs ρ
  | _, _, ρ => ρ
theorem binds_rev : ∀ {ns : List Str} {xs : List V} {vs : List Value} {env : Env} {A : Around} {fr : Led} {h₀ : Heap} {L : Addr} {m : Str → Option Value} {fz : Led} {s : Shared} {ρ : Rho} {Q' : Unit → Shared → Prop},
    (∀ n ∈ ns, isLoc sc n = true) → ns.length = xs.length → CX K d sc cl env A h₀ L → St fr h₀ L m fz H s.heap → Loc sc cl [] fz m ρ → DenL fz xs vs →
    (∀ m' h' tk', St fr h₀ L m' fz H h' → Loc sc cl [] fz m' ((ns.zip xs).foldl (fun ρ p => p :: ρ) ρ) → Q' () { s with heap := h', toks := tk' }) → wpAny (model prog w) A (assignInOrder (ns.map fun n => bindName env n) vs) Q' (fun _ _ => False) s
  | [], [], vs, env, A, fr, h₀, L, m, fz, s, ρ, Q', hn, hl, C, S, LO, D, k => by
    simp only [DenL] at D; subst D
    exact wpAny_pure (k m s.heap s.toks S LO)
  | n :: ns, x :: xs, vs, env, A, fr, h₀, L, m, fz, s, ρ, Q', hn, hl, C, S, LO, D, k => by
    simp only [DenL] at D
    obtain ⟨v, vs', rfl, D1, D2⟩ := D
    show wpAny _ A (do holding vs' (bindName env n v); assignInOrder (ns.map fun n => bindName env n) vs') Q' _ s
    exact wpAny_bind (wpAny_holding (wpAny_bindName (store_loc (hn n (.head _)) C S LO D1 fun m1 h1 t1 S1 L1 => binds_rev (fun n hm => hn n (.tail _ hm)) (by simpa using hl) C S1 L1 D2 fun m2 h2 t2 S2 L2 => k m2 h2 t2 S2 L2)))
  | [], _ :: _, _, _, _, _, _, _, _, _, _, _, _, _, hl, _, _, _, _, _ => by cases hl
  | _ :: _, [], _, _, _, _, _, _, _, _, _, _, _, _, hl, _, _, _, _, _ => by cases hl
theorem DenL.reverse {fz : Led} : ∀ {l : List V} {vs : List Value}, DenL fz l vs → DenL fz l.reverse vs.reverse
  | [], _, h => by simp only [DenL] at h; subst h; simp [DenL]
  | x :: r, _, h => by
    simp only [DenL] at h
    obtain ⟨v, vs', rfl, hd, hl⟩ := h
    rw [List.reverse_cons, List.reverse_cons]
    exact hl.reverse.app (DenL.cons hd DenL.nil)
theorem S1.assignSw {ts : List Expr} {n : Nat} {p p' : Pos} {e : Expr} {names : List Str} {Q : Fl → Rho → AH → Prop} (hs : ∀ env, swapsWithSole [.Tuple ts n p'] e p.line env = pure false)
    (hw : ∀ cn L a ccd cl, swappedStores [.Tuple ts n p'] e (envX cn sc L a ccd cl) = pure (some names)) (hk : (names.all fun n => isLoc sc n) = true) (hne : names ≠ [])
    (h : EV prog w K d sc cl e ρ H (fun v H1 => ∃ xs, v = .tup xs ∧ names.length = xs.length ∧ Q .next ((names.reverse.zip xs.reverse).foldl (fun ρ p => p :: ρ) ρ) H1)) : S1 prog w K d sc cl (.Assign [.Tuple ts n p'] e p) ρ H Q :=
  fun env A fr h₀ L m fz s C S LO Q' k => by
    have hw' : swappedStores [.Tuple ts n p'] e env = pure (some names) := by
      rcases C.env_ with ⟨⟨cn, a, ccd, e'⟩, _⟩ | ⟨_, _, _, z, _⟩
      · rw [e']; exact hw _ _ _ _ _
      · cases names with
        | nil => exact absurd rfl hne
        | cons n r =>
          simp only [List.all_cons, isLoc, Bool.and_eq_true, decide_eq_true_eq] at hk
          exact absurd hk.1.1 (z n)
    refine Assign_Tuple_swapped (hs := hs env) (hw := hw') (h env A fr h₀ L m fz s C S LO.e _ fun u v fz1 H1 h1 t1 S1 s1 D1 q1 => ?_)
    obtain ⟨xs, rfl, hl, q⟩ := q1
    obtain ⟨a, vs, rfl, ht, D'⟩ := tupAt S1 D1
    have hsz : names.length = (List.toArray vs).size := by rw [List.size_toArray, D'.length, hl]
    rw [hsz]
    refine unpackItems_tuple C.hd ht fun h' hx => ?_
    have S' : St fr h₀ L m fz1 H1 h' := S1.grown fun b o e => hx b o (Nat.ne_of_lt (Heap.lt_size e)) e
    have hv : (List.toArray vs).toList = vs := by simp
    rw [hv]
    refine binds_rev (xs := xs.reverse) (s := { s with heap := h', toks := t1 }) (fun n hn => ?_) (by simp [hl]) C S' (LO.mono s1) D'.reverse fun m2 h2 t2 S2 L2 => k .next .next _ m2 fz1 H1 h2 t2 S2 s1 L2 (by simp only [FDen]) q
    exact List.all_eq_true.mp hk n (List.mem_reverse.mp hn)

-- functions
def Pairs (fz : Led) : Rho → List (Str × Value) → Prop
  | [], r => r = []
  | (n, x) :: ρ, r => ∃ v r', r = (n, v) :: r' ∧ Den fz x v ∧ Pairs fz ρ r'
theorem Pairs.app {fz : Led} : ∀ {a : Rho} {r : List (Str × Value)} {a' : Rho} {r' : List (Str × Value)}, Pairs fz a r → Pairs fz a' r' → Pairs fz (a ++ a') (r ++ r')
  | [], _, _, _, h, h' => by simp only [Pairs] at h; subst h; exact h'
  | (n, x) :: a, _, _, _, h, h' => by
    simp only [Pairs] at h
    obtain ⟨v, r', rfl, D, h⟩ := h
    rw [List.cons_append, List.cons_append]
    simp only [Pairs]
    exact ⟨v, _, rfl, D, h.app h'⟩
theorem Pairs.reverse {fz : Led} : ∀ {a : Rho} {r : List (Str × Value)}, Pairs fz a r → Pairs fz a.reverse r.reverse
  | [], _, h => by simp only [Pairs] at h; subst h; simp [Pairs]
  | (n, x) :: a, _, h => by
    simp only [Pairs] at h
    obtain ⟨v, r', rfl, D, h⟩ := h
    rw [List.reverse_cons, List.reverse_cons]
    exact h.reverse.app (by simp only [Pairs]; exact ⟨v, [], rfl, D, rfl⟩)
theorem Pairs.zip {fz : Led} : ∀ {ns : List Str} {xs : List V} {vs : List Value}, DenL fz xs vs → ns.length = xs.length → Pairs fz (ns.zip xs) (ns.zip vs)
  | [], [], _, h, _ => by simp only [DenL] at h; subst h; simp [Pairs]
  | n :: ns, x :: xs, _, h, hl => by
    simp only [DenL] at h
    obtain ⟨v, vs', rfl, D, h⟩ := h
    rw [List.zip_cons_cons, List.zip_cons_cons]
    simp only [Pairs]
    exact ⟨v, _, rfl, D, Pairs.zip h (by simpa using hl)⟩
  | [], _ :: _, _, _, hl => by cases hl
  | _ :: _, [], _, _, hl => by cases hl
theorem Pairs.get {fz : Led} {y : Str} {W : V} : ∀ {a : Rho} {r : List (Str × Value)}, Pairs fz a r → a.lookup y = some W → ∃ v, r.lookup y = some v ∧ Den fz W v
  | [], _, h, e => by cases e
  | (n, x) :: a, _, h, e => by
    simp only [Pairs] at h
    obtain ⟨v, r', rfl, D, h⟩ := h
    rw [List.lookup_cons] at e ⊢
    by_cases q : (y == n) = true
    · simp only [q] at e ⊢
      cases e; exact ⟨v, rfl, D⟩
    · simp only [q] at e ⊢
      exact h.get e

theorem CALL.def {f : Addr} {oc : Value} {od : Option Addr} {osl : Array (Option Value)} {name qual : Str} {params : Arguments} {body : List Stmt} {scope : Scope} {dV kV doc pm cdv ct : Value} {an : Option Addr} {names : List Str} {xs : List V} {ρ₀ : Rho} {Q : V → AH → Prop}
    (ho : K.lookup f = some ⟨oc, od, .func (fnOf name qual params body scope dV kV doc pm an cdv ct), osl⟩) (hcd : codeIn K cdv qual = true)
    (hb : ∀ (s : Shared) (h₀ : Heap) (vals : List Value), K.In s.heap → vals.length = xs.length → ∃ more, BindsTo s (fnOf name qual params body scope dV kV doc pm an cdv ct) ⟨vals, []⟩ (names.zip vals ++ more) ∧ (∀ p ∈ more, scope.names.lookup p.1 = some .local) ∧ ∃ mv : Rho, (∀ fz, Pairs fz mv more) ∧ ρ₀ = ((names.zip xs) ++ mv).reverse)
    (hn : names.length = xs.length) (hloc : (names.all fun n => decide (scope.names.lookup n = some .local)) = true)
    (hco : scope.isCoroutine = false) (hgen : scope.isGenerator = false) (hk : scope.kind = .function) (hcell : (scope.names.all fun x => decide (x.2 ≠ .cell ∧ x.2 ≠ .free)) = true)
    (h : SS prog w K d scope [] body ρ₀ H (fun F ρ' H' => Q F.val H')) : CALL prog w K (d + 1) (.ref f) xs H Q := by
  intro sc cl env A fr h₀ L m fz s vals R C S D k
  obtain ⟨envF, outer, A₀, base, B, hA, henv⟩ := C.frames
  obtain ⟨p, loose, mean, mg, mb, T⟩ := C.top
  obtain ⟨F, mt, δ, N, nd, MR⟩ := S
  obtain ⟨more, hbind, hmore, mv, hmv, hρ⟩ := hb s h₀ vals (C.KX.keeps F.keep) D.length
  refine code_def B F C.KX N T hA henv.1 henv.2 ho hcd (by have := C.room; show _ < 1000; omega) hbind (fun y hy => ?_) (fun g L' h₁ FG F' N' B' X' T' => ?_) hco hgen hk (fun x hx => (of_decide_eq_true (List.all_eq_true.mp hcell x hx)).1)
  · rcases List.mem_append.mp hy with hy | hy
    · exact of_decide_eq_true (List.all_eq_true.mp hloc y.1 (List.of_mem_zip hy).1)
    · exact hmore y hy
  have C' : CX K d scope [] (envX qual scope L' f cdv []) (A.deeper (envX qual scope L' f cdv [])) g L' := by
    refine ⟨.inl ⟨⟨qual, f, cdv, rfl⟩, fun x hx => ?_⟩, hk, ⟨envX qual scope L' f cdv [], envF :: outer, A, base, B', ?_, rfl, hk⟩, X', ⟨p, loose, mean, mg, mb, T'⟩, C.hd, ?_, ?_⟩
    · obtain ⟨l1, l2, e, _⟩ := List.lookup_eq_some_iff.mp hx
      exact (of_decide_eq_true (List.all_eq_true.mp hcell (x, .free) (by rw [e]; simp))).2 rfl
    · exact Around.frames_deeper hA
    · have := C.room; show A.depth + 1 + 10 * d ≤ 900; omega
    · have := C.units; show A.units + 3 + 100 * d ≤ 9000; omega
  have PR : Pairs fz ρ₀ (names.zip vals ++ more).reverse := by rw [hρ]; exact ((Pairs.zip D hn).app (hmv fz)).reverse
  have LO : Loc scope [] [] fz (fun y => (names.zip vals ++ more).reverse.lookup y) ρ₀ := fun x V e => ⟨fun _ => PR.get e, fun kc => by
    exfalso
    have hm : (x, NameKind.cell) ∈ scope.names := by
      obtain ⟨l1, l2, e, _⟩ := List.lookup_eq_some_iff.mp kc
      rw [e]; simp
    exact (of_decide_eq_true (List.all_eq_true.mp hcell _ hm)).1 rfl, fun kc => by
    exfalso
    obtain ⟨l1, l2, e, _⟩ := List.lookup_eq_some_iff.mp kc
    exact (of_decide_eq_true (List.all_eq_true.mp hcell (x, .free) (by rw [e]; simp))).2 rfl⟩
  have S' : St fr g L' (fun y => (names.zip vals ++ more).reverse.lookup y) fz H h₁ := ⟨F', mt, δ, N', nd, MR⟩
  refine wpAny_mono (h (envX qual scope L' f cdv []) (A.deeper (envX qual scope L' f cdv [])) fr g L' _ fz { s with heap := h₁, toks := s.toks + (names.zip vals ++ more).length } C' S' LO
    (fun fl s' => LeaveK h₀ L m g R (match fl with | .ret v => v | _ => .none) s') fun fl Fv ρ' m' fz' H' h' tk' S2 s2 L2 D2 q2 => ?_) (fun _ _ x => x) fun _ _ x => x.elim
  obtain ⟨F2, mt2, δ2, N2, nd2, R2⟩ := S2
  refine leaveK_ F2 N2 fun FF NN => ?_
  refine k _ Fv.val fz' H' h' tk' ⟨FF, mt2, δ2, NN, nd2, R2⟩ s2 ?_ q2
  cases Fv with
  | next => simp only [FDen] at D2; subst D2; exact den_none
  | brk => simp only [FDen] at D2; subst D2; exact den_none
  | cont => simp only [FDen] at D2; subst D2; exact den_none
  | ret v => simp only [FDen] at D2; obtain ⟨u, rfl, hd⟩ := D2; exact hd

/-- all parameters given by position -/
theorem CALL.fn {f : Addr} {oc : Value} {od : Option Addr} {osl : Array (Option Value)} {name qual : Str} {params : Arguments} {body : List Stmt} {scope : Scope} {dV kV doc pm cdv ct : Value} {an : Option Addr} {xs : List V} {Q : V → AH → Prop} (names : List Str) (ρ₀ : Rho)
    (ho : K.lookup f = some ⟨oc, od, .func (fnOf name qual params body scope dV kV doc pm an cdv ct), osl⟩) (hcd : codeIn K cdv qual = true)
    (hb : ∀ vals : List Value, vals.length = xs.length → bindArgs (fnOf name qual params body scope dV kV doc pm an cdv ct) ⟨vals, []⟩ = pure (names.zip vals))
    (hn : names.length = xs.length) (hρ : ρ₀ = (names.zip xs).reverse) (hloc : (names.all fun n => decide (scope.names.lookup n = some .local)) = true)
    (hco : scope.isCoroutine = false) (hgen : scope.isGenerator = false) (hk : scope.kind = .function) (hcell : (scope.names.all fun x => decide (x.2 ≠ .cell ∧ x.2 ≠ .free)) = true)
    (h : SS prog w K d scope [] body ρ₀ H (fun F ρ' H' => Q F.val H')) : CALL prog w K (d + 1) (.ref f) xs H Q :=
  CALL.def (names := names) ho hcd (fun s h₀ vals X hv => ⟨[], by rw [List.append_nil]; exact BindsTo.of_eq (hb vals hv), fun _ h => (nomatch h), [], fun _ => by simp only [Pairs], by rw [List.append_nil]; exact hρ⟩) hn hloc hco hgen hk hcell h

/-- an object made -/
theorem CALL.cls {C fI : Addr} {xs : List V} {Q : V → AH → Prop} (g1 : makesIn K C = true) (g2 : findIn K (.ref C) "__init__" = some (some (.ref fI))) (g3 : isFn K (.ref fI) = true)
    (h : ∀ a, H a = none → CALL prog w K d (.ref fI) (.ptr a :: xs) (upd H a (some (.obj C [] []))) (fun v H' => v = .none ∧ Q (.ptr a) H')) : CALL prog w K (d + 1) (.ref C) xs H Q := by
  intro sc cl env A fr h₀ L m fz s vals R CC S D k
  obtain ⟨F, mt, δ, N, nd, MR⟩ := S
  refine make_K F N (CC.KX.keeps F.keep) g1 g2 (beq_iff_eq.mp g3) fun x dx h' F' N' hl hx => ?_
  have S' := St.newI (C := C) F' N' hl hx nd MR
  have CC' : CX K d sc cl env (A.under (.builtin "type.__call__" ⟨.ref C :: vals, []⟩)) h₀ L := by
    refine ⟨CC.env_, CC.kind, ?_, CC.KX, CC.top, CC.hd, ?_, ?_⟩
    · obtain ⟨envF, outer, A₀, base, B, hA, he⟩ := CC.frames
      exact ⟨envF, outer, A₀, base, B, hA, he⟩
    · have := CC.room
      rw [depth_under_make]; omega
    · have := CC.units
      show A.units + (Code.builtin "type.__call__" ⟨.ref C :: vals, []⟩).cUnits + 100 * d ≤ 9000
      have e : A.units + (Code.builtin "type.__call__" ⟨.ref C :: vals, []⟩).cUnits = A.units + (Code.builtin "type.__call__" ⟨.ref C :: [], []⟩).cUnits := rfl
      have e2 : (Code.builtin "type.__call__" ⟨.ref 0 :: [], []⟩).cUnits ≤ 50 := by decide +kernel
      have e3 : (Code.builtin "type.__call__" ⟨.ref C :: [], []⟩).cUnits = (Code.builtin "type.__call__" ⟨.ref 0 :: [], []⟩).cUnits := rfl
      omega
  exact h x (MR.fresh fun p hp => Nat.lt_trans (hl p (List.mem_append_right _ hp)) hx) sc cl env _ fr h₀ L m fz { s with heap := h' } (.ref x :: vals) _ CC' S' (DenL.cons (by simp only [Den]) D) fun v y fz' H' h2 tk' S2 s2 D2 q2 => by
    obtain ⟨rfl, q⟩ := q2
    simp only [Den] at D2; subst D2
    exact ⟨rfl, k _ (.ptr x) fz' H' h2 tk' S2 s2 (by simp only [Den]) q⟩
end
-- R5

section
variable {prog : Program} {w : World} {K : Frag} {d : Nat} {sc : Scope} {cl : List (Str × Addr)} {ρ : Rho} {H : AH}

-- while
theorem S1.while {t : Expr} {body : List Stmt} {p : Pos} {Q : Fl → Rho → AH → Prop} {σ : Type} (Inv : σ → Prop) (μ : σ → Nat) (ρ_ : σ → Rho) (H_ : σ → AH) (s0 : σ) (h0 : Inv s0) (hρ : Agree ρ (ρ_ s0)) (hH : ∀ a o, H_ s0 a = some o → H a = some o)
    (turn : ∀ x, Inv x → TS prog w K d sc cl t (ρ_ x) (H_ x) (fun b H1 => (b = true → SS prog w K d sc cl body (ρ_ x) H1 (fun F ρ' H' => match F with
      | .next | .cont => ∃ y, Inv y ∧ μ y < μ x ∧ Agree ρ' (ρ_ y) ∧ (∀ a o, H_ y a = some o → H' a = some o)
      | .brk => Q .next ρ' H'
      | .ret v => Q (.ret v) ρ' H')) ∧ (b = false → Q .next (ρ_ x) H1))) : S1 prog w K d sc cl (.While t body [] p) ρ H Q := by
  intro env A fr h₀ L m fz s C S LO Q' k
  refine wpAny_While (codeAny_whileLoop (fun n s' => ∃ x m' fz' h' tk', s' = { s with heap := h', toks := tk' } ∧ Inv x ∧ μ x = n ∧ St fr h₀ L m' fz' (H_ x) h' ∧ (∀ p ∈ fz, p ∈ fz') ∧ Loc sc cl [] fz' m' (ρ_ x)) ?_ (μ s0) ⟨s0, m, fz, s.heap, s.toks, rfl, h0, rfl, S.weaken hH, fun _ h => h, LO.agree hρ⟩)
  rintro n s' ⟨x, m1, fz1, h1, t1, rfl, hx, rfl, S1, sub1, L1⟩
  refine wpAny_mono (turn x hx env A fr h₀ L m1 fz1 _ C S1 L1.e (fun b s₂ => if b then wpAny (model prog w) A (execs body env) (fun f s₃ => match f with
            | .next | .cont => ∃ n', n' < μ x ∧ ∃ x m' fz' h' tk', s₃ = { s with heap := h', toks := tk' } ∧ Inv x ∧ μ x = n' ∧ St fr h₀ L m' fz' (H_ x) h' ∧ (∀ p ∈ fz, p ∈ fz') ∧ Loc sc cl [] fz' m' (ρ_ x)
            | .brk => Q' .next s₃
            | .ret v => Q' (.ret v) s₃) (fun _ _ => False) s₂
        else Q' .next s₂) fun b fz2 H2 h2 t2 S2 sub2 q => ?_) (fun b s₂ h => ?_) fun _ _ x => x.elim
  · cases b with
    | false => exact k .next .next (ρ_ x) m1 fz2 H2 h2 t2 S2 (fun p hp => sub2 _ (sub1 _ hp)) (L1.mono sub2) (by simp only [FDen]) (q.2 rfl)
    | true =>
      refine q.1 rfl env A fr h₀ L m1 fz2 _ C S2 (L1.mono sub2) _ fun f F ρ3 m3 fz3 H3 h3 t3 S3 sub3 L3 D3 q3 => ?_
      have sub : ∀ p ∈ fz, p ∈ fz3 := fun p hp => sub3 _ (sub2 _ (sub1 _ hp))
      cases F with
      | next =>
        simp only [FDen] at D3; subst D3
        obtain ⟨y, hy, lt, ag, hh⟩ := q3
        exact ⟨μ y, lt, y, m3, fz3, h3, t3, rfl, hy, rfl, S3.weaken hh, sub, L3.agree ag⟩
      | cont =>
        simp only [FDen] at D3; subst D3
        obtain ⟨y, hy, lt, ag, hh⟩ := q3
        exact ⟨μ y, lt, y, m3, fz3, h3, t3, rfl, hy, rfl, S3.weaken hh, sub, L3.agree ag⟩
      | brk => simp only [FDen] at D3; subst D3; exact k .next .next ρ3 m3 fz3 H3 h3 t3 S3 sub L3 (by simp only [FDen]) q3
      | ret v =>
        have D3' := D3
        simp only [FDen] at D3; obtain ⟨u, rfl, _⟩ := D3
        exact k _ (.ret v) ρ3 m3 fz3 H3 h3 t3 S3 sub L3 D3' q3
  · cases b with
    | false => simp only [Bool.false_eq_true, if_false] at h ⊢; exact wpAny_execs_nil h
    | true =>
      simp only [if_true] at h ⊢
      refine wpAny_mono h (fun f s₃ h => ?_) fun _ _ x => x.elim
      cases f <;> exact h

-- for
def FORT (prog : Program) (w : World) (K : Frag) (d : Nat) (sc : Scope) (cl : List (Str × Addr)) (target : Expr) (body : List Stmt) : List V → Rho → AH → (Fl → Rho → AH → Prop) → Prop
  | [], ρ, H, Q => Q .next ρ H
  | x :: xs, ρ, H, Q => AS prog w K d sc cl target x ρ H (fun ρ1 H1 => SS prog w K d sc cl body ρ1 H1 (fun F ρ2 H2 => match F with
      | .next | .cont => FORT prog w K d sc cl target body xs ρ2 H2 Q
      | .brk => Q .next ρ2 H2
      | .ret v => Q (.ret v) ρ2 H2))

theorem for_core {P : Led → List V → Led → Prop} {it : Value} {target : Expr} {body : List Stmt} {env : Env} {A : Around} {fr : Led} {h₀ : Heap} {L : Addr} {m : Str → Option Value} {fz : Led} {s : Shared} {xs : List V} {fe : Led} {Q : Fl → Rho → AH → Prop} {Q' : Flow → Shared → Prop}
    (pm : ∀ {fz fz' xs fe}, (∀ p ∈ fz, p ∈ fz') → P fz xs fe → P fz' xs fe)
    (step : ∀ (m : Str → Option Value) (fz : Led) (H : AH) (s : Shared) (xs : List V) (fe : Led), P fz xs fe → St (fe ++ fr) h₀ L m fz H s.heap →
      wpAny (model prog w) A (pyNext it) (fun r s₁ => match r with
        | none => xs = [] ∧ ∃ h', s₁ = { s with heap := h' } ∧ St fr h₀ L m fz H h'
        | some v => wpAny (model prog w) A (letOwnedTupleGo target it v) (fun _ s₂ => ∃ x r fe' fz' h' tk', xs = x :: r ∧ s₂ = { s with heap := h', toks := tk' } ∧ P fz' r fe' ∧ St (fe' ++ fr) h₀ L m fz' H h' ∧ (∀ p ∈ fz, p ∈ fz') ∧ Den fz' x v) (fun _ _ => False) s₁) (fun _ _ => False) s)
    (C : CX K d sc cl env A h₀ L) (hP : P fz xs fe) (S : St (fe ++ fr) h₀ L m fz H s.heap) (LO : Loc sc cl [] fz m ρ) (h : FORT prog w K d sc cl target body xs ρ H Q)
    (k : ∀ f F ρ' m' fz' H' h' tk', St fr h₀ L m' fz' H' h' → (∀ p ∈ fz, p ∈ fz') → Loc sc cl [] fz' m' ρ' → FDen fz' F f → Q F ρ' H' → Q' f { s with heap := h', toks := tk' })
    (defr : ∀ {fe : Led} {m : Str → Option Value} {fz : Led} {H : AH} {h : Heap}, St (fe ++ fr) h₀ L m fz H h → St fr h₀ L m fz H h) :
    codeAny (model prog w) A (.forLoop target it body [] env) (fun r s' => match r with | .ok f => Q' f s' | .error e => cameBackBy (model prog w) A env (fun _ _ => False) e s') s := by
  refine codeAny_forLoop_any (fun n s' => ∃ xs fe ρ m fz' H h' tk', n = xs.length ∧ s' = { s with heap := h', toks := tk' } ∧ P fz' xs fe ∧ St (fe ++ fr) h₀ L m fz' H h' ∧ (∀ p ∈ fz, p ∈ fz') ∧ Loc sc cl [] fz' m ρ ∧ FORT prog w K d sc cl target body xs ρ H Q) ?_ xs.length
    ⟨xs, fe, ρ, m, fz, H, s.heap, s.toks, rfl, rfl, hP, S, fun _ h => h, LO, h⟩
  rintro n s' ⟨xs, fe, ρ1, m1, fz1, H1, h1, t1, rfl, rfl, P1, S1, sub1, L1, q1⟩
  refine wpAny_mono (step m1 fz1 H1 _ xs fe P1 S1) (fun r s₁ h => ?_) fun _ _ x => x.elim
  cases r with
  | none =>
    obtain ⟨rfl, h2, rfl, S2⟩ := h
    exact wpAny_execs_nil (k .next .next ρ1 m1 fz1 H1 h2 t1 S2 sub1 L1 (by simp only [FDen]) q1)
  | some v =>
    refine wpAny_mono h (fun _ s₂ h => ?_) fun _ _ x => x.elim
    obtain ⟨x, r, fe2, fz2, h2, t2, rfl, rfl, P2, S2, sub2, D2⟩ := h
    have key := q1 env A (fe2 ++ fr) h₀ L m1 fz2 { s with heap := h2, toks := t2 } v C S2 (L1.mono sub2) D2 (fun _ s₂ => wpAny (model prog w) A (execs body env) (fun f s₃ => match f with
            | .next | .cont => ∃ m, m < (x :: r).length ∧ ∃ xs fe ρ m' fz' H h' tk', m = xs.length ∧ s₃ = { s with heap := h', toks := tk' } ∧ P fz' xs fe ∧ St (fe ++ fr) h₀ L m' fz' H h' ∧ (∀ p ∈ fz, p ∈ fz') ∧ Loc sc cl [] fz' m' ρ ∧ FORT prog w K d sc cl target body xs ρ H Q
            | .brk => Q' .next s₃
            | .ret v => Q' (.ret v) s₃) (fun _ _ => False) s₂) fun ρ3 m3 fz3 H3 h3 t3 S3 sub3 L3 q3 => ?_
    · refine wpAny_mono key (fun _ s₂ h => ?_) fun _ _ x => x.elim
      refine wpAny_mono h (fun f s₃ h => ?_) fun _ _ x => x.elim
      cases f <;> exact h
    · refine q3 env A (fe2 ++ fr) h₀ L m3 fz3 _ C S3 L3 _ fun f F ρ4 m4 fz4 H4 h4 t4 S4 sub4 L4 D4 q4 => ?_
      have sub : ∀ p ∈ fz, p ∈ fz4 := fun p hp => sub4 _ (sub3 _ (sub2 _ (sub1 _ hp)))
      cases F with
      | next => simp only [FDen] at D4; subst D4; exact ⟨r.length, Nat.lt_succ_self _, r, fe2, ρ4, m4, fz4, H4, h4, t4, rfl, rfl, pm (fun p hp => sub4 _ (sub3 _ hp)) P2, S4, sub, L4, q4⟩
      | cont => simp only [FDen] at D4; subst D4; exact ⟨r.length, Nat.lt_succ_self _, r, fe2, ρ4, m4, fz4, H4, h4, t4, rfl, rfl, pm (fun p hp => sub4 _ (sub3 _ hp)) P2, S4, sub, L4, q4⟩
      | brk => simp only [FDen] at D4; subst D4; exact k .next .next ρ4 m4 fz4 H4 h4 t4 (defr S4) sub L4 (by simp only [FDen]) q4
      | ret v =>
        have D4' := D4
        simp only [FDen] at D4; obtain ⟨u, rfl, _⟩ := D4
        exact k _ (.ret v) ρ4 m4 fz4 H4 h4 t4 (defr S4) sub L4 D4' q4
theorem deframeAll {fr : Led} {h₀ : Heap} {L : Addr} : ∀ {fe : Led} {m : Str → Option Value} {fz : Led} {H : AH} {h : Heap}, St (fe ++ fr) h₀ L m fz H h → St fr h₀ L m fz H h
  | [], _, _, _, _, S => S
  | p :: fe, _, _, _, _, S => deframeAll (fe := fe) (St.deframe S)
/-- the frame's entry gone -/
theorem St.dropBut {fr : Led} {h₀ h h' : Heap} {L : Addr} {m : Str → Option Value} {fz : Led} {a : Addr} {o : Obj} (S : St ((a, o) :: fr) h₀ L m fz H h) (hx : ∀ b o, b ≠ a → h.get? b = some o → h'.get? b = some o) : St fr h₀ L m fz H h' := by
  obtain ⟨F, mt, δ, N, nd, R⟩ := S
  have pm : (((fz ++ (a, o) :: fr) ++ mt)).Perm ((a, o) :: ((fz ++ fr) ++ mt)) := (List.perm_middle (l₁ := fz) (l₂ := fr)).append_right mt
  have nd' : (((a, o) :: ((fz ++ fr) ++ mt)).map Prod.fst).Nodup := by rw [← (pm.map _).nodup_iff]; exact nd
  have za := N (a, o) (by simp)
  have hne : ∀ p ∈ (fz ++ fr) ++ mt, p.1 ≠ a := fun p hp q => by
    rw [List.map_cons, List.nodup_cons] at nd'
    have := List.mem_map_of_mem (f := Prod.fst) hp
    rw [q] at this
    exact nd'.1 this
  rw [List.map_cons, List.nodup_cons] at nd'
  refine ⟨⟨F.ns.at' fun o e => hx _ _ (fun q => za.2.1 q.symm) e, fun b o e => hx _ _ (fun q => ?_) (F.keep b o e), F.above⟩, mt, δ, ?_, nd'.2, R⟩
  · rw [q] at e; exact nomatch (za.2.2.symm.trans e)
  · intro p hp
    have z := N p (pm.mem_iff.mpr (.tail _ hp))
    exact ⟨hx _ _ (hne p hp) z.1, z.2⟩

theorem DenL.drop_cons {fz : Led} {l : List V} {vs : List Value} {i : Nat} {x : V} {r : List V} (D : DenL fz l vs) (e : l.drop i = x :: r) : ∃ v, vs[i]? = some v ∧ Den fz x v ∧ l.drop (i + 1) = r := by
  have h1 : l[i]? = some x := by
    have := congrArg List.head? e
    rw [List.head?_drop] at this; simpa using this
  obtain ⟨v, hv, hd⟩ := D.get h1
  refine ⟨v, hv, hd, ?_⟩
  have : l.drop (i + 1) = (l.drop i).drop 1 := by rw [List.drop_drop]
  rw [this, e]; rfl
theorem DenL.drop_nil {fz : Led} {l : List V} {vs : List Value} {i : Nat} (D : DenL fz l vs) (e : l.drop i = []) : vs[i]? = none := by
  have : l.length ≤ i := by simpa using e
  have h2 := D.length
  simp; omega

/-- a list's iterator at its place -/
def PList (it l : Addr) (items : List V) (fz : Led) (xs : List V) (fe : Led) : Prop :=
  ∃ i vs n o, fe = [(it, o)] ∧ o.cls = .type "list_iterator" ∧ o.data = .fields #[.ref l, .int (i : Nat) 0] ∧ xs = items.drop i ∧ (l, lstOf vs n) ∈ fz ∧ DenL fz items vs ∧ it ≠ l
theorem PList.step {it l : Addr} {items : List V} {target : Expr} {A : Around} {fr : Led} {h₀ : Heap} {L : Addr} (hh : A.handled = none) (ht : ∀ v, letOwnedTupleGo target (.ref it) v = pure ()) (m : Str → Option Value) (fz : Led) (H : AH) (s : Shared) (xs : List V) (fe : Led) (hP : PList it l items fz xs fe) (S : St (fe ++ fr) h₀ L m fz H s.heap) :
      wpAny (model prog w) A (pyNext (.ref it)) (fun r s₁ => match r with
        | none => xs = [] ∧ ∃ h', s₁ = { s with heap := h' } ∧ St fr h₀ L m fz H h'
        | some v => wpAny (model prog w) A (letOwnedTupleGo target (.ref it) v) (fun _ s₂ => ∃ x r fe' fz' h' tk', xs = x :: r ∧ s₂ = { s with heap := h', toks := tk' } ∧ PList it l items fz' r fe' ∧ St (fe' ++ fr) h₀ L m fz' H h' ∧ (∀ p ∈ fz, p ∈ fz') ∧ Den fz' x v) (fun _ _ => False) s₁) (fun _ _ => False) s := by
  obtain ⟨i, vs, n, o, rfl, hc, hd, rfl, hl, D, hne⟩ := hP
  have hit := S.frame_at
  have N := S.ex
  obtain ⟨mt, δ, N, nd, R⟩ := N
  have hlg := (N _ (List.mem_append_left _ (List.mem_append_left _ hl))).1
  have I1 : s.heap.IsListIter it l i := ⟨o, hit.1, hc, hd⟩
  have I2 : s.heap.IsList l (List.toArray vs) := ⟨_, hlg, rfl, n, rfl⟩
  cases e : items.drop i with
  | nil =>
    refine wpAny_pyNext_list_end hh I1 I2 (by simpa using D.drop_nil e) fun h' hx => ⟨rfl, h', rfl, ?_⟩
    exact St.dropBut S fun b o hb => hx b o hb
  | cons x r =>
    obtain ⟨v, hv, Dv, er⟩ := D.drop_cons e
    refine wpAny_pyNext_list_item I1 I2 (x := v) (by simpa using hv) fun h' hi hs => ?_
    obtain ⟨o', ho', hc', hd'⟩ := hi
    show wpAny _ A (letOwnedTupleGo target (.ref it) v) _ _ _
    rw [ht v]
    exact wpAny_pure ⟨x, r, [(it, o')], fz, h', s.toks, rfl, rfl, ⟨i + 1, vs, n, o', rfl, hc', hd', er.symm, hl, D, hne⟩, St.reframe S hs ho', fun _ h => h, Dv⟩
theorem S1.forL {x : Str} {px p : Pos} {iter : Expr} {body : List Stmt} {Q : Fl → Rho → AH → Prop} (hs : ∀ env x, foldedSetIterable iter env x = pure x)
    (h : EV prog w K d sc cl iter ρ H (fun src H1 => ∃ l, src = .lst l ∧ FORT prog w K d sc cl (.Name x px) body l ρ H1 Q)) : S1 prog w K d sc cl (.For (.Name x px) iter body [] p) ρ H Q := by
  intro env A fr h₀ L m fz s C S LO Q' k
  refine wpAny_For (hs := hs env) (h env A fr h₀ L m fz s C S LO.e _ fun u src fz1 H1 h1 t1 S1 s1 D1 q1 => ?_)
  obtain ⟨l, rfl, q⟩ := q1
  have S1' := S1
  obtain ⟨F, mt, δ, N, nd, R⟩ := S1
  simp only [Den] at D1
  obtain ⟨a, vs, n, rfl, hm, D⟩ := D1
  have hlg := (N _ (List.mem_append_left _ (List.mem_append_left _ hm))).1
  refine wpAny_pyIter_list (items := List.toArray vs) ⟨_, hlg, rfl, n, rfl⟩ ?_
  have S2 := St.enframe (F.push { cls := .type "list_iterator", data := .fields #[.ref a, .int 0 0] }) (News.push F N { cls := .type "list_iterator", data := .fields #[.ref a, .int 0 0] }) (keys_lt N) nd R
  exact for_core (P := PList h1.objs.size a l) (fe := [(h1.objs.size, { cls := .type "list_iterator", data := .fields #[.ref a, .int 0 0] })])
    (fun hsub hP => by obtain ⟨i, vs, n, o, e1, e2, e3, e4, e5, e6, e7⟩ := hP; exact ⟨i, vs, n, o, e1, e2, e3, e4, hsub _ e5, e6.mono hsub, e7⟩)
    (fun m fz H s xs fe hP S => PList.step C.hd (fun v => rfl) m fz H s xs fe hP S) C ⟨0, vs, n, _, rfl, rfl, rfl, by simp, hm, D, Nat.ne_of_gt (Heap.lt_size hlg)⟩ S2 (LO.mono s1) q
    (fun f F ρ' m' fz' H' h' tk' S3 s3 L3 D3 q3 => k f F ρ' m' fz' H' h' tk' S3 (fun p hp => s3 _ (s1 _ hp)) L3 D3 q3) deframeAll
end
-- R6

section
variable {prog : Program} {w : World} {K : Frag} {d : Nat} {sc : Scope} {cl : List (Str × Addr)} {ρ : Rho} {H : AH}

-- for over a tuple
def PTup (it l : Addr) (items : List V) (fz : Led) (xs : List V) (fe : Led) : Prop :=
  ∃ i vs n o, fe = [(it, o)] ∧ o.cls = .type "tuple_iterator" ∧ o.data = .fields #[.ref l, .int (i : Nat) 0] ∧ xs = items.drop i ∧ (l, tupOf vs n) ∈ fz ∧ DenL fz items vs ∧ it ≠ l
theorem PTup.step {it l : Addr} {items : List V} {target : Expr} {A : Around} {fr : Led} {h₀ : Heap} {L : Addr} (hh : A.handled = none) (ht : ∀ v, letOwnedTupleGo target (.ref it) v = pure ()) (m : Str → Option Value) (fz : Led) (H : AH) (s : Shared) (xs : List V) (fe : Led) (hP : PTup it l items fz xs fe) (S : St (fe ++ fr) h₀ L m fz H s.heap) :
      wpAny (model prog w) A (pyNext (.ref it)) (fun r s₁ => match r with
        | none => xs = [] ∧ ∃ h', s₁ = { s with heap := h' } ∧ St fr h₀ L m fz H h'
        | some v => wpAny (model prog w) A (letOwnedTupleGo target (.ref it) v) (fun _ s₂ => ∃ x r fe' fz' h' tk', xs = x :: r ∧ s₂ = { s with heap := h', toks := tk' } ∧ PTup it l items fz' r fe' ∧ St (fe' ++ fr) h₀ L m fz' H h' ∧ (∀ p ∈ fz, p ∈ fz') ∧ Den fz' x v) (fun _ _ => False) s₁) (fun _ _ => False) s := by
  obtain ⟨i, vs, n, o, rfl, hc, hd, rfl, hl, D, hne⟩ := hP
  have hit := S.frame_at
  obtain ⟨mt, δ, N, nd, R⟩ := S.ex
  have hlg := (N _ (List.mem_append_left _ (List.mem_append_left _ hl))).1
  have I1 : IsTupIter s.heap it l i := ⟨o, hit.1, hc, hd⟩
  have I2 : IsTup s.heap l (List.toArray vs) := ⟨_, hlg, rfl, n, rfl⟩
  cases e : items.drop i with
  | nil =>
    refine next_tuple_end hh I1 I2 (by simpa using D.drop_nil e) fun h' hx => ⟨rfl, h', rfl, ?_⟩
    exact St.dropBut S fun b o hb => hx b o hb
  | cons x r =>
    obtain ⟨v, hv, Dv, er⟩ := D.drop_cons e
    refine next_tuple_item I1 I2 (x := v) (by simpa using hv) fun h' hi hs => ?_
    obtain ⟨o', ho', hc', hd'⟩ := hi
    show wpAny _ A (letOwnedTupleGo target (.ref it) v) _ _ _
    rw [ht v]
    exact wpAny_pure ⟨x, r, [(it, o')], fz, h', s.toks, rfl, rfl, ⟨i + 1, vs, n, o', rfl, hc', hd', er.symm, hl, D, hne⟩, St.reframe S hs ho', fun _ h => h, Dv⟩
theorem S1.forT {target : Expr} {p : Pos} {iter : Expr} {body : List Stmt} {Q : Fl → Rho → AH → Prop} (hs : ∀ env x, foldedSetIterable iter env x = pure x) (ht : ∀ it v, letOwnedTupleGo target it v = pure () ∨ False)
    (h : EV prog w K d sc cl iter ρ H (fun src H1 => ∃ l, src = .tup l ∧ FORT prog w K d sc cl target body l ρ H1 Q)) : S1 prog w K d sc cl (.For target iter body [] p) ρ H Q := by
  intro env A fr h₀ L m fz s C S LO Q' k
  refine wpAny_For (hs := hs env) (h env A fr h₀ L m fz s C S LO.e _ fun u src fz1 H1 h1 t1 S1 s1 D1 q1 => ?_)
  obtain ⟨l, rfl, q⟩ := q1
  have S1' := S1
  obtain ⟨F, mt, δ, N, nd, R⟩ := S1
  simp only [Den] at D1
  obtain ⟨a, vs, n, rfl, hm, D⟩ := D1
  have hlg := (N _ (List.mem_append_left _ (List.mem_append_left _ hm))).1
  refine iter_tuple (items := List.toArray vs) ⟨_, hlg, rfl, n, rfl⟩ ?_
  have S2 := St.enframe (F.push { cls := .type "tuple_iterator", data := .fields #[.ref a, .int 0 0] }) (News.push F N { cls := .type "tuple_iterator", data := .fields #[.ref a, .int 0 0] }) (keys_lt N) nd R
  exact for_core (P := PTup h1.objs.size a l) (fe := [(h1.objs.size, { cls := .type "tuple_iterator", data := .fields #[.ref a, .int 0 0] })])
    (fun hsub hP => by obtain ⟨i, vs, n, o, e1, e2, e3, e4, e5, e6, e7⟩ := hP; exact ⟨i, vs, n, o, e1, e2, e3, e4, hsub _ e5, e6.mono hsub, e7⟩)
    (fun m fz H s xs fe hP S => PTup.step C.hd (fun v => (ht _ v).resolve_right id) m fz H s xs fe hP S) C ⟨0, vs, n, _, rfl, rfl, rfl, by simp, hm, D, Nat.ne_of_gt (Heap.lt_size hlg)⟩ S2 (LO.mono s1) q
    (fun f F ρ' m' fz' H' h' tk' S3 s3 L3 D3 q3 => k f F ρ' m' fz' H' h' tk' S3 (fun p hp => s3 _ (s1 _ hp)) L3 D3 q3) deframeAll

-- for over a range
def PRng (it : Addr) (a : Int) (n : Nat) (fz : Led) (xs : List V) (fe : Led) : Prop :=
  ∃ i : Nat, i ≤ n ∧ fe = [(it, { cls := .type "range_iterator", data := .fields #[rawInt (a + i), rawInt ((n : Int) - i), rawInt 1] })] ∧ xs = ((List.range n).map fun j => V.int (a + (j : Nat))).drop i
theorem PRng.step {it : Addr} {a : Int} {n : Nat} {target : Expr} {A : Around} {fr : Led} {h₀ : Heap} {L : Addr} (hh : A.handled = none) (ht : ∀ v, letOwnedTupleGo target (.ref it) v = pure ()) (m : Str → Option Value) (fz : Led) (H : AH) (s : Shared) (xs : List V) (fe : Led) (hP : PRng it a n fz xs fe) (S : St (fe ++ fr) h₀ L m fz H s.heap) :
      wpAny (model prog w) A (pyNext (.ref it)) (fun r s₁ => match r with
        | none => xs = [] ∧ ∃ h', s₁ = { s with heap := h' } ∧ St fr h₀ L m fz H h'
        | some v => wpAny (model prog w) A (letOwnedTupleGo target (.ref it) v) (fun _ s₂ => ∃ x r fe' fz' h' tk', xs = x :: r ∧ s₂ = { s with heap := h', toks := tk' } ∧ PRng it a n fz' r fe' ∧ St (fe' ++ fr) h₀ L m fz' H h' ∧ (∀ p ∈ fz, p ∈ fz') ∧ Den fz' x v) (fun _ _ => False) s₁) (fun _ _ => False) s := by
  obtain ⟨i, hi, rfl, rfl⟩ := hP
  have hit := S.frame_at
  by_cases e : i = n
  · subst e
    refine wpAny_pyNext_range_end hh hit.1 (by omega) fun h' hx => ⟨by simp, h', rfl, ?_⟩
    exact St.dropBut S fun b o hb => hx b o hb
  · have hlt : i < n := by omega
    refine wpAny_pyNext_range_item hit.1 (by omega) fun h' hi' hs => ?_
    show wpAny _ A (letOwnedTupleGo target (.ref it) (.int (a + i) s.toks)) _ _ _
    rw [ht]
    refine wpAny_pure ⟨.int (a + i), ((List.range n).map fun j => V.int (a + (j : Nat))).drop (i + 1), _, fz, h', _, ?_, rfl, ⟨i + 1, by omega, rfl, rfl⟩, ?_, fun _ h => h, den_int⟩
    · rw [List.drop_eq_getElem_cons (by simpa using hlt)]
      simp
    · have e1 : (a + ((i + 1 : Nat) : Int)) = a + i + 1 := by push_cast; omega
      have e2 : ((n : Int) - ((i + 1 : Nat) : Int)) = (n : Int) - i - 1 := by push_cast; omega
      rw [e1, e2]
      exact St.reframe S hs hi'
theorem range_small {a b : Int} (ha : -(2 ^ 60) ≤ a) (hb : b ≤ 2 ^ 60) (hb' : -(2 ^ 60) ≤ b) (ha' : a ≤ 2 ^ 60) : Builtin.Range.small a b 1 = true := by
  unfold Builtin.Range.small
  simp only [Builtin.Range.rangeFitsLong, rangeSize_nat]
  simp
  omega
theorem S1.forR {x : Str} {px p : Pos} {iter : Expr} {body : List Stmt} {Q : Fl → Rho → AH → Prop} (hs : ∀ env x, foldedSetIterable iter env x = pure x)
    (h : EV prog w K d sc cl iter ρ H (fun src H1 => ∃ a b, src = .rng a b ∧ -(2 ^ 60) ≤ a ∧ a ≤ 2 ^ 60 ∧ -(2 ^ 60) ≤ b ∧ b ≤ 2 ^ 60 ∧ FORT prog w K d sc cl (.Name x px) body ((List.range (b - a).toNat).map fun j => V.int (a + (j : Nat))) ρ H1 Q)) : S1 prog w K d sc cl (.For (.Name x px) iter body [] p) ρ H Q := by
  intro env A fr h₀ L m fz s C S LO Q' k
  refine wpAny_For (hs := hs env) (h env A fr h₀ L m fz s C S LO.e _ fun u src fz1 H1 h1 t1 S1 s1 D1 q1 => ?_)
  obtain ⟨a, b, rfl, g1, g2, g3, g4, q⟩ := q1
  have S1' := S1
  obtain ⟨F, mt, δ, N, nd, R⟩ := S1
  simp only [Den] at D1
  obtain ⟨r, t, u', c, rfl, hm⟩ := D1
  have hlg := (N _ (List.mem_append_left _ (List.mem_append_left _ hm))).1
  refine wpAny_pyIter_range (a := a) (b := b) (c := 1) hlg (range_small g1 g4 g3 g2) ?_
  have S2 := St.enframe (F.push { cls := .type "range_iterator", data := .fields #[rawInt a, rawInt (Builtin.Range.rangeSize a b 1), rawInt 1] }) (News.push F N { cls := .type "range_iterator", data := .fields #[rawInt a, rawInt (Builtin.Range.rangeSize a b 1), rawInt 1] }) (keys_lt N) nd R
  refine for_core (P := PRng h1.objs.size a (b - a).toNat) (fe := [(h1.objs.size, { cls := .type "range_iterator", data := .fields #[rawInt a, rawInt (Builtin.Range.rangeSize a b 1), rawInt 1] })])
    (fun hsub hP => hP)
    (fun m fz H s xs fe hP S => PRng.step C.hd (fun v => rfl) m fz H s xs fe hP S) C ⟨0, Nat.zero_le _, ?_, by simp⟩ S2 (LO.mono s1) q
    (fun f F ρ' m' fz' H' h' tk' S3 s3 L3 D3 q3 => k f F ρ' m' fz' H' h' tk' S3 (fun p hp => s3 _ (s1 _ hp)) L3 D3 q3) deframeAll
  rw [rangeSize_nat]; simp
theorem CALLV.range1 {n : Int} {Q : V → AH → Prop} (h : Q (.rng 0 n) H) : CALLV prog w K d (.type "range") [.int n] H Q :=
  fun sc cl env A fr h₀ L m fz s vals C S D Q' k => by
    simp only [DenL, Den] at D
    obtain ⟨v, vs, rfl, ⟨t, rfl⟩, rfl⟩ := D
    have S' := S
    obtain ⟨F, mt, δ, N, nd, R⟩ := S
    refine range1_rows F N fun h' tk t₁ u₁ v₁ hr F' N' hk => ?_
    have hn : h₀.get? s.heap.objs.size = none := next_is_new F
    have hL : s.heap.objs.size ≠ L := Nat.ne_of_gt F.ns.lt
    have N2 : News h₀ L h' ((s.heap.objs.size, rngOf 0 n t₁ u₁ v₁) :: ((fz ++ fr) ++ mt)) := fun p hp => by
      rcases List.mem_cons.mp hp with rfl | hp
      · exact ⟨hr, hL, hn⟩
      · exact N' p hp
    exact k _ (.rng 0 n) _ H h' tk (St.frozen F' N2 (keys_lt N) nd R) (fun p hp => .tail _ hp) (by simp only [Den]; exact ⟨_, t₁, u₁, v₁, rfl, .head _⟩) h
theorem CALLV.range2 {a b : Int} {Q : V → AH → Prop} (h : Q (.rng a b) H) : CALLV prog w K d (.type "range") [.int a, .int b] H Q :=
  fun sc cl env A fr h₀ L m fz s vals C S D Q' k => by
    simp only [DenL, Den] at D
    obtain ⟨v, vs, rfl, ⟨t, rfl⟩, v2, vs2, rfl, ⟨t2, rfl⟩, rfl⟩ := D
    obtain ⟨F, mt, δ, N, nd, R⟩ := S
    refine range2_rows F N fun h' tk t₁ u₁ v₁ hr F' N' hk => ?_
    have hn : h₀.get? s.heap.objs.size = none := next_is_new F
    have hL : s.heap.objs.size ≠ L := Nat.ne_of_gt F.ns.lt
    have N2 : News h₀ L h' ((s.heap.objs.size, rngOf a b t₁ u₁ v₁) :: ((fz ++ fr) ++ mt)) := fun p hp => by
      rcases List.mem_cons.mp hp with rfl | hp
      · exact ⟨hr, hL, hn⟩
      · exact N' p hp
    exact k _ (.rng a b) _ H h' tk (St.frozen F' N2 (keys_lt N) nd R) (fun p hp => .tail _ hp) (by simp only [Den]; exact ⟨_, t₁, u₁, v₁, rfl, .head _⟩) h

-- for over enumerate(list)
def PEnum (e it l : Addr) (items : List V) (fz : Led) (xs : List V) (fe : Led) : Prop :=
  ∃ i vs n o old, fe = [(e, { cls := .type "enumerate", data := .fields #[.none, .bool false, .ref it, rawInt (i : Nat), .none, old] }), (it, o)] ∧ o.cls = .type "list_iterator" ∧ o.data = .fields #[.ref l, .int (i : Nat) 0] ∧
    xs = ((items.zipIdx).map fun p => V.tup [.int (p.2 : Nat), p.1]).drop i ∧ (l, lstOf vs n) ∈ fz ∧ DenL fz items vs
abbrev enumOf (it : Addr) (i : Int) (old : Value) : Obj := { cls := .type "enumerate", data := .fields #[.none, .bool false, .ref it, rawInt i, .none, old] }
theorem enum_items {l : List V} {i : Nat} {x : V} (e : l[i]? = some x) : ((l.zipIdx).map fun p => V.tup [.int (p.2 : Nat), p.1]).drop i = V.tup [.int (i : Nat), x] :: ((l.zipIdx).map fun p => V.tup [.int (p.2 : Nat), p.1]).drop (i + 1) := by
  have hlt : i < l.length := by
    rcases Nat.lt_or_ge i l.length with h | h
    · exact h
    · rw [List.getElem?_eq_none h] at e; cases e
  rw [List.drop_eq_getElem_cons (by simpa using hlt)]
  congr 1
  have hx : l[i] = x := by rw [List.getElem?_eq_getElem hlt] at e; exact Option.some.inj e
  simp [hx]
theorem PEnum.step {e it l : Addr} {items : List V} {ts : List Expr} {k : Nat} {p : Pos} {A : Around} {fr : Led} {h₀ : Heap} {L : Addr} (hh : A.handled = none) (m : Str → Option Value) (fz : Led) (H : AH) (s : Shared) (xs : List V) (fe : Led) (hP : PEnum e it l items fz xs fe) (S : St (fe ++ fr) h₀ L m fz H s.heap) :
      wpAny (model prog w) A (pyNext (.ref e)) (fun r s₁ => match r with
        | none => xs = [] ∧ ∃ h', s₁ = { s with heap := h' } ∧ St fr h₀ L m fz H h'
        | some v => wpAny (model prog w) A (letOwnedTupleGo (.Tuple ts k p) (.ref e) v) (fun _ s₂ => ∃ x r fe' fz' h' tk', xs = x :: r ∧ s₂ = { s with heap := h', toks := tk' } ∧ PEnum e it l items fz' r fe' ∧ St (fe' ++ fr) h₀ L m fz' H h' ∧ (∀ p ∈ fz, p ∈ fz') ∧ Den fz' x v) (fun _ _ => False) s₁) (fun _ _ => False) s := by
  obtain ⟨i, vs, n, o, old, rfl, hc, hd, rfl, hl, D⟩ := hP
  obtain ⟨F, mt, δ, N, nd, R⟩ := S
  have zE := N (e, enumOf it (i : Nat) old) (by simp)
  have zI := N (it, o) (by simp)
  have hlg := (N (l, lstOf vs n) (by simp [hl])).1
  have nd' := nd
  have hei : e ≠ it := by
    simp only [List.map_append, List.map_cons, List.cons_append, List.nil_append] at nd'
    have := (List.nodup_append.mp (List.nodup_append.mp nd').1).2.1
    simp only [List.nodup_cons, List.mem_cons] at this
    exact fun q => this.1 (.inl q)
  have apart : ∀ q ∈ fz ++ (fr ++ mt), q.1 ≠ e ∧ q.1 ≠ it := by
    have pm : ((fz ++ ([(e, enumOf it (i : Nat) old), (it, o)] ++ fr)) ++ mt).Perm ((e, enumOf it (i : Nat) old) :: (it, o) :: (fz ++ (fr ++ mt))) := by
      rw [List.append_assoc, List.append_assoc]
      exact (List.perm_middle).trans ((List.perm_middle).cons _)
    have ndp : (((e, enumOf it (i : Nat) old) :: (it, o) :: (fz ++ (fr ++ mt)) : Led).map Prod.fst).Nodup := by rw [← (pm.map _).nodup_iff]; exact nd
    rw [List.map_cons, List.map_cons, List.nodup_cons, List.nodup_cons] at ndp
    intro q hq
    refine ⟨fun z => ndp.1 ?_, fun z => ndp.2.1 ?_⟩
    · have zz := List.mem_map_of_mem (f := Prod.fst) hq
      rw [z] at zz; exact .tail _ zz
    · have zz := List.mem_map_of_mem (f := Prod.fst) hq
      rw [z] at zz; exact zz
  have I1 : s.heap.IsListIter it l i := ⟨o, zI.1, hc, hd⟩
  have I2 : s.heap.IsList l (List.toArray vs) := ⟨_, hlg, rfl, n, rfl⟩
  cases hx : items[i]? with
  | none =>
    have hlen : items.length ≤ i := by simpa using hx
    refine wpAny_pyNext_enum_end hh zE.1 I1 I2 (by have := D.length; simp; omega) fun h' hx => ⟨by simp; omega, h', rfl, ?_⟩
    -- the iterator is gone; the rest stands
    have hx' : ∀ b o, b ≠ it → s.heap.get? b = some o → h'.get? b = some o := fun b o hb => hx b o hb
    refine ⟨⟨F.ns.at' fun o e => hx' _ _ (fun q => zI.2.1 q.symm) e, fun b o e => hx' _ _ (fun q => ?_) (F.keep b o e), F.above⟩, mt, δ, ?_, ?_, R⟩
    · rw [q] at e; exact nomatch (zI.2.2.symm.trans e)
    · intro q hq
      have hq' : q ∈ fz ++ (fr ++ mt) := by rw [← List.append_assoc]; exact hq
      have z := N q (by simp only [List.mem_append, List.mem_cons] at hq ⊢; rcases hq with (h | h) | h <;> simp [h])
      exact ⟨hx' _ _ (apart q hq').2 z.1, z.2⟩
    · have sb : ((fz ++ fr) ++ mt).Sublist ((fz ++ ([(e, enumOf it (i : Nat) old), (it, o)] ++ fr)) ++ mt) :=
        List.Sublist.append_right (List.Sublist.append_left (List.sublist_append_right _ _) _) _
      exact nd.sublist (sb.map _)
  | some x =>
    obtain ⟨v, hv, Dv⟩ := D.get hx
    refine wpAny_pyNext_enum_item zE.1 I1 I2 (x := v) (by simpa using hv) hei fun h1 heo hit1 ht1 hz1 hk1 => ?_
    refine wpAny_letOwnedTupleGo_enum heo fun h2 he2 hs2 => ?_
    have hsz : ∀ q ∈ (fz ++ ([(e, enumOf it (i : Nat) old), (it, o)] ++ fr)) ++ mt, q.1 < s.heap.objs.size := fun q hq => Heap.lt_size (N q hq).1
    have he_lt : e < s.heap.objs.size := Heap.lt_size zE.1
    have hi_lt : it < s.heap.objs.size := Heap.lt_size zI.1
    obtain ⟨o', ho', hc', hd'⟩ := hit1
    have keep2 : ∀ b o, b ≠ e → b ≠ it → s.heap.get? b = some o → h2.get? b = some o := fun b o h3 h4 h5 => (hs2.2 b h3).trans (hk1 b o h3 h4 h5)
    have ht2 : h2.get? s.heap.objs.size = some (tupOf [.int i s.toks, v] 0) := (hs2.2 _ (Nat.ne_of_gt he_lt)).trans ht1
    have hL : s.heap.objs.size ≠ L := Nat.ne_of_gt F.ns.lt
    refine ⟨.tup [.int i, x], _, [(e, enumOf it ((i + 1 : Nat) : Int) v), (it, o')], (s.heap.objs.size, tupOf [.int i s.toks, v] 0) :: fz, h2, _, enum_items hx, rfl, ⟨i + 1, vs, n, o', v, rfl, hc', hd', rfl, .tail _ hl, D.mono fun q hq => .tail _ hq⟩, ?_, fun q hq => .tail _ hq, ?_⟩
    · refine ⟨⟨F.ns.at' fun o q => keep2 _ _ (fun z => zE.2.1 z.symm) (fun z => zI.2.1 z.symm) q, fun b o q => keep2 _ _ (fun z => ?_) (fun z => ?_) (F.keep b o q), F.above⟩, mt, δ, ?_, ?_, fun b o' q => (R.at_ b o' q).mono (fun _ h => .tail _ h) (fun _ h => h), R.inj⟩
      · rw [z] at q; exact nomatch (zE.2.2.symm.trans q)
      · rw [z] at q; exact nomatch (zI.2.2.symm.trans q)
      · intro q hq
        simp only [List.cons_append, List.nil_append, List.mem_cons, List.mem_append] at hq
        have rest : q ∈ fz ++ (fr ++ mt) → h2.get? q.1 = some q.2 ∧ q.1 ≠ L ∧ h₀.get? q.1 = none := fun hq' => by
          have z := N q (by simp only [List.mem_append, List.mem_cons] at hq' ⊢; rcases hq' with h | h | h <;> simp [h])
          exact ⟨keep2 _ _ (apart q hq').1 (apart q hq').2 z.1, z.2⟩
        rcases hq with rfl | ((h | (rfl | rfl | h)) | h)
        · exact ⟨ht2, hL, next_is_new F⟩
        · exact rest (by simp [h])
        · have : ((i + 1 : Nat) : Int) = (i : Int) + 1 := by push_cast; rfl
          rw [this]
          exact ⟨he2, zE.2⟩
        · exact ⟨(hs2.2 _ (Ne.symm hei)).trans ho', zI.2⟩
        · exact rest (by simp [h])
        · exact rest (by simp [h])
      · have e1 : ((((s.heap.objs.size, tupOf [.int i s.toks, v] 0) :: fz) ++ ([(e, enumOf it ((i + 1 : Nat) : Int) v), (it, o')] ++ fr)) ++ mt).map Prod.fst =
            s.heap.objs.size :: ((fz ++ ([(e, enumOf it (i : Nat) old), (it, o)] ++ fr)) ++ mt).map Prod.fst := by simp
        show List.Nodup (List.map Prod.fst _)
        rw [e1]
        exact List.nodup_cons.mpr ⟨not_key hsz, nd⟩
    · simp only [Den]
      exact ⟨_, _, 0, rfl, .head _, DenL.cons den_int (DenL.cons (Dv.mono fun q hq => .tail _ hq) DenL.nil)⟩
theorem S1.forE {ts : List Expr} {k' : Nat} {px p p2 pe : Pos} {src : Expr} {body : List Stmt} {Q : Fl → Rho → AH → Prop} (hg : isGlob sc (Str.ofString "enumerate") = true) (hns : nsIn K mainGlobals (Str.ofString "enumerate") = some none) (hb : bootBuiltins (Str.ofString "enumerate") = some (.type "enumerate"))
    (hst : isStarred src = false)
    (hs : ∀ env x, foldedSetIterable (.Call (.Name (Str.ofString "enumerate") pe) [src] [] p2) env x = pure x)
    (he : ∀ env, eval (.Call (.Name (Str.ofString "enumerate") pe) [src] [] p2) env = (do callWith p2 (← eval (.Name (Str.ofString "enumerate") pe) env) [] (backTo p2 (starEach [src] env)) (backToKw p2 (keywordEach [] env))))
    (h : EV prog w K d sc cl src ρ H (fun x H1 => ∃ l, x = .lst l ∧ FORT prog w K d sc cl (.Tuple ts k' px) body ((l.zipIdx).map fun p => V.tup [.int (p.2 : Nat), p.1]) ρ H1 Q)) :
    S1 prog w K d sc cl (.For (.Tuple ts k' px) (.Call (.Name (Str.ofString "enumerate") pe) [src] [] p2) body [] p) ρ H Q := by
  intro env A fr h₀ L m fz s C S LO Q' k
  refine wpAny_For (hs := hs env) (Call_ (he := he env) ((EV.nameB (Q := fun x H1 => x = .raw (.type "enumerate") ∧ H1 = H) hg hns hb (by decide) ⟨rfl, rfl⟩) env A fr h₀ L m fz s C S LO.e _ fun u x fz0 H0 h0 t0 S0 s0 D0 q0 => ?_))
  obtain ⟨rfl, rfl⟩ := q0
  simp only [Den] at D0; subst D0
  rw [star_cons hst]
  refine PySem.callWith_type rfl (evalArgs_plain (spliced_cons (h env A fr h₀ L m fz0 _ C S0 (LO.mono s0).e _ fun u2 x2 fz1 H1 h1 t1 S1 s1 D1 q1 => spliced_nil ?_)))
  obtain ⟨l, rfl, q⟩ := q1
  obtain ⟨F, mt, δ, N, nd, R⟩ := S1
  simp only [Den] at D1
  obtain ⟨a, vs, n, rfl, hm, D⟩ := D1
  have hlg := (N _ (List.mem_append_left _ (List.mem_append_left _ hm))).1
  refine enum_rows F (items := List.toArray vs) ⟨_, hlg, rfl, n, rfl⟩ fun h2 hE hI hL2 F2 hk2 _ _ _ _ _ => ?_
  obtain ⟨oi, hoi, hci, hdi⟩ := hI
  have hn1 : h₀.get? h1.objs.size = none := next_is_new F
  have hLlt := F.ns.lt
  have hn2 : h₀.get? (h1.objs.size + 1) = none := by
    cases hq : h₀.get? (h1.objs.size + 1) with
    | none => rfl
    | some o' => have := Heap.lt_size (F.keep _ _ hq); exact absurd this (by show ¬ (h1.objs.size + 1 < h1.objs.size); omega)
  have N2 : News h₀ L h2 (((fz1 ++ ([(h1.objs.size + 1, enumOf h1.objs.size 0 .none), (h1.objs.size, oi)] ++ fr)) ++ mt)) := fun p hp => by
    simp only [List.cons_append, List.nil_append, List.mem_cons, List.mem_append] at hp
    have old : p ∈ (fz1 ++ fr) ++ mt → h2.get? p.1 = some p.2 ∧ p.1 ≠ L ∧ h₀.get? p.1 = none := fun hp => ⟨hk2 _ _ (N p hp).1, (N p hp).2⟩
    rcases hp with (h | (rfl | rfl | h)) | h
    · exact old (by simp [h])
    · exact ⟨hE, Nat.ne_of_gt (Nat.lt_succ_of_lt hLlt), hn2⟩
    · exact ⟨hoi, Nat.ne_of_gt hLlt, hn1⟩
    · exact old (by simp [h])
    · exact old (by simp [h])
  have nd2 : (((fz1 ++ ([(h1.objs.size + 1, enumOf h1.objs.size 0 .none), (h1.objs.size, oi)] ++ fr)) ++ mt).map Prod.fst).Nodup := by
    have pm : ((fz1 ++ ([(h1.objs.size + 1, enumOf h1.objs.size 0 .none), (h1.objs.size, oi)] ++ fr)) ++ mt).Perm ((h1.objs.size + 1, enumOf h1.objs.size 0 .none) :: (h1.objs.size, oi) :: ((fz1 ++ fr) ++ mt)) := by
      rw [List.append_assoc, List.append_assoc, List.append_assoc]
      exact (List.perm_middle).trans ((List.perm_middle).cons _)
    rw [(pm.map _).nodup_iff, List.map_cons, List.map_cons]
    have kl := keys_lt N
    refine List.nodup_cons.mpr ⟨fun hm => ?_, List.nodup_cons.mpr ⟨not_key kl, nd⟩⟩
    rcases List.mem_cons.mp hm with e | hm
    · exact absurd e (Nat.succ_ne_self _)
    · exact not_key (a := h1.objs.size + 1) (fun p hp => Nat.lt_succ_of_lt (kl p hp)) hm
  have S2 : St ([(h1.objs.size + 1, enumOf h1.objs.size 0 .none), (h1.objs.size, oi)] ++ fr) h₀ L m fz1 H1 h2 := ⟨F2, mt, δ, N2, nd2, R⟩
  refine wpAny_pyIter_enum hE ?_
  exact for_core (P := PEnum (h1.objs.size + 1) h1.objs.size a l) (s := { s with heap := h2, toks := t1 })
    (fun hsub hP => by obtain ⟨i, vs, n, o, old, e1, e2, e3, e4, e5, e6⟩ := hP; exact ⟨i, vs, n, o, old, e1, e2, e3, e4, hsub _ e5, e6.mono hsub⟩)
    (fun m fz H s xs fe hP S => PEnum.step C.hd m fz H s xs fe hP S) C ⟨0, vs, n, oi, .none, rfl, hci, hdi, by simp, hm, D⟩ S2 (LO.mono fun p hp => s1 _ (s0 _ hp)) q
    (fun f F ρ' m' fz' H' h' tk' S3 s3 L3 D3 q3 => k f F ρ' m' fz' H' h' tk' S3 (fun p hp => s3 _ (s1 _ (s0 _ hp))) L3 D3 q3) deframeAll
end
-- R7

section
variable {prog : Program} {w : World} {K : Frag} {d : Nat} {sc : Scope} {cl : List (Str × Addr)} {ρ : Rho} {H : AH}

-- items
def isSlice : Expr → Bool
  | .Slice .. => true
  | _ => false
theorem sub_plain {sl : Expr} (h : isSlice sl = false) (o i : Value) : subscripted sl false o i = operate [o, i] (getItem o i) := by
  cases sl <;> first | rfl | cases h
/-- a subscript by an int -/
def ITEM (H : AH) (x : V) (l : List V) : Prop := x = .tup l ∨ x = .lst l ∨ (∃ a, x = .ptr a ∧ H a = some (.lst l)) ∨ (∃ a, x = .ptr a ∧ H a = some (.arr l))
theorem seqIndex_bd {k : Int} {n j : Nat} (h : seqIndex? k n = some j) : -(n : Int) ≤ k ∧ k < n := by
  unfold seqIndex? at h
  by_cases h0 : k < 0
  · simp only [if_pos h0] at h
    split at h
    · rename_i hc
      simp only [Bool.and_eq_true, decide_eq_true_eq] at hc
      omega
    · cases h
  · simp only [if_neg h0] at h
    split at h
    · rename_i hc
      simp only [Bool.and_eq_true, decide_eq_true_eq] at hc
      omega
    · cases h
theorem item_list {A : Around} {s : Shared} {a : Addr} {vs : List Value} {i : Int} {t : Tok} {j : Nat} {v : Value} {Q : Value → Shared → Prop} (hl : s.heap.IsList a (List.toArray vs)) (hlen : vs.length ≤ 2 ^ 30)
    (hj : seqIndex? i vs.length = some j) (hv : vs[j]? = some v) (h : Q v s) : wpAny (model prog w) A (getItem (.ref a) (.int i t)) Q (fun _ _ => False) s := by
  unfold seqIndex? at hj
  by_cases h0 : i < 0
  · simp only [if_pos h0] at hj
    split at hj
    · rename_i hc
      cases hj
      simp only [Bool.and_eq_true, decide_eq_true_eq] at hc
      exact wpAny_getItem_list_neg hl h0 (by simp; omega) (by omega) (by simpa using hv) h
    · cases hj
  · simp only [if_neg h0] at hj
    split at hj
    · rename_i hc
      cases hj
      simp only [Bool.and_eq_true, decide_eq_true_eq] at hc
      exact wpAny_getItem_list hl (by omega) (by omega) (by simpa using hv) h
    · cases hj
theorem EV.item {o i : Expr} {p : Pos} {Q : V → AH → Prop} (hsl : isSlice i = false)
    (h : EV prog w K d sc cl o ρ H (fun x H1 => EV prog w K d sc cl i ρ H1 (fun y H2 => ∃ k l j v, y = .int k ∧ ITEM H2 x l ∧ l.length ≤ 2 ^ 30 ∧ seqIndex? k l.length = some j ∧ l[j]? = some v ∧ Q v H2))) : EV prog w K d sc cl (.Subscript o i p) ρ H Q :=
  fun env A fr h₀ L m fz s C S LO Q' k => Subscript_ (h env A fr h₀ L m fz s C S LO _ fun u x fz1 H1 h1 t1 S1 s1 D1 q1 =>
    q1 env A fr h₀ L m fz1 _ C S1 (LO.mono s1) _ fun u2 y fz2 H2 h2 t2 S2 s2 D2 q2 => by
      obtain ⟨k', l, j, v, rfl, hI, hlen, hj, hv, q⟩ := q2
      simp only [Den] at D2
      obtain ⟨t, rfl⟩ := D2
      have sub : ∀ p ∈ fz, p ∈ fz2 := fun p hp => s2 _ (s1 _ hp)
      have D1' := D1.mono s2
      rcases hI with rfl | rfl | ⟨a, rfl, ha⟩ | ⟨a, rfl, ha⟩
      · obtain ⟨a, vs, rfl, ht, D'⟩ := tupAt S2 D1'
        obtain ⟨vv, hvv, Dv⟩ := D'.get hv
        have hk : -(2 ^ 63) ≤ k' ∧ k' < 2 ^ 63 := by
          have := seqIndex_bd hj; omega
        exact tail_any ht.typeIs slot_tuple_getitem.lookup (PyProof.Rows.getItem_tuple ht hk.1 hk.2 (by rw [List.size_toArray, D'.length]; exact hj) (by simpa using hvv) (k vv v fz2 H2 h2 t2 S2 sub Dv q)) (sub_plain hsl _ _)
      · obtain ⟨a, vs, n, rfl, hg, D'⟩ := lstAt S2 D1'
        obtain ⟨vv, hvv, Dv⟩ := D'.get hv
        have hl : Heap.IsList h2 a (List.toArray vs) := ⟨_, hg, rfl, n, rfl⟩
        exact tail_any hl.typeIs slot_list_getitem.lookup (item_list hl (by rw [D'.length]; exact hlen) (by rw [D'.length]; exact hj) hvv (k vv v fz2 H2 h2 t2 S2 sub Dv q)) (sub_plain hsl _ _)
      · simp only [Den] at D1'; subst D1'
        obtain ⟨vs, n, hg, D'⟩ := S2.listAt ha
        obtain ⟨vv, hvv, Dv⟩ := D'.get hv
        have hl : Heap.IsList h2 a (List.toArray vs) := ⟨_, hg, rfl, n, rfl⟩
        exact tail_any hl.typeIs slot_list_getitem.lookup (item_list hl (by rw [D'.length]; exact hlen) (by rw [D'.length]; exact hj) hvv (k vv v fz2 H2 h2 t2 S2 sub Dv q)) (sub_plain hsl _ _)
      · simp only [Den] at D1'; subst D1'
        have S2' := S2
        obtain ⟨F, mt, δ, N, nd, R⟩ := S2
        obtain ⟨oo, vs, n, k1, k2, k3, D'⟩ := R.at_ a _ ha
        obtain ⟨vv, hvv, Dv⟩ := D'.get hv
        have hl : Heap.IsList h2 a (List.toArray vs) := ⟨_, (N _ (List.mem_append_right _ k1)).1, k2, n, k3⟩
        exact tail_any hl.typeIs slot_list_getitem.lookup (item_list hl (by rw [D'.length]; exact hlen) (by rw [D'.length]; exact hj) hvv (k vv v fz2 H2 h2 t2 S2' sub Dv q)) (sub_plain hsl _ _))

-- slices xs[:b], xs[0:b]
theorem pick_cut (c n : Nat) : max 0 (min (c : Int) n) = max 0 (min ((min c n : Nat) : Int) n) := by
  rcases Nat.le_total c n with h | h
  · rw [Nat.min_eq_left h]
  · rw [Nat.min_eq_right h, Int.min_eq_right (Int.ofNat_le.mpr h), Int.min_self]
theorem pick_upto (items : Array Value) (b : Int) (hb : 0 ≤ b) (lo : Option Int) (hlo : lo = none ∨ lo = some 0) : slicePick items lo (some b) none = (items.toList.take b.toNat).toArray := by
  have key : ∀ lo : Option Int, lo = none ∨ lo = some 0 → sliceBounds lo (some b) none items.size = sliceBounds none (some ((min b.toNat items.size : Nat) : Int)) none items.size := by
    intro lo h
    rcases h with rfl | rfl
    · simp only [sliceBounds, Option.getD_none, show (1 : Int) > 0 by decide, if_true]
      have h1 : ¬ (b < 0) := by omega
      have h2 : ¬ (((min b.toNat items.size : Nat) : Int) < 0) := by omega
      simp only [h1, h2, if_false]
      refine Prod.ext rfl (Prod.ext ?_ rfl)
      have := pick_cut b.toNat items.size
      rwa [Int.toNat_of_nonneg hb] at this
    · simp only [sliceBounds, Option.getD_none, show (1 : Int) > 0 by decide, if_true]
      have h1 : ¬ (b < 0) := by omega
      have h2 : ¬ (((min b.toNat items.size : Nat) : Int) < 0) := by omega
      have h3 : ¬ ((0 : Int) < 0) := by omega
      simp only [h1, h2, h3, if_false]
      refine Prod.ext ?_ (Prod.ext ?_ rfl)
      · exact by rw [Int.min_eq_left (Int.natCast_nonneg _)]; rfl
      · have := pick_cut b.toNat items.size
        rwa [Int.toNat_of_nonneg hb] at this
  have e : slicePick items lo (some b) none = slicePick items none (some ((min b.toNat items.size : Nat) : Int)) none := by
    unfold slicePick
    rw [key lo hlo]
  rw [e, slicePick_upto items _ (Nat.min_le_right _ _)]
  congr 1
  rcases Nat.le_total b.toNat items.size with hle | hle
  · rw [Nat.min_eq_left hle]
  · rw [Nat.min_eq_right hle, List.take_of_length_le (by simp), List.take_of_length_le (by simpa using hle)]
theorem EV.slice {o hi : Expr} {lo : Option Expr} {p p2 : Pos} {Q : V → AH → Prop}
    (h : EV prog w K d sc cl o ρ H (fun x H1 => ((lo = none ∧ EV prog w K d sc cl hi ρ H1 (fun y H2 => ∃ b l, y = .int b ∧ 0 ≤ b ∧ (x = .lst l ∨ ∃ a, x = .ptr a ∧ H2 a = some (.lst l)) ∧ l.length ≤ 1000 ∧ Q (.lst (l.take b.toNat)) H2)) ∨
       (∃ le, lo = some le ∧ EV prog w K d sc cl le ρ H1 (fun z H2 => z = .int 0 ∧ EV prog w K d sc cl hi ρ H2 (fun y H3 => ∃ b l, y = .int b ∧ 0 ≤ b ∧ (x = .lst l ∨ ∃ a, x = .ptr a ∧ H3 a = some (.lst l)) ∧ l.length ≤ 1000 ∧ Q (.lst (l.take b.toNat)) H3)))))) :
    EV prog w K d sc cl (.Subscript o (.Slice lo (some hi) none p2) p) ρ H Q :=
  fun env A fr h₀ L m fz s C S LO Q' k => Subscript_ (h env A fr h₀ L m fz s C S LO _ fun u x fz1 H1 h1 t1 S1 s1 D1 q1 => by
    have fin : ∀ (vl vu : Value) (lo' : Option Int) (b : Int) (l : List V) (fz3 : Led) (H3 : AH) (h3 : Heap) (t3 : Nat), (lo' = none ∨ lo' = some 0) → IsPart vl lo' → IsPart vu (some b) → St fr h₀ L m fz3 H3 h3 → (∀ p ∈ fz1, p ∈ fz3) → 0 ≤ b → (x = .lst l ∨ ∃ a, x = .ptr a ∧ H3 a = some (.lst l)) → l.length ≤ 1000 → Q (.lst (l.take b.toNat)) H3 →
        wpAny (model prog w) A (subscriptTail o (.Slice lo (some hi) none p2) u (.ref h3.objs.size)) Q' (fun _ _ => False) { s with heap := h3.push { cls := .type "slice", data := .fields #[vl, vu, .none] }, toks := t3 } := by
      intro vl vu lo' b l fz3 H3 h3 t3 hlo pl pu S3 s3 hb hx hlen q
      have D3 := D1.mono s3
      have key : ∃ a vs n, u = .ref a ∧ h3.get? a = some (lstOf vs n) ∧ DenL fz3 l vs := by
        rcases hx with rfl | ⟨a, rfl, ha⟩
        · exact lstAt S3 D3
        · simp only [Den] at D3; subst D3
          obtain ⟨vs, n, hg, D'⟩ := S3.listAt ha
          exact ⟨a, vs, n, rfl, hg, D'⟩
      obtain ⟨a, vs, n, rfl, hg, D'⟩ := key
      have S4 := S3
      obtain ⟨F, mt, δ, N, nd, R⟩ := S3
      let sl : Obj := { cls := .type "slice", data := .fields #[vl, vu, .none] }
      have hl0 : Heap.IsList h3 a (List.toArray vs) := ⟨_, hg, rfl, n, rfl⟩
      have hl : Heap.IsList (h3.push sl) a (List.toArray vs) := hl0.push _
      refine tail_any (s := { s with heap := h3.push sl, toks := t3 }) hl.typeIs slot_list_getitem.lookup (wpAny_getItem_list_slice hl (Heap.IsSliceOf.new ..) pl pu .none (by simp) ?_ (by rw [List.size_toArray, D'.length, sizeLine_eq]; omega)) rfl
      rw [pick_upto _ b hb lo' hlo]
      have N1 := News.push (F.push sl) (N.grown fun _ _ e => Heap.get?_push_of_some _ e) { cls := .type "list", data := .seq (List.toArray (vs.take b.toNat)) }
      have kl : ∀ q ∈ (fz3 ++ fr) ++ mt, q.1 < (h3.push sl).objs.size := fun q hq => by rw [Heap.size_push]; exact Nat.lt_succ_of_lt (keys_lt N q hq)
      have S5 : St fr h₀ L m (((h3.push sl).objs.size, lstOf (vs.take b.toNat) 0) :: fz3) H3 ((h3.push sl).push (lstOf (vs.take b.toNat) 0)) := St.frozen ((F.push _).push _) N1 kl nd R
      exact k _ (.lst (l.take b.toNat)) _ H3 _ t3 S5 (fun q hq => .tail _ (s3 _ (s1 _ hq))) (by simp only [Den]; exact ⟨_, _, 0, rfl, .head _, (D'.take _).mono fun q hq => .tail _ hq⟩) q
    rcases q1 with ⟨rfl, q⟩ | ⟨le, rfl, q⟩
    · refine wpAny_Slice ?_
      rw [evalPart_none]
      refine wpAny_pure ?_
      rw [evalPart_some]
      refine q env A fr h₀ L m fz1 _ C S1 (LO.mono s1) _ fun u2 y fz2 H2 h2 t2 S2 s2 D2 q2 => ?_
      obtain ⟨b, l, rfl, hb, hx, hlen, qq⟩ := q2
      simp only [Den] at D2
      obtain ⟨t, rfl⟩ := D2
      exact wpAny_pure (fin .none (.int b t) none b l fz2 H2 h2 t2 (.inl rfl) .none (.int _ _) S2 s2 hb hx hlen qq)
    · refine wpAny_Slice ?_
      rw [evalPart_some]
      refine q env A fr h₀ L m fz1 _ C S1 (LO.mono s1) _ fun u2 z fz2 H2 h2 t2 S2 s2 D2 q2 => ?_
      obtain ⟨rfl, q2⟩ := q2
      simp only [Den] at D2
      obtain ⟨t, rfl⟩ := D2
      rw [evalPart_some]
      refine q2 env A fr h₀ L m fz2 _ C S2 (LO.mono fun p hp => s2 _ (s1 _ hp)) _ fun u3 y fz3 H3 h3 t3 S3 s3 D3 q3 => ?_
      obtain ⟨b, l, rfl, hb, hx, hlen, qq⟩ := q3
      simp only [Den] at D3
      obtain ⟨t', rfl⟩ := D3
      rw [evalPart_none]
      exact wpAny_pure (fin (.int 0 t) (.int b t') (some 0) b l fz3 H3 h3 t3 (.inr rfl) (.int _ _) (.int _ _) S3 (fun p hp => s3 _ (s2 _ hp)) hb hx hlen qq))

-- built-ins
theorem CALLV.len {x : V} {l : List V} {Q : V → AH → Prop} (hx : x = .tup l ∨ x = .lst l ∨ ∃ a, x = .ptr a ∧ H a = some (.lst l)) (hl : l.length ≤ 2 ^ 30) (h : Q (.int l.length) H) : CALLV prog w K d (.builtin "len") [x] H Q :=
  fun sc cl env A fr h₀ L m fz s vals C S D Q' k => by
    simp only [DenL] at D
    obtain ⟨v, vs, rfl, D, rfl⟩ := D
    rcases hx with rfl | rfl | ⟨a, rfl, ha⟩
    · obtain ⟨a, vs, rfl, ht, D'⟩ := tupAt S D
      refine len_tuple ht (by rw [List.size_toArray, D'.length]; omega) (k _ (.int l.length) fz H _ _ S (fun _ h => h) ?_ h)
      rw [List.size_toArray, D'.length]; exact den_int
    · obtain ⟨a, vs, n, rfl, hg, D'⟩ := lstAt S D
      refine len_list (items := List.toArray vs) ⟨_, hg, rfl, n, rfl⟩ (by rw [List.size_toArray, D'.length]; omega) (k _ (.int l.length) fz H _ _ S (fun _ h => h) ?_ h)
      rw [List.size_toArray, D'.length]; exact den_int
    · simp only [Den] at D; subst D
      obtain ⟨vs, n, hg, D'⟩ := S.listAt ha
      refine len_list (items := List.toArray vs) ⟨_, hg, rfl, n, rfl⟩ (by rw [List.size_toArray, D'.length]; omega) (k _ (.int l.length) fz H _ _ S (fun _ h => h) ?_ h)
      rw [List.size_toArray, D'.length]; exact den_int
theorem CALLV.max2 {a b : Int} {Q : V → AH → Prop} (h : Q (.int (max a b)) H) : CALLV prog w K d (.builtin "max") [.int a, .int b] H Q :=
  fun sc cl env A fr h₀ L m fz s vals C S D Q' k => by
    simp only [DenL, Den] at D
    obtain ⟨v, vs, rfl, ⟨t, rfl⟩, v2, vs2, rfl, ⟨t2, rfl⟩, rfl⟩ := D
    obtain ⟨F, mt, δ, N, nd, R⟩ := S
    refine max_two_N C.hd F N fun h' tk F' N' => k _ (.int (max a b)) fz H h' tk ⟨F', mt, δ, N', nd, R⟩ (fun _ h => h) ?_ h
    have : (if b > a then b else a) = max a b := by omega
    rw [this]; exact den_int
theorem CALLV.min2 {a b : Int} {Q : V → AH → Prop} (h : Q (.int (min a b)) H) : CALLV prog w K d (.builtin "min") [.int a, .int b] H Q :=
  fun sc cl env A fr h₀ L m fz s vals C S D Q' k => by
    simp only [DenL, Den] at D
    obtain ⟨v, vs, rfl, ⟨t, rfl⟩, v2, vs2, rfl, ⟨t2, rfl⟩, rfl⟩ := D
    obtain ⟨F, mt, δ, N, nd, R⟩ := S
    refine min_two_N C.hd F N fun h' tk F' N' => k _ (.int (min a b)) fz H h' tk ⟨F', mt, δ, N', nd, R⟩ (fun _ h => h) ?_ h
    have : (if b < a then b else a) = min a b := by omega
    rw [this]; exact den_int
theorem CALLV.abs {a : Int} {Q : V → AH → Prop} (h : Q (.int (if a < 0 then -a else a)) H) : CALLV prog w K d (.builtin "abs") [.int a] H Q :=
  fun sc cl env A fr h₀ L m fz s vals C S D Q' k => by
    simp only [DenL, Den] at D
    obtain ⟨v, vs, rfl, ⟨t, rfl⟩, rfl⟩ := D
    exact call_abs_int fun u tk => k _ _ fz H s.heap tk S (fun _ h => h) den_int h
theorem ints_of {fz : Led} : ∀ {ns : List Int} {vs : List Value}, DenL fz (ns.map V.int) vs → IntsAre vs ns
  | [], _, h => by simp only [List.map_nil, DenL] at h; subst h; exact .nil
  | n :: ns, _, h => by
    simp only [List.map_cons, DenL, Den] at h
    obtain ⟨v, vs, rfl, ⟨t, rfl⟩, h⟩ := h
    exact .cons n t (ints_of h)
theorem CALLV.sum {ns : List Int} {x : V} {Q : V → AH → Prop} (hx : x = .lst (ns.map V.int)) (h : Q (.int ns.sum) H) : CALLV prog w K d (.builtin "sum") [x] H Q :=
  fun sc cl env A fr h₀ L m fz s vals C S D Q' k => by
    subst hx
    simp only [DenL] at D
    obtain ⟨v, vs, rfl, D, rfl⟩ := D
    obtain ⟨a, vs, n, rfl, hg, D'⟩ := lstAt S D
    obtain ⟨F, mt, δ, N, nd, R⟩ := S
    exact sumK (vs := vs) C.hd F N ⟨_, hg, rfl, n, rfl⟩ (ints_of D') fun h' tk t' F' N' => k _ (.int ns.sum) fz H h' tk ⟨F', mt, δ, N', nd, R⟩ (fun _ h => h) den_int h

-- lists by + and *
theorem OP2.addL {l l' : List V} {Q : V → AH → Prop} (hl : l.length + l'.length ≤ 1000) (h : Q (.lst (l ++ l')) H) : OP2 prog w K d (binaryOp .Add) (.lst l) (.lst l') H Q :=
  fun sc cl env A fr h₀ L m fz s va vb C S D1 D2 Q' k => by
    obtain ⟨a, vs, n, rfl, hg, E1⟩ := lstAt S D1
    obtain ⟨b, ws, n', rfl, hg', E2⟩ := lstAt S D2
    obtain ⟨F, mt, δ, N, nd, R⟩ := S
    refine add_arrays (its := List.toArray vs) (its2 := List.toArray ws) F N ⟨_, hg, rfl, n, rfl⟩ ⟨_, hg', rfl, n', rfl⟩ (fun h' F' N' => ?_) ?_
    · refine k _ (.lst (l ++ l')) _ H h' s.toks (St.frozen (o := lstOf (vs ++ ws) 0) F' ?_ (keys_lt N) nd R) (fun p hp => .tail _ hp) ?_ h
      · simpa using N'
      · simp only [Den]; exact ⟨_, _, 0, rfl, .head _, (E1.app E2).mono fun p hp => .tail _ hp⟩
    · rw [List.size_toArray, List.size_toArray, E1.length, E2.length, sizeLine_eq]; omega
theorem den_rep {fz : Led} {x : V} {v : Value} (D : Den fz x v) : ∀ n, DenL fz (List.replicate n x) (List.replicate n v)
  | 0 => by simp [DenL]
  | n + 1 => by rw [List.replicate_succ, List.replicate_succ]; exact DenL.cons D (den_rep D n)
theorem fold_rep (v : Value) : ∀ (n : Nat) (acc : Array Value), List.foldl (fun x1 x2 => x1 ++ x2) acc (List.replicate n #[v]) = acc ++ (List.replicate n v).toArray
  | 0, acc => by simp
  | n + 1, acc => by
    rw [List.replicate_succ, List.foldl_cons, fold_rep v n, List.replicate_succ]
    apply Array.ext'
    simp
theorem OP2.mulL {x : V} {k : Int} {Q : V → AH → Prop} (h0 : -1000 ≤ k) (h1 : k ≤ 1000) (h : Q (.lst (List.replicate k.toNat x)) H) : OP2 prog w K d (binaryOp .Mult) (.lst [x]) (.int k) H Q :=
  fun sc cl env A fr h₀ L m fz s va vb C S D1 D2 Q' kk => by
    obtain ⟨a, vs, n, rfl, hg, E1⟩ := lstAt S D1
    simp only [Den] at D2
    obtain ⟨t, rfl⟩ := D2
    simp only [DenL] at E1
    obtain ⟨v, _, rfl, Dv, rfl⟩ := E1
    obtain ⟨F, mt, δ, N, nd, R⟩ := S
    refine mul_list (items := #[v]) F N hg (by omega) (by omega) (by simp; omega) fun h' F' N' => ?_
    refine kk _ (.lst (List.replicate k.toNat x)) _ H h' s.toks (St.frozen (o := lstOf (List.replicate k.toNat v) 0) F' ?_ (keys_lt N) nd R) (fun p hp => .tail _ hp) ?_ h
    · have e : List.foldl (fun x1 x2 => x1 ++ x2) #[] (List.replicate (if (#[v] : Array Value).isEmpty = true then 0 else k.toNat) #[v]) = (List.replicate k.toNat v).toArray := by
        rw [if_neg (by simp), fold_rep]; simp
      rw [e] at N'
      exact N'
    · simp only [Den]; exact ⟨_, _, 0, rfl, .head _, (den_rep Dv _).mono fun p hp => .tail _ hp⟩

-- tuples compared
theorem OP2.inT {i : Int} {ns : List Int} {Q : V → AH → Prop} (h : Q (.bool (ns.any (· == i))) H) : OP2 prog w K d (compareOp .In) (.int i) (.tup (ns.map V.int)) H Q :=
  fun sc cl env A fr h₀ L m fz s va vb C S D1 D2 Q' k => by
    simp only [Den] at D1
    obtain ⟨t, rfl⟩ := D1
    obtain ⟨a, vs, rfl, ht, D'⟩ := tupAt S D2
    exact in_tuple_ints ht (by simpa using ints_of D') (k _ _ fz H s.heap s.toks S (fun _ h => h) den_bool h)
theorem tup_lt {A : Around} {s : Shared} {a b : Addr} {i j k l : Int} {t1 t2 t3 t4 : Tok} {Q : Value → Shared → Prop} (ha : IsTup s.heap a #[.int i t1, .int j t2]) (hb : IsTup s.heap b #[.int k t3, .int l t4]) (hu : A.units < cLine)
    (h : Q (.bool (decide (i < k ∨ (i = k ∧ j < l)))) s) : wpAny (model prog w) A (compareOp .Lt (.ref a) (.ref b)) Q (fun _ _ => False) s := by
  refine wpAny_richCompare_same_room (op := .Lt) ha.typeIs hb.typeIs PySem.F.slot_tuple_lt ?_ hu
  refine wpAny_call_entry PySem.F.slot_tuple_lt ha.typeIs PySem.F.entry_tuple_lt ?_ (PySem.F.args_tuple_lt_2 _ _)
  unfold Builtin.«tuple.__lt__»
  show wpAny _ _ (isInstance (.ref b) (.type "tuple") >>= _) _ _ s
  refine wpAny_bind (wpAny_isInstance hb.typeIs (b := true) (by rw [isSubtype_type]; kernel_rfl) ?_)
  show wpAny _ _ (Builtin.Tuple.tupleItemsOf (.ref a) >>= _) _ _ s
  refine wpAny_bind (tupleItemsOf_ ha ?_)
  show wpAny _ _ (Builtin.Tuple.tupleItemsOf (.ref b) >>= _) _ _ s
  refine wpAny_bind (tupleItemsOf_ hb ?_)
  refine wpAny_bind ?_
  show wpAny _ _ (forIn [(Value.int i t1, Value.int k t3), (Value.int j t2, Value.int l t4)] _ _) _ _ s
  have ltr : ∀ (x y : Int) (t u : Tok) (R : Value → Shared → Prop), R (.bool (decide (x < y))) s → wpAny (model prog w) A.in1 (richCompare .Lt (.int x t) (.int y u)) R (fun _ _ => False) s := fun x y t u R hR => P.lt_int hR
  rw [List.forIn_cons]
  refine wpAny_bind (wpAny_bind (wpAny_eqBool_int ?_))
  by_cases e1 : i = k
  · subst e1
    simp only [beq_self_eq_true, Bool.not_true, Bool.false_eq_true, if_false]
    refine wpAny_pure ?_
    dsimp only
    rw [List.forIn_cons]
    refine wpAny_bind (wpAny_bind (wpAny_eqBool_int ?_))
    by_cases e2 : j = l
    · subst e2
      simp only [beq_self_eq_true, Bool.not_true, Bool.false_eq_true, if_false]
      refine wpAny_pure ?_
      dsimp only
      refine wpAny_pure ?_
      dsimp only
      refine wpAny_pure ⟨.bool false, rfl, (fun z => nomatch z), ?_⟩
      have : decide (i < i ∨ i = i ∧ j < j) = false := by simp
      rw [this] at h; exact h
    · have b2 : (j == l) = false := by simp [e2]
      simp only [b2, Bool.not_false, if_true]
      refine wpAny_bind (wpAny_rule (wpAny_bind (ltr j l _ _ _ ?_)))
      refine wpAny_bind (wpAny_pure (wpAny_pure ?_))
      dsimp only
      refine wpAny_pure ?_
      dsimp only
      refine wpAny_pure ⟨.bool (decide (j < l)), rfl, (fun z => nomatch z), ?_⟩
      have : decide (i < i ∨ i = i ∧ j < l) = decide (j < l) := by simp
      rw [this] at h; exact h
  · have b1 : (i == k) = false := by simp [e1]
    simp only [b1, Bool.not_false, if_true]
    refine wpAny_bind (wpAny_rule (wpAny_bind (ltr i k _ _ _ ?_)))
    refine wpAny_bind (wpAny_pure (wpAny_pure ?_))
    dsimp only
    refine wpAny_pure ?_
    dsimp only
    refine wpAny_pure ⟨.bool (decide (i < k)), rfl, (fun z => nomatch z), ?_⟩
    have : decide (i < k ∨ i = k ∧ j < l) = decide (i < k) := by simp [e1]
    rw [this] at h; exact h
end
-- R8

section
variable {prog : Program} {w : World} {K : Frag} {d : Nat} {sc : Scope} {cl : List (Str × Addr)} {ρ : Rho} {H : AH}

theorem CX.u64 {env : Env} {A : Around} {h₀ : Heap} {L : Addr} (C : CX K d sc cl env A h₀ L) : A.units + 64 < cLine := by
  have := C.units; show _ < 9900; omega
theorem pairAt {fz : Led} {i j : Int} {vs : List Value} (D : DenL fz [.int i, .int j] vs) : ∃ t u, vs = [.int i t, .int j u] := by
  simp only [DenL, Den] at D
  obtain ⟨v, vs, rfl, ⟨t, rfl⟩, v2, vs2, rfl, ⟨t2, rfl⟩, rfl⟩ := D
  exact ⟨t, t2, rfl⟩
theorem OP2.ltT {i j k l : Int} {Q : V → AH → Prop} (h : Q (.bool (decide (i < k ∨ (i = k ∧ j < l)))) H) : OP2 prog w K d (compareOp .Lt) (.tup [.int i, .int j]) (.tup [.int k, .int l]) H Q :=
  fun sc cl env A fr h₀ L m fz s va vb C S D1 D2 Q' kk => by
    obtain ⟨a, vs, rfl, ha, E1⟩ := tupAt S D1
    obtain ⟨b, ws, rfl, hb, E2⟩ := tupAt S D2
    obtain ⟨t, u, rfl⟩ := pairAt E1
    obtain ⟨t', u', rfl⟩ := pairAt E2
    exact tup_lt ha hb (Nat.lt_of_le_of_lt (Nat.le_add_right _ _) C.u64) (kk _ _ fz H s.heap s.toks S (fun _ h => h) den_bool h)
theorem reads_pair {h : Heap} {a : Addr} {i j : Int} {t u : Tok} (ht : IsTup h a (List.toArray [.int i t, .int j u])) : ∃ as, PySem.Reads h (.ref a) (.tuple [.int i, .int j]) as := by
  obtain ⟨o, ho, hc, n, hd⟩ := ht
  exact ⟨_, .tuple ho hc hd (.cons (.int _ _) (.cons (.int _ _) .nil))⟩
theorem OP2.neT {i j k l : Int} {Q : V → AH → Prop} (h : Q (.bool (!decide (i = k ∧ j = l))) H) : OP2 prog w K d (compareOp .NotEq) (.tup [.int i, .int j]) (.tup [.int k, .int l]) H Q :=
  fun sc cl env A fr h₀ L m fz s va vb C S D1 D2 Q' kk => by
    obtain ⟨a, vs, rfl, ha, E1⟩ := tupAt S D1
    obtain ⟨b, ws, rfl, hb, E2⟩ := tupAt S D2
    obtain ⟨t, u, rfl⟩ := pairAt E1
    obtain ⟨t', u', rfl⟩ := pairAt E2
    obtain ⟨_, r1⟩ := reads_pair ha
    obtain ⟨_, r2⟩ := reads_pair hb
    refine ne_dataH r1 r2 (by simp [SeqAt.shaped, PyData.canLay0, PyData.canLayAll0, PyData.depth, PyData.depthAll]) (by simp [SeqAt.shaped, PyData.canLay0, PyData.canLayAll0, PyData.depth, PyData.depthAll]) C.u64 ?_
    refine kk _ _ fz H s.heap s.toks S (fun _ h => h) ?_ h
    simp only [Den, PyData.eqv, PyData.eqvAll]
    congr 1
    by_cases h1 : i = k <;> by_cases h2 : j = l <;> simp [h1, h2]
theorem OP2.eqT0 {Q : V → AH → Prop} (h : Q (.bool true) H) : OP2 prog w K d (compareOp .Eq) (.tup []) (.tup []) H Q :=
  fun sc cl env A fr h₀ L m fz s va vb C S D1 D2 Q' kk => by
    obtain ⟨a, vs, rfl, ha, E1⟩ := tupAt S D1
    obtain ⟨b, ws, rfl, hb, E2⟩ := tupAt S D2
    simp only [DenL] at E1 E2
    subst E1; subst E2
    obtain ⟨o, ho, hc, n, hd⟩ := ha
    obtain ⟨o', ho', hc', n', hd'⟩ := hb
    refine eq_dataH (PySem.Reads.tuple ho hc hd .nil) (PySem.Reads.tuple ho' hc' hd' .nil) (by simp [SeqAt.shaped, PyData.canLay0, PyData.canLayAll0, PyData.depth, PyData.depthAll]) (by simp [SeqAt.shaped, PyData.canLay0, PyData.canLayAll0, PyData.depth, PyData.depthAll]) C.u64 ?_
    exact kk _ (.bool true) fz H s.heap s.toks S (fun _ h => h) (by simp [Den, PyData.eqv, PyData.eqvAll]) h

/-- lists of different lengths -/
theorem lst_diff {op : CmpOp} {b : Bool} {A : Around} {s : Shared} {x y : Addr} {vs ws : List Value} {Q : Value → Shared → Prop} (hx : s.heap.IsList x (List.toArray vs)) (hy : s.heap.IsList y (List.toArray ws)) (hu : A.units < cLine) (hne : vs.length ≠ ws.length)
    (hop : (op = .Eq ∧ b = false) ∨ (op = .NotEq ∧ b = true)) (h : Q (.bool b) s) : wpAny (model prog w) A (compareOp op (.ref x) (.ref y)) Q (fun _ _ => False) s := by
  obtain ⟨ox, hox, hcx, nx, hdx⟩ := id hx
  obtain ⟨oy, hoy, hcy, ny, hdy⟩ := id hy
  have h1 : s.heap.get? x = some ox := hox
  rcases hop with ⟨rfl, rfl⟩ | ⟨rfl, rfl⟩
  · refine wpAny_richCompare_same_room (op := .Eq) hx.typeIs hy.typeIs PySem.F.slot_list_eq ?_ hu
    refine wpAny_call_entry PySem.F.slot_list_eq hx.typeIs PySem.F.entry_list_eq ?_ (PySem.F.args_list_eq_2 _ _)
    unfold Builtin.«list.__eq__»
    show wpAny _ _ (isInstance (.ref y) (.type "list") >>= _) _ _ s
    refine wpAny_bind (wpAny_isInstance hy.typeIs (b := true) (by rw [isSubtype_type]; kernel_rfl) ?_)
    show wpAny _ _ (Builtin.List.listItems (.ref x) >>= _) _ _ s
    refine wpAny_bind (listItems_at h1 hdx ?_)
    show wpAny _ _ (Builtin.List.listItems (.ref y) >>= _) _ _ s
    refine wpAny_bind (listItems_at hoy hdy ?_)
    have hc : ((List.toArray vs).size != (List.toArray ws).size) = true := by simpa using hne
    rw [if_pos hc]
    exact wpAny_bind (wpAny_rule (wpAny_bind (wpAny_pure (wpAny_pure ⟨.bool false, rfl, (fun z => nomatch z), h⟩))))
  · refine wpAny_richCompare_same_room (op := .NotEq) hx.typeIs hy.typeIs PySem.F.slot_list_ne ?_ hu
    refine wpAny_call_entry PySem.F.slot_list_ne hx.typeIs PySem.F.entry_list_ne ?_ (PySem.F.args_list_ne_2 _ _)
    unfold Builtin.«list.__ne__»
    show wpAny _ _ (isInstance (.ref y) (.type "list") >>= _) _ _ s
    refine wpAny_bind (wpAny_isInstance hy.typeIs (b := true) (by rw [isSubtype_type]; kernel_rfl) ?_)
    show wpAny _ _ (Builtin.List.listItems (.ref x) >>= _) _ _ s
    refine wpAny_bind (listItems_at h1 hdx ?_)
    show wpAny _ _ (Builtin.List.listItems (.ref y) >>= _) _ _ s
    refine wpAny_bind (listItems_at hoy hdy ?_)
    have hc : ((List.toArray vs).size != (List.toArray ws).size) = true := by simpa using hne
    rw [if_pos hc]
    exact wpAny_bind (wpAny_rule (wpAny_bind (wpAny_pure (wpAny_pure ⟨.bool true, rfl, (fun z => nomatch z), h⟩))))

/-- what is a list -/
def LST (H : AH) (x : V) (l : List V) : Prop := x = .lst l ∨ ∃ a, x = .ptr a ∧ H a = some (.lst l)
theorem LST.at {fr : Led} {h₀ h : Heap} {L : Addr} {m : Str → Option Value} {fz : Led} {x : V} {v : Value} {l : List V} (S : St fr h₀ L m fz H h) (D : Den fz x v) (I : LST H x l) : ∃ a vs n, v = .ref a ∧ h.get? a = some (lstOf vs n) ∧ DenL fz l vs := by
  rcases I with rfl | ⟨a, rfl, ha⟩
  · exact lstAt S D
  · simp only [Den] at D; subst D
    obtain ⟨vs, n, hg, D'⟩ := S.listAt ha
    exact ⟨a, vs, n, rfl, hg, D'⟩
theorem OP2.eqLd {x y : V} {l l' : List V} {Q : V → AH → Prop} (hx : LST H x l) (hy : LST H y l') (hne : l.length ≠ l'.length) (h : Q (.bool false) H) : OP2 prog w K d (compareOp .Eq) x y H Q :=
  fun sc cl env A fr h₀ L m fz s va vb C S D1 D2 Q' kk => by
    obtain ⟨a, vs, n, rfl, hg, E1⟩ := hx.at S D1
    obtain ⟨b, ws, n', rfl, hg', E2⟩ := hy.at S D2
    exact lst_diff (vs := vs) (ws := ws) ⟨_, hg, rfl, n, rfl⟩ ⟨_, hg', rfl, n', rfl⟩ (Nat.lt_of_le_of_lt (Nat.le_add_right _ _) C.u64) (by rw [E1.length, E2.length]; exact hne) (.inl ⟨rfl, rfl⟩) (kk _ (.bool false) fz H s.heap s.toks S (fun _ h => h) den_bool h)
theorem OP2.neLd {x y : V} {l l' : List V} {Q : V → AH → Prop} (hx : LST H x l) (hy : LST H y l') (hne : l.length ≠ l'.length) (h : Q (.bool true) H) : OP2 prog w K d (compareOp .NotEq) x y H Q :=
  fun sc cl env A fr h₀ L m fz s va vb C S D1 D2 Q' kk => by
    obtain ⟨a, vs, n, rfl, hg, E1⟩ := hx.at S D1
    obtain ⟨b, ws, n', rfl, hg', E2⟩ := hy.at S D2
    exact lst_diff (vs := vs) (ws := ws) ⟨_, hg, rfl, n, rfl⟩ ⟨_, hg', rfl, n', rfl⟩ (Nat.lt_of_le_of_lt (Nat.le_add_right _ _) C.u64) (by rw [E1.length, E2.length]; exact hne) (.inr ⟨rfl, rfl⟩) (kk _ (.bool true) fz H s.heap s.toks S (fun _ h => h) den_bool h)
theorem OP2.neL0 {x y : V} {Q : V → AH → Prop} (hx : LST H x []) (hy : LST H y []) (h : Q (.bool false) H) : OP2 prog w K d (compareOp .NotEq) x y H Q :=
  fun sc cl env A fr h₀ L m fz s va vb C S D1 D2 Q' kk => by
    obtain ⟨a, vs, n, rfl, hg, E1⟩ := hx.at S D1
    obtain ⟨b, ws, n', rfl, hg', E2⟩ := hy.at S D2
    simp only [DenL] at E1 E2
    subst E1; subst E2
    exact ke_ne_ints (xs := []) (ys := []) ⟨_, hg, rfl, n, rfl⟩ ⟨_, hg', rfl, n', rfl⟩ .nil .nil C.u64 (kk _ (.bool false) fz H s.heap s.toks S (fun _ h => h) (by simp [Den]) h)

-- the array's store
theorem S1.assignSub {o i e : Expr} {p p' : Pos} {Q : Fl → Rho → AH → Prop} (hs : ∀ env, swapsWith e (some (.Subscript o i p')) p.line env = pure false)
    (h : EV prog w K d sc cl e ρ H (fun v H1 => EV prog w K d sc cl o ρ H1 (fun x H2 => EV prog w K d sc cl i ρ H2 (fun y H3 => ∃ a l k, x = .ptr a ∧ H3 a = some (.arr l) ∧ y = .int k ∧ 0 ≤ k ∧ k < l.length ∧ l.length ≤ 1000 ∧ Q .next ρ (upd H3 a (some (.arr (l.set k.toNat v)))))))) :
    S1 prog w K d sc cl (.Assign [.Subscript o i p'] e p) ρ H Q :=
  fun env A fr h₀ L m fz s C S LO Q' k => wpAny_Assign_Subscript (hs := hs env) (h env A fr h₀ L m fz s C S LO.e _ fun u v fz1 H1 h1 t1 S1 s1 D1 q1 =>
    q1 env A fr h₀ L m fz1 _ C S1 (LO.mono s1).e _ fun u2 x fz2 H2 h2 t2 S2 s2 D2 q2 =>
      q2 env A fr h₀ L m fz2 _ C S2 (LO.mono fun p hp => s2 _ (s1 _ hp)).e _ fun u3 y fz3 H3 h3 t3 S3 s3 D3 q3 => by
        obtain ⟨a, l, kk, rfl, ha, rfl, h0, hlt, hz, q⟩ := q3
        simp only [Den] at D2 D3
        subst D2
        obtain ⟨t, rfl⟩ := D3
        obtain ⟨F, mt, δ, N, nd, R⟩ := S3
        obtain ⟨oo, vs, n, k1, k2, k3, D'⟩ := R.at_ a _ ha
        have hlen := D'.length
        have za := N (a, oo) (List.mem_append_right _ k1)
        refine wpAny_setItem_list (items := List.toArray vs) ⟨_, za.1, k2, n, k3⟩ h0 (by omega) (by rw [List.size_toArray]; omega) fun h' hl hs => ?_
        obtain ⟨o', ho', hc', n', hd'⟩ := hl
        have e1 : (List.toArray vs).setIfInBounds kk.toNat u = List.toArray (vs.set kk.toNat u) := by simp
        rw [e1] at hd'
        have sub3 : ∀ p ∈ fz, p ∈ fz3 := fun p hp => s3 _ (s2 _ (s1 _ hp))
        exact k .next .next ρ m fz3 _ h' t3 (St.setA (F.change hs za.2.1 za.2.2) (News.setB N (List.mem_append_right _ k1) hs ho') nd R k1 k2 ha hc' hd' (DenL.set (D1.mono fun p hp => s3 _ (s2 _ hp)) _ D')) sub3 (LO.mono sub3) (by simp only [FDen]) q)
end
-- R9

theorem St.perm {fr fr' : Led} {h₀ h : Heap} {L : Addr} {m : Str → Option Value} {fz : Led} {H : AH} (hp : fr.Perm fr') (S : St fr h₀ L m fz H h) : St fr' h₀ L m fz H h := by
  obtain ⟨F, mt, δ, N, nd, R⟩ := S
  have pm : ((fz ++ fr) ++ mt).Perm ((fz ++ fr') ++ mt) := ((hp.append_left fz)).append_right mt
  refine ⟨F, mt, δ, News.sub N fun p hp' => pm.mem_iff.mpr hp', ?_, R⟩
  rw [← (pm.map _).nodup_iff]; exact nd

section
variable {prog : Program} {w : World} {A : Around} {R : Result → Shared → Prop} {s : Shared}
theorem compLoop_any {elt target iter : Expr} {ifs : List Expr} {scope : Scope} {pos : Pos} {it acc : Value} {env : Env} (I : Nat → Shared → Prop)
    (turn : ∀ n s, I n s → wpAny (model prog w) A (pyNext it) (fun r s₁ => match r with
      | none => R (.ok .next) s₁
      | some v => wpAny (model prog w) A (letOwnedTupleGo target it v) (fun _ s₁' => wpAny (model prog w) A (assign target env v) (fun _ s₂ =>
          wpAny (model prog w) A (forIn ifs true fun c r => if r = true then do let ok ← isTrue c env (eval c env); pure (ForInStep.yield ok) else pure (ForInStep.yield r)) (fun ok s₃ =>
            (ok = true → wpAny (model prog w) A (eval elt env) (fun x s₄ =>
              wpAny (model prog w) A (call (.builtin "list.append") [acc, x]) (fun _ s₅ => ∃ m, m < n ∧ I m s₅) (fun _ _ => False) s₄) (fun _ _ => False) s₃) ∧
            (ok = false → ∃ m, m < n ∧ I m s₃)) (fun _ _ => False) s₂) (fun _ _ => False) s₁') (fun _ _ => False) s₁) (fun _ _ => False) s)
    (n : Nat) (h : I n s) : codeAny (model prog w) A (.compLoop (.ListComp elt [⟨target, iter, ifs, 0⟩] scope pos) 0 it acc env) R s := by
  refine codeAny_loop rfl I (fun n s hI => ?_) n h
  show wpAny _ A ((compTurn (.ListComp elt [⟨target, iter, ifs, 0⟩] scope pos) 0 it acc env).onRaise (fun x => do noteFrame x env; theTreesLotGoes x)) _ _ s
  refine wpAny_noted ?_
  rw [compTurn_list]
  refine wpAny_bind (wpAny_standAt (wpAny_bind (wpAny_mono (turn n s hI) (fun r s₁ h₁ => ?_) fun _ _ h' => h'.elim)))
  cases r with
  | none => exact wpAny_pure h₁
  | some v =>
    refine wpAny_bind (wpAny_mono h₁ (fun _ s₁' h₁' => ?_) fun _ _ h' => h'.elim)
    refine wpAny_bind (wpAny_mono h₁' (fun _ s₂ h₂ => wpAny_bind (wpAny_mono h₂ (fun ok s₃ h₃ => ?_) fun _ _ h' => h'.elim)) fun _ _ h' => h'.elim)
    cases ok with
    | false => exact wpAny_pure ⟨rfl, h₃.2 rfl⟩
    | true =>
      exact wpAny_bind (wpAny_bind (wpAny_mono (h₃.1 rfl) (fun x s₄ h₄ => wpAny_bind (wpAny_mono h₄ (fun _ s₅ h₅ => wpAny_pure (wpAny_pure ⟨rfl, h₅⟩)) fun _ _ h' => h'.elim)) fun _ _ h' => h'.elim))
end

-- a block's scope, as the rules read it
def vk : NameKind → NameKind
  | .local => .free
  | .free => .cell
  | .globalImplicit => .globalImplicit
  | _ => .globalExplicit
def virt (cs : Scope) : Scope := { cs with names := cs.names.map fun y => (y.1, vk y.2) }
def lvs (cs : Scope) : List Str := (cs.names.filter fun y => y.2 == .local).map Prod.fst
theorem lookup_map2 {α β : Type} (g : Str → α → β) (x : Str) : ∀ (l : List (Str × α)), (l.map fun y => (y.1, g y.1 y.2)).lookup x = (l.lookup x).map (g x)
  | [] => rfl
  | (n, k) :: r => by
    rw [List.map_cons, List.lookup_cons, List.lookup_cons]
    by_cases h : (x == n) = true
    · have : x = n := eq_of_beq h
      simp [h, this]
    · simp only [h]
      exact lookup_map2 g x r
theorem virt_lookup (cs : Scope) (x : Str) : (virt cs).names.lookup x = (cs.names.lookup x).map vk := lookup_map2 (fun _ k => vk k) x cs.names
theorem relabel_lookup (cs : Scope) (env : Env) (x : Str) : (relabel cs env).names.lookup x = (cs.names.lookup x).map fun k => if (k == .free && env.scope.kind == .function && env.kindOf x == some .cell) then .cell else k := by
  have := lookup_map2 (fun n k => if (k == NameKind.free && env.scope.kind == .function && env.kindOf n == some .cell) then NameKind.cell else k) x cs.names
  rw [← this]
  unfold relabel
  congr 1
  refine List.map_congr_left fun y _ => ?_
  obtain ⟨n, k⟩ := y
  dsimp only
  split <;> rfl
def vcl (cs : Scope) (C : Addr) (ccl : List (Str × Addr)) : List (Str × Addr) := (lvs cs).map (fun n => (n, C)) ++ ccl
theorem lookup_const {C : Addr} {ccl : List (Str × Addr)} {x : Str} : ∀ {l : List Str}, x ∈ l → (l.map (fun n => (n, C)) ++ ccl).lookup x = some C
  | [], h => nomatch h
  | n :: r, h => by
    rw [List.map_cons, List.cons_append, List.lookup_cons]
    by_cases q : (x == n) = true
    · simp [q]
    · simp only [q]
      rcases List.mem_cons.mp h with rfl | h
      · simp at q
      · exact lookup_const h
theorem lookup_past {C : Addr} {ccl : List (Str × Addr)} {x : Str} : ∀ {l : List Str}, x ∉ l → (l.map (fun n => (n, C)) ++ ccl).lookup x = ccl.lookup x
  | [], h => rfl
  | n :: r, h => by
    rw [List.map_cons, List.cons_append, List.lookup_cons]
    have q : (x == n) = false := by
      cases e : x == n with
      | false => rfl
      | true => exact absurd (eq_of_beq e ▸ List.mem_cons_self) h
    simp only [q]
    exact lookup_past fun hm => h (.tail _ hm)
/-- what must hold of a block's scope -/
structure BOK (cs sc : Scope) (cap : Option Str) : Prop where
  kind : cs.kind = .function
  nocell : ∀ y ∈ cs.names, y.2 ≠ .cell
  names : ∀ y ∈ cs.names, y.2 = .local → cs.names.lookup y.1 = some .local
  caps : ∀ x, cs.names.lookup x = some .free → cap = some x ∧ sc.names.lookup x = some .cell
def bok (cs sc : Scope) (cap : Option Str) : Bool := decide (cs.kind = .function) && (cs.names.all fun y => decide (y.2 ≠ .cell)) && (cs.names.all fun y => decide (y.2 = .local → cs.names.lookup y.1 = some .local)) &&
  (cs.names.all fun y => decide (y.2 = .free → cap = some y.1 ∧ sc.names.lookup y.1 = some .cell))
theorem BOK.of {cs sc : Scope} {cap : Option Str} (h : bok cs sc cap = true) : BOK cs sc cap := by
  simp only [bok, Bool.and_eq_true, decide_eq_true_eq, List.all_eq_true] at h
  obtain ⟨⟨⟨h1, h2⟩, h3⟩, h4⟩ := h
  refine ⟨h1, h2, h3, fun x e => ?_⟩
  obtain ⟨l1, l2, e', _⟩ := List.lookup_eq_some_iff.mp e
  exact h4 (x, .free) (by rw [e']; simp) rfl
theorem lvs_mem {cs sc : Scope} {cap : Option Str} (B : BOK cs sc cap) {x : Str} : x ∈ lvs cs ↔ cs.names.lookup x = some .local := by
  constructor
  · intro h
    obtain ⟨y, hy, rfl⟩ := List.mem_map.mp h
    obtain ⟨h1, h2⟩ := List.mem_filter.mp hy
    exact B.names y h1 (by simpa using h2)
  · intro h
    obtain ⟨l1, l2, e', _⟩ := List.lookup_eq_some_iff.mp h
    exact List.mem_map.mpr ⟨(x, .local), List.mem_filter.mpr ⟨by rw [e']; simp, rfl⟩, rfl⟩

section
variable {prog : Program} {w : World} {K : Frag} {d : Nat} {sc : Scope} {cl : List (Str × Addr)} {ρ : Rho} {H : AH}

def TSO (prog : Program) (w : World) (K : Frag) (d : Nat) (sc : Scope) (cl : List (Str × Addr)) (tst : List Expr) (ρ : Rho) (H : AH) (Q : Bool → AH → Prop) : Prop :=
  match tst with
  | [] => Q true H
  | [t] => TS prog w K d sc cl t ρ H Q
  | _ => False
def COMPT (prog : Program) (w : World) (K : Frag) (d : Nat) (vs : Scope) (tst : List Expr) (elt : Expr) (B : V → Rho) (ρc : Rho) : List V → List V → AH → (List V → AH → Prop) → Prop
  | [], ys, H, Q => Q ys H
  | x :: xs, ys, H, Q => ∀ vl, TSO prog w K d vs vl tst (B x ++ ρc) H (fun b H1 => (b = true → EV prog w K d vs vl elt (B x ++ ρc) H1 (fun y H2 => COMPT prog w K d vs tst elt B ρc xs (ys ++ [y]) H2 Q)) ∧ (b = false → COMPT prog w K d vs tst elt B ρc xs ys H1 Q))

/-- a block's target takes an item -/
def ASG (prog : Program) (w : World) (cs : Scope) (tgt : Expr) (B : V → Rho) (x : V) : Prop :=
  ∀ (env : Env) (A : Around) (fr : Led) (h₀ : Heap) (L : Addr) (m : Str → Option Value) (fz : Led) (H : AH) (s : Shared) (v : Value) (oC : Obj) (m₂ : Str → Option Value), A.handled = none → env.scope.kind = .function → (∀ n, cs.names.lookup n = some .local → env.kindOf n = some .local) →
    St ((env.locals, oC) :: fr) h₀ L m fz H s.heap → NsObj oC m₂ → Den fz x v →
    ∀ Q' : Unit → Shared → Prop, (∀ h' tk' oC' m₂', St ((env.locals, oC') :: fr) h₀ L m fz H h' → NsObj oC' m₂' → (∀ n V, (B x).lookup n = some V → cs.names.lookup n = some .local ∧ ∃ u, m₂' n = some u ∧ Den fz V u) → Q' () { s with heap := h', toks := tk' }) →
      wpAny (model prog w) A (assign tgt env v) Q' (fun _ _ => False) s

theorem blk_store {A : Around} {fr : Led} {h₀ : Heap} {L : Addr} {m : Str → Option Value} {fz : Led} {s : Shared} {env : Env} {oC : Obj} {m₂ : Str → Option Value} {n : Str} {v : Value} {Q' : Unit → Shared → Prop} {E : Value → Shared → Prop}
    (hk : env.scope.kind = .function) (hn : env.kindOf n = some .local) (S : St ((env.locals, oC) :: fr) h₀ L m fz H s.heap) (hC : NsObj oC m₂)
    (k : ∀ h' tk' oC', St ((env.locals, oC') :: fr) h₀ L m fz H h' → NsObj oC' (fun y => if y = n then some v else m₂ y) → Q' () { s with heap := h', toks := tk' }) : wpAny (model prog w) A (storeName env n v) Q' E s := by
  obtain ⟨es, ep, e1, e2, e3⟩ := hC
  refine wpAny_storeName_local hn ⟨oC, es, ep, S.frame_at.1, e1, e2, e3⟩ (fun h' hn' hs => ?_) (by rw [hk]; rfl)
  obtain ⟨o', es', ep', g1, g2, g3, g4⟩ := hn'
  exact k h' _ o' (St.reframe S hs g1) ⟨es', ep', g2, g3, g4⟩

theorem ASG.name {cs : Scope} {n : Str} {p : Pos} (hn : decide (cs.names.lookup n = some .local) = true) (x : V) : ASG prog w cs (.Name n p) (fun x => [(n, x)]) x :=
  fun env A fr h₀ L m fz H s v oC m₂ hh hk hl S hC D Q' k => by
    have hn' := of_decide_eq_true hn
    refine wpAny_assign_Name (blk_store hk (hl n hn') S hC fun h' tk' oC' S' hC' => k h' tk' oC' _ S' hC' fun y V e => ?_)
    rw [List.lookup_cons] at e
    by_cases q : (y == n) = true
    · have : y = n := eq_of_beq q
      simp only [q] at e; cases e
      exact ⟨by rw [this]; exact hn', v, by simp [this], D⟩
    · simp only [q] at e; cases e
def pairB (n1 n2 : Str) : V → Rho
  | .tup [a, b] => [(n2, b), (n1, a)]
  | _ => []
theorem ASG.pair {cs : Scope} {n1 n2 : Str} {p p1 p2 : Pos} {k' : Nat} (hn : (decide (cs.names.lookup n1 = some .local ∧ cs.names.lookup n2 = some .local ∧ n1 ≠ n2)) = true) (a b : V) : ASG prog w cs (.Tuple [.Name n1 p1, .Name n2 p2] k' p) (pairB n1 n2) (.tup [a, b]) :=
  fun env A fr h₀ L m fz H s v oC m₂ hh hk hl S hC D Q' k => by
    obtain ⟨g1, g2, g3⟩ := of_decide_eq_true hn
    obtain ⟨t, vs, rfl, ht, D'⟩ := tupAt S D
    simp only [DenL] at D'
    obtain ⟨v1, vs1, rfl, D1, v2, vs2, rfl, D2, rfl⟩ := D'
    refine assign_Tuple_tuple hh ht rfl rfl fun h' hx => ?_
    have S' : St ((env.locals, oC) :: fr) h₀ L m fz H h' := S.grown fun b o e => hx b o (Nat.ne_of_lt (Heap.lt_size e)) e
    show wpAny _ A (do holding [v2] (assign (.Name n1 p1) env v1); assignInOrder [assign (.Name n2 p2) env] [v2]) Q' _ _
    refine wpAny_bind (wpAny_holding (wpAny_assign_Name (blk_store hk (hl n1 g1) S' hC fun h1 t1 o1 S1 hC1 => ?_)))
    show wpAny _ A (do holding [] (assign (.Name n2 p2) env v2); assignInOrder [] []) Q' _ _
    refine wpAny_bind (wpAny_holding (wpAny_assign_Name (blk_store hk (hl n2 g2) S1 hC1 fun h2 t2 o2 S2 hC2 => wpAny_pure (k h2 t2 o2 _ S2 hC2 fun y V e => ?_))))
    simp only [pairB, List.lookup_cons] at e
    by_cases q2 : (y == n2) = true
    · have : y = n2 := eq_of_beq q2
      simp only [q2] at e; cases e
      exact ⟨by rw [this]; exact g2, v2, by simp [this], D2⟩
    · simp only [q2] at e
      by_cases q1 : (y == n1) = true
      · have : y = n1 := eq_of_beq q1
        simp only [q1] at e; cases e
        exact ⟨by rw [this]; exact g1, v1, by simp [this, g3], D1⟩
      · simp only [q1] at e; cases e

theorem lst_push (vs : List Value) (y : Value) : ({ cls := .type "list", data := .seq (vs.toArray.push y) (vs.length + 1) } : Obj) = lstOf (vs ++ [y]) (vs ++ [y]).length := by
  show ({ cls := .type "list", data := .seq (vs.toArray.push y) (vs.length + 1) } : Obj) = { cls := .type "list", data := .seq (vs ++ [y]).toArray (vs ++ [y]).length }
  rw [List.length_append, List.length_singleton, List.push_toArray]

/-- the block's own ground -/
theorem CX.blk {cs : Scope} {cap : Option Str} {env : Env} {A : Around} {h₀ : Heap} {L Ca : Addr} {ccl : List (Str × Addr)} (C : CX K d sc cl env A h₀ L) (hE : ∃ cn a ccd, env = envX cn sc L a ccd cl) (BO : BOK cs sc cap)
    (hcc : ∀ x c, cap = some x → ccl.lookup x = some c → cl.lookup x = some c) : CX K d (virt cs) (vcl cs Ca ccl) (compEnvC cs ccl Ca env) A h₀ L := by
  obtain ⟨cn, a, ccd, rfl⟩ := hE
  refine ⟨.inr ⟨rfl, rfl, BO.kind, fun x hx => ?_, fun x hx => ?_, fun x c hx hc => ?_, fun x hx => ?_⟩, BO.kind, C.frames, C.KX, C.top, C.hd, C.room, C.units⟩
  · rw [virt_lookup] at hx
    cases e : cs.names.lookup x with
    | none => rw [e] at hx; cases hx
    | some k => rw [e] at hx; cases k <;> simp [vk] at hx
  · rw [virt_lookup] at hx
    show (relabel cs _).names.lookup x = _
    rw [relabel_lookup]
    cases e : cs.names.lookup x with
    | none => rw [e] at hx; cases hx
    | some k => rw [e] at hx; cases k <;> simp [vk] at hx ⊢
  · rw [virt_lookup] at hx
    have e : cs.names.lookup x = some .free := by
      cases e : cs.names.lookup x with
      | none => rw [e] at hx; cases hx
      | some k => rw [e] at hx; cases k <;> simp [vk] at hx ⊢
    obtain ⟨h1, h2⟩ := BO.caps x e
    have hn : x ∉ lvs cs := fun hm => by rw [lvs_mem BO, e] at hm; cases hm
    refine ⟨?_, ?_⟩
    · show (relabel cs _).names.lookup x = _
      rw [relabel_lookup, e]
      have : sc.kind = .function := C.kind
      have h3 : (envX cn sc L a ccd cl).kindOf x = some .cell := h2
      simp [this, h3]
    · show ccl.lookup x = _
      unfold vcl at hc
      rw [lookup_past hn] at hc
      exact hc
  · rw [virt_lookup] at hx
    have e : cs.names.lookup x = some .local := by
      cases e : cs.names.lookup x with
      | none => rw [e] at hx; cases hx
      | some k => rw [e] at hx; cases k <;> simp [vk] at hx ⊢
    refine ⟨?_, ?_⟩
    · show (relabel cs _).names.lookup x = _
      rw [relabel_lookup, e]; simp
    · exact lookup_const ((lvs_mem BO).mpr e)

theorem comp_core {P : Led → List V → Led → Prop} {it : Value} {tgt elt iter : Expr} {tst : List Expr} {cs : Scope} {pos : Pos} {cap : Option Str} {B : V → Rho} {ρc : Rho} {ccl : List (Str × Addr)} {env : Env} {A : Around} {fr : Led} {h₀ : Heap} {L Ca Da : Addr} {oC : Obj} {m₂ : Str → Option Value} {m : Str → Option Value} {fz : Led} {s : Shared} {xs : List V} {fe : Led} {Q : List V → AH → Prop} {R : Result → Shared → Prop}
    (pm : ∀ {fz fz' xs fe}, (∀ p ∈ fz, p ∈ fz') → P fz xs fe → P fz' xs fe)
    (step : ∀ (fr : Led) (m : Str → Option Value) (fz : Led) (H : AH) (s : Shared) (xs : List V) (fe : Led), P fz xs fe → St (fe ++ fr) h₀ L m fz H s.heap →
      wpAny (model prog w) A (pyNext it) (fun r s₁ => match r with
        | none => xs = [] ∧ ∃ h', s₁ = { s with heap := h' } ∧ St fr h₀ L m fz H h'
        | some v => wpAny (model prog w) A (letOwnedTupleGo tgt it v) (fun _ s₂ => ∃ x r fe' fz' h' tk', xs = x :: r ∧ s₂ = { s with heap := h', toks := tk' } ∧ P fz' r fe' ∧ St (fe' ++ fr) h₀ L m fz' H h' ∧ (∀ p ∈ fz, p ∈ fz') ∧ Den fz' x v) (fun _ _ => False) s₁) (fun _ _ => False) s)
    (C : CX K d sc cl env A h₀ L) (hE : ∃ cn a ccd, env = envX cn sc L a ccd cl) (BO : BOK cs sc cap) (hcc : ∀ x, cap = some x → ccl.lookup x = cl.lookup x)
    (hρ : Agree ρ ρc) (hρf : ∀ x V, ρc.lookup x = some V → cs.names.lookup x = some .free ∨ cs.names.lookup x = some .globalImplicit)
    (hg : ∀ x ∈ xs, ASG prog w cs tgt B x) (hsz : xs.length ≤ 1000)
    (hP : P fz xs fe) (S : St (fe ++ ((Ca, oC) :: (Da, lstOf [] 0) :: fr)) h₀ L m fz H s.heap) (hC : NsObj oC m₂) (LO : Loc sc cl [] fz m ρ)
    (h : COMPT prog w K d (virt cs) tst elt B ρc xs [] H Q)
    (k : ∀ ys vs n oC m₂ fz' H' h' tk', St ((Ca, oC) :: (Da, lstOf vs n) :: fr) h₀ L m fz' H' h' → NsObj oC m₂ → (∀ p ∈ fz, p ∈ fz') → DenL fz' ys vs → Q ys H' → R (.ok .next) { s with heap := h', toks := tk' }) :
    codeAny (model prog w) A (.compLoop (.ListComp elt [⟨tgt, iter, tst, 0⟩] cs pos) 0 it (.ref Da) (compEnvC cs ccl Ca env)) R s := by
  refine compLoop_any (fun n s' => ∃ xs ys vs fe oC m₂ fz' H h' tk', n = xs.length ∧ s' = { s with heap := h', toks := tk' } ∧ P fz' xs fe ∧ St (fe ++ ((Ca, oC) :: (Da, lstOf vs vs.length) :: fr)) h₀ L m fz' H h' ∧ (∀ p ∈ fz, p ∈ fz') ∧ NsObj oC m₂ ∧ DenL fz' ys vs ∧
      ys.length + xs.length ≤ 1000 ∧ (∀ x ∈ xs, ASG prog w cs tgt B x) ∧ COMPT prog w K d (virt cs) tst elt B ρc xs ys H Q) ?_ xs.length
    ⟨xs, [], [], fe, oC, m₂, fz, H, s.heap, s.toks, rfl, rfl, hP, S, fun _ h => h, hC, DenL.nil, by simpa using hsz, hg, h⟩
  rintro n s' ⟨xs1, ys, vs, fe1, oC1, n₂, fz1, H1, h1, t1, rfl, rfl, P1, S1, sub1, hC1, D1, hl1, hg1, q1⟩
  refine wpAny_mono (step _ m fz1 H1 _ xs1 fe1 P1 S1) (fun r s₁ h => ?_) fun _ _ x => x.elim
  cases r with
  | none =>
    obtain ⟨rfl, h2, rfl, S2⟩ := h
    exact k ys vs _ oC1 n₂ fz1 H1 h2 t1 S2 hC1 sub1 D1 q1
  | some v =>
    refine wpAny_mono h (fun _ s₂ h => ?_) fun _ _ x => x.elim
    obtain ⟨x, r, fe2, fz2, h2, t2, rfl, rfl, P2, S2, sub2, D2⟩ := h
    have hx := hg1 x (.head _)
    have S2' := St.perm (List.perm_middle (l₁ := fe2)) S2
    have kl : ∀ n, cs.names.lookup n = some .local → (compEnvC cs ccl Ca env).kindOf n = some .local := fun n e => by
      show (relabel cs env).names.lookup n = _
      rw [relabel_lookup, e]; simp
    refine hx (compEnvC cs ccl Ca env) A _ h₀ L m fz2 H1 { s with heap := h2, toks := t2 } v oC1 n₂ C.hd BO.kind kl S2' hC1 D2 _ fun h3 t3 oC3 n₃ S3 hC3 hB3 => ?_
    have C' := C.blk (Ca := Ca) (ccl := ccl) hE BO (fun x c e e2 => by rw [← hcc x e]; exact e2)
    have LV : ∀ fz', (∀ p ∈ fz2, p ∈ fz') → Loc (virt cs) (vcl cs Ca ccl) ((Ca, oC3) :: (fe2 ++ (Da, lstOf vs vs.length) :: fr)) fz' m (B x ++ ρc) := by
      intro fz' sf y V e
      refine ⟨fun hk => ?_, fun hk => ?_, fun hk => ?_⟩
      · rw [virt_lookup] at hk
        cases ek : cs.names.lookup y with
        | none => rw [ek] at hk; cases hk
        | some k => rw [ek] at hk; cases k <;> simp [vk] at hk
      · rw [virt_lookup] at hk
        have ek : cs.names.lookup y = some .free := by
          cases ek : cs.names.lookup y with
          | none => rw [ek] at hk; cases hk
          | some k => rw [ek] at hk; cases k <;> simp [vk] at hk ⊢
        rw [List.lookup_append] at e
        cases eb : (B x).lookup y with
        | some V' =>
          have := (hB3 y V' eb).1
          rw [ek] at this; cases this
        | none =>
          rw [eb, Option.none_or] at e
          obtain ⟨hc1, hc2⟩ := BO.caps y ek
          obtain ⟨c, o, u, z1, z2, z3, z4⟩ := (LO y V (hρ y V e)).2.1 hc2
          have hn : y ∉ lvs cs := fun hm => by rw [lvs_mem BO, ek] at hm; cases hm
          refine ⟨c, o, u, ?_, sf _ (sub2 _ (sub1 _ z2)), z3, z4.mono fun p hp => sf _ (sub2 _ (sub1 _ hp))⟩
          unfold vcl
          rw [lookup_past hn, hcc y hc1]; exact z1
      · rw [virt_lookup] at hk
        have ek : cs.names.lookup y = some .local := by
          cases ek : cs.names.lookup y with
          | none => rw [ek] at hk; cases hk
          | some k => rw [ek] at hk; cases k <;> simp [vk] at hk ⊢
        rw [List.lookup_append] at e
        cases eb : (B x).lookup y with
        | some V' =>
          rw [eb] at e
          simp only [Option.some_or, Option.some.injEq] at e
          subst e
          obtain ⟨_, u, z1, z2⟩ := hB3 y V' eb
          exact ⟨Ca, oC3, u, n₃, lookup_const ((lvs_mem BO).mpr ek), .head _, hC3, z1, z2.mono sf⟩
        | none =>
          rw [eb, Option.none_or] at e
          rcases hρf y V e with h | h <;> · rw [ek] at h; cases h
    have fin : ∀ (fz' : Led) (H' : AH) (h' : Heap) (tk' : Nat) (ys' : List V) (vs' : List Value), St (fe2 ++ ((Ca, oC3) :: (Da, lstOf vs' vs'.length) :: fr)) h₀ L m fz' H' h' → (∀ p ∈ fz2, p ∈ fz') → DenL fz' ys' vs' → ys'.length ≤ ys.length + 1 →
        COMPT prog w K d (virt cs) tst elt B ρc r ys' H' Q → ∃ m_1, m_1 < (x :: r).length ∧ ∃ xs ys vs fe oC m₂ fz'_1 H h'_1 tk'_1, m_1 = xs.length ∧ ({ s with heap := h', toks := tk' } : Shared) = { s with heap := h'_1, toks := tk'_1 } ∧ P fz'_1 xs fe ∧ St (fe ++ ((Ca, oC) :: (Da, lstOf vs vs.length) :: fr)) h₀ L m fz'_1 H h'_1 ∧ (∀ p ∈ fz, p ∈ fz'_1) ∧ NsObj oC m₂ ∧ DenL fz'_1 ys vs ∧
      ys.length + xs.length ≤ 1000 ∧ (∀ x ∈ xs, ASG prog w cs tgt B x) ∧ COMPT prog w K d (virt cs) tst elt B ρc xs ys H Q := fun fz' H' h' tk' ys' vs' a b c e f =>
      ⟨r.length, Nat.lt_succ_self _, r, ys', vs', fe2, oC3, n₃, fz', H', h', tk', rfl, rfl, pm b P2, a, fun p hp => b _ (sub2 _ (sub1 _ hp)), hC3, c, by simp only [List.length_cons] at hl1; omega, fun y hy => hg1 y (.tail _ hy), f⟩
    have q2 := q1 (vcl cs Ca ccl)
    have after : ∀ (b : Bool) (fz4 : Led) (H4 : AH) (h4 : Heap) (t4 : Nat), St ((Ca, oC3) :: (fe2 ++ (Da, lstOf vs vs.length) :: fr)) h₀ L m fz4 H4 h4 → (∀ p ∈ fz2, p ∈ fz4) →
        ((b = true → EV prog w K d (virt cs) (vcl cs Ca ccl) elt (B x ++ ρc) H4 (fun y H2 => COMPT prog w K d (virt cs) tst elt B ρc r (ys ++ [y]) H2 Q)) ∧ (b = false → COMPT prog w K d (virt cs) tst elt B ρc r ys H4 Q)) →
        (b = true → wpAny (model prog w) A (eval elt (compEnvC cs ccl Ca env)) (fun x_1 s₄ => wpAny (model prog w) A (call (.builtin "list.append") [.ref Da, x_1]) (fun _ s₅ => ∃ m_1, m_1 < (x :: r).length ∧ ∃ xs ys vs fe oC m₂ fz' H h' tk', m_1 = xs.length ∧ s₅ = { s with heap := h', toks := tk' } ∧ P fz' xs fe ∧ St (fe ++ ((Ca, oC) :: (Da, lstOf vs vs.length) :: fr)) h₀ L m fz' H h' ∧ (∀ p ∈ fz, p ∈ fz') ∧ NsObj oC m₂ ∧ DenL fz' ys vs ∧
      ys.length + xs.length ≤ 1000 ∧ (∀ x ∈ xs, ASG prog w cs tgt B x) ∧ COMPT prog w K d (virt cs) tst elt B ρc xs ys H Q) (fun _ _ => False) s₄) (fun _ _ => False) { s with heap := h4, toks := t4 }) ∧
        (b = false → ∃ m_1, m_1 < (x :: r).length ∧ ∃ xs ys vs fe oC m₂ fz' H h' tk', m_1 = xs.length ∧ ({ s with heap := h4, toks := t4 } : Shared) = { s with heap := h', toks := tk' } ∧ P fz' xs fe ∧ St (fe ++ ((Ca, oC) :: (Da, lstOf vs vs.length) :: fr)) h₀ L m fz' H h' ∧ (∀ p ∈ fz, p ∈ fz') ∧ NsObj oC m₂ ∧ DenL fz' ys vs ∧
      ys.length + xs.length ≤ 1000 ∧ (∀ x ∈ xs, ASG prog w cs tgt B x) ∧ COMPT prog w K d (virt cs) tst elt B ρc xs ys H Q) := by
      intro b fz4 H4 h4 t4 S4 sub4 q4
      refine ⟨fun hb => ?_, fun hb => ?_⟩
      · refine (q4.1 hb) (compEnvC cs ccl Ca env) A _ h₀ L m fz4 { s with heap := h4, toks := t4 } C' S4 (LV fz4 sub4) _ fun u y fz5 H5 h5 t5 S5 sub5 D5 q5 => ?_
        have p1 : ((Ca, oC3) :: (fe2 ++ (Da, lstOf vs vs.length) :: fr)).Perm ((Da, lstOf vs vs.length) :: (Ca, oC3) :: (fe2 ++ fr)) := ((List.perm_middle (l₁ := fe2)).cons _).trans (List.Perm.swap _ _ _)
        have S5' := St.perm p1 S5
        refine append_at (its := vs.toArray) (n := vs.length) S5'.frame_at.1 (fun h6 hs6 e6 => ?_) (by rw [List.size_toArray, D1.length, sizeLine_eq]; omega)
        rw [lst_push] at e6
        have S6 := St.reframe S5' hs6 e6
        have p2 : ((Da, lstOf (vs ++ [u]) (vs ++ [u]).length) :: (Ca, oC3) :: (fe2 ++ fr)).Perm (fe2 ++ ((Ca, oC3) :: (Da, lstOf (vs ++ [u]) (vs ++ [u]).length) :: fr)) :=
          (List.Perm.swap _ _ _).trans (((List.perm_middle (l₁ := fe2)).symm.cons _).trans (List.perm_middle (l₁ := fe2)).symm)
        exact fin fz5 H5 h6 t5 _ _ (St.perm p2 S6) (fun p hp => sub5 _ (sub4 _ hp)) (DenL.app (D1.mono fun p hp => sub5 _ (sub4 _ (sub2 _ hp))) (DenL.cons D5 DenL.nil)) (by simp) q5
      · exact fin fz4 H4 h4 t4 ys vs (St.perm (List.perm_middle (l₁ := fe2)).symm S4) sub4 (D1.mono fun p hp => sub4 _ (sub2 _ hp)) (by omega) (q4.2 hb)
    match tst, q2, after with
    | [], q2, after =>
      exact wpAny_tests_nil (after true fz2 H1 h3 t3 S3 (fun _ h => h) q2)
    | [t], q2, after =>
      refine wpAny_tests_one (q2 (compEnvC cs ccl Ca env) A _ h₀ L m fz2 { s with heap := h3, toks := t3 } C' S3 (LV fz2 fun _ h => h) _ fun b fz4 H4 h4 t4 S4 sub4 q4 => ?_)
      exact after b fz4 H4 h4 t4 S4 sub4 q4
    | _ :: _ :: _, q2, _ => exact q2.elim
end
-- R10

/-- a frame's entry that will not turn -/
theorem St.thaw {fr : Led} {h₀ h : Heap} {L : Addr} {m : Str → Option Value} {fz : Led} {H : AH} {p : Addr × Obj} (S : St (p :: fr) h₀ L m fz H h) : St fr h₀ L m (p :: fz) H h := by
  obtain ⟨F, mt, δ, N, nd, R⟩ := S
  have pm : (((fz ++ p :: fr) ++ mt)).Perm (((p :: fz) ++ fr) ++ mt) := (List.perm_middle (l₁ := fz) (l₂ := fr)).append_right mt
  refine ⟨F, mt, δ, News.sub N (fun q hq => pm.mem_iff.mpr hq), ?_, fun b o e => (R.at_ b o e).mono (fun _ h => .tail _ h) (fun q hq => hq), R.inj⟩
  rw [← (pm.map _).nodup_iff]; exact nd

section
variable {prog : Program} {w : World} {K : Frag} {d : Nat} {sc : Scope} {cl : List (Str × Addr)} {ρ : Rho} {H : AH}

structure ITR (prog : Program) (w : World) (A : Around) (h₀ : Heap) (L : Addr) (tgt : Expr) (it : Value) (P : Led → List V → Led → Prop) : Prop where
  pm : ∀ {fz fz' xs fe}, (∀ p ∈ fz, p ∈ fz') → P fz xs fe → P fz' xs fe
  step : ∀ (fr : Led) (m : Str → Option Value) (fz : Led) (H : AH) (s : Shared) (xs : List V) (fe : Led), P fz xs fe → St (fe ++ fr) h₀ L m fz H s.heap →
      wpAny (model prog w) A (pyNext it) (fun r s₁ => match r with
        | none => xs = [] ∧ ∃ h', s₁ = { s with heap := h' } ∧ St fr h₀ L m fz H h'
        | some v => wpAny (model prog w) A (letOwnedTupleGo tgt it v) (fun _ s₂ => ∃ x r fe' fz' h' tk', xs = x :: r ∧ s₂ = { s with heap := h', toks := tk' } ∧ P fz' r fe' ∧ St (fe' ++ fr) h₀ L m fz' H h' ∧ (∀ p ∈ fz, p ∈ fz') ∧ Den fz' x v) (fun _ _ => False) s₁) (fun _ _ => False) s
  self : ∀ (fr : Led) (m : Str → Option Value) (fz : Led) (H : AH) (s : Shared) (xs : List V) (fe : Led) (Q : Value → Shared → Prop), P fz xs fe → St (fe ++ fr) h₀ L m fz H s.heap → Q it s → wpAny (model prog w) A (pyIter it) Q (fun _ _ => False) s

def SRCE (prog : Program) (w : World) (K : Frag) (d : Nat) (sc : Scope) (cl : List (Str × Addr)) (tgt iter : Expr) (ρ : Rho) (H : AH) (Q : List V → AH → Prop) : Prop :=
  ∀ env A fr h₀ L m fz s, CX K d sc cl env A h₀ L → St fr h₀ L m fz H s.heap → Loc sc cl fr fz m ρ →
    ∀ Q' : Value → Shared → Prop, (∀ it P xs fe fz' H' h' tk', ITR prog w A h₀ L tgt it P → P fz' xs fe → St (fe ++ fr) h₀ L m fz' H' h' → (∀ p ∈ fz, p ∈ fz') → Q xs H' → Q' it { s with heap := h', toks := tk' }) →
      wpAny (model prog w) A (eval iter env) (fun x s₁ => wpAny (model prog w) A (pyIter x) Q' (fun _ _ => False) s₁) (fun _ _ => False) s

theorem comp_block {P : Led → List V → Led → Prop} {it : Value} {tgt elt iter : Expr} {tst : List Expr} {cs : Scope} {pos : Pos} {cap : Option Str} {B : V → Rho} {ρc : Rho} {ccl : List (Str × Addr)} {env : Env} {A : Around} {fr : Led} {h₀ : Heap} {L : Addr} {m : Str → Option Value} {fz : Led} {s : Shared} {xs : List V} {fe : Led} {Q : List V → AH → Prop} {RR : Value → Addr → Result → Shared → Prop}
    (I : ITR prog w A h₀ L tgt it P) (C : CX K d sc cl env A h₀ L) (hE : ∃ cn a ccd, env = envX cn sc L a ccd cl) (BO : BOK cs sc cap) (hcc : ∀ x, cap = some x → ccl.lookup x = cl.lookup x)
    (hρ : Agree ρ ρc) (hρf : ∀ x V, ρc.lookup x = some V → cs.names.lookup x = some .free ∨ cs.names.lookup x = some .globalImplicit)
    (hg : ∀ x ∈ xs, ASG prog w cs tgt B x) (hsz : xs.length ≤ 1000)
    (hP : P fz xs fe) (S : St (fe ++ fr) h₀ L m fz H s.heap) (LO : Loc sc cl [] fz m ρ)
    (h : COMPT prog w K d (virt cs) tst elt B ρc xs [] H Q)
    (k : ∀ Da Ca ys vs n oC m₂ fz' H' h' tk', St ((Ca, oC) :: (Da, lstOf vs n) :: fr) h₀ L m fz' H' h' → NsObj oC m₂ → (∀ p ∈ fz, p ∈ fz') → DenL fz' ys vs → Q ys H' → RR (.ref Da) Ca (.ok .next) { s with heap := h', toks := tk' }) :
    wpAny (model prog w) A (newList []) (fun acc s₃ => wpAny (model prog w) A (newFunctionEnv cs env.globals ccl [] env.qual none .none (some env)) (fun cenv s₄ =>
      codeAny (model prog w) A (.compStart (.ListComp elt [⟨tgt, iter, tst, 0⟩] cs pos) 0 it acc { cenv with scope := relabel cs env }) (RR acc cenv.locals) s₄) (fun _ _ => False) s₃) (fun _ _ => False) s := by
  obtain ⟨F, mt, δ, N, nd, R⟩ := S
  refine wpAny_newObj_type (wpAny_newFunctionEnv BO.nocell (by intro y hy; simp at hy) (fun h₁ hns₁ hsb₁ => ?_) BO.kind)
  dsimp only at hns₁ hsb₁ ⊢
  have S1 : St ((s.heap.objs.size, lstOf [] 0) :: (fe ++ fr)) h₀ L m fz H (s.heap.push (lstOf [] 0)) := St.enframe (F.push _) (News.push F N _) (keys_lt N) nd R
  obtain ⟨F1, mt1, δ1, N1, nd1, R1⟩ := S1
  have S2 := St.enframe (F1.push { cls := .type "dict", data := .dict #[] }) (News.push F1 N1 { cls := .type "dict", data := .dict #[] }) (keys_lt N1) nd1 R1
  obtain ⟨oC, es, ep, g1, g2, g3, g4⟩ := hns₁
  have S3 := St.reframe S2 hsb₁ g1
  have S4 : St (fe ++ (((s.heap.push (lstOf [] 0)).objs.size, oC) :: (s.heap.objs.size, lstOf [] 0) :: fr)) h₀ L m fz H h₁ :=
    St.perm (((List.perm_middle (l₁ := fe) (l₂ := fr)).symm.cons _).trans (List.perm_middle (l₁ := fe)).symm) S3
  have main : ∀ s₃ : Shared, s₃ = { s with heap := h₁, toks := s.toks + ([] : List (Str × Value)).length } →
      codeAny (model prog w) A (.compLoop (.ListComp elt [⟨tgt, iter, tst, 0⟩] cs pos) 0 it (.ref s.heap.objs.size) (compEnvC cs ccl (s.heap.push (lstOf [] 0)).objs.size env))
        (RR (.ref s.heap.objs.size) (s.heap.push (lstOf [] 0)).objs.size) s₃ := by
    rintro s₃ rfl
    exact comp_core (Ca := (s.heap.push (lstOf [] 0)).objs.size) (Da := s.heap.objs.size) (oC := oC) (fe := fe) (P := P) (fun hs hp => I.pm hs hp) I.step C hE BO hcc hρ hρf hg hsz hP S4 ⟨es, ep, g2, g3, g4⟩ LO h
      fun ys vs n oC m₂ fz' H' h' tk' a b c e f => k _ _ ys vs n oC m₂ fz' H' h' tk' a b c e f
  exact codeAny_compStart_list (main _ rfl) (wpAny_mono (I.self _ m fz H _ xs fe (fun it' s' => codeAny (model prog w) A (.compLoop (.ListComp elt [⟨tgt, iter, tst, 0⟩] cs pos) 0 it' (.ref s.heap.objs.size) (compEnvC cs ccl (s.heap.push (lstOf [] 0)).objs.size env))
        (RR (.ref s.heap.objs.size) (s.heap.push (lstOf [] 0)).objs.size) s') hP S4 (main _ rfl)) (fun _ _ x => x) fun _ _ x => x.elim)

theorem Loc.stmt {fr fz : Led} {m : Str → Option Value} (h : Loc sc cl fr fz m ρ) (hf : ∀ x, sc.names.lookup x ≠ some .free) : Loc sc cl [] fz m ρ := fun x V e => by
  obtain ⟨a, b, _⟩ := h x V e
  exact ⟨a, b, fun k => absurd k (hf x)⟩

structure COMPH (prog : Program) (w : World) (sc cs : Scope) (cl ccl : List (Str × Addr)) (cap : Option Str) (iter : Expr) (ρ ρc : Rho) : Prop where
  hs : ∀ env x, foldedSetIterable iter env x = pure x
  hb : bok cs sc cap = true
  hclos : ∀ cn L a ccd, closureFor cs (envX cn sc L a ccd cl) = pure ccl
  hcap : ∀ x, cap = some x → ccl.lookup x = cl.lookup x
  hn0 : (sc.names.any fun y => decide (sc.names.lookup y.1 = some .local)) = true
  hρ : Agree ρ ρc
  hρf : (ρc.all fun y => decide (cs.names.lookup y.1 = some .free ∨ cs.names.lookup y.1 = some .globalImplicit)) = true

theorem CX.fn {env : Env} {A : Around} {h₀ : Heap} {L : Addr} (C : CX K d sc cl env A h₀ L) (hn0 : (sc.names.any fun y => decide (sc.names.lookup y.1 = some .local)) = true) :
    (∃ cn a ccd, env = envX cn sc L a ccd cl) ∧ ∀ x, sc.names.lookup x ≠ some .free := by
  rcases C.env_ with h | ⟨_, _, _, z, _⟩
  · exact h
  · obtain ⟨y, _, hy⟩ := List.any_eq_true.mp hn0
    exact absurd (of_decide_eq_true hy) (z y.1)
theorem COMPH.f {cs : Scope} {ccl : List (Str × Addr)} {cap : Option Str} {iter : Expr} {ρc : Rho} (G : COMPH prog w sc cs cl ccl cap iter ρ ρc) (x : Str) (V : V) (e : ρc.lookup x = some V) : cs.names.lookup x = some .free ∨ cs.names.lookup x = some .globalImplicit := by
  obtain ⟨l1, l2, e', _⟩ := List.lookup_eq_some_iff.mp e
  exact of_decide_eq_true (List.all_eq_true.mp G.hρf (x, V) (by rw [e']; simp))

theorem comp_any {tgt elt iter : Expr} {tst : List Expr} {cs : Scope} {pos : Pos} {cap : Option Str} {B : V → Rho} {ρc : Rho} {ccl : List (Str × Addr)} {env : Env} {A : Around} {fr : Led} {h₀ : Heap} {L : Addr} {m : Str → Option Value} {fz : Led} {s : Shared} {Q : List V → AH → Prop} {RR : Value → Addr → Result → Shared → Prop}
    (G : COMPH prog w sc cs cl ccl cap iter ρ ρc) (C : CX K d sc cl env A h₀ L) (S : St fr h₀ L m fz H s.heap) (LO : Loc sc cl fr fz m ρ)
    (h : SRCE prog w K d sc cl tgt iter ρ H (fun xs H1 => xs.length ≤ 1000 ∧ (∀ x ∈ xs, ASG prog w cs tgt B x) ∧ COMPT prog w K d (virt cs) tst elt B ρc xs [] H1 Q))
    (k : ∀ Da Ca ys oC m₂ fz' H' h' tk', St ((Ca, oC) :: fr) h₀ L m fz' H' h' → NsObj oC m₂ → (∀ p ∈ fz, p ∈ fz') → Den fz' (.lst ys) (.ref Da) → Q ys H' → RR (.ref Da) Ca (.ok .next) { s with heap := h', toks := tk' }) :
    wpAny (model prog w) A (eval iter env) (fun x s₁ => wpAny (model prog w) A (pyIter x) (fun it s₂ => wpAny (model prog w) A (newList []) (fun acc s₃ =>
      wpAny (model prog w) A (newFunctionEnv cs env.globals ccl [] env.qual none .none (some env)) (fun cenv s₄ =>
        codeAny (model prog w) A (.compStart (.ListComp elt [⟨tgt, iter, tst, 0⟩] cs pos) 0 it acc { cenv with scope := relabel cs env }) (RR acc cenv.locals) s₄) (fun _ _ => False) s₃) (fun _ _ => False) s₂) (fun _ _ => False) s₁) (fun _ _ => False) s := by
  obtain ⟨hE, hf⟩ := C.fn G.hn0
  refine h env A fr h₀ L m fz s C S LO _ fun it P xs fe fz1 H1 h1 t1 I hP S1 s1 q1 => ?_
  obtain ⟨q1, q2, q3⟩ := q1
  refine comp_block (s := { s with heap := h1, toks := t1 }) (fe := fe) I C hE (BOK.of G.hb) G.hcap G.hρ G.f q2 q1 hP S1 ((LO.stmt hf).mono s1) q3 fun Da Ca ys vs n oC m₂ fz' H' h' tk' a b c e f => ?_
  have S5 := St.thaw (St.perm (List.Perm.swap _ _ _) a)
  exact k Da Ca ys oC m₂ ((Da, lstOf vs n) :: fz') H' h' tk' S5 b (fun p hp => .tail _ (c p (s1 p hp))) (by simp only [Den]; exact ⟨Da, vs, n, rfl, .head _, e.mono fun p hp => .tail _ hp⟩) f

theorem NsObj.ns {h : Heap} {a : Addr} {o : Obj} {m₂ : Str → Option Value} (hn : NsObj o m₂) (g : h.get? a = some o) : h.Ns a m₂ := by
  obtain ⟨es, ep, g2, g3, g4⟩ := hn
  exact ⟨o, es, ep, g, g2, g3, g4⟩

theorem EV.comp {tgt elt iter : Expr} {tst : List Expr} {cs : Scope} {pos : Pos} (cap : Option Str) (B : V → Rho) (ρc : Rho) (ccl : List (Str × Addr)) {Q : V → AH → Prop}
    (G : COMPH prog w sc cs cl ccl cap iter ρ ρc)
    (h : SRCE prog w K d sc cl tgt iter ρ H (fun xs H1 => xs.length ≤ 1000 ∧ (∀ x ∈ xs, ASG prog w cs tgt B x) ∧ COMPT prog w K d (virt cs) tst elt B ρc xs [] H1 (fun ys H2 => Q (.lst ys) H2))) :
    EV prog w K d sc cl (.ListComp elt [⟨tgt, iter, tst, 0⟩] cs pos) ρ H Q := by
  intro env A fr h₀ L m fz s C S LO Q' k
  obtain ⟨⟨cn, a, ccd, rfl⟩, hf⟩ := C.fn G.hn0
  rw [eval_ListComp]
  refine wpAny_comprehension_free (use := none) rfl (G.hs _) (G.hclos cn L a ccd) (BOK.of G.hb).kind (BOK.of G.hb).names ?_
  refine comp_any (RR := fun acc C => compPost (model prog w) A (fun _ _ => False) none Q' acc C) G C S LO h fun Da Ca ys oC m₂ fz' H' h' tk' a b c e f => ?_
  refine ⟨m₂, b.ns a.frame_at.1, fun h'' hs => ?_⟩
  exact k (.ref Da) (.lst ys) fz' H' h'' tk' (St.dropBut a fun b o hb e => (hs.2 b hb).trans e) c e f

theorem S1.assignComp {tgt elt iter : Expr} {tst : List Expr} {cs : Scope} {pos spos : Pos} {y : Str} {py : Pos} (cap : Option Str) (B : V → Rho) (ρc : Rho) (ccl : List (Str × Addr)) {Q : Fl → Rho → AH → Prop}
    (hk : isLoc sc y = true) (hsw : ∀ cn L a ccd, swapsWith (.ListComp elt [⟨tgt, iter, tst, 0⟩] cs pos) (some (Expr.Name y py)) spos.line (envX cn sc L a ccd cl) = pure true)
    (G : COMPH prog w sc cs cl ccl cap iter ρ ρc)
    (h : SRCE prog w K d sc cl tgt iter ρ H (fun xs H1 => xs.length ≤ 1000 ∧ (∀ x ∈ xs, ASG prog w cs tgt B x) ∧ COMPT prog w K d (virt cs) tst elt B ρc xs [] H1 (fun ys H2 => Q .next ((y, .lst ys) :: ρ) H2))) :
    S1 prog w K d sc cl (.Assign [Expr.Name y py] (.ListComp elt [⟨tgt, iter, tst, 0⟩] cs pos) spos) ρ H Q := by
  intro env A fr h₀ L m fz s C S LO Q' k
  obtain ⟨⟨cn, a, ccd, rfl⟩, hf⟩ := C.fn G.hn0
  rw [exec_Assign_Name_used _ _ _ _ (hsw cn L a ccd)]
  refine wpAny_bind (wpAny_standAt (wpAny_bind ?_))
  show wpAny _ A (do let _ ← comprehension (.ListComp elt [⟨tgt, iter, tst, 0⟩] cs pos) cs (envX cn sc L a ccd cl) _ (newList []) false (eval iter (envX cn sc L a ccd cl)) (some (PySem.assign (Expr.Name y py) (envX cn sc L a ccd cl)))) _ _ s
  refine wpAny_bind (wpAny_mono (wpAny_comprehension_free (use := some (PySem.assign (Expr.Name y py) (envX cn sc L a ccd cl))) (Q := fun _ s' => Q' .next s') rfl (G.hs _) (G.hclos cn L a ccd) (BOK.of G.hb).kind (BOK.of G.hb).names ?_) (fun _ s' hq => wpAny_pure (wpAny_pure hq)) fun _ _ e => e)
  refine comp_any (RR := fun acc Ca => compPost (model prog w) A (fun _ _ => False) (some (PySem.assign (Expr.Name y py) (envX cn sc L a ccd cl))) (fun _ s' => Q' .next s') acc Ca) G C S LO.e h fun Da Ca ys oC m₂ fz' H' h' tk' a b c e f => ?_
  show wpAny _ A (PySem.assign (Expr.Name y py) _ (.ref Da)) _ _ _
  refine wpAny_assign_Name (store_loc (s := { s with heap := h', toks := tk' }) hk C a (LO.mono c) e fun m2 h2 t2 S2 L2 => ⟨m₂, b.ns S2.frame_at.1, fun h'' hs => ?_⟩)
  exact k .next .next ((y, .lst ys) :: ρ) m2 fz' H' h'' t2 (St.dropBut S2 fun b o hb e => (hs.2 b hb).trans e) c L2 (by simp only [FDen]) f
end
-- R11

section
variable {prog : Program} {w : World} {K : Frag} {d : Nat} {sc : Scope} {cl : List (Str × Addr)} {ρ : Rho} {H : AH}

-- sources
theorem ITR.list {A : Around} {h₀ : Heap} {L : Addr} {x : Str} {p : Pos} {it l : Addr} {items : List V} (hh : A.handled = none) : ITR prog w A h₀ L (.Name x p) (.ref it) (PList it l items) :=
  ⟨fun hsub hP => by obtain ⟨i, vs, n, o, e1, e2, e3, e4, e5, e6, e7⟩ := hP; exact ⟨i, vs, n, o, e1, e2, e3, e4, hsub _ e5, e6.mono hsub, e7⟩,
   fun fr m fz H s xs fe hP S => PList.step hh (fun v => rfl) m fz H s xs fe hP S,
   fun fr m fz H s xs fe Q hP S h => by
    obtain ⟨i, vs, n, o, rfl, e2, e3, e4, e5, e6, e7⟩ := hP
    exact wpAny_pyIter_listiter (i := i) ⟨o, S.frame_at.1, e2, e3⟩ h⟩
theorem SRCE.lst {x : Str} {p : Pos} {iter : Expr} {Q : List V → AH → Prop} (h : EV prog w K d sc cl iter ρ H (fun src H1 => ∃ l, src = .lst l ∧ Q l H1)) : SRCE prog w K d sc cl (.Name x p) iter ρ H Q := by
  intro env A fr h₀ L m fz s C S LO Q' k
  refine h env A fr h₀ L m fz s C S LO _ fun u src fz1 H1 h1 t1 S1 s1 D1 q1 => ?_
  obtain ⟨l, rfl, q⟩ := q1
  obtain ⟨F, mt, δ, N, nd, R⟩ := S1
  simp only [Den] at D1
  obtain ⟨a, vs, n, rfl, hm, D⟩ := D1
  have hlg := (N _ (List.mem_append_left _ (List.mem_append_left _ hm))).1
  refine wpAny_pyIter_list (items := List.toArray vs) ⟨_, hlg, rfl, n, rfl⟩ ?_
  have S2 := St.enframe (F.push { cls := .type "list_iterator", data := .fields #[.ref a, .int 0 0] }) (News.push F N { cls := .type "list_iterator", data := .fields #[.ref a, .int 0 0] }) (keys_lt N) nd R
  exact k (.ref h1.objs.size) (PList h1.objs.size a l) l [(h1.objs.size, { cls := .type "list_iterator", data := .fields #[.ref a, .int 0 0] })] fz1 H1 _ t1 (ITR.list C.hd) ⟨0, vs, n, _, rfl, rfl, rfl, by simp, hm, D, Nat.ne_of_gt (Heap.lt_size hlg)⟩ S2 s1 q

/-- an empty tuple's iterator -/
def PTup0 (it l : Addr) (fz : Led) (xs : List V) (fe : Led) : Prop := ∃ n o, fe = [(it, o)] ∧ o.cls = .type "tuple_iterator" ∧ o.data = .fields #[.ref l, .int (0 : Nat) 0] ∧ xs = [] ∧ (l, tupOf [] n) ∈ fz ∧ it ≠ l
theorem PTup0.step {it l : Addr} {target : Expr} {A : Around} {fr : Led} {h₀ : Heap} {L : Addr} (hh : A.handled = none) (m : Str → Option Value) (fz : Led) (H : AH) (s : Shared) (xs : List V) (fe : Led) (hP : PTup0 it l fz xs fe) (S : St (fe ++ fr) h₀ L m fz H s.heap) :
      wpAny (model prog w) A (pyNext (.ref it)) (fun r s₁ => match r with
        | none => xs = [] ∧ ∃ h', s₁ = { s with heap := h' } ∧ St fr h₀ L m fz H h'
        | some v => wpAny (model prog w) A (letOwnedTupleGo target (.ref it) v) (fun _ s₂ => ∃ x r fe' fz' h' tk', xs = x :: r ∧ s₂ = { s with heap := h', toks := tk' } ∧ PTup0 it l fz' r fe' ∧ St (fe' ++ fr) h₀ L m fz' H h' ∧ (∀ p ∈ fz, p ∈ fz') ∧ Den fz' x v) (fun _ _ => False) s₁) (fun _ _ => False) s := by
  obtain ⟨n, o, rfl, hc, hd, rfl, hl, hne⟩ := hP
  have hit := S.frame_at
  obtain ⟨mt, δ, N, nd, R⟩ := S.ex
  have hlg := (N _ (List.mem_append_left _ (List.mem_append_left _ hl))).1
  have I1 : IsTupIter s.heap it l 0 := ⟨o, hit.1, hc, hd⟩
  have I2 : IsTup s.heap l (List.toArray []) := ⟨_, hlg, rfl, n, rfl⟩
  refine next_tuple_end hh I1 I2 (by simp) fun h' hx => ⟨rfl, h', rfl, ?_⟩
  exact St.dropBut S fun b o hb => hx b o hb
theorem PTup0.mono {it l : Addr} {fz fz' : Led} {xs : List V} {fe : Led} (hsub : ∀ p ∈ fz, p ∈ fz') (hP : PTup0 it l fz xs fe) : PTup0 it l fz' xs fe := by
  obtain ⟨n, o, e1, e2, e3, e4, e5, e6⟩ := hP; exact ⟨n, o, e1, e2, e3, e4, hsub _ e5, e6⟩
theorem SRCE.tup0 {tgt : Expr} {iter : Expr} {Q : List V → AH → Prop} (h : EV prog w K d sc cl iter ρ H (fun src H1 => src = .tup [] ∧ Q [] H1)) : SRCE prog w K d sc cl tgt iter ρ H Q := by
  intro env A fr h₀ L m fz s C S LO Q' k
  refine h env A fr h₀ L m fz s C S LO _ fun u src fz1 H1 h1 t1 S1 s1 D1 q1 => ?_
  obtain ⟨rfl, q⟩ := q1
  obtain ⟨F, mt, δ, N, nd, R⟩ := S1
  simp only [Den] at D1
  obtain ⟨a, vs, n, rfl, hm, D⟩ := D1
  simp only [DenL] at D; subst D
  have hlg := (N _ (List.mem_append_left _ (List.mem_append_left _ hm))).1
  refine iter_tuple (items := List.toArray []) ⟨_, hlg, rfl, n, rfl⟩ ?_
  have S2 := St.enframe (F.push { cls := .type "tuple_iterator", data := .fields #[.ref a, .int 0 0] }) (News.push F N { cls := .type "tuple_iterator", data := .fields #[.ref a, .int 0 0] }) (keys_lt N) nd R
  refine k (.ref h1.objs.size) (PTup0 h1.objs.size a) [] [(h1.objs.size, { cls := .type "tuple_iterator", data := .fields #[.ref a, .int 0 0] })] fz1 H1 _ t1 ⟨fun hs hp => hp.mono hs, fun fr m fz H s xs fe hP S => PTup0.step C.hd m fz H s xs fe hP S, ?_⟩ ⟨n, _, rfl, rfl, rfl, rfl, hm, Nat.ne_of_gt (Heap.lt_size hlg)⟩ S2 s1 q
  intro fr m fz H s xs fe Q hP S h
  obtain ⟨n, o, rfl, hc, hd, rfl, hl, hne⟩ := hP
  exact wpAny_pyIter_tupleiter (t := a) (i := 0) ⟨o, S.frame_at.1, hc, hd⟩ h
theorem S1.forT0 {target : Expr} {p : Pos} {iter : Expr} {body : List Stmt} {Q : Fl → Rho → AH → Prop} (hs : ∀ env x, foldedSetIterable iter env x = pure x)
    (h : EV prog w K d sc cl iter ρ H (fun src H1 => src = .tup [] ∧ Q .next ρ H1)) : S1 prog w K d sc cl (.For target iter body [] p) ρ H Q := by
  intro env A fr h₀ L m fz s C S LO Q' k
  refine wpAny_For (hs := hs env) (h env A fr h₀ L m fz s C S LO.e _ fun u src fz1 H1 h1 t1 S1 s1 D1 q1 => ?_)
  obtain ⟨rfl, q⟩ := q1
  obtain ⟨F, mt, δ, N, nd, R⟩ := S1
  simp only [Den] at D1
  obtain ⟨a, vs, n, rfl, hm, D⟩ := D1
  simp only [DenL] at D; subst D
  have hlg := (N _ (List.mem_append_left _ (List.mem_append_left _ hm))).1
  refine iter_tuple (items := List.toArray []) ⟨_, hlg, rfl, n, rfl⟩ ?_
  have S2 := St.enframe (F.push { cls := .type "tuple_iterator", data := .fields #[.ref a, .int 0 0] }) (News.push F N { cls := .type "tuple_iterator", data := .fields #[.ref a, .int 0 0] }) (keys_lt N) nd R
  exact for_core (P := PTup0 h1.objs.size a) (fe := [(h1.objs.size, { cls := .type "tuple_iterator", data := .fields #[.ref a, .int 0 0] })]) (Q := Q)
    (fun hsub hP => hP.mono hsub)
    (fun m fz H s xs fe hP S => PTup0.step C.hd m fz H s xs fe hP S) C ⟨n, _, rfl, rfl, rfl, rfl, hm, Nat.ne_of_gt (Heap.lt_size hlg)⟩ S2 (LO.mono s1) (show FORT prog w K d sc cl target body [] ρ H1 Q from q)
    (fun f F ρ' m' fz' H' h' tk' S3 s3 L3 D3 q3 => k f F ρ' m' fz' H' h' tk' S3 (fun p hp => s3 _ (s1 _ hp)) L3 D3 q3) deframeAll

theorem SRCE.rng {x : Str} {p : Pos} {iter : Expr} {Q : List V → AH → Prop} (h : EV prog w K d sc cl iter ρ H (fun src H1 => ∃ a b, src = .rng a b ∧ -2 ^ 60 ≤ a ∧ a ≤ 2 ^ 60 ∧ -2 ^ 60 ≤ b ∧ b ≤ 2 ^ 60 ∧ Q ((List.range (b - a).toNat).map fun j => V.int (a + (j : Nat))) H1)) : SRCE prog w K d sc cl (.Name x p) iter ρ H Q := by
  intro env A fr h₀ L m fz s C S LO Q' k
  refine h env A fr h₀ L m fz s C S LO _ fun u src fz1 H1 h1 t1 S1 s1 D1 q1 => ?_
  obtain ⟨a, b, rfl, g1, g2, g3, g4, q⟩ := q1
  obtain ⟨F, mt, δ, N, nd, R⟩ := S1
  simp only [Den] at D1
  obtain ⟨r, t, u', c, rfl, hm⟩ := D1
  have hlg := (N _ (List.mem_append_left _ (List.mem_append_left _ hm))).1
  refine wpAny_pyIter_range (a := a) (b := b) (c := 1) hlg (range_small g1 g4 g3 g2) ?_
  have S2 := St.enframe (F.push { cls := .type "range_iterator", data := .fields #[rawInt a, rawInt (Builtin.Range.rangeSize a b 1), rawInt 1] }) (News.push F N { cls := .type "range_iterator", data := .fields #[rawInt a, rawInt (Builtin.Range.rangeSize a b 1), rawInt 1] }) (keys_lt N) nd R
  refine k (.ref h1.objs.size) (PRng h1.objs.size a (b - a).toNat) _ [(h1.objs.size, { cls := .type "range_iterator", data := .fields #[rawInt a, rawInt (Builtin.Range.rangeSize a b 1), rawInt 1] })] fz1 H1 _ t1 ⟨fun hs hp => hp, fun fr m fz H s xs fe hP S => PRng.step C.hd (fun v => rfl) m fz H s xs fe hP S, ?_⟩ ⟨0, Nat.zero_le _, ?_, rfl⟩ S2 s1 q
  · intro fr m fz H s xs fe Q hP S h
    obtain ⟨i, hi, rfl, rfl⟩ := hP
    exact wpAny_pyIter_rangeiter S.frame_at.1 h
  · rw [rangeSize_nat]; simp

theorem SRCE.enum {ts : List Expr} {k' : Nat} {px p2 pe : Pos} {src : Expr} {Q : List V → AH → Prop} (hg : isGlob sc (Str.ofString "enumerate") = true) (hns : nsIn K mainGlobals (Str.ofString "enumerate") = some none) (hb : bootBuiltins (Str.ofString "enumerate") = some (.type "enumerate"))
    (hst : isStarred src = false)
    (he : ∀ env, eval (.Call (.Name (Str.ofString "enumerate") pe) [src] [] p2) env = (do callWith p2 (← eval (.Name (Str.ofString "enumerate") pe) env) [] (backTo p2 (starEach [src] env)) (backToKw p2 (keywordEach [] env))))
    (h : EV prog w K d sc cl src ρ H (fun x H1 => ∃ l, x = .lst l ∧ Q ((l.zipIdx).map fun p => V.tup [.int (p.2 : Nat), p.1]) H1)) :
    SRCE prog w K d sc cl (.Tuple ts k' px) (.Call (.Name (Str.ofString "enumerate") pe) [src] [] p2) ρ H Q := by
  intro env A fr h₀ L m fz s C S LO Q' k
  refine (Call_ (he := he env) ((EV.nameB (Q := fun x H1 => x = .raw (.type "enumerate") ∧ H1 = H) hg hns hb (by decide) ⟨rfl, rfl⟩) env A fr h₀ L m fz s C S LO _ fun u x fz0 H0 h0 t0 S0 s0 D0 q0 => ?_))
  obtain ⟨rfl, rfl⟩ := q0
  simp only [Den] at D0; subst D0
  rw [star_cons hst]
  refine PySem.callWith_type rfl (evalArgs_plain (spliced_cons (h env A fr h₀ L m fz0 _ C S0 (LO.mono s0) _ fun u2 x2 fz1 H1 h1 t1 S1 s1 D1 q1 => spliced_nil ?_)))
  obtain ⟨l, rfl, q⟩ := q1
  obtain ⟨F, mt, δ, N, nd, R⟩ := S1
  simp only [Den] at D1
  obtain ⟨a, vs, n, rfl, hm, D⟩ := D1
  have hlg := (N _ (List.mem_append_left _ (List.mem_append_left _ hm))).1
  refine enum_rows F (items := List.toArray vs) ⟨_, hlg, rfl, n, rfl⟩ fun h2 hE hI hL2 F2 hk2 _ _ _ _ _ => ?_
  obtain ⟨oi, hoi, hci, hdi⟩ := hI
  have hn1 : h₀.get? h1.objs.size = none := next_is_new F
  have hLlt := F.ns.lt
  have hn2 : h₀.get? (h1.objs.size + 1) = none := by
    cases hq : h₀.get? (h1.objs.size + 1) with
    | none => rfl
    | some o' => have := Heap.lt_size (F.keep _ _ hq); exact absurd this (by show ¬ (h1.objs.size + 1 < h1.objs.size); omega)
  have N2 : News h₀ L h2 (((fz1 ++ ([(h1.objs.size + 1, enumOf h1.objs.size 0 .none), (h1.objs.size, oi)] ++ fr)) ++ mt)) := fun p hp => by
    simp only [List.cons_append, List.nil_append, List.mem_cons, List.mem_append] at hp
    have old : p ∈ (fz1 ++ fr) ++ mt → h2.get? p.1 = some p.2 ∧ p.1 ≠ L ∧ h₀.get? p.1 = none := fun hp => ⟨hk2 _ _ (N p hp).1, (N p hp).2⟩
    rcases hp with (h | (rfl | rfl | h)) | h
    · exact old (by simp [h])
    · exact ⟨hE, Nat.ne_of_gt (Nat.lt_succ_of_lt hLlt), hn2⟩
    · exact ⟨hoi, Nat.ne_of_gt hLlt, hn1⟩
    · exact old (by simp [h])
    · exact old (by simp [h])
  have nd2 : (((fz1 ++ ([(h1.objs.size + 1, enumOf h1.objs.size 0 .none), (h1.objs.size, oi)] ++ fr)) ++ mt).map Prod.fst).Nodup := by
    have pm : ((fz1 ++ ([(h1.objs.size + 1, enumOf h1.objs.size 0 .none), (h1.objs.size, oi)] ++ fr)) ++ mt).Perm ((h1.objs.size + 1, enumOf h1.objs.size 0 .none) :: (h1.objs.size, oi) :: ((fz1 ++ fr) ++ mt)) := by
      rw [List.append_assoc, List.append_assoc, List.append_assoc]
      exact (List.perm_middle).trans ((List.perm_middle).cons _)
    rw [(pm.map _).nodup_iff, List.map_cons, List.map_cons]
    have kl := keys_lt N
    refine List.nodup_cons.mpr ⟨fun hm => ?_, List.nodup_cons.mpr ⟨not_key kl, nd⟩⟩
    rcases List.mem_cons.mp hm with e | hm
    · exact absurd e (Nat.succ_ne_self _)
    · exact not_key (a := h1.objs.size + 1) (fun p hp => Nat.lt_succ_of_lt (kl p hp)) hm
  have S2 : St ([(h1.objs.size + 1, enumOf h1.objs.size 0 .none), (h1.objs.size, oi)] ++ fr) h₀ L m fz1 H1 h2 := ⟨F2, mt, δ, N2, nd2, R⟩
  refine wpAny_pyIter_enum hE ?_
  refine k (.ref (h1.objs.size + 1)) (PEnum (h1.objs.size + 1) h1.objs.size a l) _ [(h1.objs.size + 1, enumOf h1.objs.size 0 .none), (h1.objs.size, oi)] fz1 H1 h2 t1 ⟨?_, ?_, ?_⟩ ⟨0, vs, n, oi, .none, rfl, hci, hdi, rfl, hm, D⟩ S2 (fun p hp => s1 _ (s0 _ hp)) q
  · intro fz fz' xs fe hsub hP
    obtain ⟨i, vs, n, o, old, e1, e2, e3, e4, e5, e6⟩ := hP; exact ⟨i, vs, n, o, old, e1, e2, e3, e4, hsub _ e5, e6.mono hsub⟩
  · exact fun fr m fz H s xs fe hP S => PEnum.step C.hd m fz H s xs fe hP S
  · intro fr m fz H s xs fe Q hP S h
    obtain ⟨i, vs, n, o, old, rfl, e2, e3, e4, e5, e6⟩ := hP
    exact wpAny_pyIter_enum S.frame_at.1 h

/-- a base list's beginning -/
theorem den_ints {fz : Led} : ∀ {vs : List Value} {ns : List Int}, IntsAre vs ns → DenL fz (ns.map V.int) vs
  | _, _, .nil => DenL.nil
  | _, _, .cons n t h => DenL.cons den_int (den_ints h)
theorem EV.sliceBase {o hi : Expr} {p p2 : Pos} {Q : V → AH → Prop} {a : Addr} {oo : Obj} {n : Nat} {vs : List Value} {ns : List Int} (hK : K.lookup a = some oo) (hoc : oo.cls = .type "list") (hod : oo.data = .seq (List.toArray vs) n) (hI : IntsAre vs ns) (hlen : vs.length ≤ 1000)
    (h : EV prog w K d sc cl o ρ H (fun x H1 => x = .raw (.ref a) ∧ EV prog w K d sc cl hi ρ H1 (fun y H2 => ∃ b, y = .int b ∧ 0 ≤ b ∧ Q (.lst ((ns.take b.toNat).map V.int)) H2))) :
    EV prog w K d sc cl (.Subscript o (.Slice none (some hi) none p2) p) ρ H Q :=
  fun env A fr h₀ L m fz s C S LO Q' k => Subscript_ (h env A fr h₀ L m fz s C S LO _ fun u x fz1 H1 h1 t1 S1 s1 D1 q1 => by
    obtain ⟨rfl, q⟩ := q1
    simp only [Den] at D1; subst D1
    refine wpAny_Slice ?_
    rw [evalPart_none]
    refine wpAny_pure ?_
    rw [evalPart_some]
    refine q env A fr h₀ L m fz1 _ C S1 (LO.mono s1) _ fun u2 y fz2 H2 h2 t2 S2 s2 D2 q2 => ?_
    obtain ⟨b, rfl, hb, qq⟩ := q2
    simp only [Den] at D2
    obtain ⟨t, rfl⟩ := D2
    refine wpAny_pure ?_
    obtain ⟨F, mt, δ, N, nd, R⟩ := S2
    have hg : h2.get? a = some oo := F.keep _ _ (C.KX _ _ hK)
    let sl : Obj := { cls := .type "slice", data := .fields #[.none, .int b t, .none] }
    have hl0 : Heap.IsList h2 a (List.toArray vs) := ⟨_, hg, hoc, n, hod⟩
    have hl : Heap.IsList (h2.push sl) a (List.toArray vs) := hl0.push _
    refine tail_any (s := { s with heap := h2.push sl, toks := t2 }) hl.typeIs slot_list_getitem.lookup (wpAny_getItem_list_slice hl (Heap.IsSliceOf.new ..) .none (.int _ _) .none (by simp) ?_ (by rw [List.size_toArray, sizeLine_eq]; omega)) rfl
    rw [pick_upto _ b hb none (.inl rfl)]
    have N1 := News.push (F.push sl) (N.grown fun _ _ e => Heap.get?_push_of_some _ e) { cls := .type "list", data := .seq (List.toArray (vs.take b.toNat)) }
    have kl : ∀ q ∈ (fz2 ++ fr) ++ mt, q.1 < (h2.push sl).objs.size := fun q hq => by rw [Heap.size_push]; exact Nat.lt_succ_of_lt (keys_lt N q hq)
    have S5 : St fr h₀ L m (((h2.push sl).objs.size, lstOf (vs.take b.toNat) 0) :: fz2) H2 ((h2.push sl).push (lstOf (vs.take b.toNat) 0)) := St.frozen ((F.push _).push _) N1 kl nd R
    refine k _ (.lst ((ns.take b.toNat).map V.int)) _ H2 _ t2 S5 (fun q hq => .tail _ (s2 _ (s1 _ hq))) ?_ qq
    simp only [Den]
    refine ⟨_, _, 0, rfl, .head _, ?_⟩
    rw [List.map_take]
    exact (den_ints hI).take _)

-- more of the written part
theorem lookup_more {X : Frag} {a : Addr} {o : Obj} : ∀ {K : Frag}, K.lookup a = some o → List.lookup a (K ++ X) = some o
  | [], h => nomatch h
  | (b, x) :: r, h => by
    rw [List.cons_append]
    rw [List.lookup_cons] at h ⊢
    cases q : a == b with
    | true => simpa [q] using h
    | false => simp only [q] at h ⊢; exact lookup_more h
theorem nsIn_more {X : Frag} {ns : Addr} {name : Str} {r : Option Value} (h : nsIn K ns name = some r) : nsIn (K ++ X) ns name = some r := by
  unfold nsIn at h ⊢
  cases e : K.lookup ns with
  | none => rw [e] at h; cases h
  | some o => rw [lookup_more e]; rw [e] at h; exact h
theorem keepIn_fn {a : Addr} {oc : Value} {od : Option Addr} {f : FuncData} {sl : Array (Option Value)} (h : K.lookup a = some ⟨oc, od, .func f, sl⟩) : keepIn K (.ref a) = true := by
  unfold keepIn; dsimp only; rw [h]
theorem codeIn_more {X : Frag} {cd : Value} {q : Str} (h : codeIn K cd q = true) : codeIn (K ++ X) cd q = true := by
  unfold codeIn at h ⊢
  cases cd with
  | ref c =>
    dsimp only at h ⊢
    cases e : K.lookup c with
    | none => rw [e] at h; cases h
    | some o => rw [lookup_more e]; rw [e] at h; exact h
  | _ => cases h
theorem in_more {h : Heap} {a : Addr} {o : Obj} (x : K.In h) (e : h.get? a = some o) : (K ++ [(a, o)] : Frag).In h := by
  intro b p hb
  cases q : K.lookup b with
  | some p' => rw [lookup_more q] at hb; cases hb; exact x _ _ q
  | none =>
    have : List.lookup b (K ++ [(a, o)]) = List.lookup b [(a, o)] := by
      clear x e hb
      induction K with
      | nil => rfl
      | cons y r ih =>
        obtain ⟨c, z⟩ := y
        rw [List.cons_append, List.lookup_cons]
        rw [List.lookup_cons] at q
        cases hq : b == c with
        | true => simp [hq] at q
        | false => simp only [hq] at q ⊢; exact ih q
    rw [this, List.lookup_cons] at hb
    cases hq : b == a with
    | true => simp only [hq] at hb; cases hb; rw [eq_of_beq hq]; exact e
    | false => simp [hq] at hb
end
-- R12

theorem MRep.free {fz mt : Led} {δ : Addr → Addr} {H : AH} {a : Addr} (R : MRep fz mt δ H) (ha : a ∉ mt.map Prod.fst) : H a = none := by
  cases e : H a with
  | none => rfl
  | some oo =>
    have : ∃ ob, (a, ob) ∈ mt := by
      have r := R.at_ a oo e
      cases oo with
      | lst l => obtain ⟨vs, n, h1, _⟩ := r; exact ⟨_, h1⟩
      | arr l => obtain ⟨o, vs, n, h1, _⟩ := r; exact ⟨_, h1⟩
      | cel => obtain ⟨o, h1, _⟩ := r; exact ⟨_, h1⟩
      | obj C ns l => obtain ⟨es, n, h1, _⟩ := r; exact ⟨_, h1⟩
    obtain ⟨ob, hm⟩ := this
    exact absurd (List.mem_map_of_mem (f := Prod.fst) hm) ha
theorem MRep.newC {fz mt : Led} {δ : Addr → Addr} {H : AH} {a : Addr} {o : Obj} (R : MRep fz mt δ H) (hd : o.data = .cell none) : MRep fz ((a, o) :: mt) δ (upd H a (some .cel)) := by
  refine ⟨?_, ?_⟩
  · intro b o' e
    by_cases hb : b = a
    · subst hb; rw [upd_same] at e; cases e; exact ⟨o, .head _, hd⟩
    · rw [upd_ne _ _ hb] at e; exact (R.at_ b o' e).mono (fun _ h => h) (fun p hp => .tail _ hp)
  · intro b c C ns l C' ns' l' e e' q
    by_cases hb : b = a
    · subst hb; rw [upd_same] at e; cases e
    · by_cases hc : c = a
      · subst hc; rw [upd_same] at e'; cases e'
      · rw [upd_ne _ _ hb] at e; rw [upd_ne _ _ hc] at e'; exact R.inj b c C ns l C' ns' l' e e' q

def cellH (emp : List Str) : List (Str × Addr) → AH → AH
  | [], H => H
  | (n, c) :: r, H => cellH emp r (if n ∈ emp then upd H c (some .cel) else H)
theorem cells_in {fr : Led} {g h₁ : Heap} {L' : Addr} {m cm : Str → Option Value} {δ : Addr → Addr} {emp : List Str} : ∀ {cs : List (Str × Addr)} {cells : Led}, CellsAre cm cs cells → ∀ {fz mt : Led} {H : AH}, Fr g L' h₁ m → News g L' h₁ (cells ++ ((fz ++ fr) ++ mt)) → ((cells ++ ((fz ++ fr) ++ mt)).map Prod.fst).Nodup → MRep fz mt δ H →
    (∀ n c, (n, c) ∈ cs → (n ∈ emp ↔ cm n = none)) → ∃ fz', (∀ p ∈ fz, p ∈ fz') ∧ St fr g L' m fz' (cellH emp cs H) h₁ ∧ (∀ n c, (n, c) ∈ cs → ∀ v, cm n = some v → ∃ o, (c, o) ∈ fz' ∧ o.data = .cell (some v)) ∧ ∀ n c, (n, c) ∈ cs → H c = none
  | [], _, .nil, fz, mt, H, F, N, nd, R, he => ⟨fz, fun _ h => h, ⟨F, mt, δ, N, nd, R⟩, fun _ _ h => (nomatch h), fun _ _ h => (nomatch h)⟩
  | (n, c) :: cs, _, .cons (o := o) (cells := cells) hd X, fz, mt, H, F, N, nd, R, he => by
    have nd0 := nd
    rw [List.cons_append, List.map_cons, List.nodup_cons] at nd0
    have hcm : c ∉ mt.map Prod.fst := fun hm => nd0.1 (by simp only [List.map_append, List.mem_append]; exact .inr (.inr hm))
    by_cases hn : n ∈ emp
    · have hcn := (he n c (.head _)).mp hn
      rw [hcn] at hd
      have pm : ((c, o) :: cells ++ ((fz ++ fr) ++ mt)).Perm (cells ++ ((fz ++ fr) ++ ((c, o) :: mt))) := by
        rw [← List.append_assoc cells (fz ++ fr) ((c, o) :: mt)]
        refine List.Perm.trans ?_ (List.perm_middle (l₁ := cells ++ (fz ++ fr)) (l₂ := mt)).symm
        rw [List.append_assoc cells, List.cons_append]
      obtain ⟨fz', a, b, e, f⟩ := cells_in X (fz := fz) (mt := (c, o) :: mt) (H := upd H c (some .cel)) F (News.sub N fun p hp => pm.mem_iff.mpr hp) (by rw [← (pm.map _).nodup_iff]; exact nd) (R.newC hd) fun n c h => he n c (.tail _ h)
      refine ⟨fz', a, by unfold cellH; rw [if_pos hn]; exact b, fun n' c' h v hv => ?_, fun n' c' h => ?_⟩
      · rcases List.mem_cons.mp h with q | h
        · cases q; rw [hcn] at hv; cases hv
        · exact e n' c' h v hv
      · rcases List.mem_cons.mp h with q | h
        · cases q; exact R.free hcm
        · have := f n' c' h
          by_cases q : c' = c
          · subst q; rw [upd_same] at this; cases this
          · rw [upd_ne _ _ q] at this; exact this
    · have pm : ((c, o) :: cells ++ ((fz ++ fr) ++ mt)).Perm (cells ++ ((((c, o) :: fz) ++ fr) ++ mt)) := (List.perm_middle (l₁ := cells) (l₂ := (fz ++ fr) ++ mt)).symm
      obtain ⟨fz', a, b, e, f⟩ := cells_in X (fz := (c, o) :: fz) (mt := mt) (H := H) F (News.sub N fun p hp => pm.mem_iff.mpr hp) (by rw [← (pm.map _).nodup_iff]; exact nd) ⟨fun b o' e => (R.at_ b o' e).mono (fun _ h => .tail _ h) (fun _ h => h), R.inj⟩ fun n c h => he n c (.tail _ h)
      refine ⟨fz', fun p hp => a _ (.tail _ hp), by unfold cellH; rw [if_neg hn]; exact b, fun n' c' h v hv => ?_, fun n' c' h => ?_⟩
      · rcases List.mem_cons.mp h with q | h
        · cases q; exact ⟨o, a _ (.head _), by rw [hd, hv]⟩
        · exact e n' c' h v hv
      · rcases List.mem_cons.mp h with q | h
        · cases q; exact R.free hcm
        · exact f n' c' h

theorem bindL_get {kindOf : Str → Option NameKind} {y : Str} (hy : kindOf y = some .local) : ∀ (binds : List (Str × Value)) (m : Str → Option Value), bindL kindOf binds m y = (binds.reverse.lookup y).or (m y)
  | [], m => rfl
  | (n, v) :: r, m => by
    unfold bindL
    rw [bindL_get hy r, List.reverse_cons, List.lookup_append]
    cases e : List.lookup y r.reverse with
    | some u => simp
    | none =>
      simp only [Option.none_or, List.lookup_cons, List.lookup_nil]
      by_cases q : y = n
      · subst q; simp [hy]
      · have : (y == n) = false := by simpa using q
        rw [this]
        split <;> simp [q]
theorem bindC_get {kindOf : Str → Option NameKind} {y : Str} (hy : kindOf y ≠ some .local) : ∀ (binds : List (Str × Value)) (m : Str → Option Value), bindC kindOf binds m y = (binds.reverse.lookup y).or (m y)
  | [], m => rfl
  | (n, v) :: r, m => by
    unfold bindC
    rw [bindC_get hy r, List.reverse_cons, List.lookup_append]
    cases e : List.lookup y r.reverse with
    | some u => simp
    | none =>
      simp only [Option.none_or, List.lookup_cons, List.lookup_nil]
      by_cases q : y = n
      · subst q; simp [hy]
      · have : (y == n) = false := by simpa using q
        rw [this]
        split <;> simp [q]
theorem cellsFrom_ge : ∀ (names : List (Str × NameKind)) (k : Nat) (acc : List (Str × Addr)), (∀ p ∈ acc, p.2 < k) → (acc.map Prod.snd).Nodup → ∀ lo, lo ≤ k → (∀ p ∈ acc, lo ≤ p.2) → (∀ p ∈ cellsFrom k names acc, lo ≤ p.2) ∧ ((cellsFrom k names acc).map Prod.snd).Nodup
  | [], k, acc, h1, h2, lo, h3, h4 => ⟨h4, h2⟩
  | (n, kd) :: r, k, acc, h1, h2, lo, h3, h4 => by
    unfold cellsFrom
    split
    · refine cellsFrom_ge r (k + 1) ((n, k) :: acc) (fun p hp => ?_) ?_ lo (Nat.le_succ_of_le h3) fun p hp => ?_
      · rcases List.mem_cons.mp hp with rfl | hp
        · exact Nat.lt_succ_self _
        · exact Nat.lt_succ_of_lt (h1 p hp)
      · rw [List.map_cons, List.nodup_cons]
        refine ⟨fun hm => ?_, h2⟩
        obtain ⟨p, hp, e⟩ := List.mem_map.mp hm
        have := h1 p hp
        rw [e] at this
        exact Nat.lt_irrefl _ this
      · rcases List.mem_cons.mp hp with rfl | hp
        · exact h3
        · exact h4 p hp
    · exact cellsFrom_ge r k acc h1 h2 lo h3 h4
theorem cellsAre_keys {cm : Str → Option Value} : ∀ {cs : List (Str × Addr)} {cells : Led}, CellsAre cm cs cells → cells.map Prod.fst = cs.map Prod.snd
  | _, _, .nil => rfl
  | _, _, .cons _ X => by rw [List.map_cons, List.map_cons, cellsAre_keys X]
theorem cellsFrom_names : ∀ (names : List (Str × NameKind)) (k j : Nat) (acc acc' : List (Str × Addr)), acc.map Prod.fst = acc'.map Prod.fst → (cellsFrom k names acc).map Prod.fst = (cellsFrom j names acc').map Prod.fst
  | [], k, j, acc, acc', h => h
  | (n, kd) :: r, k, j, acc, acc', h => by
    unfold cellsFrom
    split
    · exact cellsFrom_names r _ _ _ _ (by simp [h])
    · exact cellsFrom_names r _ _ _ _ h

section
variable {prog : Program} {w : World} {K : Frag} {d : Nat} {sc : Scope} {cl : List (Str × Addr)} {ρ : Rho} {H : AH}

/-- a function with cells -/
theorem CALL.fnC {f : Addr} {oc : Value} {od : Option Addr} {osl : Array (Option Value)} {name qual : Str} {params : Arguments} {body : List Stmt} {scope : Scope} {dV kV doc pm cdv ct : Value} {an : Option Addr} {xs : List V} {Q : V → AH → Prop} (names emp : List Str) (ρ₀ : Rho)
    (ho : K.lookup f = some ⟨oc, od, .func (fnOf name qual params body scope dV kV doc pm an cdv ct), osl⟩) (hcd : codeIn K cdv qual = true)
    (hb : ∀ vals : List Value, vals.length = xs.length → bindArgs (fnOf name qual params body scope dV kV doc pm an cdv ct) ⟨vals, []⟩ = pure (names.zip vals))
    (hn : names.length = xs.length) (hρ : ρ₀ = (names.zip xs).reverse)
    (hkind : (names.all fun n => scope.names.lookup n == some .local || scope.names.lookup n == some .cell) = true)
    (hcells : (((cellsFrom 0 scope.names []).map (·.1)).all fun n => decide (scope.names.lookup n = some .cell) && decide (n ∈ emp ↔ n ∉ names)) = true) (hnd : ((cellsFrom 0 scope.names []).map (·.1)).Nodup)
    (hco : scope.isCoroutine = false) (hgen : scope.isGenerator = false) (hk : scope.kind = .function) (hfree : (scope.names.all fun x => decide (x.2 ≠ .free)) = true)
    (h : ∀ L', (∀ n c, (n, c) ∈ cellsFrom (L' + 1) scope.names [] → H c = none) → SS prog w K d scope (cellsFrom (L' + 1) scope.names []) body ρ₀ (cellH emp (cellsFrom (L' + 1) scope.names []) H) (fun F ρ' H' => Q F.val H')) : CALL prog w K (d + 1) (.ref f) xs H Q := by
  intro sc cl env A fr h₀ L m fz s vals R C S D k
  obtain ⟨envF, outer, A₀, base, B, hA, henv⟩ := C.frames
  obtain ⟨p, loose, mean, mg, mb, T⟩ := C.top
  obtain ⟨F, mt, δ, N, nd, MR⟩ := S
  have hzl : ∀ p ∈ names.zip vals, p.1 ∈ names := fun p hp => (List.of_mem_zip hp).1
  refine code_defC B F C.KX N T hA henv.1 henv.2 ho hcd (by have := C.room; show _ < 1000; omega) (BindsTo.of_eq (hb vals D.length)) ?_ hnd (fun g L' h₁ tk cells FG F' N' CA B' X' T' hlt => ?_) hco hgen hk
  · rw [List.all_eq_true]
    intro y hy
    exact List.all_eq_true.mp hkind _ (hzl y hy)
  have hfr : ∀ x, scope.names.lookup x ≠ some .free := fun x hx => by
    obtain ⟨l1, l2, e, _⟩ := List.lookup_eq_some_iff.mp hx
    exact of_decide_eq_true (List.all_eq_true.mp hfree (x, .free) (by rw [e]; simp)) rfl
  have C' : CX K d scope (cellsFrom (L' + 1) scope.names []) (envOfC qual scope L' f cdv) (A.deeper (envOfC qual scope L' f cdv)) g L' := by
    refine ⟨.inl ⟨⟨qual, f, cdv, rfl⟩, hfr⟩, hk, ⟨envOfC qual scope L' f cdv, envF :: outer, A, base, B', ?_, rfl, hk⟩, X', ⟨p, loose, mean, mg, mb, T'⟩, C.hd, ?_, ?_⟩
    · exact Around.frames_deeper hA
    · have := C.room; show A.depth + 1 + 10 * d ≤ 900; omega
    · have := C.units; show A.units + 3 + 100 * d ≤ 9000; omega
  have PR : Pairs fz ρ₀ (names.zip vals).reverse := by rw [hρ]; exact (Pairs.zip D hn).reverse
  have ge := cellsFrom_ge scope.names (L' + 1) [] (fun _ h => nomatch h) (by simp) (L' + 1) (Nat.le_refl _) (fun _ h => nomatch h)
  have nd' : ((cells ++ ((fz ++ fr) ++ mt)).map Prod.fst).Nodup := by
    rw [List.map_append, List.nodup_append, cellsAre_keys CA]
    refine ⟨ge.2, nd, fun a ha b hb q => ?_⟩
    obtain ⟨y, hy, rfl⟩ := List.mem_map.mp ha
    obtain ⟨z, hz, rfl⟩ := List.mem_map.mp hb
    have h1 : L' + 1 ≤ y.2 := ge.1 y hy
    have h2 := hlt z hz
    rw [q] at h1
    exact absurd (Nat.lt_of_lt_of_le h2 (Nat.le_of_succ_le h1)) (Nat.lt_irrefl _)
  have cname : ∀ n c, (n, c) ∈ cellsFrom (L' + 1) scope.names [] → scope.names.lookup n = some .cell ∧ (n ∈ emp ↔ n ∉ names) := fun n c hm => by
    have h1 : n ∈ (cellsFrom (L' + 1) scope.names []).map Prod.fst := List.mem_map_of_mem (f := Prod.fst) hm
    rw [cellsFrom_names scope.names (L' + 1) 0 [] [] rfl] at h1
    have := List.all_eq_true.mp hcells n h1
    simp only [Bool.and_eq_true, decide_eq_true_eq] at this
    exact this
  have zlook : ∀ n, (names.zip vals).reverse.lookup n = none ↔ n ∉ names := fun n => by
    rw [List.lookup_eq_none_iff]
    have hl : names.length = vals.length := by rw [hn, D.length]
    constructor
    · intro h hm
      obtain ⟨i, hi, e⟩ := List.mem_iff_getElem.mp hm
      have hz : (names[i], vals[i]'(hl ▸ hi)) ∈ names.zip vals := by
        refine List.mem_iff_getElem.mpr ⟨i, by rw [List.length_zip]; omega, by simp⟩
      have := h _ (List.mem_reverse.mpr hz)
      simp [e] at this
    · intro h p hp
      have := hzl p (List.mem_reverse.mp hp)
      simpa using fun q : n = p.1 => h (q ▸ this)
  have kc : ∀ n, scope.names.lookup n = some .cell → (envOfC qual scope L' f cdv).kindOf n ≠ some .local := fun n e => by
    show scope.names.lookup n ≠ _
    rw [e]; simp
  have bc : ∀ n, scope.names.lookup n = some .cell → bindC (envOfC qual scope L' f cdv).kindOf (names.zip vals) (fun _ => none) n = (names.zip vals).reverse.lookup n := fun n e => by
    rw [bindC_get (kc n e)]; simp
  obtain ⟨fz', hsub, S', hcell, hfresh⟩ := cells_in (emp := emp) CA F' N' nd' MR fun n c hm => by
    obtain ⟨h1, h2⟩ := cname n c hm
    rw [bc n h1, zlook n]; exact h2
  have LO : Loc scope (cellsFrom (L' + 1) scope.names []) [] fz' (bindL (envOfC qual scope L' f cdv).kindOf (names.zip vals) fun _ => none) ρ₀ := fun x V e => by
    obtain ⟨v, e1, e2⟩ := PR.get e
    refine ⟨fun kl => ?_, fun kl => ?_, fun kl => absurd kl (hfr x)⟩
    · refine ⟨v, ?_, e2.mono hsub⟩
      rw [bindL_get (show (envOfC qual scope L' f cdv).kindOf x = some .local from kl), e1]; rfl
    · have hs := cellsFrom_some (x := x) scope.names (L' + 1) [] (.inl kl)
      obtain ⟨c, hc⟩ := Option.isSome_iff_exists.mp hs
      have hm : (x, c) ∈ cellsFrom (L' + 1) scope.names [] := by
        obtain ⟨l1, l2, e', _⟩ := List.lookup_eq_some_iff.mp hc
        rw [e']; simp
      obtain ⟨o, o1, o2⟩ := hcell x c hm v (by rw [bc x kl]; exact e1)
      exact ⟨c, o, v, hc, o1, o2, e2.mono hsub⟩
  refine wpAny_mono (h L' hfresh (envOfC qual scope L' f cdv) (A.deeper (envOfC qual scope L' f cdv)) fr g L' _ fz' { s with heap := h₁, toks := tk } C' S' LO
    (fun fl s' => LeaveK h₀ L m g R (match fl with | .ret v => v | _ => .none) s') fun fl Fv ρ' m' fz2 H' h' tk' S2 s2 L2 D2 q2 => ?_) (fun _ _ x => x) fun _ _ x => x.elim
  obtain ⟨F2, mt2, δ2, N2, nd2, R2⟩ := S2
  refine leaveK_ F2 N2 fun FF NN => ?_
  refine k _ Fv.val fz2 H' h' tk' ⟨FF, mt2, δ2, NN, nd2, R2⟩ (fun p hp => s2 _ (hsub _ hp)) ?_ q2
  cases Fv with
  | next => simp only [FDen] at D2; subst D2; exact den_none
  | brk => simp only [FDen] at D2; subst D2; exact den_none
  | cont => simp only [FDen] at D2; subst D2; exact den_none
  | ret v => simp only [FDen] at D2; obtain ⟨u, rfl, hd⟩ := D2; exact hd

theorem Loc.putC {fz : Led} {m : Str → Option Value} {x : Str} {v : V} {u : Value} {c : Addr} {o : Obj} (LO : Loc sc cl [] fz m ρ) (hk : sc.names.lookup x = some .cell) (hc : cl.lookup x = some c) (hm : (c, o) ∈ fz) (hd : o.data = .cell (some u)) (D : Den fz v u) :
    Loc sc cl [] fz m ((x, v) :: ρ) := fun y W e => by
  rw [List.lookup_cons] at e
  by_cases q : (y == x) = true
  · simp only [q] at e
    cases e
    have : y = x := eq_of_beq q
    subst this
    exact ⟨(fun k => by rw [hk] at k; cases k), fun _ => ⟨c, o, u, hc, hm, hd, D⟩, (fun k => by rw [hk] at k; cases k)⟩
  · simp only [q] at e
    exact LO y W e
/-- a cell's one store -/
theorem S1.assignC {x : Str} {p p' : Pos} {e : Expr} {c : Addr} {Q : Fl → Rho → AH → Prop} (hk : isCell sc x = true) (hc : cl.lookup x = some c) (hs : ∀ env, swapsWith e (some (Expr.Name x p')) p.line env = pure false)
    (h : EV prog w K d sc cl e ρ H (fun v H1 => H1 c = some .cel ∧ Q .next ((x, v) :: ρ) (upd H1 c none))) : S1 prog w K d sc cl (.Assign [Expr.Name x p'] e p) ρ H Q :=
  fun env A fr h₀ L m fz s C S LO Q' k => wpAny_Assign_Name (hs := hs env) (h env A fr h₀ L m fz s C S LO.e _ fun u v fz1 H1 h1 t1 S1 s1 D1 q1 => by
    obtain ⟨hcel, q⟩ := q1
    simp only [isCell, Bool.and_eq_true, decide_eq_true_eq, Bool.not_eq_true'] at hk
    have S1' := S1
    obtain ⟨F, mt, δ, N, nd, R⟩ := S1
    obtain ⟨o, o1, o2⟩ := R.at_ c _ hcel
    have za := N _ (List.mem_append_right _ o1)
    have key : env.scope.kind = .function ∧ env.kindOf x = some .cell ∧ env.cells.lookup x = some c := by
      rcases C.env_ with ⟨⟨cn, a, ccd, rfl⟩, _⟩ | ⟨_, _, z, _, _, z2, _⟩
      · exact ⟨C.kind, hk.1, hc⟩
      · exact ⟨z, (z2 x c hk.1 hc).1, (z2 x c hk.1 hc).2⟩
    refine wpAny_storeName_cell key.1 key.2.1 key.2.2 ⟨o, za.1, o2⟩ fun h' hv hsb => ?_
    obtain ⟨o', g1, g2⟩ := hv
    have S2 := St.setC (F.change hsb za.2.1 za.2.2) S1' hcel hsb g1
    have sb : ∀ p ∈ fz, p ∈ (c, o') :: fz1 := fun p hp => .tail _ (s1 _ hp)
    exact k .next .next ((x, v) :: ρ) m ((c, o') :: fz1) _ h' t1 S2 sb ((LO.mono sb).putC hk.1 hc (.head _) g2 (D1.mono fun p hp => .tail _ hp)) (by simp only [FDen]) q)

-- said anew
inductive Re : V → AH → V → AH → Prop
  | refl {x H} : Re x H x H
  | drop {x H H' x' H''} (h : ∀ a o, H' a = some o → H a = some o) (r : Re x H' x' H'') : Re x H x' H''
  | frzL {a l H x' H''} (e : H a = some (.lst l)) (r : Re (.lst l) (upd H a none) x' H'') : Re (.ptr a) H x' H''
  | frzI {a C ns l H x' H''} (e : H a = some (.obj C ns l)) (r : Re (.obj C ns l) (upd H a none) x' H'') : Re (.ptr a) H x' H''
  | fld {x a g i C ns l k H x' H''} (e : H a = some (.obj C ns l)) (eg : H g = some (.lst k)) (ne : a ≠ g) (ei : l[i]? = some (.ptr g)) (r : Re x (upd (upd H g none) a (some (.obj C ns (l.set i (.lst k))))) x' H'') : Re x H x' H''
  | arr {x a l H x' H''} (e : H a = some (.lst l)) (r : Re x (upd H a (some (.arr l))) x' H'') : Re x H x' H''
theorem DenL.swap {fz : Led} {y y' : V} (hw : ∀ v, Den fz y v → Den fz y' v) : ∀ {l : List V} {vs : List Value} {i : Nat}, l[i]? = some y → DenL fz l vs → DenL fz (l.set i y') vs
  | [], _, i, e, h => by simp at e
  | x :: r, vs, i, e, h => by
    simp only [DenL] at h
    obtain ⟨v, vs', rfl, hd, hl⟩ := h
    cases i with
    | zero => simp at e; subst e; simpa using DenL.cons (hw _ hd) hl
    | succ i => simp at e; simpa using DenL.cons hd (hl.swap hw e)
theorem Re.st {fr : Led} {h₀ h : Heap} {L : Addr} {m : Str → Option Value} {x x' : V} {H H' : AH} (r : Re x H x' H') : ∀ {fz : Led} {v : Value}, St fr h₀ L m fz H h → Den fz x v → ∃ fz', (∀ p ∈ fz, p ∈ fz') ∧ St fr h₀ L m fz' H' h ∧ Den fz' x' v := by
  induction r with
  | refl => exact fun S D => ⟨_, fun _ h => h, S, D⟩
  | drop h r ih => exact fun S D => ih (S.weaken h) D
  | frzL e r ih =>
    intro fz v S D
    obtain ⟨fz1, s1, D1, S1⟩ := S.freezeL e
    simp only [Den] at D; subst D
    obtain ⟨fz2, s2, S2, D2⟩ := ih S1 D1
    exact ⟨fz2, fun p hp => s2 _ (s1 _ hp), S2, D2⟩
  | frzI e r ih =>
    intro fz v S D
    obtain ⟨fz1, s1, D1, S1⟩ := S.freezeI e
    simp only [Den] at D; subst D
    obtain ⟨fz2, s2, S2, D2⟩ := ih S1 D1
    exact ⟨fz2, fun p hp => s2 _ (s1 _ hp), S2, D2⟩
  | fld e eg ne ei r ih =>
    intro fz v S D
    obtain ⟨fz1, s1, D1, S1⟩ := S.freezeL eg
    have S2 := S1.resay (a := _) (by rw [upd_ne _ _ ne]; exact e) (fun vs h => DenL.swap (fun v hv => by simp only [Den] at hv; subst hv; exact D1) ei h)
    obtain ⟨fz2, s2, S3, D2⟩ := ih S2 (D.mono s1)
    exact ⟨fz2, fun p hp => s2 _ (s1 _ hp), S3, D2⟩
  | arr e r ih => exact fun S D => ih (S.toArr e) D
theorem EV.re {e : Expr} {Q : V → AH → Prop} (h : EV prog w K d sc cl e ρ H (fun x H1 => ∃ x' H1', Re x H1 x' H1' ∧ Q x' H1')) : EV prog w K d sc cl e ρ H Q :=
  fun env A fr h₀ L m fz s C S LO Q' k => h env A fr h₀ L m fz s C S LO _ fun v x fz1 H1 h1 t1 S1 s1 D1 q1 => by
    obtain ⟨x', H1', r, q⟩ := q1
    obtain ⟨fz2, s2, S2, D2⟩ := r.st S1 D1
    exact k v x' fz2 H1' h1 t1 S2 (fun p hp => s2 _ (s1 _ hp)) D2 q
theorem CALL.re {f : Value} {xs : List V} {Q : V → AH → Prop} (h : CALL prog w K d f xs H (fun x H1 => ∃ x' H1', Re x H1 x' H1' ∧ Q x' H1')) : CALL prog w K d f xs H Q :=
  fun sc cl env A fr h₀ L m fz s vals R C S D k => h sc cl env A fr h₀ L m fz s vals R C S D fun v x fz1 H1 h1 t1 S1 s1 D1 q1 => by
    obtain ⟨x', H1', r, q⟩ := q1
    obtain ⟨fz2, s2, S2, D2⟩ := r.st S1 D1
    exact k v x' fz2 H1' h1 t1 S2 (fun p hp => s2 _ (s1 _ hp)) D2 q
theorem CALLV.re {f : Value} {xs : List V} {Q : V → AH → Prop} (h : CALLV prog w K d f xs H (fun x H1 => ∃ x' H1', Re x H1 x' H1' ∧ Q x' H1')) : CALLV prog w K d f xs H Q :=
  fun sc cl env A fr h₀ L m fz s vals C S D Q' k => h sc cl env A fr h₀ L m fz s vals C S D _ fun v x fz1 H1 h1 t1 S1 s1 D1 q1 => by
    obtain ⟨x', H1', r, q⟩ := q1
    obtain ⟨fz2, s2, S2, D2⟩ := r.st S1 D1
    exact k v x' fz2 H1' h1 t1 S2 (fun p hp => s2 _ (s1 _ hp)) D2 q
theorem CALLV.mono {f : Value} {xs : List V} {Q Q' : V → AH → Prop} (h : CALLV prog w K d f xs H Q) (hq : ∀ x H, Q x H → Q' x H) : CALLV prog w K d f xs H Q' :=
  fun sc cl env A fr h₀ L m fz s vals C S D R k => h sc cl env A fr h₀ L m fz s vals C S D R fun v x fz' H' h' tk' a b c q => k v x fz' H' h' tk' a b c (hq _ _ q)
/-- a contract used -/
theorem CALLV.by {d' : Nat} {f : Value} {xs : List V} {Q0 Q : V → AH → Prop} (h : CALL prog w K d' f xs H Q0) (hd : d' ≤ d) (hq : ∀ x H, Q0 x H → Q x H) : CALLV prog w K d f xs H Q := (h.v hd).mono hq
theorem upd_back {a : Addr} {o : Option AO} (h : H a = none) : upd (upd H a o) a none = H := by
  funext b
  by_cases q : b = a
  · subst q; rw [upd_same, h]
  · rw [upd_ne _ _ q, upd_ne _ _ q]
end
-- R13
theorem vals0 {P : List Value → Prop} (h : P []) (vals : List Value) (e : vals.length = 0) : P vals := by rw [List.length_eq_zero_iff.mp e]; exact h
theorem valsS {P : List Value → Prop} {n : Nat} (h : ∀ a (r : List Value), r.length = n → P (a :: r)) (vals : List Value) (e : vals.length = n + 1) : P vals := by
  cases vals with
  | nil => cases e
  | cons a r => exact h a r (Nat.succ.inj e)
theorem vals1 {P : List Value → Prop} (h : ∀ a0, P [a0]) (vals : List Value) (e : vals.length = 1) : P vals := valsS (fun a0 r e => vals0 (P := fun r => P (a0 :: r)) (h a0) r e) vals e
theorem vals2 {P : List Value → Prop} (h : ∀ a0 a1, P [a0, a1]) (vals : List Value) (e : vals.length = 2) : P vals := valsS (fun a0 r e => vals1 (P := fun r => P (a0 :: r)) (fun a1 => h a0 a1) r e) vals e
theorem vals3 {P : List Value → Prop} (h : ∀ a0 a1 a2, P [a0, a1, a2]) (vals : List Value) (e : vals.length = 3) : P vals := valsS (fun a0 r e => vals2 (P := fun r => P (a0 :: r)) (fun a1 a2 => h a0 a1 a2) r e) vals e
theorem vals4 {P : List Value → Prop} (h : ∀ a0 a1 a2 a3, P [a0, a1, a2, a3]) (vals : List Value) (e : vals.length = 4) : P vals := valsS (fun a0 r e => vals3 (P := fun r => P (a0 :: r)) (fun a1 a2 a3 => h a0 a1 a2 a3) r e) vals e
theorem vals5 {P : List Value → Prop} (h : ∀ a0 a1 a2 a3 a4, P [a0, a1, a2, a3, a4]) (vals : List Value) (e : vals.length = 5) : P vals := valsS (fun a0 r e => vals4 (P := fun r => P (a0 :: r)) (fun a1 a2 a3 a4 => h a0 a1 a2 a3 a4) r e) vals e
theorem vals6 {P : List Value → Prop} (h : ∀ a0 a1 a2 a3 a4 a5, P [a0, a1, a2, a3, a4, a5]) (vals : List Value) (e : vals.length = 6) : P vals := valsS (fun a0 r e => vals5 (P := fun r => P (a0 :: r)) (fun a1 a2 a3 a4 a5 => h a0 a1 a2 a3 a4 a5) r e) vals e
theorem vals7 {P : List Value → Prop} (h : ∀ a0 a1 a2 a3 a4 a5 a6, P [a0, a1, a2, a3, a4, a5, a6]) (vals : List Value) (e : vals.length = 7) : P vals := valsS (fun a0 r e => vals6 (P := fun r => P (a0 :: r)) (fun a1 a2 a3 a4 a5 a6 => h a0 a1 a2 a3 a4 a5 a6) r e) vals e
theorem u2 {v0 : V} {H0 : AH} {Q : V → AH → Prop} (q : Q v0 H0) : ∀ x H, x = v0 ∧ H = H0 → Q x H := fun _ _ h => by rw [h.1, h.2]; exact q
theorem bb_len : bootBuiltins "len" = some (.builtin "len") := by kernel_rfl
theorem bb_max : bootBuiltins "max" = some (.builtin "max") := by kernel_rfl
theorem bb_min : bootBuiltins "min" = some (.builtin "min") := by kernel_rfl
theorem bb_abs : bootBuiltins "abs" = some (.builtin "abs") := by kernel_rfl
theorem bb_sum : bootBuiltins "sum" = some (.builtin "sum") := by kernel_rfl
theorem bb_range : bootBuiltins "range" = some (.type "range") := by kernel_rfl
section
variable {K : Frag} {H1 : AH}
theorem at_obj {C : Addr} {ns : List Str} {l : List V} {attr : Str} {v : V} {P : V → Prop} (hf : fld ns l attr = some v) (g : plainGet K C attr = true ∧ hasDictIn K C = true ∧ findIn K (.ref C) attr = some none) (hs : v.sure = true) (q : P v) :
    ∃ C' ns' l' v', InstV H1 (.obj C ns l) C' ns' l' ∧ fld ns' l' attr = some v' ∧ (plainGet K C' attr = true ∧ hasDictIn K C' = true ∧ findIn K (.ref C') attr = some none) ∧ v'.sure = true ∧ P v' := ⟨_, _, _, _, .inl rfl, hf, g, hs, q⟩
theorem at_ptr {a C : Addr} {ns : List Str} {l : List V} {attr : Str} {v : V} {P : V → Prop} (e : H1 a = some (.obj C ns l)) (hf : fld ns l attr = some v) (g : plainGet K C attr = true ∧ hasDictIn K C = true ∧ findIn K (.ref C) attr = some none) (hs : v.sure = true) (q : P v) :
    ∃ C' ns' l' v', InstV H1 (.ptr a) C' ns' l' ∧ fld ns' l' attr = some v' ∧ (plainGet K C' attr = true ∧ hasDictIn K C' = true ∧ findIn K (.ref C') attr = some none) ∧ v'.sure = true ∧ P v' := ⟨_, _, _, _, .inr ⟨a, rfl, e⟩, hf, g, hs, q⟩
theorem me_obj {C : Addr} {ns : List Str} {l : List V} {name : Str} {f : Addr} {P : Addr → Prop} (hx : name ∉ ns) (g : plainGet K C name = true ∧ findIn K (.ref C) name = some (some (.ref f)) ∧ isFn K (.ref f) = true ∧ keepIn K (.ref f) = true) (q : P f) :
    ∃ C' ns' l' f', InstV H1 (.obj C ns l) C' ns' l' ∧ (name ∉ ns') ∧ (plainGet K C' name = true ∧ findIn K (.ref C') name = some (some (.ref f')) ∧ isFn K (.ref f') = true ∧ keepIn K (.ref f') = true) ∧ P f' := ⟨_, _, _, _, .inl rfl, hx, g, q⟩
theorem me_ptr {a C : Addr} {ns : List Str} {l : List V} {name : Str} {f : Addr} {P : Addr → Prop} (e : H1 a = some (.obj C ns l)) (hx : name ∉ ns) (g : plainGet K C name = true ∧ findIn K (.ref C) name = some (some (.ref f)) ∧ isFn K (.ref f) = true ∧ keepIn K (.ref f) = true) (q : P f) :
    ∃ C' ns' l' f', InstV H1 (.ptr a) C' ns' l' ∧ (name ∉ ns') ∧ (plainGet K C' name = true ∧ findIn K (.ref C') name = some (some (.ref f')) ∧ isFn K (.ref f') = true ∧ keepIn K (.ref f') = true) ∧ P f' := ⟨_, _, _, _, .inr ⟨a, rfl, e⟩, hx, g, q⟩
theorem fresh_ne {H : AH} {a g : Addr} {o : AO} (h : upd H a (some o) g = none) : a ≠ g ∧ H g = none := by
  by_cases q : g = a
  · subst q; rw [upd_same] at h; cases h
  · rw [upd_ne _ _ q] at h; exact ⟨Ne.symm q, h⟩
theorem upd_at1 {H : AH} {a b : Addr} {o x : Option AO} (h : b ≠ a) (e : H b = x) : upd H a o b = x := (upd_ne _ _ h).trans e
theorem upd_none {H : AH} {a : Addr} (h : H a = none) : upd H a none = H := by
  funext b
  by_cases q : b = a
  · subst q; rw [upd_same, h]
  · rw [upd_ne _ _ q]
theorem upd_upd {H : AH} {a : Addr} {x y : Option AO} : upd (upd H a x) a y = upd H a y := by
  funext b
  by_cases h : b = a
  · subst h; rw [upd_same, upd_same]
  · rw [upd_ne _ _ h, upd_ne _ _ h, upd_ne _ _ h]
theorem upd_comm {H : AH} {a b : Addr} {x y : Option AO} (h : a ≠ b) : upd (upd H a x) b y = upd (upd H b y) a x := by
  funext c
  by_cases h1 : c = a
  · subst h1; rw [upd_ne _ _ h, upd_same, upd_same]
  · by_cases h2 : c = b
    · subst h2; rw [upd_same, upd_ne _ _ h1, upd_same]
    · rw [upd_ne _ _ h2, upd_ne _ _ h1, upd_ne _ _ h1, upd_ne _ _ h2]
def SETS (K : Frag) (H : AH) (y : V) (x : Str) (v : V) (H3 : AH) : Prop := ∃ a C ns l ns' l', y = .ptr a ∧ H a = some (.obj C ns l) ∧ ns.length ≤ 900 ∧
  (findIn K (.ref C) "__setattr__" = some (some (.builtin "object.__setattr__")) ∧ plainOver K C = true ∧ takerIn K C x = some none ∧ hasDictIn K C = true) ∧ putF x v ns l = (ns', l') ∧ upd H a (some (.obj C ns' l')) = H3
section
variable {H0 : AH} {a b c C : Addr} {x : Str} {v : V} {ns ns' : List Str} {l l' : List V} {P : AH → Prop} {ob oc : Option AO}
  (g : findIn K (.ref C) "__setattr__" = some (some (.builtin "object.__setattr__")) ∧ plainOver K C = true ∧ takerIn K C x = some none ∧ hasDictIn K C = true) (hz : ns.length ≤ 900) (hp : putF x v ns l = (ns', l'))
include g hz hp
theorem sa_up (q : P (upd H0 a (some (.obj C ns' l')))) : ∃ H3, SETS K (upd H0 a (some (.obj C ns l))) (.ptr a) x v H3 ∧ P H3 := ⟨_, ⟨a, C, ns, l, ns', l', rfl, upd_same _ _ _, hz, g, hp, upd_upd⟩, q⟩
theorem sa_up2 (hab : a ≠ b) (q : P (upd (upd H0 a (some (.obj C ns' l'))) b ob)) : ∃ H3, SETS K (upd (upd H0 a (some (.obj C ns l))) b ob) (.ptr a) x v H3 ∧ P H3 :=
  ⟨_, ⟨a, C, ns, l, ns', l', rfl, by rw [upd_ne _ _ hab, upd_same], hz, g, hp, by rw [upd_comm (Ne.symm hab), upd_upd]⟩, q⟩
theorem sa_up3 (hab : a ≠ b) (hac : a ≠ c) (q : P (upd (upd (upd H0 a (some (.obj C ns' l'))) b ob) c oc)) : ∃ H3, SETS K (upd (upd (upd H0 a (some (.obj C ns l))) b ob) c oc) (.ptr a) x v H3 ∧ P H3 :=
  ⟨_, ⟨a, C, ns, l, ns', l', rfl, by rw [upd_ne _ _ hac, upd_ne _ _ hab, upd_same], hz, g, hp, by rw [upd_comm (Ne.symm hac), upd_comm (Ne.symm hab), upd_upd]⟩, q⟩
end
theorem sa_ptr {a C : Addr} {x : Str} {v : V} {ns ns' : List Str} {l l' : List V} {P : AH → Prop} (e : H1 a = some (.obj C ns l)) (g : findIn K (.ref C) "__setattr__" = some (some (.builtin "object.__setattr__")) ∧ plainOver K C = true ∧ takerIn K C x = some none ∧ hasDictIn K C = true) (hz : ns.length ≤ 900) (hp : putF x v ns l = (ns', l')) (q : P (upd H1 a (some (.obj C ns' l')))) : ∃ H3, SETS K H1 (.ptr a) x v H3 ∧ P H3 := ⟨_, ⟨a, C, ns, l, ns', l', rfl, e, hz, g, hp, rfl⟩, q⟩
theorem ca_raw {u : Value} {P : Value → Prop} (h : callable K u) (q : P u) : ∃ u', V.raw u = V.raw u' ∧ callable K u' ∧ P u' := ⟨u, rfl, h, q⟩
end
section
variable {prog : Program} {w : World} {K : Frag} {d : Nat} {sc : Scope} {cl : List (Str × Addr)} {ρ : Rho} {H : AH}
theorem S1.setAttr {o e : Expr} {x : Str} {p p' : Pos} {Q : Fl → Rho → AH → Prop} (hs : ∀ env, swapsWith e (some (.Attribute o x p')) p.line env = pure false)
    (h : EV prog w K d sc cl e ρ H (fun v H1 => EV prog w K d sc cl o ρ H1 (fun y H2 => ∃ H3, SETS K H2 y x v H3 ∧ Q .next ρ H3))) : S1 prog w K d sc cl (.Assign [.Attribute o x p'] e p) ρ H Q :=
  S1.assignAttr hs (h.mono fun v H1 h1 => h1.mono fun y H2 h2 => by
    obtain ⟨_, ⟨a, C, ns, l, ns', l', rfl, e1, hz, g, hp, rfl⟩, q⟩ := h2
    exact ⟨a, C, ns, l, rfl, e1, hz, g, by rw [hp]; exact q⟩)
theorem AS.setAttr {o : Expr} {x : Str} {p : Pos} {v : V} {Q : Rho → AH → Prop}
    (h : EV prog w K d sc cl o ρ H (fun y H2 => ∃ H3, SETS K H2 y x v H3 ∧ Q ρ H3)) : AS prog w K d sc cl (.Attribute o x p) v ρ H Q :=
  AS.attr (h.mono fun y H2 h2 => by
    obtain ⟨_, ⟨a, C, ns, l, ns', l', rfl, e1, hz, g, hp, rfl⟩, q⟩ := h2
    exact ⟨a, C, ns, l, rfl, e1, hz, g, by rw [hp]; exact q⟩)
theorem S1.exprAny {e : Expr} {p : Pos} {Q : Fl → Rho → AH → Prop} (hs : ∀ env, swapsWith e none p.line env = pure false) (h : EV prog w K d sc cl e ρ H (fun x H1 => Q .next ρ H1)) : S1 prog w K d sc cl (.Expr e p) ρ H Q :=
  fun env A fr h₀ L m fz s C S LO Q' k => wpAny_Expr_any (h env A fr h₀ L m fz s C S LO.e _ fun v x fz1 H1 h1 t1 S1 s1 D1 q =>
    k .next .next ρ m fz1 H1 h1 t1 S1 s1 (LO.mono s1) (by simp only [FDen]) q) (by
      have hk2 : env.scope.kind = .function := by
        rcases C.env_ with ⟨⟨cn, a, ccd, rfl⟩, _⟩ | ⟨_, _, z, _⟩
        · exact C.kind
        · exact z
      unfold interactive; rw [hk2]; rfl) (hs env)
theorem ass_nil {Q : Rho → AH → Prop} (h : Q ρ H) : ASS prog w K d sc cl [] [] ρ H Q := h
theorem ass_cons {t : Expr} {ts : List Expr} {x : V} {xs : List V} {Q : Rho → AH → Prop} (h : AS prog w K d sc cl t x ρ H (fun ρ1 H1 => ASS prog w K d sc cl ts xs ρ1 H1 Q)) : ASS prog w K d sc cl (t :: ts) (x :: xs) ρ H Q := h
end
section
variable {prog : Program} {w : World} {K : Frag} {d : Nat} {sc : Scope} {cl : List (Str × Addr)} {ρ : Rho} {H : AH}
-- plain expressions: they leave the heap as it is
def PV (prog : Program) (w : World) (K : Frag) (d : Nat) (sc : Scope) (cl : List (Str × Addr)) (e : Expr) (ρ : Rho) (H : AH) (v : V) : Prop := ∀ Q : V → AH → Prop, Q v H → EV prog w K d sc cl e ρ H Q
def PA (prog : Program) (w : World) (K : Frag) (d : Nat) (sc : Scope) (cl : List (Str × Addr)) (es : List Expr) (ρ : Rho) (H : AH) (vs : List V) : Prop := ∀ Q : List V → AH → Prop, Q vs H → ARGS prog w K d sc cl es ρ H Q
def PO (prog : Program) (w : World) (K : Frag) (d : Nat) (f : Value → Value → Sem Value) (a b : V) (H : AH) (c : V) : Prop := ∀ Q : V → AH → Prop, Q c H → OP2 prog w K d f a b H Q
theorem PO.add {a b : Int} : PO prog w K d (binaryOp .Add) (.int a) (.int b) H (.int (a + b)) := fun _ q => OP2.add q
theorem PO.sub {a b : Int} : PO prog w K d (binaryOp .Sub) (.int a) (.int b) H (.int (a - b)) := fun _ q => OP2.sub q
theorem PO.lt {a b : Int} : PO prog w K d (compareOp .Lt) (.int a) (.int b) H (.bool (decide (a < b))) := fun _ q => OP2.lt q
theorem PO.le {a b : Int} : PO prog w K d (compareOp .LtE) (.int a) (.int b) H (.bool (decide (a ≤ b))) := fun _ q => OP2.le q
theorem PO.gt {a b : Int} : PO prog w K d (compareOp .Gt) (.int a) (.int b) H (.bool (decide (a > b))) := fun _ q => OP2.gt q
theorem PO.ge {a b : Int} : PO prog w K d (compareOp .GtE) (.int a) (.int b) H (.bool (decide (a ≥ b))) := fun _ q => OP2.ge q
theorem PO.eq {a b : Int} : PO prog w K d (compareOp .Eq) (.int a) (.int b) H (.bool (decide (a = b))) := fun _ q => OP2.eq q
theorem PO.ne {a b : Int} : PO prog w K d (compareOp .NotEq) (.int a) (.int b) H (.bool (decide (a ≠ b))) := fun _ q => OP2.ne q
theorem PO.isN {x : V} (hs : x.sure = true) : PO prog w K d (compareOp .Is) x .none H (.bool x.isNone) := fun _ q => OP2.isN hs q
theorem PO.isnN {x : V} (hs : x.sure = true) : PO prog w K d (compareOp .IsNot) x .none H (.bool (!x.isNone)) := fun _ q => OP2.isnN hs q
theorem PV.cint {i : Int} {k : Nat} {p : Pos} : PV prog w K d sc cl (.Constant (.int i) k p) ρ H (.int i) := fun _ q => EV.cint q
theorem PV.cnone {k : Nat} {p : Pos} : PV prog w K d sc cl (.Constant .none k p) ρ H .none := fun _ q => EV.cnone q
theorem PV.cbool {b : Bool} {k : Nat} {p : Pos} : PV prog w K d sc cl (.Constant (.bool b) k p) ρ H (.bool b) := fun _ q => EV.cbool q
theorem PV.nameL {x : Str} {p : Pos} {v : V} (hk : isLoc sc x = true) (hv : ρ.lookup x = some v) : PV prog w K d sc cl (.Name x p) ρ H v := fun _ q => EV.nameL hk hv q
theorem PV.nameC {x : Str} {p : Pos} {v : V} (hk : isCell sc x = true) (hv : ρ.lookup x = some v) : PV prog w K d sc cl (.Name x p) ρ H v := fun _ q => EV.nameC hk hv q
theorem PV.nameG {x : Str} {p : Pos} {u : Value} (hk : isGlob sc x = true) (hv : nsIn K mainGlobals x = some (some u)) : PV prog w K d sc cl (.Name x p) ρ H (.raw u) := fun _ q => EV.nameG hk hv q
theorem PV.nameGi {x : Str} {p : Pos} {i : Int} {t : Tok} (hk : isGlob sc x = true) (hv : nsIn K mainGlobals x = some (some (.int i t))) : PV prog w K d sc cl (.Name x p) ρ H (.int i) := fun _ q => EV.nameGi hk hv q
theorem PV.bin {l r : Expr} {op : Operator} {p : Pos} {a b c : V} (h1 : PV prog w K d sc cl l ρ H a) (h2 : PV prog w K d sc cl r ρ H b) (h3 : PO prog w K d (binaryOp op) a b H c) : PV prog w K d sc cl (.BinOp l op r p) ρ H c :=
  fun Q q => EV.bin (h1 _ (h2 _ (h3 Q q)))
theorem PV.cmp {l r : Expr} {op : CmpOp} {p : Pos} {a b c : V} (hm : behindInMarks op r = false) (h1 : PV prog w K d sc cl l ρ H a) (h2 : PV prog w K d sc cl r ρ H b) (h3 : PO prog w K d (compareOp op) a b H c) : PV prog w K d sc cl (.Compare l [op] [r] p) ρ H c :=
  fun Q q => EV.cmp hm (h1 _ (h2 _ (h3 Q q)))
theorem PV.neg {x : Expr} {p : Pos} {a : Int} (h : PV prog w K d sc cl x ρ H (.int a)) : PV prog w K d sc cl (.UnaryOp .USub x p) ρ H (.int (-a)) := fun _ q => EV.un (h _ (OP1.neg q))
section
variable {o : Expr} {attr : Str} {p : Pos} {C : Addr} {ns : List Str} {l : List V} {v : V}
  (he : ∀ env, eval (.Attribute o attr p) env = (do let ov ← eval o env; standAt p.atName; let r ← holding [ov] (getAttr ov attr true); letTemporaryGo o ov r; pure r))
include he
theorem PV.attrO (h : PV prog w K d sc cl o ρ H (.obj C ns l)) (hf : fld ns l attr = some v) (g : plainGet K C attr = true ∧ hasDictIn K C = true ∧ findIn K (.ref C) attr = some none) (hs : v.sure = true) : PV prog w K d sc cl (.Attribute o attr p) ρ H v :=
  fun _ q => EV.attr he (h _ ⟨_, _, _, _, .inl rfl, hf, g, hs, q⟩)
theorem PV.attrP {a : Addr} (h : PV prog w K d sc cl o ρ H (.ptr a)) (e : H a = some (.obj C ns l)) (hf : fld ns l attr = some v) (g : plainGet K C attr = true ∧ hasDictIn K C = true ∧ findIn K (.ref C) attr = some none) (hs : v.sure = true) : PV prog w K d sc cl (.Attribute o attr p) ρ H v :=
  fun _ q => EV.attr he (h _ ⟨_, _, _, _, .inr ⟨a, rfl, e⟩, hf, g, hs, q⟩)
end
theorem PA.nil : PA prog w K d sc cl [] ρ H [] := fun _ q => ARGS.nil q
theorem PA.cons {e : Expr} {r : List Expr} {v : V} {vs : List V} (he : isStarred e = false) (h : PV prog w K d sc cl e ρ H v) (t : PA prog w K d sc cl r ρ H vs) : PA prog w K d sc cl (e :: r) ρ H (v :: vs) :=
  fun _ q => ARGS.cons' he (h _ (t _ q))
theorem EV.pv {e : Expr} {v : V} {Q : V → AH → Prop} (h : PV prog w K d sc cl e ρ H v) (q : Q v H) : EV prog w K d sc cl e ρ H Q := h Q q
theorem ARGS.pa {es : List Expr} {vs : List V} {Q : List V → AH → Prop} (h : PA prog w K d sc cl es ρ H vs) (q : Q vs H) : ARGS prog w K d sc cl es ρ H Q := h Q q
theorem TS.cmpP {l r : Expr} {op : CmpOp} {p : Pos} {a b : V} {c : Bool} {Q : Bool → AH → Prop} (hm : behindInMarks op r = false) (h1 : PV prog w K d sc cl l ρ H a) (h2 : PV prog w K d sc cl r ρ H b) (h3 : PO prog w K d (compareOp op) a b H (.bool c)) (q : Q c H) : TS prog w K d sc cl (.Compare l [op] [r] p) ρ H Q :=
  TS.cmp hm (h1 _ (h2 _ (h3 _ (TR.bool q))))
theorem TS.plainP {e : Expr} {c : Bool} {Q : Bool → AH → Prop} (he : ∀ (env : Env) (whole : Sem Value), isTrue e env whole = (do let v ← whole; standAt e.pos; holding [v] (truthy v))) (h : PV prog w K d sc cl e ρ H (.bool c)) (q : Q c H) : TS prog w K d sc cl e ρ H Q :=
  TS.plain he (h _ (TR.bool q))
theorem PV.itemT {o i : Expr} {p : Pos} {l : List V} {k : Int} {j : Nat} {v : V} (hsl : isSlice i = false) (h : PV prog w K d sc cl o ρ H (.tup l)) (hi : PV prog w K d sc cl i ρ H (.int k)) (hz : l.length ≤ 2 ^ 30) (hj : seqIndex? k l.length = some j) (hv : l[j]? = some v) : PV prog w K d sc cl (.Subscript o i p) ρ H v :=
  fun _ q => EV.item hsl (h _ (hi _ ⟨_, _, _, _, rfl, .inl rfl, hz, hj, hv, q⟩))
theorem SS.one {st : Stmt} {Q : Fl → Rho → AH → Prop} (h : S1 prog w K d sc cl st ρ H Q) : SS prog w K d sc cl [st] ρ H Q :=
  SS.cons (h.mono fun F ρ H q => match F, q with | .next, q => SS.nil q | .brk, q => q | .cont, q => q | .ret _, q => q)
def TQ (Q Q' : Fl → Rho → AH → Prop) : Prop := ∀ F ρ H, Q F ρ H → Q' F ρ H
theorem SS.top {ss : List Stmt} {Q : Fl → Rho → AH → Prop} (h : ∀ Q', TQ Q Q' → SS prog w K d sc cl ss ρ H Q') : SS prog w K d sc cl ss ρ H Q := h Q fun _ _ _ h => h
theorem TQ.mk {Q Q' : Fl → Rho → AH → Prop} {F : Fl} (g : TQ Q Q') (q : Q F ρ H) : Q' F ρ H := g _ _ _ q
theorem EV.callP {func e : Expr} {r : List Expr} {p : Pos} {u : Value} {vs : List V} {Q : V → AH → Prop} (hn : noStar (e :: r) = true)
    (he : ∀ env, eval (.Call func (e :: r) [] p) env = (do callWith p (← eval func env) [] (backTo p (starEach (e :: r) env)) (backToKw p (keywordEach [] env))))
    (hf : PV prog w K d sc cl func ρ H (.raw u)) (hu : callable K u) (ha : PA prog w K d sc cl (e :: r) ρ H vs) (q : CALLV prog w K d u vs H Q) : EV prog w K d sc cl (.Call func (e :: r) [] p) ρ H Q :=
  EV.call hn he (hf _ ⟨u, rfl, hu, ha _ q⟩)
theorem EV.call0P {func : Expr} {p : Pos} {u : Value} {Q : V → AH → Prop}
    (he : ∀ env, eval (.Call func [] [] p) env = (do callWith p (← eval func env) [] (backTo p (starEach [] env)) (backToKw p (keywordEach [] env))))
    (hf : PV prog w K d sc cl func ρ H (.raw u)) (hu : callable K u) (q : CALLV prog w K d u [] H Q) : EV prog w K d sc cl (.Call func [] [] p) ρ H Q :=
  EV.call0 he (hf _ ⟨u, rfl, hu, q⟩)
section
variable {o e : Expr} {r : List Expr} {name : Str} {ap p : Pos} {Q : V → AH → Prop} {C f : Addr} {ns : List Str} {l vs : List V}
section
variable (hn : noStar (e :: r) = true)
    (he : ∀ env, eval (.Call (.Attribute o name ap) (e :: r) [] p) env = (do let ov ← eval o env; standAt ap.atName; let x ← holding [ov] (getMethod ov name (do return (← importBound o env).getD true)); match x with | (f, first) => callWith p f first (backTo p (starEach (e :: r) env)) []))
include hn he
theorem EV.methO (ho : PV prog w K d sc cl o ρ H (.obj C ns l)) (hx : name ∉ ns) (g : plainGet K C name = true ∧ findIn K (.ref C) name = some (some (.ref f)) ∧ isFn K (.ref f) = true ∧ keepIn K (.ref f) = true)
    (ha : PA prog w K d sc cl (e :: r) ρ H vs) (q : CALLV prog w K d (.ref f) (.obj C ns l :: vs) H Q) : EV prog w K d sc cl (.Call (.Attribute o name ap) (e :: r) [] p) ρ H Q :=
  EV.meth hn he (ho _ ⟨_, _, _, _, .inl rfl, hx, g, ha _ q⟩)
theorem EV.methQ {a : Addr} (ho : PV prog w K d sc cl o ρ H (.ptr a)) (hH : H a = some (.obj C ns l)) (hx : name ∉ ns) (g : plainGet K C name = true ∧ findIn K (.ref C) name = some (some (.ref f)) ∧ isFn K (.ref f) = true ∧ keepIn K (.ref f) = true)
    (ha : PA prog w K d sc cl (e :: r) ρ H vs) (q : CALLV prog w K d (.ref f) (.ptr a :: vs) H Q) : EV prog w K d sc cl (.Call (.Attribute o name ap) (e :: r) [] p) ρ H Q :=
  EV.meth hn he (ho _ ⟨_, _, _, _, .inr ⟨a, rfl, hH⟩, hx, g, ha _ q⟩)
end
section
variable
    (he : ∀ env, eval (.Call (.Attribute o name ap) [] [] p) env = (do let ov ← eval o env; standAt ap.atName; let x ← holding [ov] (getMethod ov name (do return (← importBound o env).getD true)); match x with | (f, first) => callWith p f first (backTo p (starEach [] env)) []))
include he
theorem EV.meth0O (ho : PV prog w K d sc cl o ρ H (.obj C ns l)) (hx : name ∉ ns) (g : plainGet K C name = true ∧ findIn K (.ref C) name = some (some (.ref f)) ∧ isFn K (.ref f) = true ∧ keepIn K (.ref f) = true)
    (q : CALLV prog w K d (.ref f) [.obj C ns l] H Q) : EV prog w K d sc cl (.Call (.Attribute o name ap) [] [] p) ρ H Q :=
  EV.meth0 he (ho _ ⟨_, _, _, _, .inl rfl, hx, g, q⟩)
theorem EV.meth0Q {a : Addr} (ho : PV prog w K d sc cl o ρ H (.ptr a)) (hH : H a = some (.obj C ns l)) (hx : name ∉ ns) (g : plainGet K C name = true ∧ findIn K (.ref C) name = some (some (.ref f)) ∧ isFn K (.ref f) = true ∧ keepIn K (.ref f) = true)
    (q : CALLV prog w K d (.ref f) [.ptr a] H Q) : EV prog w K d sc cl (.Call (.Attribute o name ap) [] [] p) ρ H Q :=
  EV.meth0 he (ho _ ⟨_, _, _, _, .inr ⟨a, rfl, hH⟩, hx, g, q⟩)
end
end
end
section
variable {prog : Program} {w : World} {K : Frag} {d : Nat} {sc : Scope} {cl : List (Str × Addr)} {ρ : Rho} {H : AH}
-- what follows, under names: a continuation is an application, never a lambda (so that terms stay shared)
section
variable (prog : Program) (w : World) (K : Frag) (d : Nat) (sc : Scope) (cl : List (Str × Addr))
abbrev KQ (r : List Stmt) (Q : Fl → Rho → AH → Prop) : Fl → Rho → AH → Prop := fun F ρ H => match F with | .next => SS prog w K d sc cl r ρ H Q | F => Q F ρ H
abbrev KIf (b o : List Stmt) (ρ : Rho) (Q : Fl → Rho → AH → Prop) : Bool → AH → Prop := fun c H => (c = true → SS prog w K d sc cl b ρ H Q) ∧ (c = false → SS prog w K d sc cl o ρ H Q)
abbrev KAs (x : Str) (ρ : Rho) (Q : Fl → Rho → AH → Prop) : V → AH → Prop := fun v H => Q .next ((x, v) :: ρ) H
abbrev KAc (x : Str) (c : Addr) (ρ : Rho) (Q : Fl → Rho → AH → Prop) : V → AH → Prop := fun v H => H c = some .cel ∧ Q .next ((x, v) :: ρ) (upd H c none)
abbrev KRe (ρ : Rho) (Q : Fl → Rho → AH → Prop) : V → AH → Prop := fun v H => Q (.ret v) ρ H
abbrev KEx (ρ : Rho) (Q : Fl → Rho → AH → Prop) : V → AH → Prop := fun _ H => Q .next ρ H
abbrev KNx (Q : Fl → Rho → AH → Prop) : Rho → AH → Prop := fun ρ H => Q .next ρ H
abbrev KTu (t : Expr) (ρ : Rho) (Q : Fl → Rho → AH → Prop) : V → AH → Prop := fun v H => AS prog w K d sc cl t v ρ H (KNx Q)
abbrev KAS (ts : List Expr) (xs : List V) (Q : Rho → AH → Prop) : Rho → AH → Prop := fun ρ H => ASS prog w K d sc cl ts xs ρ H Q
abbrev KS1 (x : Str) (v : V) (ρ : Rho) (Q : Rho → AH → Prop) : V → AH → Prop := fun y H2 => ∃ H3, SETS K H2 y x v H3 ∧ Q ρ H3
abbrev KS2 (x : Str) (v : V) (ρ : Rho) (Q : Fl → Rho → AH → Prop) : V → AH → Prop := fun y H2 => ∃ H3, SETS K H2 y x v H3 ∧ Q .next ρ H3
abbrev KS3 (o : Expr) (x : Str) (ρ : Rho) (Q : Fl → Rho → AH → Prop) : V → AH → Prop := fun v H => EV prog w K d sc cl o ρ H (KS2 K x v ρ Q)
abbrev KO2 (f : Value → Value → Sem Value) (a : V) (Q : V → AH → Prop) : V → AH → Prop := fun b H => OP2 prog w K d f a b H Q
abbrev KB (r : Expr) (f : Value → Value → Sem Value) (ρ : Rho) (Q : V → AH → Prop) : V → AH → Prop := fun a H => EV prog w K d sc cl r ρ H (KO2 prog w K d f a Q)
abbrev KO1 (f : Value → Sem Value) (Q : V → AH → Prop) : V → AH → Prop := fun a H => OP1 prog w K d f a H Q
abbrev KTr (Q : Bool → AH → Prop) : V → AH → Prop := fun a H => TR prog w K d a H Q
abbrev KAn (op : BoolOp) (r : List Expr) (ρ : Rho) (Q : Bool → AH → Prop) : Bool → AH → Prop := fun c H => (c = true → TSS prog w K d sc cl op r ρ H Q) ∧ (c = false → Q false H)
abbrev KOr (op : BoolOp) (r : List Expr) (ρ : Rho) (Q : Bool → AH → Prop) : Bool → AH → Prop := fun c H => (c = true → Q true H) ∧ (c = false → TSS prog w K d sc cl op r ρ H Q)
abbrev KNo (Q : Bool → AH → Prop) : Bool → AH → Prop := fun c H => Q (!c) H
abbrev KVa (e : Expr) (ρ : Rho) (a : V) (Q : V → AH → Prop) : Bool → AH → Prop := fun c H => (c = true → EV prog w K d sc cl e ρ H Q) ∧ (c = false → Q a H)
abbrev KVo (e : Expr) (ρ : Rho) (a : V) (Q : V → AH → Prop) : Bool → AH → Prop := fun c H => (c = true → Q a H) ∧ (c = false → EV prog w K d sc cl e ρ H Q)
abbrev KVA (e : Expr) (ρ : Rho) (Q : V → AH → Prop) : V → AH → Prop := fun a H => TR prog w K d a H (KVa prog w K d sc cl e ρ a Q)
abbrev KVO (e : Expr) (ρ : Rho) (Q : V → AH → Prop) : V → AH → Prop := fun a H => TR prog w K d a H (KVo prog w K d sc cl e ρ a Q)
abbrev KIx (b o : Expr) (ρ : Rho) (Q : V → AH → Prop) : Bool → AH → Prop := fun c H => (c = true → EV prog w K d sc cl b ρ H Q) ∧ (c = false → EV prog w K d sc cl o ρ H Q)
abbrev KL2 (r : Expr) (f : Value → Value → Sem Value) (ρ : Rho) (b : V) (Q : V → AH → Prop) (c : V) : Bool → AH → Prop := fun t H => (t = true → EV prog w K d sc cl r ρ H (KO2 prog w K d f b Q)) ∧ (t = false → Q c H)
abbrev KL1 (r : Expr) (f : Value → Value → Sem Value) (ρ : Rho) (b : V) (Q : V → AH → Prop) : V → AH → Prop := fun c H => TR prog w K d c H (KL2 prog w K d sc cl r f ρ b Q c)
abbrev KL0 (f : Value → Value → Sem Value) (r : Expr) (g : Value → Value → Sem Value) (ρ : Rho) (a : V) (Q : V → AH → Prop) : V → AH → Prop := fun b H => OP2 prog w K d f a b H (KL1 prog w K d sc cl r g ρ b Q)
abbrev KL (r : Expr) (f : Value → Value → Sem Value) (r' : Expr) (g : Value → Value → Sem Value) (ρ : Rho) (Q : V → AH → Prop) : V → AH → Prop := fun a H => EV prog w K d sc cl r ρ H (KL0 prog w K d sc cl f r' g ρ a Q)
abbrev KM2 (r : Expr) (f : Value → Value → Sem Value) (ρ : Rho) (b : V) (Q : Bool → AH → Prop) : Bool → AH → Prop := fun t H => (t = true → EV prog w K d sc cl r ρ H (KO2 prog w K d f b (KTr prog w K d Q))) ∧ (t = false → Q false H)
abbrev KM1 (r : Expr) (f : Value → Value → Sem Value) (ρ : Rho) (b : V) (Q : Bool → AH → Prop) : V → AH → Prop := fun c H => TR prog w K d c H (KM2 prog w K d sc cl r f ρ b Q)
abbrev KM0 (f : Value → Value → Sem Value) (r : Expr) (g : Value → Value → Sem Value) (ρ : Rho) (a : V) (Q : Bool → AH → Prop) : V → AH → Prop := fun b H => OP2 prog w K d f a b H (KM1 prog w K d sc cl r g ρ b Q)
abbrev KM (r : Expr) (f : Value → Value → Sem Value) (r' : Expr) (g : Value → Value → Sem Value) (ρ : Rho) (Q : Bool → AH → Prop) : V → AH → Prop := fun a H => EV prog w K d sc cl r ρ H (KM0 prog w K d sc cl f r' g ρ a Q)
abbrev KI2 (x : V) (Q : V → AH → Prop) : V → AH → Prop := fun y H => ∃ k l j v, y = .int k ∧ ITEM H x l ∧ l.length ≤ 2 ^ 30 ∧ seqIndex? k l.length = some j ∧ l[j]? = some v ∧ Q v H
abbrev KI (i : Expr) (ρ : Rho) (Q : V → AH → Prop) : V → AH → Prop := fun x H => EV prog w K d sc cl i ρ H (KI2 x Q)
abbrev KAt (attr : Str) (Q : V → AH → Prop) : V → AH → Prop := fun x H => ∃ C ns l v, InstV H x C ns l ∧ fld ns l attr = some v ∧ (plainGet K C attr = true ∧ hasDictIn K C = true ∧ findIn K (.ref C) attr = some none) ∧ v.sure = true ∧ Q v H
abbrev KCa (u : Value) (Q : V → AH → Prop) : List V → AH → Prop := fun xs H => CALLV prog w K d u xs H Q
abbrev KCm (u : Value) (x : V) (Q : V → AH → Prop) : List V → AH → Prop := fun xs H => CALLV prog w K d u (x :: xs) H Q
abbrev KCf (es : List Expr) (ρ : Rho) (Q : V → AH → Prop) : V → AH → Prop := fun x H => ∃ u, x = .raw u ∧ callable K u ∧ ARGS prog w K d sc cl es ρ H (KCa prog w K d u Q)
abbrev KC0 (Q : V → AH → Prop) : V → AH → Prop := fun x H => ∃ u, x = .raw u ∧ callable K u ∧ CALLV prog w K d u [] H Q
abbrev KMe (name : Str) (es : List Expr) (ρ : Rho) (Q : V → AH → Prop) : V → AH → Prop := fun x H => ∃ C ns l f, InstV H x C ns l ∧ (name ∉ ns) ∧ (plainGet K C name = true ∧ findIn K (.ref C) name = some (some (.ref f)) ∧ isFn K (.ref f) = true ∧ keepIn K (.ref f) = true) ∧ ARGS prog w K d sc cl es ρ H (KCm prog w K d (.ref f) x Q)
abbrev KM9 (name : Str) (Q : V → AH → Prop) : V → AH → Prop := fun x H => ∃ C ns l f, InstV H x C ns l ∧ (name ∉ ns) ∧ (plainGet K C name = true ∧ findIn K (.ref C) name = some (some (.ref f)) ∧ isFn K (.ref f) = true ∧ keepIn K (.ref f) = true) ∧ CALLV prog w K d (.ref f) [x] H Q
abbrev KA2 (v : V) (Q : List V → AH → Prop) : List V → AH → Prop := fun xs H => Q (v :: xs) H
abbrev KAr (r : List Expr) (ρ : Rho) (Q : List V → AH → Prop) : V → AH → Prop := fun v H => ARGS prog w K d sc cl r ρ H (KA2 v Q)
abbrev KTp (Q : V → AH → Prop) : List V → AH → Prop := fun xs H => xs.length ≤ 1000 ∧ Q (.tup xs) H
abbrev KLf (Q : V → AH → Prop) : List V → AH → Prop := fun xs H => xs.length ≤ 1000 ∧ Q (.lst xs) H
abbrev KLm (Q : V → AH → Prop) : List V → AH → Prop := fun xs H => xs.length ≤ 1000 ∧ ∀ a, H a = none → Q (.ptr a) (upd H a (some (.lst xs)))
abbrev KPu2 (a : Addr) (Q : V → AH → Prop) : V → AH → Prop := fun y H => ∃ l, H a = some (.lst l) ∧ l.length ≤ 1000 ∧ Q .none (upd H a (some (.lst (l ++ [y]))))
abbrev KPu (e : Expr) (ρ : Rho) (Q : V → AH → Prop) : V → AH → Prop := fun x H => ∃ a l₀, x = .ptr a ∧ H a = some (.lst l₀) ∧ EV prog w K d sc cl e ρ H (KPu2 a Q)
abbrev KXt2 (a : Addr) (Q : V → AH → Prop) : V → AH → Prop := fun y H => ∃ l l', y = .lst l' ∧ H a = some (.lst l) ∧ l.length + l'.length ≤ 1000 ∧ Q .none (upd H a (some (.lst (l ++ l'))))
abbrev KXt (e : Expr) (ρ : Rho) (Q : V → AH → Prop) : V → AH → Prop := fun x H => ∃ a l₀, x = .ptr a ∧ H a = some (.lst l₀) ∧ EV prog w K d sc cl e ρ H (KXt2 a Q)
end
theorem KQ.ret {r : List Stmt} {Q : Fl → Rho → AH → Prop} {v : V} (h : Q (.ret v) ρ H) : KQ prog w K d sc cl r Q (.ret v) ρ H := h
theorem KQ.brk {r : List Stmt} {Q : Fl → Rho → AH → Prop} (h : Q .brk ρ H) : KQ prog w K d sc cl r Q .brk ρ H := h
theorem KQ.cont {r : List Stmt} {Q : Fl → Rho → AH → Prop} (h : Q .cont ρ H) : KQ prog w K d sc cl r Q .cont ρ H := h
theorem SS.consK {st : Stmt} {r : List Stmt} {Q : Fl → Rho → AH → Prop} (h : S1 prog w K d sc cl st ρ H (KQ prog w K d sc cl r Q)) : SS prog w K d sc cl (st :: r) ρ H Q := SS.cons h
theorem S1.assignK {x : Str} {p p' : Pos} {e : Expr} {Q : Fl → Rho → AH → Prop} (hk : isLoc sc x = true) (hs : ∀ env, swapsWith e (some (.Name x p')) p.line env = pure false)
    (h : EV prog w K d sc cl e ρ H (KAs x ρ Q)) : S1 prog w K d sc cl (.Assign [.Name x p'] e p) ρ H Q := S1.assign hk hs h
theorem S1.assignCK {x : Str} {p p' : Pos} {e : Expr} {c : Addr} {Q : Fl → Rho → AH → Prop} (hk : isCell sc x = true) (hc : cl.lookup x = some c) (hs : ∀ env, swapsWith e (some (Expr.Name x p')) p.line env = pure false)
    (h : EV prog w K d sc cl e ρ H (KAc x c ρ Q)) : S1 prog w K d sc cl (.Assign [Expr.Name x p'] e p) ρ H Q := S1.assignC hk hc hs h
theorem S1.retK {e : Expr} {p : Pos} {Q : Fl → Rho → AH → Prop} (h : EV prog w K d sc cl e ρ H (KRe ρ Q)) : S1 prog w K d sc cl (.Return (some e) p) ρ H Q := S1.ret h
theorem S1.ifsK {t : Expr} {b o : List Stmt} {p : Pos} {Q : Fl → Rho → AH → Prop} (h : TS prog w K d sc cl t ρ H (KIf prog w K d sc cl b o ρ Q)) : S1 prog w K d sc cl (.If t b o p) ρ H Q := S1.ifs h
theorem KIf.t {b o : List Stmt} {Q : Fl → Rho → AH → Prop} {c : Bool} (h : c = true) (q : SS prog w K d sc cl b ρ H Q) : KIf prog w K d sc cl b o ρ Q c H := ⟨fun _ => q, fun e => absurd (h.symm.trans e) (by decide)⟩
theorem KIf.f {b o : List Stmt} {Q : Fl → Rho → AH → Prop} {c : Bool} (h : c = false) (q : SS prog w K d sc cl o ρ H Q) : KIf prog w K d sc cl b o ρ Q c H := ⟨fun e => absurd (h.symm.trans e) (by decide), fun _ => q⟩
theorem S1.ifC {l r : Expr} {op : CmpOp} {p p' : Pos} {b o : List Stmt} {x y : V} {c : Bool} {Q : Fl → Rho → AH → Prop} (hm : behindInMarks op r = false) (h1 : PV prog w K d sc cl l ρ H x) (h2 : PV prog w K d sc cl r ρ H y) (h3 : PO prog w K d (compareOp op) x y H (.bool c))
    (q : KIf prog w K d sc cl b o ρ Q c H) : S1 prog w K d sc cl (.If (.Compare l [op] [r] p) b o p') ρ H Q :=
  S1.ifs (TS.cmpP hm h1 h2 h3 q)
theorem S1.setAttrK {o e : Expr} {x : Str} {p p' : Pos} {Q : Fl → Rho → AH → Prop} (hs : ∀ env, swapsWith e (some (.Attribute o x p')) p.line env = pure false)
    (h : EV prog w K d sc cl e ρ H (KS3 prog w K d sc cl o x ρ Q)) : S1 prog w K d sc cl (.Assign [.Attribute o x p'] e p) ρ H Q := S1.setAttr hs h
theorem S1.assignTupK {ts : List Expr} {n : Nat} {p p' : Pos} {e : Expr} {Q : Fl → Rho → AH → Prop} (hs : ∀ env, swapsWithSole [.Tuple ts n p'] e p.line env = pure false) (hw : ∀ env, swappedStores [.Tuple ts n p'] e env = pure none)
    (h : EV prog w K d sc cl e ρ H (KTu prog w K d sc cl (.Tuple ts n p') ρ Q)) : S1 prog w K d sc cl (.Assign [.Tuple ts n p'] e p) ρ H Q := S1.assignTup hs hw h
theorem AS.setAttrK {o : Expr} {x : Str} {p : Pos} {v : V} {Q : Rho → AH → Prop} (h : EV prog w K d sc cl o ρ H (KS1 K x v ρ Q)) : AS prog w K d sc cl (.Attribute o x p) v ρ H Q := AS.setAttr h
theorem ass_consK {t : Expr} {ts : List Expr} {x : V} {xs : List V} {Q : Rho → AH → Prop} (h : AS prog w K d sc cl t x ρ H (KAS prog w K d sc cl ts xs Q)) : ASS prog w K d sc cl (t :: ts) (x :: xs) ρ H Q := ass_cons h
theorem S1.exprAnyK {e : Expr} {p : Pos} {Q : Fl → Rho → AH → Prop} (hs : ∀ env, swapsWith e none p.line env = pure false) (h : EV prog w K d sc cl e ρ H (KEx ρ Q)) : S1 prog w K d sc cl (.Expr e p) ρ H Q := S1.exprAny hs h
theorem EV.binK {l r : Expr} {op : Operator} {p : Pos} {Q : V → AH → Prop} (h : EV prog w K d sc cl l ρ H (KB prog w K d sc cl r (binaryOp op) ρ Q)) : EV prog w K d sc cl (.BinOp l op r p) ρ H Q := EV.bin h
theorem EV.cmpK {l r : Expr} {op : CmpOp} {p : Pos} {Q : V → AH → Prop} (hm : behindInMarks op r = false) (h : EV prog w K d sc cl l ρ H (KB prog w K d sc cl r (compareOp op) ρ Q)) : EV prog w K d sc cl (.Compare l [op] [r] p) ρ H Q := EV.cmp hm h
theorem EV.cmp2K {l r r' : Expr} {op op' : CmpOp} {p : Pos} {Q : V → AH → Prop} (hm : lastMarks [op, op'] [r, r'] = false) (h : EV prog w K d sc cl l ρ H (KL prog w K d sc cl r (compareOp op) r' (compareOp op') ρ Q)) : EV prog w K d sc cl (.Compare l [op, op'] [r, r'] p) ρ H Q := EV.cmp2 hm h
theorem EV.unK {x : Expr} {op : UnaryOp} {p : Pos} {Q : V → AH → Prop} (h : EV prog w K d sc cl x ρ H (KO1 prog w K d (unaryOp op) Q)) : EV prog w K d sc cl (.UnaryOp op x p) ρ H Q := EV.un h
theorem EV.ifxK {t b o : Expr} {p : Pos} {Q : V → AH → Prop} (h : TS prog w K d sc cl t ρ H (KIx prog w K d sc cl b o ρ Q)) : EV prog w K d sc cl (.IfExp t b o p) ρ H Q := EV.ifx h
theorem EV.andK {x y : Expr} {r : List Expr} {p : Pos} {Q : V → AH → Prop} (h : EV prog w K d sc cl x ρ H (KVA prog w K d sc cl (.BoolOp .And (y :: r) p) ρ Q)) : EV prog w K d sc cl (.BoolOp .And (x :: y :: r) p) ρ H Q := EV.and h
theorem EV.orK {x y : Expr} {r : List Expr} {p : Pos} {Q : V → AH → Prop} (h : EV prog w K d sc cl x ρ H (KVO prog w K d sc cl (.BoolOp .Or (y :: r) p) ρ Q)) : EV prog w K d sc cl (.BoolOp .Or (x :: y :: r) p) ρ H Q := EV.or h
theorem EV.itemK {o i : Expr} {p : Pos} {Q : V → AH → Prop} (hsl : isSlice i = false) (h : EV prog w K d sc cl o ρ H (KI prog w K d sc cl i ρ Q)) : EV prog w K d sc cl (.Subscript o i p) ρ H Q := EV.item hsl h
theorem EV.tupleK {es : List Expr} {k : Nat} {p : Pos} {Q : V → AH → Prop} (h : ARGS prog w K d sc cl es ρ H (KTp Q)) : EV prog w K d sc cl (.Tuple es k p) ρ H Q := EV.tuple h
theorem EV.listFK {es : List Expr} {p : Pos} {Q : V → AH → Prop} (h : ARGS prog w K d sc cl es ρ H (KLf Q)) : EV prog w K d sc cl (.List es p) ρ H Q := EV.listF h
theorem EV.listMK {es : List Expr} {p : Pos} {Q : V → AH → Prop} (h : ARGS prog w K d sc cl es ρ H (KLm Q)) : EV prog w K d sc cl (.List es p) ρ H Q := EV.listM h
theorem TS.plainK {e : Expr} {Q : Bool → AH → Prop} (he : ∀ (env : Env) (whole : Sem Value), isTrue e env whole = (do let v ← whole; standAt e.pos; holding [v] (truthy v))) (h : EV prog w K d sc cl e ρ H (KTr prog w K d Q)) : TS prog w K d sc cl e ρ H Q := TS.plain he h
theorem TS.cmpK {l r : Expr} {op : CmpOp} {p : Pos} {Q : Bool → AH → Prop} (hm : behindInMarks op r = false) (h : EV prog w K d sc cl l ρ H (KB prog w K d sc cl r (compareOp op) ρ (KTr prog w K d Q))) : TS prog w K d sc cl (.Compare l [op] [r] p) ρ H Q := TS.cmp hm h
theorem TS.cmp2K {l r r' : Expr} {op op' : CmpOp} {p : Pos} {Q : Bool → AH → Prop} (hm : lastMarks [op, op'] [r, r'] = false) (h : EV prog w K d sc cl l ρ H (KM prog w K d sc cl r (compareOp op) r' (compareOp op') ρ Q)) : TS prog w K d sc cl (.Compare l [op, op'] [r, r'] p) ρ H Q := TS.cmp2 hm h
theorem TS.notK {x : Expr} {p : Pos} {Q : Bool → AH → Prop} (h : TS prog w K d sc cl x ρ H (KNo Q)) : TS prog w K d sc cl (.UnaryOp .Not x p) ρ H Q := TS.not h
theorem TSS.andK {x : Expr} {r : List Expr} {Q : Bool → AH → Prop} (h : TS prog w K d sc cl x ρ H (KAn prog w K d sc cl .And r ρ Q)) : TSS prog w K d sc cl .And (x :: r) ρ H Q := TSS.and h
theorem TSS.orK {x : Expr} {r : List Expr} {Q : Bool → AH → Prop} (h : TS prog w K d sc cl x ρ H (KOr prog w K d sc cl .Or r ρ Q)) : TSS prog w K d sc cl .Or (x :: r) ρ H Q := TSS.or h
theorem ARGS.consK {e : Expr} {r : List Expr} {Q : List V → AH → Prop} (he : isStarred e = false) (h : EV prog w K d sc cl e ρ H (KAr prog w K d sc cl r ρ Q)) : ARGS prog w K d sc cl (e :: r) ρ H Q := ARGS.cons' he h
theorem EV.attrK {o : Expr} {attr : Str} {p : Pos} {Q : V → AH → Prop}
    (he : ∀ env, eval (.Attribute o attr p) env = (do let ov ← eval o env; standAt p.atName; let r ← holding [ov] (getAttr ov attr true); letTemporaryGo o ov r; pure r))
    (h : EV prog w K d sc cl o ρ H (KAt K attr Q)) : EV prog w K d sc cl (.Attribute o attr p) ρ H Q := EV.attr he h
theorem EV.callK {func e : Expr} {r : List Expr} {p : Pos} {Q : V → AH → Prop} (hn : noStar (e :: r) = true)
    (he : ∀ env, eval (.Call func (e :: r) [] p) env = (do callWith p (← eval func env) [] (backTo p (starEach (e :: r) env)) (backToKw p (keywordEach [] env))))
    (h : EV prog w K d sc cl func ρ H (KCf prog w K d sc cl (e :: r) ρ Q)) : EV prog w K d sc cl (.Call func (e :: r) [] p) ρ H Q := EV.call hn he h
theorem EV.call0K {func : Expr} {p : Pos} {Q : V → AH → Prop}
    (he : ∀ env, eval (.Call func [] [] p) env = (do callWith p (← eval func env) [] (backTo p (starEach [] env)) (backToKw p (keywordEach [] env))))
    (h : EV prog w K d sc cl func ρ H (KC0 prog w K d Q)) : EV prog w K d sc cl (.Call func [] [] p) ρ H Q := EV.call0 he h
theorem EV.callA {func e : Expr} {r : List Expr} {p : Pos} {u : Value} {Q : V → AH → Prop} (hn : noStar (e :: r) = true)
    (he : ∀ env, eval (.Call func (e :: r) [] p) env = (do callWith p (← eval func env) [] (backTo p (starEach (e :: r) env)) (backToKw p (keywordEach [] env))))
    (hf : PV prog w K d sc cl func ρ H (.raw u)) (hu : callable K u) (h : ARGS prog w K d sc cl (e :: r) ρ H (KCa prog w K d u Q)) : EV prog w K d sc cl (.Call func (e :: r) [] p) ρ H Q := EV.call hn he (hf _ ⟨u, rfl, hu, h⟩)
theorem EV.callB {x : Str} {px : Pos} {e : Expr} {r : List Expr} {p : Pos} {u : Value} {Q : V → AH → Prop} (hn : noStar (e :: r) = true)
    (he : ∀ env, eval (.Call (.Name x px) (e :: r) [] p) env = (do callWith p (← eval (.Name x px) env) [] (backTo p (starEach (e :: r) env)) (backToKw p (keywordEach [] env))))
    (hk : isGlob sc x = true) (hv : nsIn K mainGlobals x = some none) (hb : bootBuiltins x = some u) (hx : (x == ("__name__" : Str)) = false) (hu : callable K u) (h : ARGS prog w K d sc cl (e :: r) ρ H (KCa prog w K d u Q)) : EV prog w K d sc cl (.Call (.Name x px) (e :: r) [] p) ρ H Q :=
  EV.call hn he (EV.nameB hk hv hb hx ⟨u, rfl, hu, h⟩)
section
variable {o e : Expr} {r : List Expr} {name : Str} {ap p : Pos} {Q : V → AH → Prop} {C f : Addr} {ns : List Str} {l : List V}
section
variable (hn : noStar (e :: r) = true)
    (he : ∀ env, eval (.Call (.Attribute o name ap) (e :: r) [] p) env = (do let ov ← eval o env; standAt ap.atName; let x ← holding [ov] (getMethod ov name (do return (← importBound o env).getD true)); match x with | (f, first) => callWith p f first (backTo p (starEach (e :: r) env)) []))
include hn he
theorem EV.methK (h : EV prog w K d sc cl o ρ H (KMe prog w K d sc cl name (e :: r) ρ Q)) : EV prog w K d sc cl (.Call (.Attribute o name ap) (e :: r) [] p) ρ H Q := EV.meth hn he h
theorem EV.methOA (ho : PV prog w K d sc cl o ρ H (.obj C ns l)) (hx : name ∉ ns) (g : plainGet K C name = true ∧ findIn K (.ref C) name = some (some (.ref f)) ∧ isFn K (.ref f) = true ∧ keepIn K (.ref f) = true)
    (h : ARGS prog w K d sc cl (e :: r) ρ H (KCm prog w K d (.ref f) (.obj C ns l) Q)) : EV prog w K d sc cl (.Call (.Attribute o name ap) (e :: r) [] p) ρ H Q :=
  EV.meth hn he (ho _ ⟨_, _, _, _, .inl rfl, hx, g, h⟩)
theorem EV.methQA {a : Addr} (ho : PV prog w K d sc cl o ρ H (.ptr a)) (hH : H a = some (.obj C ns l)) (hx : name ∉ ns) (g : plainGet K C name = true ∧ findIn K (.ref C) name = some (some (.ref f)) ∧ isFn K (.ref f) = true ∧ keepIn K (.ref f) = true)
    (h : ARGS prog w K d sc cl (e :: r) ρ H (KCm prog w K d (.ref f) (.ptr a) Q)) : EV prog w K d sc cl (.Call (.Attribute o name ap) (e :: r) [] p) ρ H Q :=
  EV.meth hn he (ho _ ⟨_, _, _, _, .inr ⟨a, rfl, hH⟩, hx, g, h⟩)
end
theorem EV.meth0K
    (he : ∀ env, eval (.Call (.Attribute o name ap) [] [] p) env = (do let ov ← eval o env; standAt ap.atName; let x ← holding [ov] (getMethod ov name (do return (← importBound o env).getD true)); match x with | (f, first) => callWith p f first (backTo p (starEach [] env)) []))
    (h : EV prog w K d sc cl o ρ H (KM9 prog w K d name Q)) : EV prog w K d sc cl (.Call (.Attribute o name ap) [] [] p) ρ H Q := EV.meth0 he h
theorem EV.appendP {a : Addr} {l' : List V} {v : V} (hn : isStarred e = false)
    (he : ∀ env, eval (.Call (.Attribute o (Str.ofString "append") ap) [e] [] p) env = (do let ov ← eval o env; standAt ap.atName; let x ← holding [ov] (getMethod ov (Str.ofString "append") (do return (← importBound o env).getD true)); match x with | (f, first) => callWith p f first (backTo p (starEach [e] env)) []))
    (ho : PV prog w K d sc cl o ρ H (.ptr a)) (hH : H a = some (.lst l')) (hv : PV prog w K d sc cl e ρ H v) (hl : l'.length ≤ 1000) (q : Q .none (upd H a (some (.lst (l' ++ [v]))))) : EV prog w K d sc cl (.Call (.Attribute o (Str.ofString "append") ap) [e] [] p) ρ H Q :=
  EV.append hn he (ho _ ⟨_, _, rfl, hH, hv _ ⟨_, hH, hl, q⟩⟩)
theorem EV.appendK (hn : isStarred e = false)
    (he : ∀ env, eval (.Call (.Attribute o (Str.ofString "append") ap) [e] [] p) env = (do let ov ← eval o env; standAt ap.atName; let x ← holding [ov] (getMethod ov (Str.ofString "append") (do return (← importBound o env).getD true)); match x with | (f, first) => callWith p f first (backTo p (starEach [e] env)) []))
    (h : EV prog w K d sc cl o ρ H (KPu prog w K d sc cl e ρ Q)) : EV prog w K d sc cl (.Call (.Attribute o (Str.ofString "append") ap) [e] [] p) ρ H Q := EV.append hn he h
theorem EV.extendK (hn : isStarred e = false)
    (he : ∀ env, eval (.Call (.Attribute o (Str.ofString "extend") ap) [e] [] p) env = (do let ov ← eval o env; standAt ap.atName; let x ← holding [ov] (getMethod ov (Str.ofString "extend") (do return (← importBound o env).getD true)); match x with | (f, first) => callWith p f first (backTo p (starEach [e] env)) []))
    (h : EV prog w K d sc cl o ρ H (KXt prog w K d sc cl e ρ Q)) : EV prog w K d sc cl (.Call (.Attribute o (Str.ofString "extend") ap) [e] [] p) ρ H Q := EV.extend hn he h
end
end
theorem upd_sameI {H : AH} {a : Addr} {o : Option AO} : upd H a o a = o := upd_same _ _ _
theorem upd_sameE {H : AH} {a : Addr} {o x : Option AO} (e : o = x) : upd H a o a = x := (upd_same _ _ _).trans e
theorem and3 {a b c : Prop} (h1 : a) (h2 : b) (h3 : c) : a ∧ b ∧ c := ⟨h1, h2, h3⟩
theorem and4 {a b c d : Prop} (h1 : a) (h2 : b) (h3 : c) (h4 : d) : a ∧ b ∧ c ∧ d := ⟨h1, h2, h3, h4⟩
theorem cl_bi {K : Frag} {s : String} : callable K (.builtin s) := trivial
theorem cl_ty {K : Frag} {s : String} : callable K (.type s) := trivial
theorem cl_ref {K : Frag} {a : Addr} (h : keepIn K (.ref a) = true) : callable K (.ref a) := h
theorem brT {b : Bool} {A B : Prop} (h : b = true) (a : A) : (b = true → A) ∧ (b = false → B) := ⟨fun _ => a, fun e => absurd (h.symm.trans e) (by decide)⟩
theorem brF {b : Bool} {A B : Prop} (h : b = false) (a : B) : (b = true → A) ∧ (b = false → B) := ⟨fun e => absurd (h.symm.trans e) (by decide), fun _ => a⟩
-- R14
section
variable {prog : Program} {w : World} {K : Frag} {d : Nat} {sc : Scope} {cl : List (Str × Addr)} {ρ : Rho} {H : AH}
theorem AS.mono {t : Expr} {x : V} {Q Q' : Rho → AH → Prop} (h : AS prog w K d sc cl t x ρ H Q) (hq : ∀ ρ H, Q ρ H → Q' ρ H) : AS prog w K d sc cl t x ρ H Q' :=
  fun env A fr h₀ L m fz s v C S LO D R k => h env A fr h₀ L m fz s v C S LO D R fun ρ1 m1 fz1 H1 h1 t1 a b c q => k ρ1 m1 fz1 H1 h1 t1 a b c (hq _ _ q)
abbrev enumV (l : List V) (k : Nat) : List V := (l.zipIdx k).map fun p => V.tup [.int (p.2 : Nat), p.1]
/-- a loop over numbered items, by an invariant -/
theorem FORT.enum {tgt : Expr} {body : List Stmt} {Q : Fl → Rho → AH → Prop} (I : Nat → Rho → AH → Prop) : ∀ (l : List V) (k : Nat) (ρ : Rho) (H : AH), I k ρ H →
    (∀ i x ρ H, l[i]? = some x → I (k + i) ρ H → AS prog w K d sc cl tgt (.tup [.int ((k + i : Nat) : Int), x]) ρ H (fun ρ1 H1 => SS prog w K d sc cl body ρ1 H1 (fun F ρ2 H2 => match F with
      | .next | .cont => I (k + i + 1) ρ2 H2
      | .brk => Q .next ρ2 H2
      | .ret v => Q (.ret v) ρ2 H2))) → (∀ ρ H, I (k + l.length) ρ H → Q .next ρ H) → FORT prog w K d sc cl tgt body (enumV l k) ρ H Q
  | [], k, ρ, H, h0, step, fin => fin ρ H h0
  | x :: l, k, ρ, H, h0, step, fin => by
    show AS prog w K d sc cl tgt (.tup [.int ((k : Nat) : Int), x]) ρ H (fun ρ1 H1 => SS prog w K d sc cl body ρ1 H1 (fun F ρ2 H2 => match F with
      | .next | .cont => FORT prog w K d sc cl tgt body (enumV l (k + 1)) ρ2 H2 Q
      | .brk => Q .next ρ2 H2
      | .ret v => Q (.ret v) ρ2 H2))
    refine (step 0 x ρ H rfl h0).mono fun ρ1 H1 h1 => h1.mono fun F ρ2 H2 h2 => ?_
    have again : I (k + 1) ρ2 H2 → FORT prog w K d sc cl tgt body (enumV l (k + 1)) ρ2 H2 Q := fun hI => by
      refine FORT.enum I l (k + 1) ρ2 H2 hI (fun i x ρ H hx hi => ?_) (fun ρ H h => ?_)
      · have e : k + 1 + i = k + (i + 1) := by omega
        rw [e] at hi
        have := step (i + 1) x ρ H (by simpa using hx) hi
        rw [← e] at this
        exact this
      · have e : k + (x :: l).length = k + 1 + l.length := by simp; omega
        rw [← e] at h
        exact fin ρ H h
    cases F with
    | next => exact again h2
    | cont => exact again h2
    | brk => exact h2
    | ret v => exact h2
/-- a loop over items, by an invariant -/
theorem FORT.list {tgt : Expr} {body : List Stmt} {Q : Fl → Rho → AH → Prop} (I : Nat → Rho → AH → Prop) : ∀ (l : List V) (k : Nat) (ρ : Rho) (H : AH), I k ρ H →
    (∀ i x ρ H, l[i]? = some x → I (k + i) ρ H → AS prog w K d sc cl tgt x ρ H (fun ρ1 H1 => SS prog w K d sc cl body ρ1 H1 (fun F ρ2 H2 => match F with
      | .next | .cont => I (k + i + 1) ρ2 H2
      | .brk => Q .next ρ2 H2
      | .ret v => Q (.ret v) ρ2 H2))) → (∀ ρ H, I (k + l.length) ρ H → Q .next ρ H) → FORT prog w K d sc cl tgt body l ρ H Q
  | [], k, ρ, H, h0, step, fin => fin ρ H h0
  | x :: l, k, ρ, H, h0, step, fin => by
    show AS prog w K d sc cl tgt x ρ H (fun ρ1 H1 => SS prog w K d sc cl body ρ1 H1 (fun F ρ2 H2 => match F with
      | .next | .cont => FORT prog w K d sc cl tgt body l ρ2 H2 Q
      | .brk => Q .next ρ2 H2
      | .ret v => Q (.ret v) ρ2 H2))
    refine (step 0 x ρ H rfl h0).mono fun ρ1 H1 h1 => h1.mono fun F ρ2 H2 h2 => ?_
    have again : I (k + 1) ρ2 H2 → FORT prog w K d sc cl tgt body l ρ2 H2 Q := fun hI => by
      refine FORT.list I l (k + 1) ρ2 H2 hI (fun i x ρ H hx hi => ?_) (fun ρ H h => ?_)
      · have e : k + 1 + i = k + (i + 1) := by omega
        rw [e] at hi
        have := step (i + 1) x ρ H (by simpa using hx) hi
        rw [← e] at this
        exact this
      · have e : k + (x :: l).length = k + 1 + l.length := by simp; omega
        rw [← e] at h
        exact fin ρ H h
    cases F with
    | next => exact again h2
    | cont => exact again h2
    | brk => exact h2
    | ret v => exact h2
/-- a comprehension without a test, by an invariant -/
theorem COMPT.inv {vs : Scope} {elt : Expr} {B : V → Rho} {ρc : Rho} {Q : List V → AH → Prop} (I : Nat → List V → AH → Prop) : ∀ (xs : List V) (k : Nat) (ys : List V) (H : AH), I k ys H →
    (∀ i x ys H, xs[i]? = some x → I (k + i) ys H → ∀ vl, EV prog w K d vs vl elt (B x ++ ρc) H (fun y H1 => I (k + i + 1) (ys ++ [y]) H1)) → (∀ ys H, I (k + xs.length) ys H → Q ys H) → COMPT prog w K d vs [] elt B ρc xs ys H Q
  | [], k, ys, H, h0, step, fin => fin ys H h0
  | x :: xs, k, ys, H, h0, step, fin => fun vl => ⟨fun _ => (step 0 x ys H rfl h0 vl).mono fun y H1 h1 => COMPT.inv I xs (k + 1) _ H1 h1 (fun i x ys H hx hi vl => by
      have e : k + 1 + i = k + (i + 1) := by omega
      rw [e] at hi ⊢
      exact step (i + 1) x ys H (by simpa using hx) hi vl) (fun ys H h => fin ys H (by
      have e : k + (x :: xs).length = k + 1 + xs.length := by simp; omega
      rw [e]; exact h)), fun h => nomatch h⟩
theorem TS.mono {e : Expr} {Q Q' : Bool → AH → Prop} (h : TS prog w K d sc cl e ρ H Q) (hq : ∀ x H, Q x H → Q' x H) : TS prog w K d sc cl e ρ H Q' :=
  fun env A fr h₀ L m fz s C S LO R k => h env A fr h₀ L m fz s C S LO R fun b fz' H' h' tk' a b' q => k b fz' H' h' tk' a b' (hq _ _ q)
/-- a comprehension with one test -/
theorem COMPT.filter {vs : Scope} {t elt : Expr} {B : V → Rho} {ρc : Rho} {Q : List V → AH → Prop} (p : V → Bool) (f : V → V) : ∀ (xs ys : List V) (H : AH),
    (∀ x ∈ xs, ∀ vl, TS prog w K d vs vl t (B x ++ ρc) H (fun b H1 => b = p x ∧ H1 = H)) → (∀ x ∈ xs, p x = true → ∀ vl, EV prog w K d vs vl elt (B x ++ ρc) H (fun y H1 => y = f x ∧ H1 = H)) → Q (ys ++ (xs.filter p).map f) H → COMPT prog w K d vs [t] elt B ρc xs ys H Q
  | [], ys, H, ht, he, fin => by show Q ys H; simpa using fin
  | x :: xs, ys, H, ht, he, fin => fun vl => (ht x (.head _) vl).mono fun b H1 h1 => by
    obtain ⟨rfl, rfl⟩ := h1
    refine ⟨fun hb => (he x (.head _) hb vl).mono fun y H2 h2 => ?_, fun hb => ?_⟩
    · obtain ⟨rfl, rfl⟩ := h2
      refine COMPT.filter p f xs _ _ (fun x hx => ht x (.tail _ hx)) (fun x hx => he x (.tail _ hx)) ?_
      rw [List.filter_cons, if_pos hb, List.map_cons] at fin
      rw [List.append_assoc]; exact fin
    · refine COMPT.filter p f xs _ _ (fun x hx => ht x (.tail _ hx)) (fun x hx => he x (.tail _ hx)) ?_
      rw [List.filter_cons, if_neg (by rw [hb]; decide)] at fin
      exact fin
end
-- R15
section
variable {prog : Program} {w : World} {K : Frag} {d : Nat} {sc : Scope} {cl : List (Str × Addr)} {ρ : Rho} {H : AH}
theorem items_ints : ∀ {vs : List Value} {ns : List Int}, IntsAre vs ns → ItemsAre (intKind prog w) ns vs
  | _, _, .nil => .nil
  | _, _, .cons n t h => .cons (by show Value.isInt n (.int n t) = true; simp [Value.isInt]) (items_ints h)
theorem dict1 {ke ve : Expr} {pos : Pos} {Q : V → AH → Prop} {OK : Value → Prop}
    (store : ∀ (A : Around) (s : Shared) (dd : Addr) (key v : Value) (h₀ : Heap) (Q' : Unit → Shared → Prop), A.units < cLine → K.In h₀ → (∀ b o, h₀.get? b = some o → s.heap.get? b = some o) → OK key → s.heap.get? dd = some { cls := .type "dict", data := .dict #[] } →
      (∀ h' tk' o', h'.get? dd = some o' → Heap.SameBut dd s.heap h' → Q' () { s with heap := h', toks := tk' }) → wpAny (model prog w) A (dictSet dd key v) Q' (fun _ _ => False) s)
    (h : EV prog w K d sc cl ke ρ H (fun x H1 => ∃ u, x = .raw u ∧ OK u ∧ EV prog w K d sc cl ve ρ H1 (fun y H2 => ∀ a, Q (.raw (.ref a)) H2))) : EV prog w K d sc cl (.Dict [some ke] [ve] pos) ρ H Q := by
  intro env A fr h₀ L m fz s C S LO Q' k
  obtain ⟨F, mt, δ, N, nd, R⟩ := S
  refine wpAny_Dict_any rfl rfl (by simp) (Nat.le_of_ble_eq_true rfl) ?_
  have S1 : St ((s.heap.objs.size, { cls := .type "dict", data := .dict #[] }) :: fr) h₀ L m fz H (s.heap.push { cls := .type "dict", data := .dict #[] }) := St.enframe (F.push _) (News.push F N _) (keys_lt N) nd R
  have LO' : ∀ fz', (∀ p ∈ fz, p ∈ fz') → Loc sc cl ((s.heap.objs.size, { cls := .type "dict", data := .dict #[] }) :: fr) fz' m ρ := fun fz' hs x V e => by
    obtain ⟨a, b, c⟩ := (LO.mono hs) x V e
    refine ⟨a, b, fun kk => ?_⟩
    obtain ⟨c, o, v, m₂, e1, e2, r⟩ := c kk
    exact ⟨c, o, v, m₂, e1, .tail _ e2, r⟩
  show wpAny _ A (evalPairs [(eval ke env, do let x ← eval ve env; standAt pos; pure x)]) _ _ _
  refine evalPairs_cons (h env A _ h₀ L m fz _ C S1 (LO' fz fun _ h => h) _ fun kv x fz1 H1 h1 t1 S2 s1 D1 q1 => ?_)
  obtain ⟨u, rfl, hok, q⟩ := q1
  simp only [Den] at D1; subst D1
  refine wpAny_bind (q env A _ h₀ L m fz1 _ C S2 (LO' fz1 s1) _ fun vv y fz2 H2 h2 t2 S3 s2 D2 q2 => wpAny_bind (wpAny_standAt (wpAny_pure (evalPairs_nil ?_))))
  unfold storeAll
  rw [List.forIn_cons]
  refine wpAny_bind (wpAny_bind (store A _ s.heap.objs.size kv vv h₀ _ (Nat.lt_of_le_of_lt (Nat.le_add_right _ 64) C.u64) C.KX S3.frm.keep hok S3.frame_at.1 fun h' tk' o' ho' hs' => wpAny_pure ?_))
  show wpAny _ A (forIn [] _ _) _ _ _
  rw [List.forIn_nil]
  exact wpAny_pure (k (.ref s.heap.objs.size) (.raw (.ref s.heap.objs.size)) fz2 H2 h' tk' (St.deframe (St.reframe S3 hs' ho')) (fun p hp => s2 _ (s1 _ hp)) (by simp only [Den]) (q2 _))
theorem EV.dictS {ke ve : Expr} {pos : Pos} {Q : V → AH → Prop}
    (h : EV prog w K d sc cl ke ρ H (fun x H1 => ∃ u, x = .raw u ∧ (∃ n t, u = .str n t) ∧ EV prog w K d sc cl ve ρ H1 (fun y H2 => ∀ a, Q (.raw (.ref a)) H2))) : EV prog w K d sc cl (.Dict [some ke] [ve] pos) ρ H Q := by
  refine dict1 (OK := fun u => ∃ n t, u = .str n t) ?_ h
  rintro A s dd key v h₀ Q' hu KX hk ⟨n, t, rfl⟩ hg k
  refine wpAny_dictSet_pairs (knd := strKind prog w) (k := n) (kvs := []) (by show Value.isStrOf n (.str n t) = true; simp [Value.isStrOf]) ⟨_, #[], 0, hg, ⟨rfl, rfl, rfl⟩, rfl, ?_, ?_, List.nodup_nil⟩ (fun h' hm hs => ?_) (by simp)
  all_goals first
    | (obtain ⟨o, _, _, ho, _⟩ := hm; exact k h' _ o ho hs)
    | (intro e he; simp at he)
    | exact .nil
    | simp
theorem EV.dictT {ke ve : Expr} {pos : Pos} {Q : V → AH → Prop} {T : Addr} {oo : Obj} {vs : List Value} {n : Nat} {ns : List Int} (hK : K.lookup T = some oo) (hoc : oo.cls = .type "tuple") (hod : oo.data = .seq (List.toArray vs) n) (hI : IntsAre vs ns)
    (h : EV prog w K d sc cl ke ρ H (fun x H1 => ∃ u, x = .raw u ∧ u = .ref T ∧ EV prog w K d sc cl ve ρ H1 (fun y H2 => ∀ a, Q (.raw (.ref a)) H2))) : EV prog w K d sc cl (.Dict [some ke] [ve] pos) ρ H Q := by
  refine dict1 (OK := fun u => u = .ref T) ?_ h
  rintro A s dd key v h₀ Q' hu KX hk rfl hg k
  have hT : s.heap.get? T = some oo := hk _ _ (KX _ _ hK)
  refine wpAny_dictSet_heap (knd := tupleKind (intKind prog w)) (k := ns) (xs := []) hu ?_ ⟨_, #[], 0, hg, ⟨rfl, rfl, rfl⟩, rfl, rfl, (fun x hx => by simp at hx), List.nodup_nil⟩ (fun h' hm hs => ?_) (by simp)
  · exact ⟨oo, List.toArray vs, n, hT, hoc, hod, by simpa using items_ints hI⟩
  · obtain ⟨o, _, _, ho, _⟩ := hm
    exact k h' _ o ho hs
end
-- words
set_option compiler.extract_closed false
local macro_rules | `(tactic| walk_at $s:str) => do
  let rec tac (c : Char) : Lean.MacroM (Lean.TSyntax `tactic) :=
    if c == 'r' then `(tactic| exact rfl)
    else if c == 'f' then `(tactic| exact fun _ => rfl)
    else if c == 'g' then `(tactic| exact fun _ _ => rfl)
    else if c == 'k' then `(tactic| kernel_rfl)
    else if c == 'i' then `(tactic| k_is)
    else if c == 'd' then `(tactic| decide +kernel)
    else if c == 'a' then `(tactic| assumption)
    else if c == 'l' then `(tactic| exact Nat.le_of_ble_eq_true rfl)
    else if c == 'D' then `(tactic| exact of_decide_eq_true rfl)
    else if c == 'e' then `(tactic| decide)
    else if c == 'm' then `(tactic| omega)
    else if c == 'S' then `(tactic| (simp [*]; done))
    else if c == 'T' then `(tactic| (simp; omega))
    else if c == 'U' then `(tactic| (simp [*]; omega))
    else `(tactic| walk_at $(Lean.Syntax.mkStrLit (String.singleton c)))
  let rec term (h : String) : Lean.MacroM (Lean.TSyntax `term) := do
    if h == "EC" then `(EV _ _ _ _ _ _ (.Call _ _ _ _) _ _ _)
    else if h == "SETS" then `(∃ _, SETS _ _ _ _ _ _ ∧ _)
    else if h == "@PV" then `(PV _ _ _ _ _ [] _ _ _ _)
    else if h == "@S1" then `(S1 _ _ _ _ _ [] _ _ _ _)
    else
      let u ← `(_)
      let n := if h == "OP1" then 8 else if h == "TR" then 7 else if h == "OP2" then 9 else if h == "TSS" || h == "AS" || h == "ASS" then 11 else 10
      return ⟨Lean.Syntax.mkApp (Lean.mkIdent h.toName) (Array.replicate n u)⟩
  let rec gate (h : String) : Lean.MacroM (Lean.TSyntax `tactic) := do
    let t ← term h
    `(tactic| fail_if_success fail_if_success with_reducible show $t)
  let rec gates : List String → Lean.MacroM (Lean.TSyntax `tactic)
    | h :: key :: r => do
      let g ← gate h
      let e ← gates r
      `(tactic| first | ($g:tactic; walk_at $(Lean.Syntax.mkStrLit key)) | $e:tactic)
    | _ => `(tactic| walk_at "zz")
  let rec holes (l : List Char) (i : String) : Lean.MacroM (List Lean.Ident) := match l with
    | [] => return []
    | _ :: r => do
      let x ← Lean.Macro.addMacroScope (Lean.Name.mkSimple i)
      let xs ← holes r (i ++ "k")
      return Lean.mkIdent x :: xs
  let rec marks (l : List Lean.Ident) : Lean.MacroM (List (Lean.TSyntax `term)) := match l with
    | [] => return []
    | x :: r => do
      let h ← `(?$x)
      let hs ← marks r
      return h :: hs
  let rec cases (late : Bool) (cs : List Char) (ks : List Lean.Ident) (t : Lean.TSyntax `tactic) : Lean.MacroM (Lean.TSyntax `tactic) := match cs, ks with
    | c :: cs, i :: ks => do
      if (c == 'f' || c == 'g') == late then
        let b ← tac c
        let t ← `(tactic| ($t:tactic; case $i:ident => $b:tactic))
        cases late cs ks t
      else cases late cs ks t
    | _, _ => return t
  let rec rule (fin : Bool) (ws : List String) : Lean.MacroM (Lean.TSyntax `tactic) := do
    let cs := ((ws.drop 1).headD "").toList
    let ks ← holes cs "k"
    let hs ← marks ks
    let q ← `(?_)
    let hs := if fin then hs ++ [q] else hs
    let n := Lean.mkIdent (ws.headD "").toName
    let t : Lean.TSyntax `term := if hs.isEmpty then ⟨n.raw⟩ else ⟨Lean.Syntax.mkApp n hs.toArray⟩
    let t0 ← if cs.isEmpty then `(tactic| with_reducible refine $t) else `(tactic| with_reducible refine' $t)
    let t1 ← cases false cs ks t0
    cases true cs ks t1
  let rec rules (fin : Bool) : List String → Lean.MacroM (Lean.TSyntax `tactic)
    | [] => `(tactic| fail)
    | r :: rs => do
      let e ← rules fin rs
      let ws := r.splitOn " "
      let t ← if r.startsWith "!" then tac (r.toList.getLastD ' ') else if r.startsWith "@" then do
          let g ← gate (ws.headD "")
          let t ← rule fin (ws.drop 1)
          `(tactic| ($g:tactic; $t:tactic))
        else rule fin ws
      `(tactic| first | $t:tactic | $e:tactic)
  let k := s.getString
  let tb : String := match k with
    | "ec" => "EV.call0P fpx|EV.callA rfpx|EV.callB rfkibkx|EV.appendP rfphpL|EV.appendK rf|EV.extendK rf|EV.meth0O fpD4|EV.meth0Q fphD4|EV.methOA rfpD4|EV.methQA rfphD4|EV.meth0K f|EV.methK rf|EV.call0K f|EV.callK rf"
    | "ev" => "EV.pv p|EV.binK|EV.cmpK r|EV.attrK f|EV.itemK r|EV.tupleK|EV.nameB kibk|EV.nameV kr|EV.cmp2K r|EV.ifxK|EV.andK|EV.orK|EV.one|EV.unK"
    | "ts" => "TS.cmpP rppo|TS.cmpK r|TS.cmp2K r|TS.bool|TS.notK|TSS.and_nil|TSS.or_nil|TSS.andK|TSS.orK|TS.plainP gp|TS.plainK g"
    | "ar" => "ARGS.pa P|ARGS.consK r|ARGS.nil"
    | "st" => "SS.nil|SS.one|SS.consK|S1.retK|S1.ifC rppo|S1.ifsK|@S1 S1.assignK kf|S1.assignCK drf|S1.assignK kf|S1.setAttrK f|S1.assignTupK ff|S1.exprAnyK f"
    | "op" => "OP2.add|OP2.sub|OP2.lt|OP2.le|OP2.gt|OP2.ge|OP2.eq|OP2.ne|OP1.neg|OP2.ltT|OP2.neT|OP2.isN r|OP2.isnN r"
    | "tr" => "TR.bool"
    | "as" => "ass_consK|ass_nil|AS.name k|AS.setAttrK|AS.tuple rr"
    | "zz" => "at_obj r3R|at_ptr hr3R|me_obj D4|me_ptr hD4|ca_raw x|KQ.ret|KQ.brk|KQ.cont|TQ.mk a"
    | "sa" => "sa_up 4lr|sa_up2 4lrn|sa_up3 4lrnn|sa_ptr h4lr"
    | "br" => "KIf.t C|KIf.f C|brT C|brF C"
    | "p" => "PV.cint|@PV PV.nameL kR|PV.nameC dR|PV.nameL kR|PV.nameGi ki|PV.nameG ki|PV.attrO fpr3R|PV.attrP fphr3R|PV.bin ppo|PV.itemT rpplrr|PV.cmp rppo|PV.neg p|PV.cnone|PV.cbool#"
    | "P" => "PA.nil|PA.cons rpP#"
    | "o" => "PO.add|PO.sub|PO.lt|PO.le|PO.gt|PO.ge|PO.eq|PO.ne|PO.isN r|PO.isnN r#"
    | "C" => "!r|!e|!S|!T|!U#"
    | "R" => "!r|!a#"
    | "L" => "!m|!T|!e#"
    | "n" => "!a|Ne.symm a|!S#"
    | "h" => "!a|upd_sameI|upd_at1 nh|upd_sameE r#"
    | "hh" => "!a|upd_sameI|upd_at1 nh|upd_sameE r#"
    | "3" => "and3 iii#"
    | "4" => "and4 iiii#"
    | "b" => "bb_len|bb_max|bb_min|bb_abs|bb_sum|bb_range#"
    | "x" => "cl_bi|cl_ty|cl_ref i#"
    | "lf" => "EV.listFK"
    | "lm" => "EV.listMK"
    | "u" => "u2"
    | "c1" => "SS.consK"
    | _ => ""
  if k == "one" then return (← gates ("EC ec EV ev OP2 op OP1 op TR tr ARGS ar SS st S1 st TS ts TSS ts AS as ASS as SETS sa".splitOn " ")).raw
  else if tb != "" then return (← rules ((tb.splitOn "#").length == 1) ((tb.splitOn "#").headD "" |>.splitOn "|")).raw
  else if k == "go" then `(tactic| repeat' walk_at "one")
  else if k == "gb" then `(tactic| repeat' first | walk_at "one" | walk_at "br")
  else if k == "c" then `(tactic| first | walk_at "c1" | (walk_at "one"; walk_at "c1"))
  else Lean.Macro.throwUnsupported
-- F1

theorem filled (w : World) : nsIn (Mine.kf.heap_1 w.params) mainGlobals "laid_rows" = nsIn (Mine.kf.heap_1 w.params) mainGlobals "laid_rows" ∧ PySem.Challenge.rw_np0085_01.row.prog = PySem.Challenge.rw_np0085_01.row.prog := by
  k_fill
  exact ⟨rfl, rfl⟩

abbrev C0 (w : World) (d : Nat) (f : Value) (xs : List V) (H : AH) (Q : V → AH → Prop) : Prop :=
  CALL PySem.Challenge.rw_np0085_01.row.prog w (Mine.kf.heap_1 w.params) d f xs H Q

def Code (c : Int) : Prop := c = 97 ∨ c = 98 ∨ c = 32 ∨ c = 9 ∨ c = 10
abbrev optV (tr wr : Bool) : V := .obj 39 ["tab_width", "has_carets", "truncates", "wraps_words", "hscroll"] [.int 4, .bool true, .bool tr, .bool wr, .int 0]

theorem is_raw_ok (w : World) (c : Int) (hc : Code c) (H : AH) : C0 w 1 (.ref 57) [.int c] H (fun v H' => v = .bool false ∧ H' = H) := by
  refine' CALL.fn ["code"] [("code", .int c)] ?ho ?hcd ?hb ?hn ?hρ ?hloc ?hco ?hgen ?hk ?hcell ?_
  case ho => k_is
  case hcd => k_is
  case hn => rfl
  case hb => exact vals1 (fun _ => rfl)
  case hρ => rfl
  case hloc => kernel_rfl
  case hco => rfl
  case hgen => rfl
  case hk => rfl
  case hcell => kernel_rfl
  refine SS.top fun _ _ => ?_
  walk_at "go"
  · refine ⟨fun h => ?_, fun h => ?_⟩
    · walk_at "go"
      unfold Code at hc
      refine ⟨?_, rfl⟩
      simp [Fl.val] at h ⊢
      omega
    · walk_at "go"
      refine ⟨?_, rfl⟩
      simp [Fl.val, h]

-- F2

theorem is_control_ok (w : World) (c : Int) (hc : Code c) (H : AH) : C0 w 1 (.ref 50) [.int c] H (fun v H' => v = .bool false ∧ H' = H) := by
  refine' CALL.fn ["code"] [("code", .int c)] ?ho ?hcd ?hb ?hn ?hρ ?hloc ?hco ?hgen ?hk ?hcell ?_
  case ho => k_is
  case hcd => k_is
  case hn => rfl
  case hb => exact vals1 (fun _ => rfl)
  case hρ => rfl
  case hloc => kernel_rfl
  case hco => rfl
  case hgen => rfl
  case hk => rfl
  case hcell => kernel_rfl
  refine SS.top fun _ _ => ?_
  rcases hc with rfl | rfl | rfl | rfl | rfl
  all_goals (walk_at "gb"; exact ⟨rfl, rfl⟩)

def shown (c col : Int) : List Int := if c = 9 then List.replicate (4 - col.fmod 4).toNat 32 else [c]
theorem shown_codes_ok (w : World) (c col : Int) (hc : Code c) (h10 : c ≠ 10) (tr wr : Bool) (H : AH) : C0 w 3 (.ref 71) [.int c, .int col, optV tr wr] H (fun v H' => v = .lst ((shown c col).map V.int) ∧ H' = H) := by
  refine' CALL.fn ["code", "column", "options"] [("options", optV tr wr), ("column", .int col), ("code", .int c)] ?ho ?hcd ?hb ?hn ?hρ ?hloc ?hco ?hgen ?hk ?hcell ?_
  case ho => k_is
  case hcd => k_is
  case hn => rfl
  case hb => exact vals3 (fun _ _ _ => rfl)
  case hρ => rfl
  case hloc => kernel_rfl
  case hco => rfl
  case hgen => rfl
  case hk => rfl
  case hcell => kernel_rfl
  refine SS.top fun _ _ => ?_
  by_cases h9 : c = 9
  · subst h9
    walk_at "gb"
    walk_at "lf"
    walk_at "gb"
    refine ⟨by first | decide | (simp; done) | (simp; omega), ?_⟩
    walk_at "gb"
    refine OP2.mod (b := 4) (by decide) ?_
    walk_at "gb"
    have h1 : 0 ≤ col.fmod 4 := Int.fmod_nonneg_of_pos _ (by decide)
    have h2 : col.fmod 4 < 4 := Int.fmod_lt_of_pos _ (by decide)
    refine' OP2.mulL ?_ ?_ ?_
    · omega
    · omega
    walk_at "go"; exact ⟨by simp [Fl.val, shown], rfl⟩
  · walk_at "gb"
    refine CALLV.by (is_raw_ok w _ hc _) (by decide) ?_
    walk_at "u"
    walk_at "gb"
    refine CALLV.by (is_control_ok w _ hc _) (by decide) ?_
    walk_at "u"
    walk_at "gb"
    refine CALLV.by (is_control_ok w _ hc _) (by decide) ?_
    walk_at "u"
    walk_at "gb"
    walk_at "lf"
    walk_at "gb"
    refine ⟨by first | decide | (simp; done) | (simp; omega), ?_⟩
    walk_at "go"; exact ⟨by simp [Fl.val, shown, h9], rfl⟩

-- views
def Codes (cs : List Int) : Prop := (∀ c ∈ cs, Code c) ∧ cs.length ≤ 24
abbrev viewV (cs : List Int) : V := .obj 138 ["codes", "first"] [.lst (cs.map V.int), .int 1]
theorem begin_ok (w : World) (cs : List Int) (H : AH) : C0 w 1 (.ref 93) [viewV cs] H (fun v H' => v = .int 1 ∧ H' = H) := by
  refine' CALL.fn ["self"] [("self", viewV cs)] ?ho ?hcd ?hb ?hn ?hρ ?hloc ?hco ?hgen ?hk ?hcell ?_
  case ho => k_is
  case hcd => k_is
  case hn => rfl
  case hb => exact vals1 (fun _ => rfl)
  case hρ => rfl
  case hloc => kernel_rfl
  case hco => rfl
  case hgen => rfl
  case hk => rfl
  case hcell => kernel_rfl
  refine SS.top fun _ _ => ?_
  walk_at "gb"
  exact ⟨rfl, rfl⟩
theorem end_ok (w : World) (cs : List Int) (hcs : Codes cs) (H : AH) : C0 w 2 (.ref 100) [viewV cs] H (fun v H' => v = .int (1 + cs.length) ∧ H' = H) := by
  refine' CALL.fn ["self"] [("self", viewV cs)] ?ho ?hcd ?hb ?hn ?hρ ?hloc ?hco ?hgen ?hk ?hcell ?_
  case ho => k_is
  case hcd => k_is
  case hn => rfl
  case hb => exact vals1 (fun _ => rfl)
  case hρ => rfl
  case hloc => kernel_rfl
  case hco => rfl
  case hgen => rfl
  case hk => rfl
  case hcell => kernel_rfl
  refine SS.top fun _ _ => ?_
  walk_at "gb"
  refine CALLV.len (.inr (.inl rfl)) (by have := hcs.2; simp; omega) ?_
  walk_at "gb"
  exact ⟨by simp [Fl.val], rfl⟩
theorem code_at_ok (w : World) (cs : List Int) (hcs : Codes cs) (p : Nat) (c : Int) (h : cs[p]? = some c) (H : AH) : C0 w 3 (.ref 107) [viewV cs, .int (1 + p)] H (fun v H' => v = .int c ∧ H' = H) := by
  refine' CALL.fn ["self", "place"] [("place", .int (1 + p)), ("self", viewV cs)] ?ho ?hcd ?hb ?hn ?hρ ?hloc ?hco ?hgen ?hk ?hcell ?_
  case ho => k_is
  case hcd => k_is
  case hn => rfl
  case hb => exact vals2 (fun _ _ => rfl)
  case hρ => rfl
  case hloc => kernel_rfl
  case hco => rfl
  case hgen => rfl
  case hk => rfl
  case hcell => kernel_rfl
  refine SS.top fun _ _ => ?_
  have hlt : p < cs.length := by
    rcases Nat.lt_or_ge p cs.length with h' | h'
    · exact h'
    · rw [List.getElem?_eq_none h'] at h; cases h
  walk_at "gb"
  refine CALLV.by (begin_ok w _ _) (by decide) ?_
  walk_at "u"
  walk_at "gb"
  refine CALLV.by (end_ok w _ hcs _) (by decide) ?_
  walk_at "u"
  walk_at "gb"
  refine ⟨_, cs.map V.int, p, _, rfl, .inr (.inl rfl), by have := hcs.2; simp; omega, ?_, by simp [h]; rfl, ?_⟩
  · have e : ((1 : Int) + p - 1) = p := by omega
    rw [e]
    unfold seqIndex?
    simp; omega
  · walk_at "go"; exact ⟨rfl, rfl⟩
theorem faces_at_ok (w : World) (cs : List Int) (p : V) (H : AH) : C0 w 1 (.ref 114) [viewV cs, p] H (fun v H' => v = .tup [] ∧ H' = H) := by
  refine' CALL.fn ["self", "place"] [("place", p), ("self", viewV cs)] ?ho ?hcd ?hb ?hn ?hρ ?hloc ?hco ?hgen ?hk ?hcell ?_
  case ho => k_is
  case hcd => k_is
  case hn => rfl
  case hb => exact vals2 (fun _ _ => rfl)
  case hρ => rfl
  case hloc => kernel_rfl
  case hco => rfl
  case hgen => rfl
  case hk => rfl
  case hcell => kernel_rfl
  refine SS.top fun _ _ => ?_
  walk_at "gb"
  refine ⟨by decide, ?_⟩; walk_at "go"; exact ⟨rfl, rfl⟩
theorem hidden_at_ok (w : World) (cs : List Int) (p : V) (H : AH) : C0 w 1 (.ref 121) [viewV cs, p] H (fun v H' => v = .int 0 ∧ H' = H) := by
  refine' CALL.fn ["self", "place"] [("place", p), ("self", viewV cs)] ?ho ?hcd ?hb ?hn ?hρ ?hloc ?hco ?hgen ?hk ?hcell ?_
  case ho => k_is
  case hcd => k_is
  case hn => rfl
  case hb => exact vals2 (fun _ _ => rfl)
  case hρ => rfl
  case hloc => kernel_rfl
  case hco => rfl
  case hgen => rfl
  case hk => rfl
  case hcell => kernel_rfl
  refine SS.top fun _ _ => ?_
  walk_at "gb"
  exact ⟨rfl, rfl⟩
theorem shown_at_ok (w : World) (cs : List Int) (p : V) (H : AH) : C0 w 1 (.ref 128) [viewV cs, p] H (fun v H' => v = .none ∧ H' = H) := by
  refine' CALL.fn ["self", "place"] [("place", p), ("self", viewV cs)] ?ho ?hcd ?hb ?hn ?hρ ?hloc ?hco ?hgen ?hk ?hcell ?_
  case ho => k_is
  case hcd => k_is
  case hn => rfl
  case hb => exact vals2 (fun _ _ => rfl)
  case hρ => rfl
  case hloc => kernel_rfl
  case hco => rfl
  case hgen => rfl
  case hk => rfl
  case hcell => kernel_rfl
  refine SS.top fun _ _ => ?_
  walk_at "gb"
  exact ⟨rfl, rfl⟩
theorem strings_at_ok (w : World) (cs : List Int) (p : V) (H : AH) : C0 w 1 (.ref 135) [viewV cs, p] H (fun v H' => v = .tup [] ∧ H' = H) := by
  refine' CALL.fn ["self", "place"] [("place", p), ("self", viewV cs)] ?ho ?hcd ?hb ?hn ?hρ ?hloc ?hco ?hgen ?hk ?hcell ?_
  case ho => k_is
  case hcd => k_is
  case hn => rfl
  case hb => exact vals2 (fun _ _ => rfl)
  case hρ => rfl
  case hloc => kernel_rfl
  case hco => rfl
  case hgen => rfl
  case hk => rfl
  case hcell => kernel_rfl
  refine SS.top fun _ _ => ?_
  walk_at "gb"
  refine ⟨by decide, ?_⟩; walk_at "go"; exact ⟨rfl, rfl⟩

-- F3

abbrev tblV (l : List V) : V := .obj 590 ["by_name", "looks", "numbers"] l
abbrev sgnN : List Str := ["rows", "after", "reach"]
abbrev sgnV (l : List V) (a r : Int) : V := .obj 159 sgnN [.lst l, .int a, .int r]
theorem signs_init (w : World) (a : Addr) (x y z : V) (H : AH) (e : H a = some (.obj 159 [] [])) : C0 w 1 (.ref 156) [.ptr a, x, y, z] H (fun v H' => v = .none ∧ H' = upd H a (some (.obj 159 sgnN [x, y, z]))) := by
  refine' CALL.fn ["self", "rows", "after", "reach"] [("reach", z), ("after", y), ("rows", x), ("self", .ptr a)] ?ho ?hcd ?hb ?hn ?hρ ?hloc ?hco ?hgen ?hk ?hcell ?_
  case ho => k_is
  case hcd => k_is
  case hn => rfl
  case hb => exact vals4 (fun _ _ _ _ => rfl)
  case hρ => rfl
  case hloc => kernel_rfl
  case hco => rfl
  case hgen => rfl
  case hk => rfl
  case hcell => kernel_rfl
  refine SS.top fun _ _ => ?_
  walk_at "gb"
  exact ⟨rfl, rfl⟩
theorem signs_new (w : World) (l : List V) (x y : Int) (H : AH) : C0 w 2 (.ref 159) [.lst l, .int x, .int y] H (fun v H' => v = sgnV l x y ∧ H' = H) := by
  refine CALL.re (CALL.cls (fI := 156) (by k_is) (by k_is) (by k_is) fun a ha => ?_)
  refine (signs_init w a (.lst l) (.int x) (.int y) _ (by simp)).mono ?_
  walk_at "u"
  refine ⟨rfl, _, _, .frzI (by rw [upd_same]) .refl, rfl, ?_⟩
  simp only [upd_upd]
  exact upd_none ha

theorem number_of_ok (w : World) (tl : List V) (H : AH) : C0 w 1 (.ref 580) [tblV tl, .tup []] H (fun v H' => v = .int 0 ∧ H' = H) := by
  refine' CALL.fn ["self", "names"] [("names", .tup []), ("self", tblV tl)] ?ho ?hcd ?hb ?hn ?hρ ?hloc ?hco ?hgen ?hk ?hcell ?_
  case ho => k_is
  case hcd => k_is
  case hn => rfl
  case hb => exact vals2 (fun _ _ => rfl)
  case hρ => rfl
  case hloc => kernel_rfl
  case hco => rfl
  case hgen => rfl
  case hk => rfl
  case hcell => kernel_rfl
  refine SS.top fun _ _ => ?_
  walk_at "gb"
  refine ⟨by first | decide | (simp; done) | (simp; omega), ?_⟩
  refine OP2.eqT0 ?_
  walk_at "gb"
  exact ⟨rfl, rfl⟩

theorem string_count_ok (w : World) (cs : List Int) (p : V) (H : AH) : C0 w 2 (.ref 187) [viewV cs, p] H (fun v H' => v = .int 0 ∧ H' = H) := by
  refine' CALL.fn ["view", "place"] [("place", p), ("view", viewV cs)] ?ho ?hcd ?hb ?hn ?hρ ?hloc ?hco ?hgen ?hk ?hcell ?_
  case ho => k_is
  case hcd => k_is
  case hn => rfl
  case hb => exact vals2 (fun _ _ => rfl)
  case hρ => rfl
  case hloc => kernel_rfl
  case hco => rfl
  case hgen => rfl
  case hk => rfl
  case hcell => kernel_rfl
  refine SS.top fun _ _ => ?_
  walk_at "gb"
  refine EV.comp none (fun _ => []) [] [] ⟨fun _ _ => rfl, by kernel_rfl, fun _ _ _ _ => rfl, fun _ h => (nomatch h), by kernel_rfl, Agree.nil, rfl⟩ ?_
  refine SRCE.tup0 ?_
  walk_at "gb"
  refine CALLV.by (strings_at_ok w cs p _) (by decide) ?_
  walk_at "u"
  refine ⟨rfl, by decide, fun _ h => (nomatch h), ?_⟩
  show ARGS _ _ _ _ _ _ _ _ _ _
  walk_at "gb"
  refine CALLV.sum (ns := []) rfl ?_
  walk_at "go"; exact ⟨rfl, rfl⟩
theorem string_signs_ok (w : World) (cs : List Int) (tl : List V) (p : V) (H : AH) : C0 w 2 (.ref 182) [viewV cs, tblV tl, p] H (fun v H' => v = .lst [] ∧ H' = H) := by
  refine CALL.re ?_
  refine' CALL.fnC ["view", "table", "place"] ["face"] [("place", p), ("table", tblV tl), ("view", viewV cs)] ?ho ?hcd ?hb ?hn ?hρ ?hkind ?hcells ?hnd ?hco ?hgen ?hk ?hfree ?_
  case ho => k_is
  case hcd => k_is
  case hn => rfl
  case hb => exact vals3 (fun _ _ _ => rfl)
  case hρ => rfl
  case hkind => kernel_rfl
  case hcells => kernel_rfl
  case hnd => decide +kernel
  case hco => rfl
  case hgen => rfl
  case hk => rfl
  case hfree => kernel_rfl
  intro L' hf
  walk_at "gb"
  walk_at "lm"
  walk_at "gb"
  refine ⟨by first | decide | (simp; done) | (simp; omega), ?_⟩
  intro a ha
  walk_at "gb"
  refine S1.forT0 (fun _ _ => rfl) ?_
  walk_at "gb"
  refine CALLV.by (strings_at_ok w cs p _) (by decide) ?_
  walk_at "u"
  refine ⟨rfl, ?_⟩
  first | walk_at "one" | skip
  walk_at "gb"
  have h1 := hf _ _ (.head _)
  refine ⟨_, H, .frzL (by rw [upd_same]) (.drop (H' := H) ?_ .refl), rfl, rfl⟩
  intro b o hb
  rw [upd_upd]
  rw [upd_ne]
  · show upd H _ _ b = _
    rw [upd_ne]
    · exact hb
    · intro q; rw [q, h1] at hb; cases hb
  · intro q
    subst q
    rw [show cellH _ _ H = upd H _ _ from rfl] at ha
    unfold upd at ha
    split at ha
    · cases ha
    · rw [ha] at hb; cases hb

-- F4

theorem is_break_ok (w : World) (cs : List Int) (hcs : Codes cs) (p : Nat) (c q : Int) (h : cs[p]? = some c) (hq : q = 1 + p) (H : AH) : C0 w 4 (.ref 170) [viewV cs, .int q] H (fun v H' => v = .bool (decide (c = 10)) ∧ H' = H) := by
  subst hq
  refine' CALL.fn ["view", "place"] [("place", .int (1 + p)), ("view", viewV cs)] ?ho ?hcd ?hb ?hn ?hρ ?hloc ?hco ?hgen ?hk ?hcell ?_
  case ho => k_is
  case hcd => k_is
  case hn => rfl
  case hb => exact vals2 (fun _ _ => rfl)
  case hρ => rfl
  case hloc => kernel_rfl
  case hco => rfl
  case hgen => rfl
  case hk => rfl
  case hcell => kernel_rfl
  refine SS.top fun _ _ => ?_
  walk_at "gb"
  refine CALLV.by (code_at_ok w cs hcs p c h _) (by decide) ?_
  walk_at "u"
  by_cases h10 : c = 10
  · subst h10
    walk_at "gb"
    refine CALLV.by (hidden_at_ok w cs _ _) (by decide) ?_
    walk_at "u"
    walk_at "gb"
    refine CALLV.by (shown_at_ok w cs _ _) (by decide) ?_
    walk_at "u"
    walk_at "gb"
    exact ⟨rfl, rfl⟩
  · walk_at "gb"
    exact ⟨rfl, rfl⟩

theorem drop_cel {H : AH} {c : Addr} {o : AO} (h : H c = none) : ∀ a o', H a = some o' → upd H c (some o) a = some o' := fun a o' e => by
  rw [upd_ne]
  · exact e
  · intro q; rw [q, h] at e; cases e
theorem signs_none (w : World) (cs : List Int) (hcs : Codes cs) (tl : List V) (q : Int) (hq : q = 1 + cs.length) (H : AH) : C0 w 4 (.ref 199) [viewV cs, tblV tl, .int q] H (fun v H' => v = sgnV [] q (q + 1) ∧ H' = H) := by
  refine CALL.re ?_
  refine' CALL.fnC ["view", "table", "place"] ["face"] [("place", .int q), ("table", tblV tl), ("view", viewV cs)] ?ho ?hcd ?hb ?hn ?hρ ?hkind ?hcells ?hnd ?hco ?hgen ?hk ?hfree ?_
  case ho => k_is
  case hcd => k_is
  case hn => rfl
  case hb => exact vals3 (fun _ _ _ => rfl)
  case hρ => rfl
  case hkind => kernel_rfl
  case hcells => kernel_rfl
  case hnd => decide +kernel
  case hco => rfl
  case hgen => rfl
  case hk => rfl
  case hfree => kernel_rfl
  intro L' hf
  walk_at "gb"
  refine CALLV.by (string_signs_ok w cs tl _ _) (by decide) ?_
  walk_at "u"
  walk_at "gb"
  refine CALLV.by (end_ok w cs hcs _) (by decide) ?_
  walk_at "u"
  walk_at "gb"
  refine CALLV.by (signs_new w _ _ _ _) (by decide) ?_
  walk_at "u"
  walk_at "go"; exact ⟨_, H, .drop (drop_cel (hf "face" _ (by first | exact .head _ | exact .tail _ (.head _)))) .refl, rfl, rfl⟩
theorem signs_some (w : World) (cs : List Int) (hcs : Codes cs) (tl : List V) (p : Nat) (c q : Int) (h : cs[p]? = some c) (hq : q = 1 + p) (H : AH) : C0 w 4 (.ref 199) [viewV cs, tblV tl, .int q] H (fun v H' => v = sgnV [.tup [.int c, .int 0, .int q]] (q + 1) (q + 1) ∧ H' = H) := by
  subst hq
  have hlt : p < cs.length := by
    rcases Nat.lt_or_ge p cs.length with h' | h'
    · exact h'
    · rw [List.getElem?_eq_none h'] at h; cases h
  refine CALL.re ?_
  refine' CALL.fnC ["view", "table", "place"] ["face"] [("place", .int (1 + p)), ("table", tblV tl), ("view", viewV cs)] ?ho ?hcd ?hb ?hn ?hρ ?hkind ?hcells ?hnd ?hco ?hgen ?hk ?hfree ?_
  case ho => k_is
  case hcd => k_is
  case hn => rfl
  case hb => exact vals3 (fun _ _ _ => rfl)
  case hρ => rfl
  case hkind => kernel_rfl
  case hcells => kernel_rfl
  case hnd => decide +kernel
  case hco => rfl
  case hgen => rfl
  case hk => rfl
  case hfree => kernel_rfl
  intro L' hf
  walk_at "gb"
  refine CALLV.by (string_signs_ok w cs tl _ _) (by decide) ?_
  walk_at "u"
  walk_at "gb"
  refine CALLV.by (end_ok w cs hcs _) (by decide) ?_
  walk_at "u"
  walk_at "gb"
  refine CALLV.by (hidden_at_ok w cs _ _) (by decide) ?_
  walk_at "u"
  walk_at "gb"
  refine CALLV.by (shown_at_ok w cs _ _) (by decide) ?_
  walk_at "u"
  walk_at "gb"
  refine CALLV.by (faces_at_ok w cs _ _) (by decide) ?_
  walk_at "u"
  walk_at "gb"
  refine CALLV.by (number_of_ok w tl _) (by decide) ?_
  walk_at "u"
  refine ⟨upd_same _ _ _, ?_⟩
  walk_at "gb"
  walk_at "lf"
  walk_at "gb"
  refine CALLV.by (code_at_ok w cs hcs p c h _) (by decide) ?_
  walk_at "u"
  walk_at "gb"
  refine ⟨by first | decide | (simp; done) | (simp; omega), ?_⟩
  walk_at "gb"
  refine ⟨by first | decide | (simp; done) | (simp; omega), ?_⟩
  refine OP2.addL (by simp) ?_
  walk_at "gb"
  refine CALLV.by (signs_new w _ _ _ _) (by decide) ?_
  walk_at "u"
  have h1 := hf "face" (L' + 1 + 1) (.head _)
  walk_at "go"; refine ⟨_, H, .drop (fun a o e => ?_) .refl, rfl, rfl⟩
  show upd (upd H (L' + 1 + 1) (some .cel)) (L' + 1 + 1) none a = some o
  rw [upd_back h1]; exact e

-- F5

-- walks
abbrev wkN : List Str := ["view", "table", "place", "number", "here", "reach"]
/-- the sign row at a place, p places from the text's beginning -/
def sgnL (cs : List Int) (p : Nat) : List V := match cs[p]? with
  | some c => [.tup [.int c, .int 0, .int (1 + p)]]
  | none => []
def sgnA (cs : List Int) (p : Nat) : Int := match cs[p]? with
  | some _ => 1 + p + 1
  | none => 1 + p
abbrev sgnAt (cs : List Int) (p : Nat) : V := sgnV (sgnL cs p) (sgnA cs p) (1 + p + 1)
abbrev wkO (cs : List Int) (tl : List V) (p : Nat) (n : Int) : AO := .obj 244 wkN [viewV cs, tblV tl, .int (1 + p), .int n, sgnAt cs p, .int (1 + p + 1)]
theorem signs_ok (w : World) (cs : List Int) (hcs : Codes cs) (tl : List V) (p : Nat) (hp : p ≤ cs.length) (H : AH) : C0 w 4 (.ref 199) [viewV cs, tblV tl, .int (1 + p)] H (fun v H' => v = sgnAt cs p ∧ H' = H) := by
  cases h : cs[p]? with
  | some c =>
    refine (signs_some w cs hcs tl p c _ h rfl H).mono ?_
    walk_at "u"
    exact ⟨by simp [sgnAt, sgnL, sgnA, h], rfl⟩
  | none =>
    have e : p = cs.length := by
      have := List.getElem?_eq_none_iff.mp h; omega
    refine (signs_none w cs hcs tl _ (by rw [e]) H).mono ?_
    walk_at "u"
    exact ⟨by simp [sgnAt, sgnL, sgnA, h], rfl⟩
theorem walk_init (w : World) (cs : List Int) (hcs : Codes cs) (tl : List V) (p : Nat) (hp : p ≤ cs.length) (a : Addr) (H : AH) (e : H a = some (.obj 244 [] [])) :
    C0 w 5 (.ref 213) [.ptr a, viewV cs, tblV tl, .tup [.int (1 + p), .int 0]] H (fun v H' => v = .none ∧ H' = upd H a (some (wkO cs tl p 0))) := by
  refine' CALL.fn ["self", "view", "table", "spot"] [("spot", .tup [.int (1 + p), .int 0]), ("table", tblV tl), ("view", viewV cs), ("self", .ptr a)] ?ho ?hcd ?hb ?hn ?hρ ?hloc ?hco ?hgen ?hk ?hcell ?_
  case ho => k_is
  case hcd => k_is
  case hn => rfl
  case hb => exact vals4 (fun _ _ _ _ => rfl)
  case hρ => rfl
  case hloc => kernel_rfl
  case hco => rfl
  case hgen => rfl
  case hk => rfl
  case hcell => kernel_rfl
  refine SS.top fun _ _ => ?_
  walk_at "gb"
  refine CALLV.by (signs_ok w cs hcs tl p hp _) (by decide) ?_
  walk_at "u"
  walk_at "gb"
  exact ⟨rfl, rfl⟩
theorem walk_new (w : World) (cs : List Int) (hcs : Codes cs) (tl : List V) (p : Nat) (hp : p ≤ cs.length) (H : AH) :
    C0 w 6 (.ref 244) [viewV cs, tblV tl, .tup [.int (1 + p), .int 0]] H (fun v H' => ∃ a, H a = none ∧ v = .ptr a ∧ H' = upd H a (some (wkO cs tl p 0))) := by
  refine CALL.cls (fI := 213) (by k_is) (by k_is) (by k_is) fun a ha => ?_
  refine (walk_init w cs hcs tl p hp a _ (by simp)).mono ?_
  walk_at "u"
  exact ⟨rfl, a, ha, rfl, by rw [upd_upd]⟩

-- F6

theorem upd_self {H : AH} {a : Addr} {o : AO} (e : H a = some o) : upd H a (some o) = H := by
  funext b
  by_cases q : b = a
  · subst q; rw [upd_same, e]
  · rw [upd_ne _ _ q]
theorem sgnL_len (cs : List Int) (p : Nat) : (sgnL cs p).length = if p < cs.length then 1 else 0 := by
  unfold sgnL
  cases h : cs[p]? with
  | some c =>
    have hlt : p < cs.length := by
      rcases Nat.lt_or_ge p cs.length with h' | h'
      · exact h'
      · rw [List.getElem?_eq_none h'] at h; cases h
    simp [hlt]
  | none => have := List.getElem?_eq_none_iff.mp h; simp; omega
theorem settle_ok (w : World) (cs : List Int) (hcs : Codes cs) (tl : List V) (p n : Nat) (hn : p + n ≤ cs.length) (hn1 : n ≤ 1) (a : Addr) (H : AH) (e : H a = some (wkO cs tl p n)) :
    C0 w 6 (.ref 220) [.ptr a] H (fun v H' => v = .bool (decide (p + n < cs.length)) ∧ H' = upd H a (some (wkO cs tl (p + n) 0))) := by
  refine' CALL.fn ["self"] [("self", .ptr a)] ?ho ?hcd ?hb ?hn ?hρ ?hloc ?hco ?hgen ?hk ?hcell ?_
  case ho => k_is
  case hcd => k_is
  case hn => rfl
  case hb => exact vals1 (fun _ => rfl)
  case hρ => rfl
  case hloc => kernel_rfl
  case hco => rfl
  case hgen => rfl
  case hk => rfl
  case hcell => kernel_rfl
  refine SS.top fun _ _ => ?_
  have hlen := sgnL_len cs
  walk_at "c"
  refine S1.while (fun x : Nat × Nat => x = (p, n) ∨ x = (p + n, 0)) (fun x => x.2) (fun _ => [("self", .ptr a)]) (fun x => upd H a (some (wkO cs tl x.1 x.2))) (p, n) (.inl rfl) Agree.refl (fun b o h => by rw [upd_self e] at h; exact h) ?_
  intro x hx
  have hx1 : x.1 + x.2 = p + n ∧ x.2 ≤ 1 := by rcases hx with rfl | rfl <;> simp; exact hn1
  obtain ⟨p', n'⟩ := x
  simp only at hx1
  walk_at "go"
  refine CALLV.len (.inr (.inl rfl)) (by rw [hlen]; split <;> decide) ?_
  walk_at "go"
  refine ⟨fun h => ?_, fun h => ?_⟩
  · walk_at "go"
    refine CALLV.by (end_ok w cs hcs _) (by decide) ?_
    walk_at "u"
    walk_at "go"
    rw [decide_eq_true_eq, hlen] at h
    refine ⟨fun h2 => ?_, fun h2 => ?_⟩
    · simp only [decide_eq_true_eq] at h2
      walk_at "go"
      have : p' = p + n := by omega
      have h3 : n' = 0 := by omega
      subst h3; subst this
      refine ⟨?_, rfl⟩
      simp only [Fl.val]
      congr 1
      simp; omega
    · simp only [decide_eq_false_iff_not] at h2
      have h3 : p' < cs.length := by omega
      rw [if_pos h3] at h
      have h4 : n' = 1 := by omega
      have h5 : p' + 1 = p + n := by omega
      subst h4
      have hA : sgnA cs p' = 1 + ((p' + 1 : Nat) : Int) := by
        unfold sgnA
        rw [List.getElem?_eq_getElem h3]
        push_cast; omega
      walk_at "go"
      refine CALLV.len (.inr (.inl rfl)) (by rw [hlen]; split <;> decide) ?_
      walk_at "go"
      rw [hA]
      refine CALLV.by (signs_ok w cs hcs tl (p' + 1) (by omega) _) (by decide) ?_
      walk_at "u"
      walk_at "go"
      refine CALLV.max2 ?_
      walk_at "go"
      refine ⟨(p + n, 0), .inr rfl, by simp, Agree.refl, ?_⟩
      intro b o hb
      rw [← hb]
      rw [hlen, if_pos h3]
      have e1 : max ((1 : Int) + p' + 1) (1 + ((p' + 1 : Nat) : Int) + 1) = 1 + ((p + n : Nat) : Int) + 1 := by omega
      have e2 : (1 : Int) + ((p' + 1 : Nat) : Int) = 1 + ((p + n : Nat) : Int) := by omega
      rw [e1, e2, h5]
      rfl
  · walk_at "c"
    walk_at "go"
    rw [decide_eq_false_iff_not, hlen] at h
    have h3 : p' < cs.length := by
      rcases Nat.lt_or_ge p' cs.length with h' | h'
      · exact h'
      · rw [if_neg (by omega)] at h; omega
    rw [if_pos h3] at h
    have h4 : n' = 0 := by omega
    have h5 : p' = p + n := by omega
    subst h4; subst h5
    refine ⟨?_, rfl⟩
    simp only [Fl.val]
    congr 1
    simp; omega

theorem sign_ok (w : World) (cs : List Int) (hcs : Codes cs) (tl : List V) (p n : Nat) (hn : p + n ≤ cs.length) (hn1 : n ≤ 1) (a : Addr) (H : AH) (e : H a = some (wkO cs tl p n)) :
    C0 w 7 (.ref 227) [.ptr a] H (fun v H' => v = (match cs[p + n]? with | some c => .tup [.int c, .int 0, .int (1 + ((p + n : Nat) : Int))] | none => .none) ∧ H' = upd H a (some (wkO cs tl (p + n) 0))) := by
  refine' CALL.fn ["self"] [("self", .ptr a)] ?ho ?hcd ?hb ?hn ?hρ ?hloc ?hco ?hgen ?hk ?hcell ?_
  case ho => k_is
  case hcd => k_is
  case hn => rfl
  case hb => exact vals1 (fun _ => rfl)
  case hρ => rfl
  case hloc => kernel_rfl
  case hco => rfl
  case hgen => rfl
  case hk => rfl
  case hcell => kernel_rfl
  refine SS.top fun _ _ => ?_
  walk_at "go"
  refine CALLV.by (settle_ok w cs hcs tl p n hn hn1 a H e) (by decide) ?_
  walk_at "u"
  walk_at "go"
  refine ⟨fun h => ?_, fun h => ?_⟩
  · have h := of_decide_eq_true h
    walk_at "go"
    have e1 : sgnL cs (p + n) = [.tup [.int cs[p + n], .int 0, .int (1 + ((p + n : Nat) : Int))]] := by
      unfold sgnL; rw [List.getElem?_eq_getElem h]
    refine ⟨_, _, 0, _, rfl, .inr (.inl rfl), by rw [e1]; exact Nat.le_of_ble_eq_true rfl, by rw [e1]; rfl, by rw [e1]; rfl, ?_⟩
    walk_at "go"; exact ⟨by rw [List.getElem?_eq_getElem h]; rfl, rfl⟩
  · have h := of_decide_eq_false h
    walk_at "go"
    exact ⟨by rw [List.getElem?_eq_none (by omega)]; rfl, rfl⟩
theorem step_ok (w : World) (cs : List Int) (tl : List V) (p : Nat) (n : Int) (a : Addr) (H : AH) (e : H a = some (wkO cs tl p n)) :
    C0 w 1 (.ref 234) [.ptr a] H (fun v H' => v = .none ∧ H' = upd H a (some (wkO cs tl p (n + 1)))) := by
  refine' CALL.fn ["self"] [("self", .ptr a)] ?ho ?hcd ?hb ?hn ?hρ ?hloc ?hco ?hgen ?hk ?hcell ?_
  case ho => k_is
  case hcd => k_is
  case hn => rfl
  case hb => exact vals1 (fun _ => rfl)
  case hρ => rfl
  case hloc => kernel_rfl
  case hco => rfl
  case hgen => rfl
  case hk => rfl
  case hcell => kernel_rfl
  refine SS.top fun _ _ => ?_
  walk_at "go"
  exact ⟨rfl, rfl⟩
theorem spot_ok (w : World) (cs : List Int) (hcs : Codes cs) (tl : List V) (p n : Nat) (hn : p + n ≤ cs.length) (hn1 : n ≤ 1) (a : Addr) (H : AH) (e : H a = some (wkO cs tl p n)) :
    C0 w 7 (.ref 241) [.ptr a] H (fun v H' => v = .tup [.int (1 + ((p + n : Nat) : Int)), .int 0] ∧ H' = upd H a (some (wkO cs tl (p + n) 0))) := by
  refine' CALL.fn ["self"] [("self", .ptr a)] ?ho ?hcd ?hb ?hn ?hρ ?hloc ?hco ?hgen ?hk ?hcell ?_
  case ho => k_is
  case hcd => k_is
  case hn => rfl
  case hb => exact vals1 (fun _ => rfl)
  case hρ => rfl
  case hloc => kernel_rfl
  case hco => rfl
  case hgen => rfl
  case hk => rfl
  case hcell => kernel_rfl
  refine SS.top fun _ _ => ?_
  walk_at "go"
  refine CALLV.by (settle_ok w cs hcs tl p n hn hn1 a H e) (by decide) ?_
  walk_at "u"
  walk_at "go"
  refine ⟨by exact Nat.le_of_ble_eq_true rfl, ?_⟩; walk_at "go"; exact ⟨rfl, rfl⟩

-- F7

-- rows
abbrev rwN : List Str := ["start", "column", "end", "next_column", "glyphs", "is_line_end", "is_break", "is_end", "mark", "reach"]
abbrev rwL (s col e nc : Int) (gv : V) (le brk fin : Bool) (mk rc : Int) : List V := [.tup [.int s, .int 0], .int col, .tup [.int e, .int 0], .int nc, gv, .bool le, .bool brk, .bool fin, .int mk, .int rc]
abbrev rwO (s col e nc : Int) (gv : V) (le brk fin : Bool) (mk rc : Int) : AO := .obj 279 rwN (rwL s col e nc gv le brk fin mk rc)
theorem row_init (w : World) (s col : Int) (a : Addr) (H : AH) (e : H a = some (.obj 279 [] [])) :
    C0 w 1 (.ref 262) [.ptr a, .tup [.int s, .int 0], .int col] H (fun v H' => v = .none ∧ ∃ g, H g = none ∧ a ≠ g ∧ H' = upd (upd H a (some (rwO s col s col (.ptr g) false false false 32 s))) g (some (.lst []))) := by
  refine' CALL.fn ["self", "start", "column"] [("column", .int col), ("start", .tup [.int s, .int 0]), ("self", .ptr a)] ?ho ?hcd ?hb ?hn ?hρ ?hloc ?hco ?hgen ?hk ?hcell ?_
  case ho => k_is
  case hcd => k_is
  case hn => rfl
  case hb => exact vals3 (fun _ _ _ => rfl)
  case hρ => rfl
  case hloc => kernel_rfl
  case hco => rfl
  case hgen => rfl
  case hk => rfl
  case hcell => kernel_rfl
  refine SS.top fun _ _ => ?_
  walk_at "go"
  walk_at "lm"
  walk_at "go"
  refine ⟨by first | decide | (simp; done) | (simp; omega), ?_⟩
  intro g hg
  obtain ⟨hag, hg⟩ := fresh_ne hg
  walk_at "go"
  walk_at "go"
  exact ⟨rfl, g, hg, hag, rfl⟩
theorem row_new (w : World) (s col : Int) (H : AH) :
    C0 w 2 (.ref 279) [.tup [.int s, .int 0], .int col] H (fun v H' => ∃ a g, H a = none ∧ H g = none ∧ a ≠ g ∧ v = .ptr a ∧ H' = upd (upd H a (some (rwO s col s col (.ptr g) false false false 32 s))) g (some (.lst []))) := by
  refine CALL.cls (fI := 262) (by k_is) (by k_is) (by k_is) fun a ha => ?_
  refine (row_init w s col a _ (by simp)).mono ?_
  rintro v H' ⟨rfl, g, hg, hag, rfl⟩
  obtain ⟨_, hg⟩ := fresh_ne hg
  exact ⟨rfl, a, g, ha, hg, hag, rfl, by rw [upd_upd]⟩
theorem row_stop (w : World) (cs : List Int) (hcs : Codes cs) (tl : List V) (p n : Nat) (hn : p + n ≤ cs.length) (hn1 : n ≤ 1) (s col e nc c : Int) (gv : V) (le brk fin : Bool) (mk rc : Int) (r wa : Addr) (H : AH)
    (er : H r = some (rwO s col e nc gv le brk fin mk rc)) (ew : H wa = some (wkO cs tl p n)) (ne : r ≠ wa) :
    C0 w 8 (.ref 269) [.ptr r, .ptr wa, .int c] H (fun v H' => v = .none ∧ H' = upd (upd H wa (some (wkO cs tl (p + n) 0))) r (some (rwO s col (1 + ((p + n : Nat) : Int)) c gv le brk fin mk (max rc (1 + ((p + n : Nat) : Int) + 1))))) := by
  refine' CALL.fn ["self", "walk", "column"] [("column", .int c), ("walk", .ptr wa), ("self", .ptr r)] ?ho ?hcd ?hb ?hn ?hρ ?hloc ?hco ?hgen ?hk ?hcell ?_
  case ho => k_is
  case hcd => k_is
  case hn => rfl
  case hb => exact vals3 (fun _ _ _ => rfl)
  case hρ => rfl
  case hloc => kernel_rfl
  case hco => rfl
  case hgen => rfl
  case hk => rfl
  case hcell => kernel_rfl
  refine SS.top fun _ _ => ?_
  walk_at "go"
  refine CALLV.by (spot_ok w cs hcs tl p n hn hn1 wa H ew) (by decide) ?_
  walk_at "u"
  walk_at "go"
  refine CALLV.max2 ?_
  walk_at "go"
  exact ⟨rfl, rfl⟩
theorem row_cut (w : World) (s col e nc c sp : Int) (k : Nat) (g : Addr) (l : List V) (le brk fin : Bool) (mk rc : Int) (r : Addr) (H : AH)
    (er : H r = some (rwO s col e nc (.ptr g) le brk fin mk rc)) (eg : H g = some (.lst l)) (hl : l.length ≤ 1000) :
    C0 w 1 (.ref 276) [.ptr r, .int k, .tup [.int sp, .int 0], .int c] H (fun v H' => v = .none ∧ H' = upd H r (some (rwO s col sp c (.lst (l.take k)) le brk fin mk rc))) := by
  refine' CALL.fn ["self", "many", "spot", "column"] [("column", .int c), ("spot", .tup [.int sp, .int 0]), ("many", .int k), ("self", .ptr r)] ?ho ?hcd ?hb ?hn ?hρ ?hloc ?hco ?hgen ?hk ?hcell ?_
  case ho => k_is
  case hcd => k_is
  case hn => rfl
  case hb => exact vals4 (fun _ _ _ _ => rfl)
  case hρ => rfl
  case hloc => kernel_rfl
  case hco => rfl
  case hgen => rfl
  case hk => rfl
  case hcell => kernel_rfl
  refine SS.top fun _ _ => ?_
  walk_at "go"
  refine EV.slice ?_
  walk_at "go"
  refine .inl ⟨rfl, ?_⟩
  walk_at "go"
  refine ⟨_, l, rfl, by omega, .inr ⟨g, rfl, eg⟩, hl, ?_⟩
  walk_at "go"
  exact ⟨rfl, rfl⟩
abbrev glyphsOf (codes : List Int) (q : Int) : List V := codes.map fun c => V.tup [.int c, .int 0, .int q]
theorem put_ok (w : World) (codes : List Int) (c0 q : Int) (s col e nc : Int) (g : Addr) (l : List V) (le brk fin : Bool) (mk rc : Int) (r : Addr) (H : AH)
    (er : H r = some (rwO s col e nc (.ptr g) le brk fin mk rc)) (eg : H g = some (.lst l)) (ne : r ≠ g) (hl : l.length + codes.length ≤ 1000) :
    C0 w 1 (.ref 290) [.ptr r, .tup [.int c0, .int 0, .int q], .lst (codes.map V.int)] H (fun v H' => v = .none ∧ H' = upd H g (some (.lst (l ++ glyphsOf codes q)))) := by
  refine' CALL.fn ["row", "sign", "codes"] [("codes", .lst (codes.map V.int)), ("sign", .tup [.int c0, .int 0, .int q]), ("row", .ptr r)] ?ho ?hcd ?hb ?hn ?hρ ?hloc ?hco ?hgen ?hk ?hcell ?_
  case ho => k_is
  case hcd => k_is
  case hn => rfl
  case hb => exact vals3 (fun _ _ _ => rfl)
  case hρ => rfl
  case hloc => kernel_rfl
  case hco => rfl
  case hgen => rfl
  case hk => rfl
  case hcell => kernel_rfl
  refine SS.cons ?_
  refine S1.forL (fun _ _ => rfl) ?_
  walk_at "go"
  refine ⟨_, rfl, ?_⟩
  obtain ⟨ρ, hρ⟩ : ∃ ρ : Rho, ρ = [(("codes" : Str), V.lst (codes.map V.int)), (("sign" : Str), V.tup [.int c0, .int 0, .int q]), (("row" : Str), V.ptr r)] := ⟨_, rfl⟩
  have h1 : ρ.lookup ("sign" : Str) = some (.tup [.int c0, .int 0, .int q]) := by rw [hρ]; rfl
  have h2 : ρ.lookup ("row" : Str) = some (.ptr r) := by rw [hρ]; rfl
  rw [← hρ]
  clear hρ
  induction codes generalizing ρ H l with
  | nil =>
    show SS _ _ _ _ _ _ _ _ _ _
    walk_at "go"
    exact ⟨rfl, by simp [upd_self eg]⟩
  | cons c codes ih =>
    show AS _ _ _ _ _ _ _ _ _ _ _
    walk_at "go"
    refine ⟨g, l, rfl, eg, ?_⟩
    walk_at "go"
    walk_at "go"
    walk_at "go"
    simp only [List.length_cons] at hl
    refine ⟨by exact Nat.le_of_ble_eq_true rfl, l, eg, by omega, ?_⟩
    walk_at "go"
    have e : upd H g (some (.lst (l ++ glyphsOf (c :: codes) q))) = upd (upd H g (some (.lst (l ++ [V.tup [.int c, .int 0, .int q]])))) g (some (.lst ((l ++ [V.tup [.int c, .int 0, .int q]]) ++ glyphsOf codes q))) := by
      rw [upd_upd]; simp [glyphsOf]
    rw [e]
    exact ih (l ++ [V.tup [.int c, .int 0, .int q]]) (upd H g (some (.lst (l ++ [V.tup [.int c, .int 0, .int q]])))) (by rw [upd_ne _ _ ne]; exact er) (upd_same _ _ _) (by simp; omega) (("code", .int c) :: ρ) h1 h2

-- F8

theorem eol_none (w : World) (cs : List Int) (hcs : Codes cs) (tl : List V) (p : Nat) (hp : p ≤ cs.length) (s col e nc c : Int) (gv : V) (le brk fin : Bool) (mk rc : Int) (r wa : Addr) (H : AH)
    (er : H r = some (rwO s col e nc gv le brk fin mk rc)) (ew : H wa = some (wkO cs tl p 0)) (ne : r ≠ wa) :
    C0 w 9 (.ref 297) [.ptr r, .ptr wa, .none, .int c] H (fun v H' => v = .none ∧ H' = upd (upd H wa (some (wkO cs tl p 0))) r (some (rwO s col (1 + (p : Int)) c gv le brk true mk (max rc (1 + (p : Int) + 1))))) := by
  refine' CALL.fn ["row", "walk", "sign", "column"] [("column", .int c), ("sign", .none), ("walk", .ptr wa), ("row", .ptr r)] ?ho ?hcd ?hb ?hn ?hρ ?hloc ?hco ?hgen ?hk ?hcell ?_
  case ho => k_is
  case hcd => k_is
  case hn => rfl
  case hb => exact vals4 (fun _ _ _ _ => rfl)
  case hρ => rfl
  case hloc => kernel_rfl
  case hco => rfl
  case hgen => rfl
  case hk => rfl
  case hcell => kernel_rfl
  refine SS.top fun _ _ => ?_
  walk_at "gb"
  refine CALLV.by (row_stop w cs hcs tl p 0 hp (by omega) s col e nc c gv le brk true mk rc r wa _ (upd_same _ _ _) (by rw [upd_ne _ _ (Ne.symm ne)]; exact ew) ne) (by decide) ?_
  walk_at "u"
  walk_at "go"
  refine ⟨rfl, ?_⟩
  simp only [Nat.add_zero]
  ((funext b; simp only [upd]; repeat' split) <;> first | rfl | (subst_vars; contradiction) | simp_all)
theorem eol_some (w : World) (cs : List Int) (hcs : Codes cs) (tl : List V) (p : Nat) (hp : cs[p]? = some 10) (s col e nc c : Int) (gv : V) (le brk fin : Bool) (mk rc : Int) (r wa : Addr) (H : AH)
    (er : H r = some (rwO s col e nc gv le brk fin mk rc)) (ew : H wa = some (wkO cs tl p 0)) (ne : r ≠ wa) :
    C0 w 9 (.ref 297) [.ptr r, .ptr wa, .tup [.int 10, .int 0, .int (1 + p)], .int c] H (fun v H' => v = .none ∧ H' = upd (upd H wa (some (wkO cs tl (p + 1) 0))) r (some (rwO s col (1 + ((p + 1 : Nat) : Int)) 0 gv true true fin mk (max rc (1 + ((p + 1 : Nat) : Int) + 1))))) := by
  have hlt : p < cs.length := by
    rcases Nat.lt_or_ge p cs.length with h' | h'
    · exact h'
    · rw [List.getElem?_eq_none h'] at hp; cases hp
  refine' CALL.fn ["row", "walk", "sign", "column"] [("column", .int c), ("sign", .tup [.int 10, .int 0, .int (1 + p)]), ("walk", .ptr wa), ("row", .ptr r)] ?ho ?hcd ?hb ?hn ?hρ ?hloc ?hco ?hgen ?hk ?hcell ?_
  case ho => k_is
  case hcd => k_is
  case hn => rfl
  case hb => exact vals4 (fun _ _ _ _ => rfl)
  case hρ => rfl
  case hloc => kernel_rfl
  case hco => rfl
  case hgen => rfl
  case hk => rfl
  case hcell => kernel_rfl
  refine SS.top fun _ _ => ?_
  walk_at "gb"
  refine CALLV.by (step_ok w cs tl p 0 wa H ew) (by decide) ?_
  walk_at "u"
  walk_at "gb"
  walk_at "gb"
  walk_at "gb"
  refine CALLV.by (is_break_ok w cs hcs p 10 _ hp rfl _) (by decide) ?_
  walk_at "u"
  walk_at "gb"
  refine CALLV.by (row_stop w cs hcs tl p 1 (by omega) (by omega) s col e nc 0 gv true true fin mk rc r wa _ (by first | exact upd_same _ _ _ | (rw [upd_ne _ _ ne]; exact upd_same _ _ _)) (by first | exact upd_same _ _ _ | (rw [upd_ne _ _ (Ne.symm ne)]; exact upd_same _ _ _)) ne) (by decide) ?_
  walk_at "u"
  walk_at "go"
  refine ⟨rfl, ?_⟩
  rw [upd_comm ne, upd_upd, upd_upd]

def Trip (x : V) : Prop := ∃ i j k, x = .tup [.int i, .int j, .int k]
theorem glyphs_trip (codes : List Int) (q : Int) : ∀ x ∈ glyphsOf codes q, Trip x := fun x hx => by
  obtain ⟨c, _, rfl⟩ := List.mem_map.mp hx
  exact ⟨c, 0, q, rfl⟩
/-- the sign is put, as far as there is room -/
theorem over_in (w : World) (cs : List Int) (hcs : Codes cs) (tl : List V) (p : Nat) (hp : p < cs.length) (s col e nc c room : Int) (c0 : Int) (codes : List Int) (l : List V) (g : Addr) (le brk fin : Bool) (mk rc : Int) (r wa : Addr) (H : AH) (lb : V)
    (er : H r = some (rwO s col e nc (.ptr g) le brk fin mk rc)) (ew : H wa = some (wkO cs tl p 0)) (eg : H g = some (.lst l)) (ne : r ≠ wa) (ne2 : r ≠ g) (ne3 : wa ≠ g)
    (hroom : (l.length : Int) ≤ room) (hr1 : 0 < room) (hr2 : room ≤ 100) (hc : (c0 = 9 ∧ (l.length : Int) < room) ∨ l.length = 0) (hk : codes.length ≤ 100) :
    C0 w 9 (.ref 304) [.ptr r, .ptr wa, .tup [.int c0, .int 0, .int (1 + p)], .lst (codes.map V.int), .int c, .int room, lb] H (fun v H' => v = .none ∧ ∃ gl, H' = upd (upd (upd H g (some (.lst (l ++ gl)))) wa (some (wkO cs tl (p + 1) 0))) r (some (rwO s col (1 + ((p + 1 : Nat) : Int)) (c + codes.length) (.ptr g) le brk fin mk (max rc (1 + ((p + 1 : Nat) : Int) + 1)))) ∧ gl.length ≤ 100 ∧ (∀ x ∈ gl, Trip x)) := by
  refine' CALL.fn ["row", "walk", "sign", "codes", "column", "room", "last_break"] [("last_break", lb), ("room", .int room), ("column", .int c), ("codes", .lst (codes.map V.int)), ("sign", .tup [.int c0, .int 0, .int (1 + p)]), ("walk", .ptr wa), ("row", .ptr r)] ?ho ?hcd ?hb ?hn ?hρ ?hloc ?hco ?hgen ?hk ?hcell ?_
  case ho => k_is
  case hcd => k_is
  case hn => rfl
  case hb => exact vals7 (fun _ _ _ _ _ _ _ => rfl)
  case hρ => rfl
  case hloc => kernel_rfl
  case hco => rfl
  case hgen => rfl
  case hk => rfl
  case hcell => kernel_rfl
  refine SS.top fun _ _ => ?_
  walk_at "go"
  refine CALLV.len (l := l) (.inr (.inr ⟨g, rfl, eg⟩)) (by omega) ?_
  walk_at "go"
  walk_at "go"
  have hu : (c0 = 9 ∧ (l.length : Int) < room) ∨ (c0 ≠ 9 ∧ l.length = 0) := by
    by_cases h9 : c0 = 9
    · exact .inl ⟨h9, by rcases hc with h | h <;> omega⟩
    · exact .inr ⟨h9, by rcases hc with h | h; exact absurd h.1 h9; exact h⟩
  clear hc
  rcases hu with ⟨rfl, hu⟩ | ⟨h9, h0⟩
  all_goals (
    walk_at "gb"
    refine EV.slice ?_
    walk_at "gb"
    refine .inl ⟨rfl, ?_⟩
    walk_at "gb"
    refine ⟨_, codes.map V.int, rfl, by omega, .inl rfl, by simp; omega, ?_⟩
    walk_at "gb"
    rw [← List.map_take]
    refine CALLV.by (put_ok w (codes.take (room - l.length).toNat) _ (1 + p) s col e nc g l le brk fin mk rc r H er eg ne2 (by simp; omega)) (by decide) ?_
    walk_at "u"
    walk_at "gb"
    refine CALLV.by (step_ok w cs tl p 0 wa _ (by rw [upd_ne _ _ ne3]; exact ew)) (by decide) ?_
    walk_at "u"
    walk_at "gb"
    refine CALLV.len (l := codes.map V.int) (.inr (.inl rfl)) (by simp; omega) ?_
    walk_at "gb"
    refine CALLV.by (row_stop w cs hcs tl p 1 (by omega) (by omega) s col e nc (c + (codes.map V.int).length) (.ptr g) le brk fin mk rc r wa _ (by rw [upd_ne _ _ ne, upd_ne _ _ ne2]; exact er) (upd_same _ _ _) ne) (by decide) ?_
    walk_at "u"
    walk_at "gb"
    refine ⟨rfl, glyphsOf (codes.take (room - l.length).toNat) (1 + p), ?_, by simp; omega, glyphs_trip _ _⟩
    rw [upd_upd, List.length_map])
/-- the row closes before the sign -/
theorem over_out (w : World) (cs : List Int) (hcs : Codes cs) (tl : List V) (p : Nat) (hp : p < cs.length) (s col e nc c room : Int) (c0 : Int) (codes : List Int) (l : List V) (g : Addr) (le brk fin : Bool) (mk rc : Int) (r wa : Addr) (H : AH)
    (er : H r = some (rwO s col e nc (.ptr g) le brk fin mk rc)) (ew : H wa = some (wkO cs tl p 0)) (eg : H g = some (.lst l)) (ne : r ≠ wa) (ne2 : r ≠ g) (ne3 : wa ≠ g)
    (hr2 : (l.length : Int) ≤ 100) (hc : ¬ (c0 = 9 ∧ (l.length : Int) < room)) (h0 : l.length ≠ 0) :
    C0 w 9 (.ref 304) [.ptr r, .ptr wa, .tup [.int c0, .int 0, .int (1 + p)], .lst (codes.map V.int), .int c, .int room, .none] H (fun v H' => v = .none ∧ H' = upd (upd H wa (some (wkO cs tl p 0))) r (some (rwO s col (1 + (p : Int)) c (.ptr g) le brk fin mk (max rc (1 + (p : Int) + 1))))) := by
  refine' CALL.fn ["row", "walk", "sign", "codes", "column", "room", "last_break"] [("last_break", .none), ("room", .int room), ("column", .int c), ("codes", .lst (codes.map V.int)), ("sign", .tup [.int c0, .int 0, .int (1 + p)]), ("walk", .ptr wa), ("row", .ptr r)] ?ho ?hcd ?hb ?hn ?hρ ?hloc ?hco ?hgen ?hk ?hcell ?_
  case ho => k_is
  case hcd => k_is
  case hn => rfl
  case hb => exact vals7 (fun _ _ _ _ _ _ _ => rfl)
  case hρ => rfl
  case hloc => kernel_rfl
  case hco => rfl
  case hgen => rfl
  case hk => rfl
  case hcell => kernel_rfl
  refine SS.top fun _ _ => ?_
  walk_at "go"
  refine CALLV.len (l := l) (.inr (.inr ⟨g, rfl, eg⟩)) (by omega) ?_
  walk_at "go"
  have hu : (c0 = 9 ∧ ¬ (l.length : Int) < room) ∨ (c0 ≠ 9) := by
    by_cases h9 : c0 = 9
    · exact .inl ⟨h9, fun h => hc ⟨h9, h⟩⟩
    · exact .inr h9
  clear hc
  rcases hu with ⟨rfl, hu⟩ | h9
  all_goals (
    walk_at "gb"
    refine CALLV.by (row_stop w cs hcs tl p 0 (by omega) (by omega) s col e nc c (.ptr g) le brk fin mk rc r wa _ er ew ne) (by decide) ?_
    walk_at "u"
    walk_at "gb"
    exact ⟨rfl, rfl⟩)
/-- the row is cut back to its last blank -/
theorem over_back (w : World) (cs : List Int) (hcs : Codes cs) (tl : List V) (p : Nat) (hp : p < cs.length) (s col e nc c room : Int) (c0 : Int) (codes : List Int) (l : List V) (g : Addr) (le brk fin : Bool) (mk rc : Int) (r wa : Addr) (H : AH) (k : Nat) (sp lc : Int)
    (er : H r = some (rwO s col e nc (.ptr g) le brk fin mk rc)) (ew : H wa = some (wkO cs tl p 0)) (eg : H g = some (.lst l)) (ne : r ≠ wa) (ne2 : r ≠ g) (ne3 : wa ≠ g)
    (hr2 : (l.length : Int) ≤ 100) (hc : ¬ (c0 = 9 ∧ (l.length : Int) < room)) (h0 : l.length ≠ 0) :
    C0 w 9 (.ref 304) [.ptr r, .ptr wa, .tup [.int c0, .int 0, .int (1 + p)], .lst (codes.map V.int), .int c, .int room, .tup [.int k, .tup [.int sp, .int 0], .int lc]] H (fun v H' => v = .none ∧ H' = upd (upd H wa (some (wkO cs tl p 0))) r (some (rwO s col sp lc (.lst (l.take k)) le brk fin mk (max rc (1 + (p : Int) + 1))))) := by
  refine' CALL.fn ["row", "walk", "sign", "codes", "column", "room", "last_break"] [("last_break", .tup [.int k, .tup [.int sp, .int 0], .int lc]), ("room", .int room), ("column", .int c), ("codes", .lst (codes.map V.int)), ("sign", .tup [.int c0, .int 0, .int (1 + p)]), ("walk", .ptr wa), ("row", .ptr r)] ?ho ?hcd ?hb ?hn ?hρ ?hloc ?hco ?hgen ?hk ?hcell ?_
  case ho => k_is
  case hcd => k_is
  case hn => rfl
  case hb => exact vals7 (fun _ _ _ _ _ _ _ => rfl)
  case hρ => rfl
  case hloc => kernel_rfl
  case hco => rfl
  case hgen => rfl
  case hk => rfl
  case hcell => kernel_rfl
  refine SS.top fun _ _ => ?_
  walk_at "go"
  refine CALLV.len (l := l) (.inr (.inr ⟨g, rfl, eg⟩)) (by omega) ?_
  walk_at "go"
  have hu : (c0 = 9 ∧ ¬ (l.length : Int) < room) ∨ (c0 ≠ 9) := by
    by_cases h9 : c0 = 9
    · exact .inl ⟨h9, fun h => hc ⟨h9, h⟩⟩
    · exact .inr h9
  clear hc
  rcases hu with ⟨rfl, hu⟩ | h9
  all_goals (
    walk_at "gb"
    refine CALLV.by (row_stop w cs hcs tl p 0 (by omega) (by omega) s col e nc c (.ptr g) le brk fin mk rc r wa _ er ew ne) (by decide) ?_
    walk_at "u"
    walk_at "gb"
    walk_at "gb"
    walk_at "gb"
    walk_at "gb"
    refine CALLV.by (row_cut w s col _ c lc sp k g l le brk fin mk _ r _ (upd_same _ _ _) (by rw [upd_ne _ _ (Ne.symm ne2), upd_ne _ _ (Ne.symm ne3)]; exact eg) (by omega)) (by decide) ?_
    walk_at "u"
    walk_at "gb"
    refine ⟨rfl, ?_⟩
    rw [upd_upd]; rfl)

-- F9

/-- what a row tells -/
structure RD where
  s : Int
  col : Int
  e : Int
  nc : Int
  brk : Bool
  fin : Bool
def IsRow (d : RD) (x : V) : Prop := ∃ gl le mk rc, gl.length ≤ 1000 ∧ (∀ y ∈ gl, Trip y) ∧ x = .obj 279 rwN (rwL d.s d.col d.e d.nc (.lst gl) le d.brk d.fin mk rc)
theorem row_done {H H' : AH} {r g : Addr} {d : RD} {gl : List V} {le : Bool} {mk rc : Int} (hr : H' r = some (rwO d.s d.col d.e d.nc (.ptr g) le d.brk d.fin mk rc)) (hg : H' g = some (.lst gl)) (ne : r ≠ g) (hl : gl.length ≤ 1000) (ht : ∀ y ∈ gl, Trip y)
    (hk : ∀ b o, H b = some o → b ≠ r ∧ b ≠ g ∧ H' b = some o) : ∃ x' H'', Re (.ptr r) H' x' H'' ∧ IsRow d x' ∧ H'' = H := by
  refine ⟨_, H, .fld (i := 4) hr hg ne rfl (.frzI (upd_same _ _ _) (.drop (H' := H) (fun b o e => ?_) .refl)), ⟨gl, le, mk, rc, hl, ht, rfl⟩, rfl⟩
  obtain ⟨h1, h2, h3⟩ := hk b o e
  rw [upd_ne _ _ h1, upd_ne _ _ h1, upd_ne _ _ h2]; exact h3
theorem row_done' {H H' : AH} {r : Addr} {d : RD} {gl : List V} {le : Bool} {mk rc : Int} (hr : H' r = some (rwO d.s d.col d.e d.nc (.lst gl) le d.brk d.fin mk rc)) (hl : gl.length ≤ 1000) (ht : ∀ y ∈ gl, Trip y)
    (hk : ∀ b o, H b = some o → b ≠ r ∧ H' b = some o) : ∃ x' H'', Re (.ptr r) H' x' H'' ∧ IsRow d x' ∧ H'' = H := by
  refine ⟨_, H, .frzI hr (.drop (H' := H) (fun b o e => ?_) .refl), ⟨gl, le, mk, rc, hl, ht, rfl⟩, rfl⟩
  obtain ⟨h1, h3⟩ := hk b o e
  rw [upd_ne _ _ h1]; exact h3

def foldR (room : Int) (wr : Bool) : List Int → Nat → Nat → Int → Option (Int × Int) → Int × Int × Bool × Bool
  | [], p, _, col, _ => (1 + p, col, false, true)
  | c :: r, p, used, col, lb =>
    if c = 10 then (1 + ((p + 1 : Nat) : Int), 0, true, false)
    else if (used : Int) + (shown c col).length > room then
      if (c = 9 ∧ (used : Int) < room) ∨ used = 0 then (1 + ((p + 1 : Nat) : Int), col + (shown c col).length, false, false)
      else match lb with
        | none => (1 + p, col, false, false)
        | some (e, nc) => (e, nc, false, false)
    else foldR room wr r (p + 1) (used + (shown c col).length) (col + (shown c col).length) (if wr && (c == 32 || c == 9) then some (1 + ((p + 1 : Nat) : Int), col + (shown c col).length) else lb)
theorem foldR_cons (room : Int) (wr : Bool) (c : Int) (r : List Int) (p used : Nat) (col : Int) (lb : Option (Int × Int)) : foldR room wr (c :: r) p used col lb =
    if c = 10 then (1 + ((p + 1 : Nat) : Int), 0, true, false)
    else if (used : Int) + (shown c col).length > room then
      if (c = 9 ∧ (used : Int) < room) ∨ used = 0 then (1 + ((p + 1 : Nat) : Int), col + (shown c col).length, false, false)
      else match lb with
        | none => (1 + p, col, false, false)
        | some (e, nc) => (e, nc, false, false)
    else foldR room wr r (p + 1) (used + (shown c col).length) (col + (shown c col).length) (if wr && (c == 32 || c == 9) then some (1 + ((p + 1 : Nat) : Int), col + (shown c col).length) else lb) := rfl
theorem shown_len (k c : Int) : 1 ≤ (shown k c).length ∧ (shown k c).length ≤ 4 := by
  unfold shown
  have h1 : 0 ≤ c.fmod 4 := Int.fmod_nonneg_of_pos _ (by decide)
  have h2 : c.fmod 4 < 4 := Int.fmod_lt_of_pos _ (by decide)
  split
  · rw [List.length_replicate]; omega
  · simp
structure FS where
  p : Nat
  n : Nat
  gl : List V
  col : Int
  lb : Option (Nat × Int × Int)
def lbV : Option (Nat × Int × Int) → V
  | none => .none
  | some (k, sp, lc) => .tup [.int k, .tup [.int sp, .int 0], .int lc]
theorem ne_none {H : AH} {a b : Addr} {o : AO} (h : H a = none) (e : H b = some o) : b ≠ a := fun q => by rw [q, h] at e; cases e
theorem upd3w {H : AH} {a r g : Addr} {x x' y z : Option AO} (h1 : a ≠ r) (h2 : a ≠ g) : upd (upd (upd (upd H a x) r y) g z) a x' = upd (upd (upd H a x') r y) g z := by
  rw [upd_comm (Ne.symm h2), upd_comm (Ne.symm h1), upd_upd]
theorem folded_ok (w : World) (cs : List Int) (hcs : Codes cs) (tl : List V) (p : Nat) (hp : p ≤ cs.length) (col width : Int) (hw1 : 3 ≤ width) (hw2 : width ≤ 7) (tr wr : Bool) (H : AH) (R : Int × Int × Bool × Bool)
    (hR : foldR (width - 1) wr (cs.drop p) p 0 col none = R) :
    C0 w 11 (.ref 311) [viewV cs, tblV tl, .tup [.int (1 + p), .int 0], .int col, .int width, optV tr wr] H (fun v H' => IsRow ⟨1 + p, col, R.1, R.2.1, R.2.2.1, R.2.2.2⟩ v ∧ H' = H) := by
  refine CALL.re ?_
  refine' CALL.fn ["view", "table", "spot", "column", "width", "options"] [("options", optV tr wr), ("width", .int width), ("column", .int col), ("spot", .tup [.int (1 + p), .int 0]), ("table", tblV tl), ("view", viewV cs)] ?ho ?hcd ?hb ?hn ?hρ ?hloc ?hco ?hgen ?hk ?hcell ?_
  case ho => k_is
  case hcd => k_is
  case hn => rfl
  case hb => exact vals6 (fun _ _ _ _ _ _ => rfl)
  case hρ => rfl
  case hloc => kernel_rfl
  case hco => rfl
  case hgen => rfl
  case hk => rfl
  case hcell => kernel_rfl
  refine SS.top fun _ _ => ?_
  walk_at "c"
  refine S1.assignSw (names := ["walk", "room", "last_break"]) (fun _ => rfl) (fun _ _ _ _ _ => rfl) (by decide +kernel) (by simp) ?_
  walk_at "go"
  refine CALLV.by (walk_new w cs hcs tl p hp H) (by decide) ?_
  rintro v H' ⟨wa, hwa, rfl, rfl⟩
  walk_at "go"
  refine ⟨by exact Nat.le_of_ble_eq_true rfl, _, rfl, rfl, ?_⟩
  walk_at "go"
  refine CALLV.by (spot_ok w cs hcs tl p 0 hp (by omega) wa _ (upd_same _ _ _)) (by decide) ?_
  walk_at "u"
  rw [upd_upd]
  simp only [Nat.add_zero]
  walk_at "go"
  refine CALLV.by (row_new w (1 + p) col _) (by decide) ?_
  rintro v H' ⟨r, g, hr, hg, hrg, rfl, rfl⟩
  obtain ⟨hwr, hr⟩ := fresh_ne hr
  obtain ⟨hwg, hg⟩ := fresh_ne hg
  have hk : ∀ b o, H b = some o → b ≠ r ∧ b ≠ g ∧ b ≠ wa := fun b o e => ⟨ne_none hr e, ne_none hg e, ne_none hwa e⟩
  walk_at "c"
  refine S1.while (σ := FS) (fun x => x.p + x.n ≤ cs.length ∧ x.n ≤ 1 ∧ (x.gl.length : Int) ≤ width - 1 ∧ (∀ y ∈ x.gl, Trip y) ∧ foldR (width - 1) wr (cs.drop (x.p + x.n)) (x.p + x.n) x.gl.length x.col (x.lb.map (·.2)) = R)
    (fun x => cs.length - (x.p + x.n))
    (fun x => [(("row" : Str), V.ptr r), (("last_break" : Str), lbV x.lb), (("room" : Str), V.int (width - 1)), (("walk" : Str), V.ptr wa), (("column" : Str), V.int x.col), (("view" : Str), viewV cs), (("options" : Str), optV tr wr)])
    (fun x => upd (upd (upd H wa (some (wkO cs tl x.p x.n))) r (some (rwO (1 + p) col (1 + p) col (.ptr g) false false false 32 (1 + p)))) g (some (.lst x.gl)))
    ⟨p, 0, [], col, none⟩ ⟨hp, by simp, by simp; omega, by simp, hR⟩ ?_ (fun _ _ h => h) ?_
  · exact .cons rfl (.cons rfl (.cons rfl (.cons rfl (.cons rfl (.cons rfl (.cons rfl .nil))))))
  intro x hx
  obtain ⟨p', n, gl, c, lb⟩ := x
  obtain ⟨h1, h2, h3, h4, h5⟩ := hx
  simp only at h1 h2 h3 h4 h5
  walk_at "go"
  refine ⟨fun _ => ?_, fun h => (nomatch h)⟩
  walk_at "go"
  refine CALLV.by (sign_ok w cs hcs tl p' n h1 h2 wa _ (by walk_at "hh")) (by decide) ?_
  walk_at "u"
  rw [upd3w hwr hwg]
  generalize hq : p' + n = q at *
  cases hc : cs[q]? with
  | none =>
    have hq' : q = cs.length := by
      have := List.getElem?_eq_none_iff.mp hc; omega
    have hR' : R = (1 + (q : Int), c, false, true) := by
      rw [← h5, List.drop_of_length_le (by omega)]; rfl
    subst hR'
    walk_at "gb"
    refine CALLV.by (eol_none w cs hcs tl q (by omega) (1 + p) col (1 + p) col c (.ptr g) false false false 32 (1 + p) r wa _ (by walk_at "hh") (by walk_at "hh") (Ne.symm hwr)) (by decide) ?_
    walk_at "u"
    walk_at "gb"
    refine row_done (d := ⟨1 + p, col, 1 + q, c, false, true⟩) (upd_same _ _ _) (by walk_at "hh") hrg (by omega) h4 fun b o e => ?_
    obtain ⟨k1, k2, k3⟩ := hk b o e
    exact ⟨k1, k2, by simp [upd, k1, k2, k3, e]⟩
  | some k =>
    have hlt : q < cs.length := by
      rcases Nat.lt_or_ge q cs.length with h' | h'
      · exact h'
      · rw [List.getElem?_eq_none h'] at hc; cases hc
    have hd : cs.drop q = k :: cs.drop (q + 1) := by
      rw [List.drop_eq_getElem_cons hlt]
      congr 1
      rw [List.getElem?_eq_getElem hlt] at hc; exact Option.some.inj hc
    have hkc : Code k := hcs.1 k (List.mem_of_getElem? hc)
    rw [hd] at h5
    by_cases h10 : k = 10
    · subst h10
      have hR' : R = (1 + ((q + 1 : Nat) : Int), 0, true, false) := by rw [← h5]; rfl
      subst hR'
      walk_at "gb"
      walk_at "gb"
      refine CALLV.by (eol_some w cs hcs tl q hc (1 + p) col (1 + p) col c (.ptr g) false false false 32 (1 + p) r wa _ (by walk_at "hh") (by walk_at "hh") (Ne.symm hwr)) (by decide) ?_
      walk_at "u"
      walk_at "gb"
      refine row_done (d := ⟨1 + p, col, 1 + ((q + 1 : Nat) : Int), 0, true, false⟩) (upd_same _ _ _) (by walk_at "hh") hrg (by omega) h4 fun b o e => ?_
      obtain ⟨k1, k2, k3⟩ := hk b o e
      exact ⟨k1, k2, by simp [upd, k1, k2, k3, e]⟩
    · have hsl : 1 ≤ (shown k c).length ∧ (shown k c).length ≤ 4 := shown_len k c
      walk_at "gb"
      walk_at "gb"
      walk_at "gb"
      refine CALLV.by (shown_codes_ok w k c hkc h10 tr wr _) (by decide) ?_
      walk_at "u"
      walk_at "gb"
      refine CALLV.len (l := gl) (.inr (.inr ⟨g, rfl, by walk_at "hh"⟩)) (by omega) ?_
      walk_at "gb"
      refine CALLV.len (l := (shown k c).map V.int) (.inr (.inl rfl)) (by simp; omega) ?_
      walk_at "gb"
      rw [List.length_map]
      by_cases hov : (gl.length : Int) + (shown k c).length > width - 1
      · walk_at "gb"
        have hf : foldR (width - 1) wr (k :: cs.drop (q + 1)) q gl.length c (lb.map (·.2)) = (if (k = 9 ∧ (gl.length : Int) < width - 1) ∨ gl.length = 0 then (1 + ((q + 1 : Nat) : Int), c + (shown k c).length, false, false) else match lb.map (·.2) with
            | none => (1 + (q : Int), c, false, false)
            | some (e, nc) => (e, nc, false, false)) := by
          rw [foldR_cons, if_neg h10, if_pos hov]
        rw [hf] at h5
        by_cases hin : (k = 9 ∧ (gl.length : Int) < width - 1) ∨ gl.length = 0
        · rw [if_pos hin] at h5
          subst h5
          refine CALLV.by (over_in w cs hcs tl q hlt (1 + p) col (1 + p) col c (width - 1) k (shown k c) gl g false false false 32 (1 + p) r wa _ (lbV lb) (by walk_at "hh") (by walk_at "hh") (by walk_at "hh") (Ne.symm hwr) hrg hwg h3 (by omega) (by omega) hin (by omega)) (by decide) ?_
          rintro v H' ⟨rfl, gl', rfl, hg1, hg2⟩
          walk_at "gb"
          have hg3 : (gl ++ gl').length ≤ 1000 := by rw [List.length_append]; omega
          have hg4 : ∀ y ∈ gl ++ gl', Trip y := fun y hy => (List.mem_append.mp hy).elim (h4 y) (hg2 y)
          cases wr <;> walk_at "gb"
          · refine row_done (d := ⟨1 + p, col, 1 + ((q + 1 : Nat) : Int), c + (shown k c).length, false, false⟩) (upd_same _ _ _) (by walk_at "hh") hrg hg3 hg4 fun b o e => ?_
            obtain ⟨k1, k2, k3⟩ := hk b o e
            exact ⟨k1, k2, by simp [upd, k1, k2, k3, e]⟩
          · refine row_done (d := ⟨1 + p, col, 1 + ((q + 1 : Nat) : Int), c + (shown k c).length, false, false⟩) (upd_same _ _ _) (by walk_at "hh") hrg hg3 hg4 fun b o e => ?_
            obtain ⟨k1, k2, k3⟩ := hk b o e
            exact ⟨k1, k2, by simp [upd, k1, k2, k3, e]⟩
        · rw [if_neg hin] at h5
          cases lb with
          | none =>
            have h5 : (1 + (q : Int), c, false, false) = R := h5
            subst h5
            refine CALLV.by (over_out w cs hcs tl q hlt (1 + p) col (1 + p) col c (width - 1) k (shown k c) gl g false false false 32 (1 + p) r wa _ (by walk_at "hh") (by walk_at "hh") (by walk_at "hh") (Ne.symm hwr) hrg hwg (by omega) (fun h => hin (.inl h)) (fun h => hin (.inr h))) (by decide) ?_
            walk_at "u"
            walk_at "gb"
            cases wr <;> walk_at "gb"
            · refine row_done (d := ⟨1 + p, col, 1 + (q : Int), c, false, false⟩) (upd_same _ _ _) (by walk_at "hh") hrg (by omega) h4 fun b o e => ?_
              obtain ⟨k1, k2, k3⟩ := hk b o e
              exact ⟨k1, k2, by simp [upd, k1, k2, k3, e]⟩
            · refine row_done (d := ⟨1 + p, col, 1 + (q : Int), c, false, false⟩) (upd_same _ _ _) (by walk_at "hh") hrg (by omega) h4 fun b o e => ?_
              obtain ⟨k1, k2, k3⟩ := hk b o e
              exact ⟨k1, k2, by simp [upd, k1, k2, k3, e]⟩
          | some x =>
            obtain ⟨kk, sp, lc⟩ := x
            have h5 : (sp, lc, false, false) = R := h5
            subst h5
            refine CALLV.by (over_back w cs hcs tl q hlt (1 + p) col (1 + p) col c (width - 1) k (shown k c) gl g false false false 32 (1 + p) r wa _ kk sp lc (by walk_at "hh") (by walk_at "hh") (by walk_at "hh") (Ne.symm hwr) hrg hwg (by omega) (fun h => hin (.inl h)) (fun h => hin (.inr h))) (by decide) ?_
            walk_at "u"
            walk_at "gb"
            have hg3 : (gl.take kk).length ≤ 1000 := by rw [List.length_take]; omega
            have hg4 : ∀ y ∈ gl.take kk, Trip y := fun y hy => h4 y (List.mem_of_mem_take hy)
            cases wr <;> walk_at "gb"
            · refine row_done' (d := ⟨1 + p, col, sp, lc, false, false⟩) (upd_same _ _ _) hg3 hg4 fun b o e => ?_
              obtain ⟨k1, k2, k3⟩ := hk b o e
              exact ⟨k1, by simp [upd, k1, k2, k3, e]⟩
            · refine row_done' (d := ⟨1 + p, col, sp, lc, false, false⟩) (upd_same _ _ _) hg3 hg4 fun b o e => ?_
              obtain ⟨k1, k2, k3⟩ := hk b o e
              exact ⟨k1, by simp [upd, k1, k2, k3, e]⟩
      · walk_at "gb"
        have hf : foldR (width - 1) wr (k :: cs.drop (q + 1)) q gl.length c (lb.map (·.2)) = foldR (width - 1) wr (cs.drop (q + 1)) (q + 1) (gl.length + (shown k c).length) (c + (shown k c).length) (if wr && (k == 32 || k == 9) then some (1 + ((q + 1 : Nat) : Int), c + (shown k c).length) else lb.map (·.2)) := by
          rw [foldR_cons, if_neg h10, if_neg hov]
        rw [hf] at h5
        refine CALLV.by (put_ok w (shown k c) k (1 + q) (1 + p) col (1 + p) col g gl false false false 32 (1 + p) r _ (by walk_at "hh") (by walk_at "hh") hrg (by omega)) (by decide) ?_
        walk_at "u"
        rw [upd_upd]
        have hg3 : (gl ++ glyphsOf (shown k c) (1 + q)).length = gl.length + (shown k c).length := by simp
        have hg4 : ∀ y ∈ gl ++ glyphsOf (shown k c) (1 + q), Trip y := fun y hy => (List.mem_append.mp hy).elim (h4 y) (glyphs_trip _ _ y)
        rw [← hg3] at h5
        walk_at "gb"
        refine CALLV.len (l := (shown k c).map V.int) (.inr (.inl rfl)) (by simp; omega) ?_
        walk_at "gb"
        rw [List.length_map]
        walk_at "gb"
        refine CALLV.by (step_ok w cs tl q 0 wa _ (by walk_at "hh")) (by decide) ?_
        walk_at "u"
        rw [upd3w hwr hwg]
        cases wr with
        | false =>
          walk_at "gb"
          refine ⟨⟨q, 1, gl ++ glyphsOf (shown k c) (1 + q), c + (shown k c).length, lb⟩, ⟨by simp; omega, by simp, by simp only [hg3]; omega, hg4, h5⟩, by simp only; omega, ?_, fun _ _ h => h⟩
          exact .cons rfl (.cons rfl (.cons rfl (.cons rfl (.cons rfl (.cons rfl (.cons rfl .nil))))))
        | true =>
          walk_at "gb"
          walk_at "gb"
          refine ⟨by exact Nat.le_of_ble_eq_true rfl, ?_⟩
          refine OP2.inT (ns := [32, 9]) ?_
          walk_at "go"
          by_cases hb : k = 32 ∨ k = 9
          · have hbb : (true && (k == 32 || k == 9)) = true := by rcases hb with rfl | rfl <;> rfl
            rw [if_pos hbb] at h5
            refine brT (by rcases hb with rfl | rfl <;> rfl) ?_
            walk_at "gb"
            refine CALLV.len (l := gl ++ glyphsOf (shown k c) (1 + q)) (.inr (.inr ⟨g, rfl, by walk_at "hh"⟩)) (by rw [hg3]; omega) ?_
            walk_at "gb"
            refine CALLV.by (spot_ok w cs hcs tl q 1 (by omega) (by omega) wa _ (by walk_at "hh")) (by decide) ?_
            walk_at "u"
            rw [upd3w hwr hwg]
            walk_at "gb"
            refine ⟨by exact Nat.le_of_ble_eq_true rfl, ?_⟩
            walk_at "gb"
            refine ⟨⟨q + 1, 0, gl ++ glyphsOf (shown k c) (1 + q), c + ((shown k c).length : Int), some ((gl ++ glyphsOf (shown k c) (1 + q)).length, 1 + ((q + 1 : Nat) : Int), c + ((shown k c).length : Int))⟩, ⟨by simp; omega, by simp, by show ((gl ++ glyphsOf (shown k c) (1 + q)).length : Int) ≤ width - 1; rw [hg3]; omega, hg4, h5⟩, by simp only; omega, ?_, fun _ _ h => h⟩
            exact .cons rfl (.cons rfl (.cons rfl (.cons rfl (.cons rfl (.cons rfl (.cons rfl .nil))))))
          · have hbb : ¬ (true && (k == 32 || k == 9)) = true := by simpa using hb
            rw [if_neg hbb] at h5
            refine brF (by simp; omega) ?_
            walk_at "gb"
            refine ⟨⟨q, 1, gl ++ glyphsOf (shown k c) (1 + q), c + (shown k c).length, lb⟩, ⟨by simp; omega, by simp, by simp only [hg3]; omega, hg4, h5⟩, by simp only; omega, ?_, fun _ _ h => h⟩
            exact .cons rfl (.cons rfl (.cons rfl (.cons rfl (.cons rfl (.cons rfl (.cons rfl .nil))))))

-- F10

def cutR : List Int → Nat → Int × Bool
  | [], p => (1 + p, true)
  | c :: r, p => if c = 10 then (1 + ((p + 1 : Nat) : Int), false) else cutR r (p + 1)
def signV (cs : List Int) (q : Nat) : V := match cs[q]? with
  | some c => .tup [.int c, .int 0, .int (1 + (q : Int))]
  | none => .none
structure CS where
  q : Nat
  gl : List V
  col : Int
theorem cut_ok (w : World) (cs : List Int) (hcs : Codes cs) (tl : List V) (p : Nat) (hp : p ≤ cs.length) (width : Int) (hw1 : 3 ≤ width) (hw2 : width ≤ 7) (tr wr : Bool) (H : AH) (R : Int × Bool)
    (hR : cutR (cs.drop p) p = R) :
    C0 w 11 (.ref 318) [viewV cs, tblV tl, .tup [.int (1 + p), .int 0], .int width, optV tr wr] H (fun v H' => IsRow ⟨1 + p, 0, R.1, 0, !R.2, R.2⟩ v ∧ H' = H) := by
  refine CALL.re ?_
  refine' CALL.fn ["view", "table", "spot", "width", "options"] [("options", optV tr wr), ("width", .int width), ("spot", .tup [.int (1 + p), .int 0]), ("table", tblV tl), ("view", viewV cs)] ?ho ?hcd ?hb ?hn ?hρ ?hloc ?hco ?hgen ?hk ?hcell ?_
  case ho => k_is
  case hcd => k_is
  case hn => rfl
  case hb => exact vals5 (fun _ _ _ _ _ => rfl)
  case hρ => rfl
  case hloc => kernel_rfl
  case hco => rfl
  case hgen => rfl
  case hk => rfl
  case hcell => kernel_rfl
  refine SS.top fun _ _ => ?_
  walk_at "c"
  refine S1.assignSw (names := ["walk", "column", "left"]) (fun _ => rfl) (fun _ _ _ _ _ => rfl) (by decide +kernel) (by simp) ?_
  walk_at "go"
  refine CALLV.by (walk_new w cs hcs tl p hp H) (by decide) ?_
  rintro v H' ⟨wa, hwa, rfl, rfl⟩
  walk_at "go"
  refine ⟨by exact Nat.le_of_ble_eq_true rfl, _, rfl, rfl, ?_⟩
  walk_at "c"
  refine S1.assignSw (names := ["row", "right"]) (fun _ => rfl) (fun _ _ _ _ _ => rfl) (by decide +kernel) (by simp) ?_
  walk_at "go"
  refine CALLV.by (spot_ok w cs hcs tl p 0 hp (by omega) wa _ (upd_same _ _ _)) (by decide) ?_
  walk_at "u"
  rw [upd_upd]
  simp only [Nat.add_zero]
  walk_at "go"
  refine CALLV.by (row_new w (1 + p) 0 _) (by decide) ?_
  rintro v H' ⟨r, g, hr, hg, hrg, rfl, rfl⟩
  obtain ⟨hwr, hr⟩ := fresh_ne hr
  obtain ⟨hwg, hg⟩ := fresh_ne hg
  have hk : ∀ b o, H b = some o → b ≠ r ∧ b ≠ g ∧ b ≠ wa := fun b o e => ⟨ne_none hr e, ne_none hg e, ne_none hwa e⟩
  walk_at "go"
  refine ⟨by exact Nat.le_of_ble_eq_true rfl, _, rfl, rfl, ?_⟩
  walk_at "go"
  refine CALLV.by (sign_ok w cs hcs tl p 0 (by omega) (by omega) wa _ (by walk_at "hh")) (by decide) ?_
  walk_at "u"
  rw [upd3w hwr hwg]
  walk_at "c"
  refine S1.while (σ := CS) (fun x => x.q ≤ cs.length ∧ x.gl.length ≤ 4 * x.q ∧ (∀ y ∈ x.gl, Trip y) ∧ 0 ≤ x.col ∧ cutR (cs.drop x.q) x.q = R)
    (fun x => cs.length - x.q)
    (fun x => [(("row" : Str), V.ptr r), (("right" : Str), V.int (0 + width - 1)), (("left" : Str), V.int 0), (("sign" : Str), signV cs x.q), (("walk" : Str), V.ptr wa), (("column" : Str), V.int x.col), (("options" : Str), optV tr wr)])
    (fun x => upd (upd (upd H wa (some (wkO cs tl x.q 0))) r (some (rwO (1 + p) 0 (1 + p) 0 (.ptr g) false false false 32 (1 + p)))) g (some (.lst x.gl)))
    ⟨p, [], 0⟩ ⟨hp, by simp, by simp, by simp, hR⟩ ?_ (fun _ _ h => h) ?_
  · exact .cons rfl (.cons rfl (.cons rfl (.cons rfl (.cons rfl (.cons rfl (.cons rfl .nil))))))
  intro x hx
  obtain ⟨q, gl, c⟩ := x
  obtain ⟨h1, h2, h3, h4, h5⟩ := hx
  simp only at h1 h2 h3 h4 h5
  have h24 := hcs.2
  have done : ∀ (U : AH) (e : Int) (fin : Bool) (le : Bool) (mk rc : Int), (∀ b o, H b = some o → U b = some o) → U g = some (.lst gl) → R = (e, fin) → ∃ x' H'', Re (.ptr r) (upd U r (some (rwO (1 + p) 0 e 0 (.ptr g) le (!fin) fin mk rc))) x' H'' ∧ IsRow ⟨1 + p, 0, R.1, 0, !R.2, R.2⟩ x' ∧ H'' = H := by
    rintro U e fin le mk rc hU hg rfl
    refine row_done (d := ⟨1 + p, 0, e, 0, !fin, fin⟩) (upd_same _ _ _) (by rw [upd_ne _ _ (Ne.symm hrg)]; exact hg) hrg (by omega) h3 fun b o e => ?_
    obtain ⟨k1, k2, k3⟩ := hk b o e
    exact ⟨k1, k2, by rw [upd_ne _ _ k1]; exact hU b o e⟩
  walk_at "go"
  cases hc : cs[q]? with
  | none =>
    have hq' : q = cs.length := by
      have := List.getElem?_eq_none_iff.mp hc; omega
    have hR' : R = (1 + (q : Int), true) := by
      rw [← h5, List.drop_of_length_le (by omega)]; rfl
    have hs : signV cs q = .none := by unfold signV; rw [hc]
    rw [hs]
    walk_at "gb"
    refine CALLV.by (eol_none w cs hcs tl q (by omega) (1 + p) 0 (1 + p) 0 0 (.ptr g) false false false 32 (1 + p) r wa _ (by walk_at "hh") (by walk_at "hh") (Ne.symm hwr)) (by decide) ?_
    walk_at "u"
    walk_at "gb"
    refine ⟨fun hcol => ?_, fun hcol => ?_⟩
    · walk_at "gb"
      refine done _ (1 + q) true false 36 _ (fun b o e => ?_) (by walk_at "hh") hR'
      obtain ⟨k1, k2, k3⟩ := hk b o e
      simp [upd, k1, k2, k3, e]
    · walk_at "gb"
      refine done _ (1 + q) true false 32 _ (fun b o e => ?_) (by walk_at "hh") hR'
      obtain ⟨k1, k2, k3⟩ := hk b o e
      simp [upd, k1, k2, k3, e]
  | some k =>
    have hlt : q < cs.length := by
      rcases Nat.lt_or_ge q cs.length with h' | h'
      · exact h'
      · rw [List.getElem?_eq_none h'] at hc; cases hc
    have hd : cs.drop q = k :: cs.drop (q + 1) := by
      rw [List.drop_eq_getElem_cons hlt]
      congr 1
      rw [List.getElem?_eq_getElem hlt] at hc; exact Option.some.inj hc
    have hkc : Code k := hcs.1 k (List.mem_of_getElem? hc)
    have hs : signV cs q = .tup [.int k, .int 0, .int (1 + (q : Int))] := by unfold signV; rw [hc]
    rw [hd] at h5
    rw [hs]
    by_cases h10 : k = 10
    · subst h10
      have hR' : R = (1 + ((q + 1 : Nat) : Int), false) := by rw [← h5]; rfl
      walk_at "gb"
      walk_at "gb"
      refine CALLV.by (eol_some w cs hcs tl q hc (1 + p) 0 (1 + p) 0 0 (.ptr g) false false false 32 (1 + p) r wa _ (by walk_at "hh") (by walk_at "hh") (Ne.symm hwr)) (by decide) ?_
      walk_at "u"
      walk_at "gb"
      refine ⟨fun hcol => ?_, fun hcol => ?_⟩
      · walk_at "gb"
        refine done _ _ false true 36 _ (fun b o e => ?_) (by walk_at "hh") hR'
        obtain ⟨k1, k2, k3⟩ := hk b o e
        simp [upd, k1, k2, k3, e]
      · walk_at "gb"
        refine done _ _ false true 32 _ (fun b o e => ?_) (by walk_at "hh") hR'
        obtain ⟨k1, k2, k3⟩ := hk b o e
        simp [upd, k1, k2, k3, e]
    · have hsl : 1 ≤ (shown k c).length ∧ (shown k c).length ≤ 4 := shown_len k c
      have hf : cutR (k :: cs.drop (q + 1)) q = cutR (cs.drop (q + 1)) (q + 1) := by
        show (if k = 10 then _ else _) = _
        rw [if_neg h10]
      rw [hf] at h5
      walk_at "gb"
      walk_at "gb"
      walk_at "gb"
      refine CALLV.by (shown_codes_ok w k c hkc h10 tr wr _) (by decide) ?_
      walk_at "u"
      walk_at "gb"
      refine EV.slice ?_
      walk_at "gb"
      refine .inr ⟨_, rfl, ?_⟩
      walk_at "gb"
      refine CALLV.max2 ?_
      refine ⟨congrArg V.int (show max (0 : Int) (0 - c) = 0 by omega), ?_⟩
      walk_at "gb"
      refine CALLV.max2 ?_
      refine ⟨_, (shown k c).map V.int, rfl, by omega, .inl rfl, by simp; omega, ?_⟩
      walk_at "gb"
      rw [← List.map_take]
      refine CALLV.by (put_ok w ((shown k c).take (max 0 (0 + width - 1 - c)).toNat) k (1 + q) (1 + p) 0 (1 + p) 0 g gl false false false 32 (1 + p) r _ (by walk_at "hh") (by walk_at "hh") hrg (by simp; omega)) (by decide) ?_
      walk_at "u"
      rw [upd_upd]
      walk_at "gb"
      refine CALLV.len (l := (shown k c).map V.int) (.inr (.inl rfl)) (by simp; omega) ?_
      walk_at "gb"
      rw [List.length_map]
      refine CALLV.by (step_ok w cs tl q 0 wa _ (by walk_at "hh")) (by decide) ?_
      walk_at "u"
      rw [upd3w hwr hwg]
      walk_at "gb"
      refine CALLV.by (sign_ok w cs hcs tl q 1 (by omega) (by omega) wa _ (by walk_at "hh")) (by decide) ?_
      walk_at "u"
      rw [upd3w hwr hwg]
      walk_at "gb"
      refine ⟨⟨q + 1, gl ++ glyphsOf ((shown k c).take (max 0 (0 + width - 1 - c)).toNat) (1 + q), c + ((shown k c).length : Int)⟩, ⟨hlt, by simp; omega, fun y hy => (List.mem_append.mp hy).elim (h3 y) (glyphs_trip _ _ y), by show 0 ≤ c + _; omega, h5⟩, by simp only; omega, ?_, fun _ _ h => h⟩
      exact .cons rfl (.cons rfl (.cons rfl (.cons rfl (.cons rfl (.cons rfl (.cons rfl .nil))))))

-- P1
/-- facts of a row that begins s places on and ends e places on -/
structure Ends (cs : List Int) (s : Nat) (e : Int) (nc : Int) (brk fin : Bool) : Prop where
  ex : ∃ e' : Nat, e = 1 + e' ∧ s ≤ e' ∧ e' ≤ cs.length ∧ (fin = false → s < e') ∧ (fin = true → e' = cs.length ∧ brk = false ∧ ∀ j, s ≤ j → cs[j]? ≠ some 10) ∧
    (brk = true → nc = 0 ∧ cs[e' - 1]? = some 10) ∧ (∀ j, s ≤ j → j + 1 < e' → cs[j]? ≠ some 10) ∧ (brk = false → ∀ j, s ≤ j → j < e' → cs[j]? ≠ some 10)
theorem foldR_ends (cs : List Int) (room : Int) (wr : Bool) (s : Nat) : ∀ (l : List Int) (p used : Nat) (col : Int) (lb : Option (Int × Int)), cs.drop p = l → p ≤ cs.length → s ≤ p → (0 < used → s < p) →
    (∀ e nc, lb = some (e, nc) → ∃ e' : Nat, e = 1 + e' ∧ s < e' ∧ e' ≤ p) → (∀ j, s ≤ j → j < p → cs[j]? ≠ some 10) →
    Ends cs s (foldR room wr l p used col lb).1 (foldR room wr l p used col lb).2.1 (foldR room wr l p used col lb).2.2.1 (foldR room wr l p used col lb).2.2.2
  | [], p, used, col, lb, hd, hp, hs, hu, hlb, hn => by
    have hpl : p = cs.length := by
      have := List.drop_eq_nil_iff.mp hd; omega
    exact ⟨p, rfl, hs, hp, (fun h => by cases h), fun _ => ⟨hpl, rfl, fun j hj => by
      by_cases h : j < p
      · exact hn j hj h
      · rw [List.getElem?_eq_none (by omega)]; simp⟩, (fun h => by cases h), fun j hj h => hn j hj (by omega), fun _ j hj h => hn j hj h⟩
  | c :: r, p, used, col, lb, hd, hp, hs, hu, hlb, hn => by
    have hlt : p < cs.length := by
      rcases Nat.lt_or_ge p cs.length with h | h
      · exact h
      · rw [List.drop_of_length_le h] at hd; cases hd
    have hc : cs[p]? = some c := by
      have := congrArg List.head? hd
      rw [List.head?_drop] at this; simpa using this
    have hr : cs.drop (p + 1) = r := by
      have : cs.drop (p + 1) = (cs.drop p).drop 1 := by rw [List.drop_drop]
      rw [this, hd]; rfl
    rw [foldR_cons]
    by_cases h10 : c = 10
    · subst h10
      rw [if_pos rfl]
      exact ⟨p + 1, rfl, by omega, hlt, fun _ => by omega, (fun h => by cases h), fun _ => ⟨rfl, by simpa using hc⟩, fun j hj h => hn j hj (by omega), (fun h => by cases h)⟩
    · rw [if_neg h10]
      have hn' : ∀ j, s ≤ j → j < p + 1 → cs[j]? ≠ some 10 := fun j hj h => by
        by_cases h' : j < p
        · exact hn j hj h'
        · have : j = p := by omega
          rw [this, hc]; simpa using h10
      by_cases hov : (used : Int) + (shown c col).length > room
      · rw [if_pos hov]
        by_cases hin : (c = 9 ∧ (used : Int) < room) ∨ used = 0
        · rw [if_pos hin]
          exact ⟨p + 1, rfl, by omega, hlt, fun _ => by omega, (fun h => by cases h), (fun h => by cases h), fun j hj h => hn' j hj (by omega), fun _ j hj h => hn' j hj h⟩
        · rw [if_neg hin]
          have hu0 : 0 < used := by
            rcases Nat.eq_zero_or_pos used with h | h
            · exact absurd (.inr h) hin
            · exact h
          cases lb with
          | none => exact ⟨p, rfl, hs, hp, fun _ => hu hu0, (fun h => by cases h), (fun h => by cases h), fun j hj h => hn j hj (by omega), fun _ j hj h => hn j hj h⟩
          | some x =>
            obtain ⟨e, nc⟩ := x
            obtain ⟨e', h1, h2, h3⟩ := hlb e nc rfl
            exact ⟨e', h1, by omega, by omega, fun _ => h2, (fun h => by cases h), (fun h => by cases h), fun j hj h => hn j hj (by omega), fun _ j hj h => hn j hj (by omega)⟩
      · rw [if_neg hov]
        refine foldR_ends cs room wr s r (p + 1) _ _ _ hr hlt (by omega) (fun _ => by omega) (fun e nc h => ?_) hn'
        split at h
        · cases h; exact ⟨p + 1, rfl, by omega, Nat.le_refl _⟩
        · obtain ⟨e', h1, h2, h3⟩ := hlb e nc h
          exact ⟨e', h1, h2, by omega⟩
theorem cutR_ends (cs : List Int) (s : Nat) : ∀ (l : List Int) (p : Nat), cs.drop p = l → p ≤ cs.length → s ≤ p → (∀ j, s ≤ j → j < p → cs[j]? ≠ some 10) → Ends cs s (cutR l p).1 0 (!(cutR l p).2) (cutR l p).2
  | [], p, hd, hp, hs, hn => by
    have hpl : p = cs.length := by
      have := List.drop_eq_nil_iff.mp hd; omega
    exact ⟨p, rfl, hs, hp, (fun h => by cases h), fun _ => ⟨hpl, rfl, fun j hj => by
      by_cases h : j < p
      · exact hn j hj h
      · rw [List.getElem?_eq_none (by omega)]; simp⟩, (fun h => by cases h), fun j hj h => hn j hj (by omega), fun _ j hj h => hn j hj h⟩
  | c :: r, p, hd, hp, hs, hn => by
    have hlt : p < cs.length := by
      rcases Nat.lt_or_ge p cs.length with h | h
      · exact h
      · rw [List.drop_of_length_le h] at hd; cases hd
    have hc : cs[p]? = some c := by
      have := congrArg List.head? hd
      rw [List.head?_drop] at this; simpa using this
    have hr : cs.drop (p + 1) = r := by
      have : cs.drop (p + 1) = (cs.drop p).drop 1 := by rw [List.drop_drop]
      rw [this, hd]; rfl
    have e1 : cutR (c :: r) p = if c = 10 then (1 + ((p + 1 : Nat) : Int), false) else cutR r (p + 1) := rfl
    rw [e1]
    by_cases h10 : c = 10
    · subst h10
      rw [if_pos rfl]
      exact ⟨p + 1, rfl, by omega, hlt, fun _ => by omega, (fun h => by cases h), fun _ => ⟨rfl, by simpa using hc⟩, fun j hj h => hn j hj (by omega), (fun h => by cases h)⟩
    · rw [if_neg h10]
      refine cutR_ends cs s r (p + 1) hr hlt (by omega) fun j hj h => ?_
      by_cases h' : j < p
      · exact hn j hj h'
      · have : j = p := by omega
        rw [this, hc]; simpa using h10

/-- the row that is laid from p places on -/
def layR (cs : List Int) (tr wr : Bool) (width : Int) (p : Nat) (col : Int) : RD :=
  if tr then ⟨1 + p, 0, (cutR (cs.drop p) p).1, 0, !(cutR (cs.drop p) p).2, (cutR (cs.drop p) p).2⟩
  else ⟨1 + p, col, (foldR (width - 1) wr (cs.drop p) p 0 col none).1, (foldR (width - 1) wr (cs.drop p) p 0 col none).2.1, (foldR (width - 1) wr (cs.drop p) p 0 col none).2.2.1, (foldR (width - 1) wr (cs.drop p) p 0 col none).2.2.2⟩
theorem layR_s (cs : List Int) (tr wr : Bool) (width : Int) (p : Nat) (col : Int) : (layR cs tr wr width p col).s = 1 + p := by unfold layR; cases tr <;> rfl
theorem layR_ends (cs : List Int) (tr wr : Bool) (width : Int) (p : Nat) (col : Int) (hp : p ≤ cs.length) : Ends cs p (layR cs tr wr width p col).e (layR cs tr wr width p col).nc (layR cs tr wr width p col).brk (layR cs tr wr width p col).fin := by
  unfold layR
  cases tr with
  | true => exact cutR_ends cs p _ p rfl hp (Nat.le_refl _) fun j h1 h2 => by omega
  | false => exact foldR_ends cs (width - 1) wr p _ p 0 col none rfl hp (Nat.le_refl _) (fun h => by omega) (fun e nc h => by cases h) fun j h1 h2 => by omega
/-- the place where a row ends -/
def RD.en (d : RD) : Nat := (d.e - 1).toNat
theorem layR_en (cs : List Int) (tr wr : Bool) (width : Int) (p : Nat) (col : Int) (hp : p ≤ cs.length) : (layR cs tr wr width p col).e = 1 + ((layR cs tr wr width p col).en : Int) ∧ p ≤ (layR cs tr wr width p col).en ∧ (layR cs tr wr width p col).en ≤ cs.length := by
  obtain ⟨e', h1, h2, h3, _⟩ := (layR_ends cs tr wr width p col hp).ex
  have : (layR cs tr wr width p col).en = e' := by unfold RD.en; omega
  rw [this]; exact ⟨h1, h2, h3⟩
def rowsN (cs : List Int) (tr wr : Bool) (width : Int) : Nat → Nat → Int → List RD
  | 0, _, _ => []
  | h + 1, p, col => layR cs tr wr width p col :: if (layR cs tr wr width p col).fin then [] else rowsN cs tr wr width h (layR cs tr wr width p col).en (layR cs tr wr width p col).nc

-- F11

structure RX where
  d : RD
  gl : List V
  le : Bool
  mark : Int
  rc : Int
abbrev rowV (r : RX) : V := .obj 279 rwN (rwL r.d.s r.d.col r.d.e r.d.nc (.lst r.gl) r.le r.d.brk r.d.fin r.mark r.rc)
def OkX (r : RX) : Prop := r.gl.length ≤ 1000 ∧ ∀ y ∈ r.gl, Trip y
theorem IsRow.x {d : RD} {v : V} (h : IsRow d v) : ∃ r : RX, r.d = d ∧ OkX r ∧ v = rowV r := by
  obtain ⟨gl, le, mk, rc, h1, h2, rfl⟩ := h
  exact ⟨⟨d, gl, le, mk, rc⟩, rfl, ⟨h1, h2⟩, rfl⟩
/-- what stays the same from call to call -/
structure Gd (cs : List Int) (width : Int) : Prop where
  cs : Codes cs
  w1 : 3 ≤ width
  w2 : width ≤ 7
theorem laid_row_ok (w : World) (cs : List Int) (width : Int) (G : Gd cs width) (tl : List V) (p : Nat) (hp : p ≤ cs.length) (col : Int) (tr wr : Bool) (H : AH) (q : Int) (hq : q = 1 + p) :
    C0 w 12 (.ref 325) [viewV cs, tblV tl, .tup [.int q, .int 0], .int col, .int width, optV tr wr] H (fun v H' => (∃ r : RX, r.d = layR cs tr wr width p col ∧ OkX r ∧ v = rowV r) ∧ H' = H) := by
  subst hq
  refine' CALL.fn ["view", "table", "spot", "column", "width", "options"] [("options", optV tr wr), ("width", .int width), ("column", .int col), ("spot", .tup [.int (1 + p), .int 0]), ("table", tblV tl), ("view", viewV cs)] ?ho ?hcd ?hb ?hn ?hρ ?hloc ?hco ?hgen ?hk ?hcell ?_
  case ho => k_is
  case hcd => k_is
  case hn => rfl
  case hb => exact vals6 (fun _ _ _ _ _ _ => rfl)
  case hρ => rfl
  case hloc => kernel_rfl
  case hco => rfl
  case hgen => rfl
  case hk => rfl
  case hcell => kernel_rfl
  refine SS.top fun _ _ => ?_
  walk_at "go"
  cases tr with
  | true =>
    walk_at "gb"
    refine CALLV.by (cut_ok w cs G.cs tl p hp width G.w1 G.w2 true wr H _ rfl) (by decide) ?_
    rintro v H' ⟨hv, rfl⟩
    walk_at "go"; exact ⟨hv.x, rfl⟩
  | false =>
    walk_at "gb"
    refine CALLV.by (folded_ok w cs G.cs tl p hp col width G.w1 G.w2 false wr H _ rfl) (by decide) ?_
    rintro v H' ⟨hv, rfl⟩
    walk_at "go"; exact ⟨hv.x, rfl⟩

structure LS where
  found : List RX
  p : Nat
  col : Int
theorem laid_rows_ok (w : World) (cs : List Int) (width : Int) (G : Gd cs width) (tl : List V) (p : Nat) (hp : p ≤ cs.length) (col : Int) (height : Nat) (hh : height ≤ 100) (tr wr : Bool) (H : AH) (q : Int) (hq : q = 1 + p) :
    C0 w 13 (.ref 332) [viewV cs, tblV tl, .tup [.int q, .int 0], .int col, .int height, .int width, optV tr wr] H (fun v H' => (∃ rs : List RX, rs.map RX.d = rowsN cs tr wr width height p col ∧ (∀ r ∈ rs, OkX r) ∧ v = .lst (rs.map rowV)) ∧ H' = H) := by
  subst hq
  refine CALL.re ?_
  refine' CALL.fn ["view", "table", "spot", "column", "height", "width", "options"] [("options", optV tr wr), ("width", .int width), ("height", .int height), ("column", .int col), ("spot", .tup [.int (1 + p), .int 0]), ("table", tblV tl), ("view", viewV cs)] ?ho ?hcd ?hb ?hn ?hρ ?hloc ?hco ?hgen ?hk ?hcell ?_
  case ho => k_is
  case hcd => k_is
  case hn => rfl
  case hb => exact vals7 (fun _ _ _ _ _ _ _ => rfl)
  case hρ => rfl
  case hloc => kernel_rfl
  case hco => rfl
  case hgen => rfl
  case hk => rfl
  case hcell => kernel_rfl
  refine SS.top fun _ _ => ?_
  walk_at "go"
  walk_at "lm"
  walk_at "go"
  refine ⟨by exact Nat.le_of_ble_eq_true rfl, fun f hf => ?_⟩
  walk_at "c"
  have done : ∀ (U : AH) (rs : List RX), (∀ b o, H b = some o → U b = some o) → rs.map RX.d = rowsN cs tr wr width height p col → (∀ r ∈ rs, OkX r) → ∃ x' H'', Re (.ptr f) (upd U f (some (.lst (rs.map rowV)))) x' H'' ∧ (∃ rs : List RX, rs.map RX.d = rowsN cs tr wr width height p col ∧ (∀ r ∈ rs, OkX r) ∧ x' = .lst (rs.map rowV)) ∧ H'' = H := by
    intro U rs hU h1 h2
    refine ⟨_, H, .frzL (upd_same _ _ _) (.drop (H' := H) (fun b o e => ?_) .refl), ⟨rs, h1, h2, rfl⟩, rfl⟩
    rw [upd_upd, upd_ne _ _ (ne_none hf e)]; exact hU b o e
  refine S1.while (σ := LS) (fun x => x.p ≤ cs.length ∧ x.found.length ≤ height ∧ (∀ r ∈ x.found, OkX r) ∧ x.found.map RX.d ++ rowsN cs tr wr width (height - x.found.length) x.p x.col = rowsN cs tr wr width height p col)
    (fun x => height - x.found.length)
    (fun x => [(("found" : Str), V.ptr f), (("options" : Str), optV tr wr), (("width" : Str), V.int width), (("height" : Str), V.int height), (("column" : Str), V.int x.col), (("spot" : Str), V.tup [.int (1 + (x.p : Int)), .int 0]), (("table" : Str), tblV tl), (("view" : Str), viewV cs)])
    (fun x => upd H f (some (.lst (x.found.map rowV))))
    ⟨[], p, col⟩ ⟨hp, by simp, by simp, by simp⟩ ?_ (fun _ _ h => h) ?_
  · exact .cons rfl (.cons rfl (.cons rfl (.cons rfl (.cons rfl (.cons rfl (.cons rfl (.cons rfl .nil)))))))
  intro x hx
  obtain ⟨fs, p', c⟩ := x
  obtain ⟨h1, h2, h3, h4⟩ := hx
  simp only at h1 h2 h3 h4
  walk_at "go"
  refine CALLV.len (l := fs.map rowV) (.inr (.inr ⟨f, rfl, by walk_at "hh"⟩)) (by simp; omega) ?_
  walk_at "go"
  rw [List.length_map]
  refine ⟨fun hlt => ?_, fun hlt => ?_⟩
  · have hlt : fs.length < height := by simpa using hlt
    have hE := layR_en cs tr wr width p' c h1
    have hN : rowsN cs tr wr width (height - fs.length) p' c = layR cs tr wr width p' c :: if (layR cs tr wr width p' c).fin then [] else rowsN cs tr wr width (height - (fs.length + 1)) (layR cs tr wr width p' c).en (layR cs tr wr width p' c).nc := by
      have : height - fs.length = (height - (fs.length + 1)) + 1 := by omega
      rw [this]; rfl
    rw [hN] at h4
    walk_at "go"
    refine CALLV.by (laid_row_ok w cs width G tl p' h1 c tr wr _ _ rfl) (by decide) ?_
    rintro v H' ⟨⟨r, hd, hok, rfl⟩, rfl⟩
    walk_at "go"
    have hmap : fs.map rowV ++ [rowV r] = (fs ++ [r]).map rowV := by simp
    have hok2 : ∀ y ∈ fs ++ [r], OkX y := fun y hy => (List.mem_append.mp hy).elim (h3 y) (fun h => by rw [List.mem_singleton.mp h]; exact hok)
    rw [upd_upd, hmap]
    walk_at "go"
    rw [← hd] at h4 hE
    refine ⟨fun hfin => ?_, fun hfin => ?_⟩
    · walk_at "go"
      refine done H _ (fun _ _ e => e) ?_ hok2
      rw [← h4, if_pos hfin, List.map_append]; rfl
    · rw [hfin] at h4
      refine SS.nil ?_
      walk_at "c"
      refine S1.assignSw (names := ["spot", "column"]) (fun _ => rfl) (fun _ _ _ _ _ => rfl) (by decide +kernel) (by simp) ?_
      walk_at "go"
      refine ⟨by exact Nat.le_of_ble_eq_true rfl, _, rfl, rfl, ?_⟩
      walk_at "go"
      refine ⟨⟨fs ++ [r], r.d.en, r.d.nc⟩, ⟨hE.2.2, by simp; omega, hok2, ?_⟩, by simp only [List.length_append, List.length_singleton]; omega, ?_, fun _ _ h => h⟩
      · rw [← h4, List.map_append, List.append_assoc, List.length_append]; rfl
      · refine .cons rfl (.cons rfl (.cons rfl (.cons rfl (.cons rfl (.cons ?_ (.cons rfl (.cons rfl .nil)))))))
        show some _ = some _
        rw [← hE.1]
  · have hge : fs.length = height := by
      have : ¬ fs.length < height := by simpa using hlt
      omega
    walk_at "c"
    walk_at "go"
    refine done H fs (fun _ _ e => e) ?_ h3
    rw [← h4, hge, Nat.sub_self]
    simp [rowsN]

-- F12

def lineBegin (cs : List Int) : Nat → Nat
  | 0 => 0
  | p + 1 => if cs[p]? = some 10 then p + 1 else lineBegin cs p
theorem lineBegin_le (cs : List Int) : ∀ p, lineBegin cs p ≤ p
  | 0 => Nat.le_refl _
  | p + 1 => by unfold lineBegin; split; exact Nat.le_refl _; exact Nat.le_succ_of_le (lineBegin_le cs p)
theorem line_begin_ok (w : World) (cs : List Int) (hcs : Codes cs) (p : Nat) (hp : p ≤ cs.length) (H : AH) (q : Int) (hq : q = 1 + p) :
    C0 w 5 (.ref 339) [viewV cs, .int q] H (fun v H' => v = .int (1 + (lineBegin cs p : Int)) ∧ H' = H) := by
  subst hq
  refine' CALL.fn ["view", "place"] [("place", .int (1 + p)), ("view", viewV cs)] ?ho ?hcd ?hb ?hn ?hρ ?hloc ?hco ?hgen ?hk ?hcell ?_
  case ho => k_is
  case hcd => k_is
  case hn => rfl
  case hb => exact vals2 (fun _ _ => rfl)
  case hρ => rfl
  case hloc => kernel_rfl
  case hco => rfl
  case hgen => rfl
  case hk => rfl
  case hcell => kernel_rfl
  refine SS.top fun _ _ => ?_
  walk_at "c"
  refine S1.while (σ := Nat) (fun x => x ≤ cs.length ∧ lineBegin cs x = lineBegin cs p) (fun x => x) (fun x => [(("place" : Str), V.int (1 + (x : Int))), (("view" : Str), viewV cs)]) (fun _ => H) p ⟨hp, rfl⟩ (.cons rfl (.cons rfl .nil)) (fun _ _ h => h) ?_
  intro x hx
  obtain ⟨h1, h2⟩ := hx
  walk_at "go"
  refine CALLV.by (begin_ok w cs _) (by decide) ?_
  walk_at "u"
  walk_at "go"
  cases x with
  | zero =>
    walk_at "gb"
    refine ⟨?_, rfl⟩
    rw [← h2]; rfl
  | succ x =>
    have hlt : x < cs.length := by omega
    walk_at "gb"
    refine CALLV.by (is_break_ok w cs hcs x cs[x] _ (List.getElem?_eq_getElem hlt) (by push_cast; omega) _) (by decide) ?_
    walk_at "u"
    have hl : lineBegin cs (x + 1) = if cs[x]? = some 10 then x + 1 else lineBegin cs x := rfl
    rw [List.getElem?_eq_getElem hlt] at hl
    by_cases h10 : cs[x] = 10
    · rw [h10, if_pos rfl] at hl
      walk_at "gb"
      refine ⟨?_, rfl⟩
      rw [← h2, hl]; rfl
    · rw [if_neg (by simpa using h10)] at hl
      walk_at "gb"
      refine ⟨x, ⟨by omega, by rw [← h2, hl]⟩, Nat.lt_succ_self _, .cons ?_ (.cons rfl .nil), fun _ _ h => h⟩
      show some _ = some _
      congr 2
      push_cast; omega
theorem own_spot_ok (w : World) (cs : List Int) (q : Int) (H : AH) : C0 w 3 (.ref 353) [viewV cs, .int q] H (fun v H' => v = .tup [.int q, .int 0] ∧ H' = H) := by
  refine' CALL.fn ["view", "place"] [("place", .int q), ("view", viewV cs)] ?ho ?hcd ?hb ?hn ?hρ ?hloc ?hco ?hgen ?hk ?hcell ?_
  case ho => k_is
  case hcd => k_is
  case hn => rfl
  case hb => exact vals2 (fun _ _ => rfl)
  case hρ => rfl
  case hloc => kernel_rfl
  case hco => rfl
  case hgen => rfl
  case hk => rfl
  case hcell => kernel_rfl
  refine SS.top fun _ _ => ?_
  walk_at "go"
  refine CALLV.by (string_count_ok w cs _ _) (by decide) ?_
  walk_at "u"
  walk_at "go"
  refine ⟨by exact Nat.le_of_ble_eq_true rfl, ?_⟩; walk_at "go"; exact ⟨rfl, rfl⟩

def lineN (cs : List Int) (tr wr : Bool) (width : Int) : Nat → Nat → Int → List RD
  | 0, _, _ => []
  | h + 1, p, col => layR cs tr wr width p col :: if (layR cs tr wr width p col).brk || (layR cs tr wr width p col).fin then [] else lineN cs tr wr width h (layR cs tr wr width p col).en (layR cs tr wr width p col).nc
structure MS where
  pre : List RX
  r : RX
  p : Nat
  col : Int
  k : Nat
theorem rows_of_line_ok (w : World) (cs : List Int) (width : Int) (G : Gd cs width) (tl : List V) (p : Nat) (hp : p ≤ cs.length) (tr wr : Bool) (H : AH) (q : Int) (hq : q = 1 + p) :
    C0 w 13 (.ref 346) [viewV cs, tblV tl, .tup [.int q, .int 0], .int width, optV tr wr] H (fun v H' => (∃ rs : List RX, rs.map RX.d = lineN cs tr wr width 100 p 0 ∧ (∀ r ∈ rs, OkX r) ∧ v = .lst (rs.map rowV)) ∧ H' = H) := by
  subst hq
  have h24 := G.cs.2
  refine CALL.re ?_
  refine' CALL.fn ["view", "table", "spot", "width", "options"] [("options", optV tr wr), ("width", .int width), ("spot", .tup [.int (1 + p), .int 0]), ("table", tblV tl), ("view", viewV cs)] ?ho ?hcd ?hb ?hn ?hρ ?hloc ?hco ?hgen ?hk ?hcell ?_
  case ho => k_is
  case hcd => k_is
  case hn => rfl
  case hb => exact vals5 (fun _ _ _ _ _ => rfl)
  case hρ => rfl
  case hloc => kernel_rfl
  case hco => rfl
  case hgen => rfl
  case hk => rfl
  case hcell => kernel_rfl
  refine SS.top fun _ _ => ?_
  walk_at "go"
  walk_at "lm"
  walk_at "go"
  refine CALLV.by (laid_row_ok w cs width G tl p hp 0 tr wr _ _ rfl) (by decide) ?_
  rintro v H' ⟨⟨r0, hd0, hok0, rfl⟩, rfl⟩
  walk_at "go"
  refine ⟨by exact Nat.le_of_ble_eq_true rfl, fun f hf => ?_⟩
  walk_at "c"
  have done : ∀ (rs : List RX), rs.map RX.d = lineN cs tr wr width 100 p 0 → (∀ r ∈ rs, OkX r) → ∃ x' H'', Re (.ptr f) (upd H' f (some (.lst (rs.map rowV)))) x' H'' ∧ (∃ rs : List RX, rs.map RX.d = lineN cs tr wr width 100 p 0 ∧ (∀ r ∈ rs, OkX r) ∧ x' = .lst (rs.map rowV)) ∧ H'' = H' := by
    intro rs h1 h2
    refine ⟨_, H', .frzL (upd_same _ _ _) (.drop (H' := H') (fun b o e => ?_) .refl), ⟨rs, h1, h2, rfl⟩, rfl⟩
    rw [upd_upd, upd_ne _ _ (ne_none hf e)]; exact e
  refine S1.while (σ := MS) (fun x => x.p ≤ cs.length ∧ x.r.d = layR cs tr wr width x.p x.col ∧ x.pre.length + x.k = 100 ∧ 100 ≤ x.k + x.p ∧ (∀ r ∈ x.pre ++ [x.r], OkX r) ∧ x.pre.map RX.d ++ lineN cs tr wr width x.k x.p x.col = lineN cs tr wr width 100 p 0)
    (fun x => cs.length - x.p)
    (fun x => [(("found" : Str), V.ptr f), (("options" : Str), optV tr wr), (("width" : Str), V.int width), (("table" : Str), tblV tl), (("view" : Str), viewV cs)])
    (fun x => upd H' f (some (.lst ((x.pre ++ [x.r]).map rowV))))
    ⟨[], r0, p, 0, 100⟩ ⟨hp, hd0, rfl, by simp, by simpa using hok0, rfl⟩ ?_ (fun _ _ h => h) ?_
  · exact .cons rfl (.cons rfl (.cons rfl (.cons rfl (.cons rfl .nil))))
  intro x hx
  obtain ⟨pre, r, p', c, k⟩ := x
  obtain ⟨h1, h2, h3, h4, h5, h6⟩ := hx
  simp only at h1 h2 h3 h4 h5 h6
  have hlen : ((pre ++ [r]).map rowV).length = pre.length + 1 := by simp
  have hidx : seqIndex? (-1) ((pre ++ [r]).map rowV).length = some pre.length := by
    rw [hlen]; unfold seqIndex?; simp; omega
  have hget : ((pre ++ [r]).map rowV)[pre.length]? = some (rowV r) := by simp
  have item : ITEM (upd H' f (some (.lst ((pre ++ [r]).map rowV)))) (.ptr f) ((pre ++ [r]).map rowV) := .inr (.inr (.inl ⟨f, rfl, upd_same _ _ _⟩))
  have hL : ∃ k', k = k' + 1 := ⟨k - 1, by omega⟩
  obtain ⟨k', rfl⟩ := hL
  have hN : lineN cs tr wr width (k' + 1) p' c = layR cs tr wr width p' c :: if (layR cs tr wr width p' c).brk || (layR cs tr wr width p' c).fin then [] else lineN cs tr wr width k' (layR cs tr wr width p' c).en (layR cs tr wr width p' c).nc := rfl
  rw [hN, ← h2] at h6
  have hE := layR_en cs tr wr width p' c h1
  have hE2 := (layR_ends cs tr wr width p' c h1).ex
  rw [← h2] at hE hE2
  have stop : (r.d.brk || r.d.fin) = true → (pre ++ [r]).map RX.d = lineN cs tr wr width 100 p 0 := fun h => by
    rw [← h6, if_pos h, List.map_append]; rfl
  walk_at "go"
  refine ⟨_, _, _, _, rfl, item, by rw [hlen]; omega, hidx, hget, ?_⟩
  walk_at "go"
  cases hb : r.d.brk with
  | true =>
    walk_at "gb"
    refine done (pre ++ [r]) (stop (by rw [hb]; rfl)) h5
  | false =>
    walk_at "gb"
    refine ⟨_, _, _, _, rfl, item, by rw [hlen]; omega, hidx, hget, ?_⟩
    walk_at "go"
    cases hfin : r.d.fin with
    | true =>
      walk_at "gb"
      refine done (pre ++ [r]) (stop (by rw [hb, hfin]; rfl)) h5
    | false =>
      walk_at "gb"
      refine ⟨_, _, _, _, rfl, item, by rw [hlen]; omega, hidx, hget, ?_⟩
      walk_at "gb"
      refine ⟨f, _, rfl, upd_same _ _ _, ?_⟩
      walk_at "gb"
      rw [hb, hfin] at h6
      refine CALLV.by (laid_row_ok w cs width G tl r.d.en hE.2.2 r.d.nc tr wr _ _ hE.1) (by decide) ?_
      rintro v H2 ⟨⟨r2, hd2, hok2, rfl⟩, rfl⟩
      refine ⟨_, upd_same _ _ _, by rw [hlen]; omega, ?_⟩
      rw [upd_upd]
      walk_at "gb"
      obtain ⟨e', g1, g2, g3, g4, _⟩ := hE2
      have hen : r.d.en = e' := by unfold RD.en; omega
      have := g4 hfin
      refine ⟨⟨pre ++ [r], r2, r.d.en, r.d.nc, k'⟩, ⟨hE.2.2, hd2, by simp; omega, by simp only; omega, ?_, ?_⟩, by simp only; omega, .cons rfl (.cons rfl (.cons rfl (.cons rfl (.cons rfl .nil)))), ?_⟩
      · intro y hy
        exact (List.mem_append.mp hy).elim (h5 y) (fun h => by rw [List.mem_singleton.mp h]; exact hok2)
      · rw [← h6, List.map_append, List.append_assoc]; rfl
      · intro b o hb2
        rw [← hb2]
        simp

-- F13

theorem bb_enum : bootBuiltins (Str.ofString "enumerate") = some (.type "enumerate") := by kernel_rfl
/-- the first row that ends behind a place -/
def idxF : List RD → Int → Nat
  | [], _ => 0
  | d :: r, q => if q < d.e then 0 else idxF r q + 1
def idxOf (ds : List RD) (q : Int) : Nat := if idxF ds q < ds.length then idxF ds q else ds.length - 1
theorem idxF_at : ∀ (ds : List RD) (q : Int) (i : Nat) (d : RD), ds[i]? = some d → i ≤ idxF ds q → (q < d.e → idxF ds q = i) ∧ (¬ q < d.e → i + 1 ≤ idxF ds q)
  | [], q, i, d, h, _ => by simp at h
  | x :: r, q, i, d, h, hi => by
    unfold idxF at hi ⊢
    cases i with
    | zero =>
      simp at h; subst h
      refine ⟨fun h => by rw [if_pos h], fun h => by rw [if_neg h]; omega⟩
    | succ i =>
      simp at h
      by_cases hx : q < x.e
      · rw [if_pos hx] at hi; omega
      · rw [if_neg hx] at hi ⊢
        obtain ⟨a, b⟩ := idxF_at r q i d h (by omega)
        exact ⟨fun h => by rw [a h], fun h => by have := b h; omega⟩
theorem index_of_ok (w : World) (rs : List RX) (hl : rs.length ≤ 1000) (q : Int) (H : AH) :
    C0 w 1 (.ref 360) [.lst (rs.map rowV), .tup [.int q, .int 0]] H (fun v H' => (v = .int (if idxF (rs.map RX.d) q < rs.length then (idxF (rs.map RX.d) q : Int) else rs.length - 1)) ∧ H' = H) := by
  refine' CALL.fn ["rows", "spot"] [("spot", .tup [.int q, .int 0]), ("rows", .lst (rs.map rowV))] ?ho ?hcd ?hb ?hn ?hρ ?hloc ?hco ?hgen ?hk ?hcell ?_
  case ho => k_is
  case hcd => k_is
  case hn => rfl
  case hb => exact vals2 (fun _ _ => rfl)
  case hρ => rfl
  case hloc => kernel_rfl
  case hco => rfl
  case hgen => rfl
  case hk => rfl
  case hcell => kernel_rfl
  refine SS.top fun _ _ => ?_
  walk_at "c"
  refine S1.forE (by kernel_rfl) (by k_is) bb_enum rfl (fun _ _ => rfl) (fun _ => rfl) ?_
  walk_at "go"
  refine ⟨_, rfl, ?_⟩
  refine FORT.enum (fun i ρ' H' => H' = H ∧ ρ'.lookup ("spot" : Str) = some (.tup [.int q, .int 0]) ∧ ρ'.lookup ("rows" : Str) = some (V.lst (rs.map rowV)) ∧ i ≤ idxF (rs.map RX.d) q) (rs.map rowV) 0 _ H ⟨rfl, rfl, rfl, Nat.zero_le _⟩ ?_ ?_
  · rintro i x ρ' H' hx ⟨rfl, h1, h2, h3⟩
    rw [Nat.zero_add] at h3
    rw [List.getElem?_map] at hx
    cases hr : rs[i]? with
    | none => rw [hr] at hx; cases hx
    | some r =>
      rw [hr] at hx
      simp only [Option.map_some, Option.some.injEq] at hx
      subst hx
      have hd : (rs.map RX.d)[i]? = some r.d := by rw [List.getElem?_map, hr]; rfl
      have hlt : i < rs.length := by
        rcases Nat.lt_or_ge i rs.length with h | h
        · exact h
        · rw [List.getElem?_eq_none h] at hr; cases hr
      obtain ⟨a, b⟩ := idxF_at _ q i _ hd h3
      walk_at "go"
      by_cases hq : q < r.d.e
      · refine brT (by simp; omega) ?_
        walk_at "go"
        refine ⟨?_, rfl⟩
        rw [a hq, if_pos hlt]
        simp [Fl.val]
      · refine brF (by simp; omega) ?_
        walk_at "go"
        exact ⟨rfl, h1, h2, by have := b hq; omega⟩
  · rintro ρ' H' ⟨rfl, h1, h2, h3⟩
    rw [Nat.zero_add, List.length_map] at h3
    walk_at "go"
    refine CALLV.len (l := rs.map rowV) (.inr (.inl rfl)) (by simp; omega) ?_
    walk_at "go"
    rw [if_neg (by omega), List.length_map]
    exact ⟨rfl, rfl⟩

-- F14

theorem index_ok (w : World) (rs : List RX) (hl : rs.length ≤ 1000) (h0 : 0 < rs.length) (q : Int) (H : AH) :
    C0 w 1 (.ref 360) [.lst (rs.map rowV), .tup [.int q, .int 0]] H (fun v H' => v = .int (idxOf (rs.map RX.d) q : Nat) ∧ H' = H) := by
  refine (index_of_ok w rs hl q H).mono ?_
  walk_at "u"
  refine ⟨?_, rfl⟩
  congr 1
  unfold idxOf
  rw [List.length_map]
  split
  · rfl
  · omega
theorem idxOf_lt (ds : List RD) (q : Int) (h : 0 < ds.length) : idxOf ds q < ds.length := by
  unfold idxOf; split <;> omega
theorem column_in_ok (w : World) (r : RX) (hr : OkX r) (q : Int) (H : AH) : C0 w 1 (.ref 381) [rowV r, .int q] H (fun v H' => (∃ k, v = .int k) ∧ H' = H) := by
  refine' CALL.fn ["row", "place"] [("place", .int q), ("row", rowV r)] ?ho ?hcd ?hb ?hn ?hρ ?hloc ?hco ?hgen ?hk ?hcell ?_
  case ho => k_is
  case hcd => k_is
  case hn => rfl
  case hb => exact vals2 (fun _ _ => rfl)
  case hρ => rfl
  case hloc => kernel_rfl
  case hco => rfl
  case hgen => rfl
  case hk => rfl
  case hcell => kernel_rfl
  refine SS.top fun _ _ => ?_
  walk_at "c"
  refine S1.forE (by kernel_rfl) (by k_is) bb_enum rfl (fun _ _ => rfl) (fun _ => rfl) ?_
  walk_at "go"
  refine ⟨_, rfl, ?_⟩
  refine FORT.enum (fun i ρ' H' => H' = H ∧ ρ'.lookup ("place" : Str) = some (.int q) ∧ ρ'.lookup ("row" : Str) = some (rowV r)) r.gl 0 _ H ⟨rfl, rfl, rfl⟩ ?_ ?_
  · rintro i x ρ' H' hx ⟨rfl, h1, h2⟩
    obtain ⟨a, b, c, rfl⟩ := hr.2 x (List.mem_of_getElem? hx)
    walk_at "go"
    walk_at "go"
    refine ⟨fun h => ?_, fun h => ?_⟩
    · walk_at "go"
      exact ⟨⟨_, rfl⟩, rfl⟩
    · walk_at "go"
      exact ⟨rfl, h1, h2⟩
  · rintro ρ' H' ⟨rfl, h1, h2⟩
    walk_at "go"
    refine CALLV.len (l := r.gl) (.inr (.inl rfl)) (by have := hr.1; omega) ?_
    walk_at "go"
    exact ⟨⟨_, rfl⟩, rfl⟩
theorem is_hidden_ok (w : World) (cs : List Int) (hcs : Codes cs) (q : Int) (H : AH) : C0 w 3 (.ref 367) [viewV cs, .int q] H (fun v H' => v = .bool false ∧ H' = H) := by
  refine' CALL.fn ["view", "place"] [("place", .int q), ("view", viewV cs)] ?ho ?hcd ?hb ?hn ?hρ ?hloc ?hco ?hgen ?hk ?hcell ?_
  case ho => k_is
  case hcd => k_is
  case hn => rfl
  case hb => exact vals2 (fun _ _ => rfl)
  case hρ => rfl
  case hloc => kernel_rfl
  case hco => rfl
  case hgen => rfl
  case hk => rfl
  case hcell => kernel_rfl
  refine SS.top fun _ _ => ?_
  walk_at "go"
  refine CALLV.by (end_ok w cs hcs _) (by decide) ?_
  walk_at "u"
  walk_at "go"
  refine ⟨fun h => ?_, fun h => ?_⟩
  · walk_at "gb"
    refine CALLV.by (hidden_at_ok w cs _ _) (by decide) ?_
    walk_at "u"
    walk_at "gb"
    exact ⟨rfl, rfl⟩
  · walk_at "go"; refine ⟨?_, rfl⟩
    rw [h]; rfl
theorem seq_nat {i n : Nat} (h : i < n) : seqIndex? (i : Int) n = some i := by
  unfold seqIndex?; simp; omega
theorem seq_last {n : Nat} (h : 0 < n) : seqIndex? (-1) n = some (n - 1) := by
  unfold seqIndex?; simp; omega
def hasP (r0 rl : RD) (q : Int) : Bool := if q < r0.s then false else decide (q < rl.e) || rl.fin
theorem has_place_ok (w : World) (cs : List Int) (hcs : Codes cs) (rs : List RX) (hl : rs.length ≤ 1000) (r0 rl : RX) (h0 : rs[0]? = some r0) (hlast : rs[rs.length - 1]? = some rl) (q : Int) (H : AH) :
    C0 w 4 (.ref 374) [viewV cs, .lst (rs.map rowV), .int q] H (fun v H' => v = .bool (hasP r0.d rl.d q) ∧ H' = H) := by
  have hpos : 0 < rs.length := by
    rcases Nat.eq_zero_or_pos rs.length with h | h
    · rw [List.getElem?_eq_none (by omega)] at h0; cases h0
    · exact h
  have g0 : (rs.map rowV)[0]? = some (rowV r0) := by rw [List.getElem?_map, h0]; rfl
  have gl : (rs.map rowV)[rs.length - 1]? = some (rowV rl) := by rw [List.getElem?_map, hlast]; rfl
  have s0 : seqIndex? 0 (rs.map rowV).length = some 0 := seq_nat (by simpa using hpos)
  have sl : seqIndex? (-1) (rs.map rowV).length = some (rs.length - 1) := by rw [List.length_map]; exact seq_last hpos
  refine' CALL.fn ["view", "rows", "place"] [("place", .int q), ("rows", .lst (rs.map rowV)), ("view", viewV cs)] ?ho ?hcd ?hb ?hn ?hρ ?hloc ?hco ?hgen ?hk ?hcell ?_
  case ho => k_is
  case hcd => k_is
  case hn => rfl
  case hb => exact vals3 (fun _ _ _ => rfl)
  case hρ => rfl
  case hloc => kernel_rfl
  case hco => rfl
  case hgen => rfl
  case hk => rfl
  case hcell => kernel_rfl
  refine SS.top fun _ _ => ?_
  walk_at "go"
  walk_at "lf"
  walk_at "go"
  refine ⟨by exact Nat.le_of_ble_eq_true rfl, ?_⟩
  refine OP2.eqLd (l := rs.map rowV) (l' := []) (.inl rfl) (.inl rfl) (by simp; intro h; rw [h] at hpos; cases hpos) ?_
  walk_at "gb"
  refine CALLV.by (own_spot_ok w cs q _) (by decide) ?_
  walk_at "u"
  walk_at "gb"
  refine ⟨_, rs.map rowV, _, _, rfl, .inr (.inl rfl), by simp; omega, s0, g0, ?_⟩
  walk_at "go"
  by_cases hq : q < r0.d.s
  · refine brT (by simp; omega) ?_
    walk_at "go"
    refine CALLV.by (is_hidden_ok w cs hcs q _) (by decide) ?_
    walk_at "u"
    walk_at "gb"
    refine ⟨?_, rfl⟩
    unfold hasP; rw [if_pos hq]; rfl
  · refine brF (by simp; omega) ?_
    walk_at "gb"
    refine CALLV.by (own_spot_ok w cs q _) (by decide) ?_
    walk_at "u"
    walk_at "gb"
    refine ⟨_, rs.map rowV, _, _, rfl, .inr (.inl rfl), by simp; omega, sl, gl, ?_⟩
    walk_at "go"
    by_cases hq2 : q < rl.d.e
    · refine ⟨fun h => ?_, fun h => ?_⟩
      · walk_at "go"
        refine ⟨?_, rfl⟩
        unfold hasP; rw [if_neg hq]; simp [Fl.val, hq2]
      · simp [hq2] at h
    · refine ⟨fun h => ?_, fun h => ?_⟩
      · simp [hq2] at h
      · walk_at "go"
        refine ⟨_, rs.map rowV, _, _, rfl, .inr (.inl rfl), by simp; omega, sl, gl, ?_⟩
        walk_at "go"
        refine ⟨?_, rfl⟩
        unfold hasP; rw [if_neg hq]; simp [Fl.val, hq2]
theorem cursor_in_ok (w : World) (cs : List Int) (hcs : Codes cs) (rs : List RX) (hok : ∀ r ∈ rs, OkX r) (hl : rs.length ≤ 1000) (r0 rl : RX) (h0 : rs[0]? = some r0) (hlast : rs[rs.length - 1]? = some rl) (q : Int) (H : AH) :
    C0 w 5 (.ref 388) [viewV cs, .lst (rs.map rowV), .int q] H (fun v H' => (if hasP r0.d rl.d q then ∃ k, v = .tup [.int (idxOf (rs.map RX.d) q : Nat), .int k] else v = .none) ∧ H' = H) := by
  have hpos : 0 < rs.length := by
    rcases Nat.eq_zero_or_pos rs.length with h | h
    · rw [List.getElem?_eq_none (by omega)] at h0; cases h0
    · exact h
  refine' CALL.fn ["view", "rows", "place"] [("place", .int q), ("rows", .lst (rs.map rowV)), ("view", viewV cs)] ?ho ?hcd ?hb ?hn ?hρ ?hloc ?hco ?hgen ?hk ?hcell ?_
  case ho => k_is
  case hcd => k_is
  case hn => rfl
  case hb => exact vals3 (fun _ _ _ => rfl)
  case hρ => rfl
  case hloc => kernel_rfl
  case hco => rfl
  case hgen => rfl
  case hk => rfl
  case hcell => kernel_rfl
  refine SS.top fun _ _ => ?_
  walk_at "go"
  refine CALLV.by (has_place_ok w cs hcs rs hl r0 rl h0 hlast q _) (by decide) ?_
  walk_at "u"
  walk_at "go"
  cases hb : hasP r0.d rl.d q with
  | false =>
    walk_at "gb"
    refine ⟨?_, rfl⟩; rw [hb]; rfl
  | true =>
    walk_at "gb"
    refine CALLV.by (own_spot_ok w cs q _) (by decide) ?_
    walk_at "u"
    walk_at "gb"
    refine CALLV.by (index_ok w rs hl hpos q _) (by decide) ?_
    walk_at "u"
    walk_at "gb"
    have hi := idxOf_lt (rs.map RX.d) q (by simpa using hpos)
    rw [List.length_map] at hi
    refine ⟨_, rs.map rowV, _, rowV rs[idxOf (rs.map RX.d) q], rfl, .inr (.inl rfl), by simp; omega, seq_nat (by simpa using hi), by rw [List.getElem?_map, List.getElem?_eq_getElem hi]; rfl, ?_⟩
    walk_at "gb"
    refine CALLV.by (column_in_ok w _ (hok _ (List.getElem_mem hi)) q _) (by decide) ?_
    rintro v H' ⟨⟨k, rfl⟩, rfl⟩
    walk_at "gb"
    refine ⟨by exact Nat.le_of_ble_eq_true rfl, ?_⟩; walk_at "go"; refine ⟨?_, rfl⟩; rw [hb]; exact ⟨k, rfl⟩

-- F15

section lines
variable (cs : List Int) (tr wr : Bool) (width : Int)
/-- the rows of the line that begins b places on -/
def lnR (b : Nat) : List RD := lineN cs tr wr width 100 b 0
theorem lineN_len : ∀ (k p : Nat) (c : Int), (lineN cs tr wr width k p c).length ≤ k
  | 0, p, c => by simp [lineN]
  | k + 1, p, c => by
    unfold lineN
    split
    · simp
    · simp only [List.length_cons]; exact Nat.succ_le_succ (lineN_len k _ _)
theorem lineN_mem : ∀ (k p : Nat) (c : Int), p ≤ cs.length → ∀ d ∈ lineN cs tr wr width k p c, ∃ p' c', p' ≤ cs.length ∧ d = layR cs tr wr width p' c'
  | 0, p, c, hp, d, h => by simp [lineN] at h
  | k + 1, p, c, hp, d, h => by
    unfold lineN at h
    rcases List.mem_cons.mp h with rfl | h
    · exact ⟨p, c, hp, rfl⟩
    · split at h
      · cases h
      · exact lineN_mem k _ _ (layR_en cs tr wr width p c hp).2.2 d h
theorem lnR_len (b : Nat) : 0 < (lnR cs tr wr width b).length ∧ (lnR cs tr wr width b).length ≤ 100 := ⟨by unfold lnR lineN; simp, lineN_len cs tr wr width 100 b 0⟩
theorem lnR_zero (b : Nat) : (lnR cs tr wr width b)[0]? = some (layR cs tr wr width b 0) := rfl
def aheadP (x : Nat × Nat) : Option (Nat × Nat) := if 0 < x.2 then some (x.1, x.2 - 1) else if lineBegin cs x.1 = 0 then none else some (lineBegin cs (lineBegin cs x.1 - 1), (lnR cs tr wr width (lineBegin cs (lineBegin cs x.1 - 1))).length - 1)
def lastR (b : Nat) : RD := (lnR cs tr wr width b).getLast (List.ne_nil_of_length_pos (lnR_len cs tr wr width b).1)
def behindP (x : Nat × Nat) : Option (Nat × Nat) := if x.2 + 1 < (lnR cs tr wr width x.1).length then some (x.1, x.2 + 1) else if (lastR cs tr wr width x.1).fin then none else some ((lastR cs tr wr width x.1).en, 0)
def goN (f : Nat × Nat → Option (Nat × Nat)) : Nat → Nat × Nat → Nat × Nat
  | 0, x => x
  | k + 1, x => match f x with
    | none => x
    | some y => goN f k y
def startOf (x : Nat × Nat) : Int := match (lnR cs tr wr width x.1)[x.2]? with
  | some d => d.s
  | none => 0
def winCol (q : Int) (b : Nat) : Int := match (lnR cs tr wr width b)[idxOf (lnR cs tr wr width b) q]? with
  | some d => if d.s = q then d.col else 0
  | none => 0
end lines
/-- the rows that stand for a line -/
structure Ln (cs : List Int) (tr wr : Bool) (width : Int) (b : Nat) (rs : List RX) : Prop where
  bl : b ≤ cs.length
  d : rs.map RX.d = lnR cs tr wr width b
  ok : ∀ r ∈ rs, OkX r
theorem Ln.len {cs : List Int} {tr wr : Bool} {width : Int} {b : Nat} {rs : List RX} (h : Ln cs tr wr width b rs) : rs.length = (lnR cs tr wr width b).length := by rw [← h.d, List.length_map]
theorem Ln.pos {cs : List Int} {tr wr : Bool} {width : Int} {b : Nat} {rs : List RX} (h : Ln cs tr wr width b rs) : 0 < rs.length ∧ rs.length ≤ 100 := by rw [h.len]; exact lnR_len cs tr wr width b
theorem Ln.get {cs : List Int} {tr wr : Bool} {width : Int} {b : Nat} {rs : List RX} (h : Ln cs tr wr width b rs) {i : Nat} (hi : i < rs.length) : ∃ r, rs[i]? = some r ∧ (rs.map rowV)[i]? = some (rowV r) ∧ (lnR cs tr wr width b)[i]? = some r.d :=
  ⟨rs[i], List.getElem?_eq_getElem hi, by rw [List.getElem?_map, List.getElem?_eq_getElem hi]; rfl, by rw [← h.d, List.getElem?_map, List.getElem?_eq_getElem hi]; rfl⟩
theorem line_ok (w : World) (cs : List Int) (width : Int) (G : Gd cs width) (tl : List V) (p : Nat) (hp : p ≤ cs.length) (tr wr : Bool) (H : AH) (q : Int) (hq : q = 1 + p) :
    C0 w 13 (.ref 346) [viewV cs, tblV tl, .tup [.int q, .int 0], .int width, optV tr wr] H (fun v H' => (∃ rs : List RX, Ln cs tr wr width p rs ∧ v = .lst (rs.map rowV)) ∧ H' = H) := by
  refine (rows_of_line_ok w cs width G tl p hp tr wr H q hq).mono ?_
  rintro v H' ⟨⟨rs, h1, h2, h3⟩, rfl⟩
  exact ⟨⟨rs, ⟨hp, h1, h2⟩, h3⟩, rfl⟩
theorem window_begin_ok (w : World) (cs : List Int) (width : Int) (G : Gd cs width) (tl : List V) (p : Nat) (hp : p ≤ cs.length) (tr wr : Bool) (H : AH) (q : Int) (hq : q = 1 + p) :
    C0 w 14 (.ref 395) [viewV cs, tblV tl, .int q, .int width, optV tr wr] H (fun v H' => v = .tup [.tup [.int q, .int 0], .int (winCol cs tr wr width q (lineBegin cs p))] ∧ H' = H) := by
  refine' CALL.fn ["view", "table", "place", "width", "options"] [("options", optV tr wr), ("width", .int width), ("place", .int q), ("table", tblV tl), ("view", viewV cs)] ?ho ?hcd ?hb ?hn ?hρ ?hloc ?hco ?hgen ?hk ?hcell ?_
  case ho => k_is
  case hcd => k_is
  case hn => rfl
  case hb => exact vals5 (fun _ _ _ _ _ => rfl)
  case hρ => rfl
  case hloc => kernel_rfl
  case hco => rfl
  case hgen => rfl
  case hk => rfl
  case hcell => kernel_rfl
  refine SS.top fun _ _ => ?_
  have hlb := lineBegin_le cs p
  walk_at "go"
  refine CALLV.by (line_begin_ok w cs G.cs p hp _ q hq) (by decide) ?_
  walk_at "u"
  walk_at "go"
  refine ⟨by exact Nat.le_of_ble_eq_true rfl, ?_⟩
  walk_at "go"
  refine CALLV.by (line_ok w cs width G tl (lineBegin cs p) (by omega) tr wr _ _ rfl) (by decide) ?_
  rintro v H' ⟨⟨rs, hL, rfl⟩, rfl⟩
  obtain ⟨hpos, h100⟩ := hL.pos
  walk_at "go"
  refine CALLV.by (own_spot_ok w cs q _) (by decide) ?_
  walk_at "u"
  walk_at "go"
  refine CALLV.by (index_ok w rs (by omega) hpos q _) (by decide) ?_
  walk_at "u"
  have hi := idxOf_lt (rs.map RX.d) q (by simpa using hpos)
  rw [List.length_map] at hi
  obtain ⟨r, g1, g2, g3⟩ := hL.get hi
  refine ⟨_, rs.map rowV, _, _, rfl, .inr (.inl rfl), by simp; omega, seq_nat (by simpa using hi), g2, ?_⟩
  walk_at "go"
  walk_at "go"
  have hw : winCol cs tr wr width q (lineBegin cs p) = if r.d.s = q then r.d.col else 0 := by
    unfold winCol
    rw [hL.d] at g3
    rw [g3]
  by_cases hs : r.d.s = q
  · rw [if_pos hs] at hw
    walk_at "gb"
    refine ⟨by exact Nat.le_of_ble_eq_true rfl, ?_⟩; walk_at "go"; refine ⟨?_, rfl⟩
    rw [hw, ← hs]; rfl
  · rw [if_neg hs] at hw
    walk_at "gb"
    refine ⟨by exact Nat.le_of_ble_eq_true rfl, ?_⟩
    walk_at "gb"
    refine ⟨by exact Nat.le_of_ble_eq_true rfl, ?_⟩; walk_at "go"; refine ⟨?_, rfl⟩
    rw [hw]; rfl
theorem row_ahead_ok (w : World) (cs : List Int) (width : Int) (G : Gd cs width) (tl : List V) (tr wr : Bool) (b n : Nat) (rs : List RX) (hL : Ln cs tr wr width b rs) (hn : n < rs.length) (H : AH) :
    C0 w 14 (.ref 402) [viewV cs, tblV tl, .lst (rs.map rowV), .int n, .int width, optV tr wr] H (fun v H' => (match aheadP cs tr wr width (b, n) with
      | none => v = .none
      | some y => ∃ rs', Ln cs tr wr width y.1 rs' ∧ y.2 < rs'.length ∧ v = .tup [.lst (rs'.map rowV), .int y.2]) ∧ H' = H) := by
  refine' CALL.fn ["view", "table", "rows", "number", "width", "options"] [("options", optV tr wr), ("width", .int width), ("number", .int n), ("rows", .lst (rs.map rowV)), ("table", tblV tl), ("view", viewV cs)] ?ho ?hcd ?hb ?hn ?hρ ?hloc ?hco ?hgen ?hk ?hcell ?_
  case ho => k_is
  case hcd => k_is
  case hn => rfl
  case hb => exact vals6 (fun _ _ _ _ _ _ => rfl)
  case hρ => rfl
  case hloc => kernel_rfl
  case hco => rfl
  case hgen => rfl
  case hk => rfl
  case hcell => kernel_rfl
  refine SS.top fun _ _ => ?_
  obtain ⟨hpos, h100⟩ := hL.pos
  have hbl := hL.bl
  walk_at "go"
  by_cases h0 : 0 < n
  · have ha : aheadP cs tr wr width (b, n) = some (b, n - 1) := by unfold aheadP; rw [if_pos h0]
    refine brT (by simp; omega) ?_
    walk_at "go"
    refine ⟨by exact Nat.le_of_ble_eq_true rfl, ?_⟩; walk_at "go"; rw [ha]; refine ⟨⟨rs, hL, by simp only; omega, ?_⟩, rfl⟩
    have : (n : Int) - 1 = ((n - 1 : Nat) : Int) := by omega
    rw [this]; rfl
  · refine brF (by simp; omega) ?_
    obtain ⟨r, g1, g2, g3⟩ := hL.get hpos
    have hs : r.d.s = 1 + (b : Int) := by
      rw [lnR_zero] at g3
      rw [← Option.some.inj g3, layR_s]
    walk_at "go"
    refine ⟨_, rs.map rowV, _, _, rfl, .inr (.inl rfl), by simp; omega, seq_nat (by simpa using hpos), g2, ?_⟩
    walk_at "go"
    refine ⟨_, _, 0, _, rfl, .inl rfl, by exact Nat.le_of_ble_eq_true rfl, rfl, rfl, ?_⟩
    walk_at "go"
    refine CALLV.by (line_begin_ok w cs G.cs b hbl _ _ hs) (by decide) ?_
    walk_at "u"
    walk_at "go"
    refine CALLV.by (begin_ok w cs _) (by decide) ?_
    walk_at "u"
    walk_at "go"
    have hlb := lineBegin_le cs b
    by_cases hb0 : lineBegin cs b = 0
    · have ha : aheadP cs tr wr width (b, n) = none := by unfold aheadP; rw [if_neg h0, if_pos hb0]
      refine brT (by rw [hb0]; rfl) ?_
      walk_at "go"
      rw [ha]; exact ⟨rfl, rfl⟩
    · have ha : aheadP cs tr wr width (b, n) = some (lineBegin cs (lineBegin cs b - 1), (lnR cs tr wr width (lineBegin cs (lineBegin cs b - 1))).length - 1) := by unfold aheadP; rw [if_neg h0, if_neg hb0]
      refine brF (by simp; omega) ?_
      have hlb2 := lineBegin_le cs (lineBegin cs b - 1)
      walk_at "go"
      refine CALLV.by (line_begin_ok w cs G.cs (lineBegin cs b - 1) (by omega) _ _ (by omega)) (by decide) ?_
      walk_at "u"
      walk_at "go"
      refine ⟨by exact Nat.le_of_ble_eq_true rfl, ?_⟩
      walk_at "go"
      refine CALLV.by (line_ok w cs width G tl (lineBegin cs (lineBegin cs b - 1)) (by omega) tr wr _ _ rfl) (by decide) ?_
      rintro v H' ⟨⟨rs', hL', rfl⟩, rfl⟩
      obtain ⟨hpos', h100'⟩ := hL'.pos
      walk_at "go"
      refine CALLV.len (l := rs'.map rowV) (.inr (.inl rfl)) (by simp; omega) ?_
      walk_at "go"
      refine ⟨by exact Nat.le_of_ble_eq_true rfl, ?_⟩; walk_at "go"; rw [ha]; refine ⟨⟨rs', hL', by simp only [← hL'.len]; omega, ?_⟩, rfl⟩
      have : ((rs'.map rowV).length : Int) - 1 = (((lnR cs tr wr width (lineBegin cs (lineBegin cs b - 1))).length - 1 : Nat) : Int) := by rw [← hL'.len, List.length_map]; omega
      rw [this]; rfl
theorem Ln.last {cs : List Int} {tr wr : Bool} {width : Int} {b : Nat} {rs : List RX} (h : Ln cs tr wr width b rs) : ∃ r, rs[rs.length - 1]? = some r ∧ (rs.map rowV)[rs.length - 1]? = some (rowV r) ∧ r.d = lastR cs tr wr width b ∧ r.d ∈ lnR cs tr wr width b := by
  have hp := h.pos.1
  obtain ⟨r, g1, g2, g3⟩ := h.get (show rs.length - 1 < rs.length by omega)
  refine ⟨r, g1, g2, ?_, List.mem_of_getElem? g3⟩
  unfold lastR
  rw [List.getLast_eq_getElem]
  have hl := h.len
  rw [List.getElem?_eq_getElem (by omega)] at g3
  have := Option.some.inj g3
  rw [← this]
  congr 1
  omega
theorem row_behind_ok (w : World) (cs : List Int) (width : Int) (G : Gd cs width) (tl : List V) (tr wr : Bool) (b n : Nat) (rs : List RX) (hL : Ln cs tr wr width b rs) (hn : n < rs.length) (H : AH) :
    C0 w 14 (.ref 409) [viewV cs, tblV tl, .lst (rs.map rowV), .int n, .int width, optV tr wr] H (fun v H' => (match behindP cs tr wr width (b, n) with
      | none => v = .none
      | some y => ∃ rs', Ln cs tr wr width y.1 rs' ∧ y.2 < rs'.length ∧ v = .tup [.lst (rs'.map rowV), .int y.2]) ∧ H' = H) := by
  refine' CALL.fn ["view", "table", "rows", "number", "width", "options"] [("options", optV tr wr), ("width", .int width), ("number", .int n), ("rows", .lst (rs.map rowV)), ("table", tblV tl), ("view", viewV cs)] ?ho ?hcd ?hb ?hn ?hρ ?hloc ?hco ?hgen ?hk ?hcell ?_
  case ho => k_is
  case hcd => k_is
  case hn => rfl
  case hb => exact vals6 (fun _ _ _ _ _ _ => rfl)
  case hρ => rfl
  case hloc => kernel_rfl
  case hco => rfl
  case hgen => rfl
  case hk => rfl
  case hcell => kernel_rfl
  refine SS.top fun _ _ => ?_
  obtain ⟨hpos, h100⟩ := hL.pos
  have hbl := hL.bl
  walk_at "go"
  refine CALLV.len (l := rs.map rowV) (.inr (.inl rfl)) (by simp; omega) ?_
  walk_at "go"
  rw [List.length_map]
  by_cases h1 : n + 1 < rs.length
  · have ha : behindP cs tr wr width (b, n) = some (b, n + 1) := by unfold behindP; rw [if_pos (by rw [← hL.len]; exact h1)]
    refine brT (by simp; omega) ?_
    walk_at "go"
    refine ⟨by exact Nat.le_of_ble_eq_true rfl, ?_⟩; walk_at "go"; rw [ha]; exact ⟨⟨rs, hL, h1, rfl⟩, rfl⟩
  · refine brF (by simp; omega) ?_
    obtain ⟨r, g1, g2, g3, g4⟩ := hL.last
    have sl : seqIndex? (-1) (rs.map rowV).length = some (rs.length - 1) := by rw [List.length_map]; exact seq_last hpos
    obtain ⟨p', c', hp', hd'⟩ := lineN_mem cs tr wr width 100 b 0 hbl r.d g4
    have hE := layR_en cs tr wr width p' c' hp'
    rw [← hd'] at hE
    walk_at "go"
    refine ⟨_, rs.map rowV, _, _, rfl, .inr (.inl rfl), by simp; omega, sl, g2, ?_⟩
    walk_at "go"
    cases hfin : r.d.fin with
    | true =>
      have ha : behindP cs tr wr width (b, n) = none := by unfold behindP; rw [if_neg (by rw [← hL.len]; exact h1), if_pos (by rw [← g3]; exact hfin)]
      walk_at "gb"
      rw [ha]; exact ⟨rfl, rfl⟩
    | false =>
      have ha : behindP cs tr wr width (b, n) = some (r.d.en, 0) := by unfold behindP; rw [if_neg (by rw [← hL.len]; exact h1), if_neg (by rw [← g3, hfin]; decide), g3]
      walk_at "gb"
      refine ⟨_, rs.map rowV, _, _, rfl, .inr (.inl rfl), by simp; omega, sl, g2, ?_⟩
      walk_at "gb"
      refine CALLV.by (line_ok w cs width G tl r.d.en hE.2.2 tr wr _ _ hE.1) (by decide) ?_
      rintro v H' ⟨⟨rs', hL', rfl⟩, rfl⟩
      walk_at "gb"
      refine ⟨by exact Nat.le_of_ble_eq_true rfl, ?_⟩; walk_at "go"; rw [ha]; exact ⟨⟨rs', hL', hL'.pos.1, rfl⟩, rfl⟩

-- F16

structure VS where
  b : Nat
  n : Nat
  j : Nat
  rs : List RX
abbrev stepP (cs : List Int) (tr wr : Bool) (width : Int) (up : Bool) : Nat × Nat → Option (Nat × Nat) := if up then behindP cs tr wr width else aheadP cs tr wr width
abbrev cntI (up : Bool) (m : Nat) : Int := if up then (m : Int) else -(m : Int)
theorem vm_ok (w : World) (cs : List Int) (width : Int) (G : Gd cs width) (tl : List V) (tr wr : Bool) (p : Nat) (hp : p ≤ cs.length) (up : Bool) (m : Nat) (hm : up = true → 0 < m) (H : AH) (q : Int) (hq : q = 1 + p) (count : Int) (hcount : count = cntI up m) :
    C0 w 15 (.ref 416) [viewV cs, tblV tl, .int q, .int count, .int width, optV tr wr] H (fun v H' => (∃ g, v = .tup [.int (startOf cs tr wr width (goN (stepP cs tr wr width up) m (lineBegin cs p, idxOf (lnR cs tr wr width (lineBegin cs p)) q))), .int g]) ∧ H' = H) := by
  refine' CALL.fn ["view", "table", "place", "count", "width", "options"] [("options", optV tr wr), ("width", .int width), ("count", .int count), ("place", .int q), ("table", tblV tl), ("view", viewV cs)] ?ho ?hcd ?hb ?hn ?hρ ?hloc ?hco ?hgen ?hk ?hcell ?_
  case ho => k_is
  case hcd => k_is
  case hn => rfl
  case hb => exact vals6 (fun _ _ _ _ _ _ => rfl)
  case hρ => rfl
  case hloc => kernel_rfl
  case hco => rfl
  case hgen => rfl
  case hk => rfl
  case hcell => kernel_rfl
  refine SS.top fun _ _ => ?_
  rename_i Q' T
  have hlb := lineBegin_le cs p
  walk_at "go"
  refine CALLV.by (line_begin_ok w cs G.cs p hp _ q hq) (by decide) ?_
  walk_at "u"
  walk_at "go"
  refine ⟨by exact Nat.le_of_ble_eq_true rfl, ?_⟩
  walk_at "go"
  refine CALLV.by (line_ok w cs width G tl (lineBegin cs p) (by omega) tr wr _ _ rfl) (by decide) ?_
  rintro v H' ⟨⟨rs0, hL0, rfl⟩, rfl⟩
  obtain ⟨hpos, h100⟩ := hL0.pos
  walk_at "c"
  refine S1.assignSw (names := ["number", "gone"]) (fun _ => rfl) (fun _ _ _ _ _ => rfl) (by decide +kernel) (by simp) ?_
  walk_at "go"
  refine CALLV.by (own_spot_ok w cs q _) (by decide) ?_
  walk_at "u"
  walk_at "go"
  refine CALLV.by (index_ok w rs0 (by omega) hpos q _) (by decide) ?_
  walk_at "u"
  walk_at "go"
  refine ⟨by exact Nat.le_of_ble_eq_true rfl, _, rfl, rfl, ?_⟩
  have hi := idxOf_lt (rs0.map RX.d) q (by simpa using hpos)
  rw [List.length_map] at hi
  rw [hL0.d] at hi ⊢
  generalize idxOf (lnR cs tr wr width (lineBegin cs p)) q = i0 at hi T ⊢
  generalize lineBegin cs p = b0 at hi hL0 hlb T ⊢
  walk_at "c"
  refine S1.while (σ := VS) (fun x => Ln cs tr wr width x.b x.rs ∧ x.n < x.rs.length ∧ x.j ≤ m ∧ goN (stepP cs tr wr width up) (m - x.j) (x.b, x.n) = goN (stepP cs tr wr width up) m (b0, i0))
    (fun x => m - x.j)
    (fun x => [(("gone" : Str), V.int (cntI up x.j)), (("number" : Str), V.int (x.n : Int)), (("rows" : Str), V.lst (x.rs.map rowV)), (("options" : Str), optV tr wr), (("width" : Str), V.int width), (("count" : Str), V.int count), (("table" : Str), tblV tl), (("view" : Str), viewV cs)])
    (fun _ => H') ⟨b0, i0, 0, rs0⟩ ⟨hL0, hi, by simp, by simp⟩ ?_ (fun _ _ h => h) ?_
  · refine .cons ?_ (.cons rfl (.cons rfl (.cons rfl (.cons rfl (.cons rfl (.cons rfl (.cons rfl .nil)))))))
    cases up <;> rfl
  intro x hx
  obtain ⟨b, n, j, rs⟩ := x
  obtain ⟨hL, hn, hj, hg⟩ := hx
  simp only at hL hn hj hg
  obtain ⟨hpos', h100'⟩ := hL.pos
  obtain ⟨r, g1, g2, g3⟩ := hL.get hn
  have hst : startOf cs tr wr width (b, n) = r.d.s := by unfold startOf; simp only [g3]
  walk_at "go"
  by_cases hjm : j = m
  · refine brF (by simp [hcount, hjm]) ?_
    rw [hjm, Nat.sub_self] at hg
    walk_at "c"
    walk_at "go"
    refine ⟨_, rs.map rowV, _, _, rfl, .inr (.inl rfl), by simp; omega, seq_nat (by simpa using hn), g2, ?_⟩
    walk_at "go"
    refine ⟨_, _, 0, _, rfl, .inl rfl, by exact Nat.le_of_ble_eq_true rfl, rfl, rfl, ?_⟩
    walk_at "go"
    refine ⟨by exact Nat.le_of_ble_eq_true rfl, ?_⟩; walk_at "go"; refine ⟨⟨cntI up j, ?_⟩, rfl⟩
    have e0 : goN (stepP cs tr wr width up) 0 (b, n) = (b, n) := rfl
    rw [← hg, e0, hst]; rfl
  · refine brT (by cases up <;> simp [hcount, cntI] <;> omega) ?_
    have hk : m - j = (m - (j + 1)) + 1 := by omega
    rw [hk] at hg
    have hst2 : ∀ y : Option (Nat × Nat), stepP cs tr wr width up (b, n) = y → goN (stepP cs tr wr width up) ((m - (j + 1)) + 1) (b, n) = match y with
        | none => (b, n)
        | some y => goN (stepP cs tr wr width up) (m - (j + 1)) y := fun y e => by rw [← e]; rfl
    have fin : ∀ (v : V), (match stepP cs tr wr width up (b, n) with
      | none => v = .none
      | some y => ∃ rs', Ln cs tr wr width y.1 rs' ∧ y.2 < rs'.length ∧ v = .tup [.lst (rs'.map rowV), .int y.2]) → (v = .none ∧ (b, n) = goN (stepP cs tr wr width up) m (b0, i0)) ∨ (∃ y rs', Ln cs tr wr width y.1 rs' ∧ y.2 < rs'.length ∧ v = .tup [.lst (rs'.map rowV), .int y.2] ∧ goN (stepP cs tr wr width up) (m - (j + 1)) y = goN (stepP cs tr wr width up) m (b0, i0)) := by
      intro v hv
      cases hy : stepP cs tr wr width up (b, n) with
      | none =>
        rw [hy] at hv
        refine .inl ⟨hv, ?_⟩
        rw [← hg, hst2 _ hy]
      | some y =>
        rw [hy] at hv
        obtain ⟨rs', a1, a2, a3⟩ := hv
        refine .inr ⟨y, rs', a1, a2, a3, ?_⟩
        rw [← hg, hst2 _ hy]
    cases up with
    | true =>
      have hm' := hm rfl
      walk_at "go"
      refine brT (by rw [hcount]; simp [cntI]; omega) ?_
      walk_at "go"
      refine CALLV.by (row_behind_ok w cs width G tl tr wr b n rs hL hn _) (by decide) ?_
      rintro v H2 ⟨hv, rfl⟩
      rcases fin v hv with ⟨rfl, he⟩ | ⟨y, rs', a1, a2, rfl, he⟩
      · walk_at "gb"
        refine ⟨_, rs.map rowV, _, _, rfl, .inr (.inl rfl), by simp; omega, seq_nat (by simpa using hn), g2, ?_⟩
        walk_at "go"
        refine ⟨_, _, 0, _, rfl, .inl rfl, by exact Nat.le_of_ble_eq_true rfl, rfl, rfl, ?_⟩
        walk_at "go"
        refine ⟨by exact Nat.le_of_ble_eq_true rfl, ?_⟩; walk_at "go"; refine ⟨⟨cntI true j, ?_⟩, rfl⟩
        rw [← he, hst]; rfl
      · walk_at "gb"
        refine brT (by rw [hcount]; simp [cntI]; omega) ?_
        walk_at "go"
        refine ⟨⟨y.1, y.2, j + 1, rs'⟩, ⟨a1, a2, by simp only; omega, he⟩, by simp only; omega, ?_, fun _ _ h => h⟩
        refine .cons ?_ (.cons rfl (.cons rfl (.cons rfl (.cons rfl (.cons rfl (.cons rfl (.cons rfl .nil)))))))
        show some _ = some _
        congr 2
    | false =>
      walk_at "go"
      refine brF (by rw [hcount]; simp [cntI]) ?_
      walk_at "go"
      refine CALLV.by (row_ahead_ok w cs width G tl tr wr b n rs hL hn _) (by decide) ?_
      rintro v H2 ⟨hv, rfl⟩
      rcases fin v hv with ⟨rfl, he⟩ | ⟨y, rs', a1, a2, rfl, he⟩
      · walk_at "gb"
        refine ⟨_, rs.map rowV, _, _, rfl, .inr (.inl rfl), by simp; omega, seq_nat (by simpa using hn), g2, ?_⟩
        walk_at "go"
        refine ⟨_, _, 0, _, rfl, .inl rfl, by exact Nat.le_of_ble_eq_true rfl, rfl, rfl, ?_⟩
        walk_at "go"
        refine ⟨by exact Nat.le_of_ble_eq_true rfl, ?_⟩; walk_at "go"; refine ⟨⟨cntI false j, ?_⟩, rfl⟩
        rw [← he, hst]; rfl
      · walk_at "gb"
        refine brF (by rw [hcount]; simp [cntI]) ?_
        walk_at "go"
        refine ⟨⟨y.1, y.2, j + 1, rs'⟩, ⟨a1, a2, by simp only; omega, he⟩, by simp only; omega, ?_, fun _ _ h => h⟩
        refine .cons ?_ (.cons rfl (.cons rfl (.cons rfl (.cons rfl (.cons rfl (.cons rfl (.cons rfl .nil)))))))
        show some _ = some _
        congr 2
        simp only [cntI]
        rw [if_neg (by decide), if_neg (by decide)]
        push_cast; omega

-- F17

structure Pn (h mg fw : Nat) : Prop where
  h1 : 2 ≤ h
  h2 : h ≤ 5
  m : mg ≤ 2
  f : fw ≤ 3
abbrev pnN : List Str := ["view", "table", "height", "width", "options", "rules"]
abbrev rulesV (mg fw : Nat) : V := .obj 434 ["margin", "few"] [.int mg, .int fw]
abbrev paneV (cs : List Int) (tl : List V) (h : Nat) (width : Int) (tr wr : Bool) (mg fw : Nat) : V := .obj 469 pnN [viewV cs, tblV tl, .int h, .int width, optV tr wr, rulesV mg fw]
def keptM (h mg : Nat) : Nat := min mg ((h - 1) / 2)
section pure
variable (cs : List Int) (tr wr : Bool) (width : Int)
/-- the rows of a window -/
def winR (h p : Nat) : List RD := rowsN cs tr wr width h p (winCol cs tr wr width (1 + p) (lineBegin cs p))
def movedP (p : Nat) (up : Bool) (m : Nat) : Int := startOf cs tr wr width (goN (stepP cs tr wr width up) m (lineBegin cs p, idxOf (lnR cs tr wr width (lineBegin cs p)) (1 + p)))
theorem winR_pos (h p : Nat) (hh : 0 < h) : 0 < (winR cs tr wr width h p).length := by
  obtain ⟨k, rfl⟩ : ∃ k, h = k + 1 := ⟨h - 1, by omega⟩
  unfold winR rowsN; simp
theorem rowsN_len : ∀ (k p : Nat) (c : Int), (rowsN cs tr wr width k p c).length ≤ k
  | 0, p, c => by simp [rowsN]
  | k + 1, p, c => by
    unfold rowsN
    split
    · simp
    · simp only [List.length_cons]; exact Nat.succ_le_succ (rowsN_len k _ _)
def headR (l : List RD) : RD := match l with
  | d :: _ => d
  | [] => ⟨0, 0, 0, 0, false, false⟩
def endR (l : List RD) : RD := match l[l.length - 1]? with
  | some d => d
  | none => ⟨0, 0, 0, 0, false, false⟩
def popP (ds : List RD) (pt : Int) : Option Nat := if hasP (headR ds) (endR ds) pt then some (idxOf ds pt) else none
def wellP (h mg p : Nat) (pt : Int) : Bool := match popP (winR cs tr wr width h p) pt with
  | none => false
  | some i => if i < keptM h mg ∧ 0 < p then false else decide (i + keptM h mg < h) || (endR (winR cs tr wr width h p)).fin
end pure
/-- the rows of a window, as values -/
structure Wn (ds : List RD) (rs : List RX) : Prop where
  d : rs.map RX.d = ds
  ok : ∀ r ∈ rs, OkX r
  pos : 0 < ds.length
  le : ds.length ≤ 100
theorem Wn.len {ds : List RD} {rs : List RX} (h : Wn ds rs) : rs.length = ds.length := by rw [← h.d, List.length_map]
theorem Wn.first {ds : List RD} {rs : List RX} (h : Wn ds rs) : ∃ r, rs[0]? = some r ∧ (rs.map rowV)[0]? = some (rowV r) ∧ r.d = headR ds := by
  have hp := h.pos
  have hd := h.d
  cases rs with
  | nil => rw [← h.len] at hp; simp at hp
  | cons r rs => exact ⟨r, rfl, rfl, by rw [← hd]; rfl⟩
theorem Wn.last {ds : List RD} {rs : List RX} (h : Wn ds rs) : ∃ r, rs[rs.length - 1]? = some r ∧ (rs.map rowV)[rs.length - 1]? = some (rowV r) ∧ r.d = endR ds := by
  have hp := h.pos
  rw [← h.len] at hp
  have hlt : rs.length - 1 < rs.length := by omega
  refine ⟨rs[rs.length - 1], List.getElem?_eq_getElem hlt, by rw [List.getElem?_map, List.getElem?_eq_getElem hlt]; rfl, ?_⟩
  unfold endR
  rw [← h.d, List.length_map, List.getElem?_map, List.getElem?_eq_getElem hlt]
  rfl
section
variable (w : World) (cs : List Int) (width : Int) (G : Gd cs width) (tl : List V) (tr wr : Bool) (h mg fw : Nat) (P : Pn h mg fw)
include G P
theorem rows_from_ok (p : Nat) (hp : p ≤ cs.length) (H : AH) (q : Int) (hq : q = 1 + p) :
    C0 w 15 (.ref 459) [paneV cs tl h width tr wr mg fw, .int q] H (fun v H' => (∃ rs, Wn (winR cs tr wr width h p) rs ∧ v = .lst (rs.map rowV)) ∧ H' = H) := by
  subst hq
  refine' CALL.fn ["self", "start"] [("start", .int (1 + p)), ("self", paneV cs tl h width tr wr mg fw)] ?ho ?hcd ?hb ?hn ?hρ ?hloc ?hco ?hgen ?hk ?hcell ?_
  case ho => k_is
  case hcd => k_is
  case hn => rfl
  case hb => exact vals2 (fun _ _ => rfl)
  case hρ => rfl
  case hloc => kernel_rfl
  case hco => rfl
  case hgen => rfl
  case hk => rfl
  case hcell => kernel_rfl
  refine SS.top fun _ _ => ?_
  walk_at "go"
  refine CALLV.by (window_begin_ok w cs width G tl p hp tr wr _ _ rfl) (by decide) ?_
  walk_at "u"
  walk_at "go"
  refine CALLV.by (laid_rows_ok w cs width G tl p hp _ h (by have := P.h2; omega) tr wr _ _ rfl) (by decide) ?_
  rintro v H' ⟨⟨rs, h1, h2, rfl⟩, rfl⟩
  have := P.h1
  have := P.h2
  walk_at "go"; exact ⟨⟨rs, ⟨h1, h2, winR_pos cs tr wr width h p (by omega), Nat.le_trans (rowsN_len cs tr wr width h _ _) (by omega)⟩, rfl⟩, rfl⟩
theorem moved_ok (p : Nat) (hp : p ≤ cs.length) (up : Bool) (m : Nat) (hm : up = true → 0 < m) (H : AH) (q : Int) (hq : q = 1 + p) (count : Int) (hcount : count = cntI up m) :
    C0 w 16 (.ref 466) [paneV cs tl h width tr wr mg fw, .int q, .int count] H (fun v H' => v = .int (movedP cs tr wr width p up m) ∧ H' = H) := by
  subst hq
  refine' CALL.fn ["self", "place", "count"] [("count", .int count), ("place", .int (1 + p)), ("self", paneV cs tl h width tr wr mg fw)] ?ho ?hcd ?hb ?hn ?hρ ?hloc ?hco ?hgen ?hk ?hcell ?_
  case ho => k_is
  case hcd => k_is
  case hn => rfl
  case hb => exact vals3 (fun _ _ _ => rfl)
  case hρ => rfl
  case hloc => kernel_rfl
  case hco => rfl
  case hgen => rfl
  case hk => rfl
  case hcell => kernel_rfl
  refine SS.top fun _ _ => ?_
  walk_at "go"
  refine CALLV.by (vm_ok w cs width G tl tr wr p hp up m hm _ _ rfl count hcount) (by decide) ?_
  rintro v H' ⟨⟨g, rfl⟩, rfl⟩
  walk_at "go"
  refine ⟨_, _, 0, _, rfl, .inl rfl, by exact Nat.le_of_ble_eq_true rfl, rfl, rfl, ?_⟩
  walk_at "go"
  exact ⟨rfl, rfl⟩
theorem kept_margin_ok (H : AH) : C0 w 1 (.ref 480) [paneV cs tl h width tr wr mg fw] H (fun v H' => v = .int (keptM h mg : Nat) ∧ H' = H) := by
  refine' CALL.fn ["pane"] [("pane", paneV cs tl h width tr wr mg fw)] ?ho ?hcd ?hb ?hn ?hρ ?hloc ?hco ?hgen ?hk ?hcell ?_
  case ho => k_is
  case hcd => k_is
  case hn => rfl
  case hb => exact vals1 (fun _ => rfl)
  case hρ => rfl
  case hloc => kernel_rfl
  case hco => rfl
  case hgen => rfl
  case hk => rfl
  case hcell => kernel_rfl
  refine SS.top fun _ _ => ?_
  have hh : h = 2 ∨ h = 3 ∨ h = 4 ∨ h = 5 := by have := P.h1; have := P.h2; omega
  have hm : mg = 0 ∨ mg = 1 ∨ mg = 2 := by have := P.m; omega
  walk_at "go"
  refine OP2.div (b := 2) (by decide) ?_ ?_
  · rcases hh with rfl | rfl | rfl | rfl <;> decide
  walk_at "go"
  refine CALLV.min2 ?_
  walk_at "go"
  refine CALLV.max2 ?_
  walk_at "go"; refine ⟨?_, rfl⟩
  show V.int _ = V.int _
  congr 1
  rcases hh with rfl | rfl | rfl | rfl <;> rcases hm with rfl | rfl | rfl <;> rfl
theorem place_of_point_ok (p : Nat) (hp : p ≤ cs.length) (H : AH) (q : Int) (hq : q = 1 + p) (pt : Int) :
    C0 w 17 (.ref 487) [paneV cs tl h width tr wr mg fw, .int q, .int pt] H (fun v H' => v = (match popP (winR cs tr wr width h p) pt with | none => .none | some i => .int (i : Nat)) ∧ H' = H) := by
  refine' CALL.fn ["pane", "start", "point"] [("point", .int pt), ("start", .int q), ("pane", paneV cs tl h width tr wr mg fw)] ?ho ?hcd ?hb ?hn ?hρ ?hloc ?hco ?hgen ?hk ?hcell ?_
  case ho => k_is
  case hcd => k_is
  case hn => rfl
  case hb => exact vals3 (fun _ _ _ => rfl)
  case hρ => rfl
  case hloc => kernel_rfl
  case hco => rfl
  case hgen => rfl
  case hk => rfl
  case hcell => kernel_rfl
  refine SS.top fun _ _ => ?_
  walk_at "go"
  refine CALLV.by (rows_from_ok w cs width G tl tr wr h mg fw P p hp _ q hq) (by decide) ?_
  rintro v H' ⟨⟨rs, hW, rfl⟩, rfl⟩
  obtain ⟨r0, a1, a2, a3⟩ := hW.first
  obtain ⟨rl, b1, b2, b3⟩ := hW.last
  walk_at "go"
  refine CALLV.by (cursor_in_ok w cs G.cs rs hW.ok (by have := hW.le; rw [hW.len]; omega) r0 rl a1 b1 pt _) (by decide) ?_
  rintro v H' ⟨hv, rfl⟩
  rw [a3, b3] at hv
  cases hb : hasP (headR (winR cs tr wr width h p)) (endR (winR cs tr wr width h p)) pt with
  | false =>
    rw [hb] at hv
    have hv : v = .none := hv
    subst hv
    walk_at "gb"
    refine ⟨?_, rfl⟩; unfold popP; rw [hb]; rfl
  | true =>
    rw [hb] at hv
    obtain ⟨k, rfl⟩ := hv
    walk_at "gb"
    refine ⟨?_, rfl⟩; unfold popP; rw [hb, hW.d]; rfl
theorem is_well_ok (p : Nat) (hp : p ≤ cs.length) (H : AH) (q : Int) (hq : q = 1 + p) (pt : Int) :
    C0 w 18 (.ref 494) [paneV cs tl h width tr wr mg fw, .int q, .int pt] H (fun v H' => v = .bool (wellP cs tr wr width h mg p pt) ∧ H' = H) := by
  refine' CALL.fn ["pane", "start", "point"] [("point", .int pt), ("start", .int q), ("pane", paneV cs tl h width tr wr mg fw)] ?ho ?hcd ?hb ?hn ?hρ ?hloc ?hco ?hgen ?hk ?hcell ?_
  case ho => k_is
  case hcd => k_is
  case hn => rfl
  case hb => exact vals3 (fun _ _ _ => rfl)
  case hρ => rfl
  case hloc => kernel_rfl
  case hco => rfl
  case hgen => rfl
  case hk => rfl
  case hcell => kernel_rfl
  refine SS.top fun _ _ => ?_
  walk_at "c"
  refine S1.assignSw (names := ["number", "margin"]) (fun _ => rfl) (fun _ _ _ _ _ => rfl) (by decide +kernel) (by simp) ?_
  walk_at "go"
  refine CALLV.by (place_of_point_ok w cs width G tl tr wr h mg fw P p hp _ q hq pt) (by decide) ?_
  walk_at "u"
  walk_at "go"
  refine CALLV.by (kept_margin_ok w cs width G tl tr wr h mg fw P _) (by decide) ?_
  walk_at "u"
  walk_at "go"
  refine ⟨by exact Nat.le_of_ble_eq_true rfl, _, rfl, rfl, ?_⟩
  cases hpop : popP (winR cs tr wr width h p) pt with
  | none =>
    walk_at "gb"
    refine ⟨?_, rfl⟩; unfold wellP; rw [hpop]; rfl
  | some i =>
    walk_at "gb"
    have hne : ¬ (i < keptM h mg ∧ 0 < p) → (if i < keptM h mg ∧ 0 < p then false else decide (i + keptM h mg < h) || (endR (winR cs tr wr width h p)).fin) = (decide (i + keptM h mg < h) || (endR (winR cs tr wr width h p)).fin) := fun h => if_neg h
    by_cases h1 : i < keptM h mg
    · refine brT (by simpa using h1) ?_
      walk_at "go"
      refine CALLV.by (begin_ok w cs _) (by decide) ?_
      walk_at "u"
      walk_at "go"
      by_cases h2 : 0 < p
      · refine brT (by simp; omega) ?_
        walk_at "gb"
        refine ⟨?_, rfl⟩; unfold wellP; rw [hpop]; simp [Fl.val, h1, h2]
      · refine brF (by simp; omega) ?_
        walk_at "gb"
        by_cases h3 : i + keptM h mg < h
        · refine ⟨fun _ => ?_, fun h => ?_⟩
          · walk_at "go"; refine ⟨?_, rfl⟩; unfold wellP; rw [hpop]; simp [Fl.val, h2, h3]; omega
          · simp at h; omega
        · refine ⟨fun h => ?_, fun _ => ?_⟩
          · simp at h; omega
          · walk_at "go"
            refine CALLV.by (rows_from_ok w cs width G tl tr wr h mg fw P p hp _ q hq) (by decide) ?_
            rintro v H' ⟨⟨rs, hW, rfl⟩, rfl⟩
            obtain ⟨rl, b1, b2, b3⟩ := hW.last
            have hpos := hW.pos
            have hle := hW.le
            rw [← hW.len] at hpos hle
            walk_at "go"
            refine ⟨_, rs.map rowV, _, _, rfl, .inr (.inl rfl), by simp; omega, by rw [List.length_map]; exact seq_last hpos, b2, ?_⟩
            walk_at "go"
            refine ⟨?_, rfl⟩
            unfold wellP; rw [hpop, b3]; simp [Fl.val, h2, h3]
    · refine brF (by simpa using h1) ?_
      walk_at "gb"
      by_cases h3 : i + keptM h mg < h
      · refine ⟨fun _ => ?_, fun h => ?_⟩
        · walk_at "go"; refine ⟨?_, rfl⟩; unfold wellP; rw [hpop]; simp [Fl.val, h1, h3]; omega
        · simp at h; omega
      · refine ⟨fun h => ?_, fun _ => ?_⟩
        · simp at h; omega
        · walk_at "go"
          refine CALLV.by (rows_from_ok w cs width G tl tr wr h mg fw P p hp _ q hq) (by decide) ?_
          rintro v H' ⟨⟨rs, hW, rfl⟩, rfl⟩
          obtain ⟨rl, b1, b2, b3⟩ := hW.last
          have hpos := hW.pos
          have hle := hW.le
          rw [← hW.len] at hpos hle
          walk_at "go"
          refine ⟨_, rs.map rowV, _, _, rfl, .inr (.inl rfl), by simp; omega, by rw [List.length_map]; exact seq_last hpos, b2, ?_⟩
          walk_at "go"
          refine ⟨?_, rfl⟩
          unfold wellP; rw [hpop, b3]; simp [Fl.val, h1, h3]
end

-- F18

section pure
variable (cs : List Int) (tr wr : Bool) (width : Int)
/-- a place in a line that is there -/
def Valid (x : Nat × Nat) : Prop := x.1 ≤ cs.length ∧ x.2 < (lnR cs tr wr width x.1).length
theorem lastR_mem (b : Nat) : lastR cs tr wr width b ∈ lnR cs tr wr width b := List.getLast_mem _
theorem stepP_valid (up : Bool) (x y : Nat × Nat) (hx : Valid cs tr wr width x) (h : stepP cs tr wr width up x = some y) : Valid cs tr wr width y := by
  obtain ⟨b, n⟩ := x
  obtain ⟨h1, h2⟩ := hx
  simp only at h1 h2
  cases up with
  | true =>
    have h : behindP cs tr wr width (b, n) = some y := h
    unfold behindP at h
    split at h
    · rename_i h3; cases h; exact ⟨h1, h3⟩
    · split at h
      · cases h
      · cases h
        obtain ⟨p', c', hp', hd'⟩ := lineN_mem cs tr wr width 100 b 0 h1 _ (lastR_mem cs tr wr width b)
        have := layR_en cs tr wr width p' c' hp'
        refine ⟨?_, (lnR_len cs tr wr width _).1⟩
        show (lastR cs tr wr width b).en ≤ _
        rw [hd']; exact this.2.2
  | false =>
    have h : aheadP cs tr wr width (b, n) = some y := h
    unfold aheadP at h
    split at h
    · cases h; exact ⟨h1, by simp only; omega⟩
    · split at h
      · cases h
      · cases h
        have a1 := lineBegin_le cs b
        have a2 := lineBegin_le cs (lineBegin cs b - 1)
        have a3 := (lnR_len cs tr wr width (lineBegin cs (lineBegin cs b - 1))).1
        exact ⟨by simp only; omega, by simp only; omega⟩
theorem goN_valid (up : Bool) : ∀ (m : Nat) (x : Nat × Nat), Valid cs tr wr width x → Valid cs tr wr width (goN (stepP cs tr wr width up) m x)
  | 0, x, h => h
  | m + 1, x, h => by
    unfold goN
    cases e : stepP cs tr wr width up x with
    | none => exact h
    | some y => exact goN_valid up m y (stepP_valid cs tr wr width up x y h e)
theorem startOf_valid (x : Nat × Nat) (h : Valid cs tr wr width x) : ∃ p, p ≤ cs.length ∧ startOf cs tr wr width x = 1 + (p : Nat) := by
  unfold startOf
  rw [List.getElem?_eq_getElem h.2]
  obtain ⟨p', c', hp', hd'⟩ := lineN_mem cs tr wr width 100 x.1 0 h.1 _ (List.getElem_mem h.2)
  refine ⟨p', hp', ?_⟩
  rw [hd']
  exact layR_s cs tr wr width p' c'
theorem movedP_place (p : Nat) (hp : p ≤ cs.length) (up : Bool) (m : Nat) : ∃ p', p' ≤ cs.length ∧ movedP cs tr wr width p up m = 1 + (p' : Nat) := by
  refine startOf_valid cs tr wr width _ (goN_valid cs tr wr width up m _ ⟨?_, ?_⟩)
  · have := lineBegin_le cs p; simp only; omega
  · exact idxOf_lt _ _ (lnR_len cs tr wr width _).1
/-- a place moved to -/
def mvP (p : Nat) (up : Bool) (m : Nat) : Nat := (movedP cs tr wr width p up m - 1).toNat
theorem mvP_eq (p : Nat) (hp : p ≤ cs.length) (up : Bool) (m : Nat) : movedP cs tr wr width p up m = 1 + (mvP cs tr wr width p up m : Nat) ∧ mvP cs tr wr width p up m ≤ cs.length := by
  obtain ⟨p', h1, h2⟩ := movedP_place cs tr wr width p hp up m
  have : mvP cs tr wr width p up m = p' := by unfold mvP; omega
  rw [this]; exact ⟨h2, h1⟩
def nearP (p : Nat) : Nat → List Nat
  | 0 => []
  | k + 1 => nearP p k ++ [mvP cs tr wr width p true (k + 1), mvP cs tr wr width p false (k + 1)]
def startP (h mg fw p : Nat) (pt : Nat) : Nat := if wellP cs tr wr width h mg p (1 + pt) then p
  else match (nearP cs tr wr width p fw).find? (fun n => wellP cs tr wr width h mg n (1 + pt)) with
  | some n => n
  | none => mvP cs tr wr width pt false (h / 2)
def scrollP (h p t : Nat) (up : Bool) (m : Nat) : Int × Int :=
  (1 + (mvP cs tr wr width p up m : Nat), if hasP (headR (winR cs tr wr width h (mvP cs tr wr width p up m))) (endR (winR cs tr wr width h (mvP cs tr wr width p up m))) (1 + t) then 1 + (t : Int) else
    if (1 + (t : Int)) < (headR (winR cs tr wr width h (mvP cs tr wr width p up m))).s then (headR (winR cs tr wr width h (mvP cs tr wr width p up m))).s else (endR (winR cs tr wr width h (mvP cs tr wr width p up m))).s)
theorem nearP_le (p : Nat) (hp : p ≤ cs.length) : ∀ k, ∀ n ∈ nearP cs tr wr width p k, n ≤ cs.length
  | 0, n, h => by simp [nearP] at h
  | k + 1, n, h => by
    unfold nearP at h
    rcases List.mem_append.mp h with h | h
    · exact nearP_le p hp k n h
    · simp only [List.mem_cons, List.not_mem_nil, or_false] at h
      rcases h with rfl | rfl
      · exact (mvP_eq cs tr wr width p hp _ _).2
      · exact (mvP_eq cs tr wr width p hp _ _).2
theorem nearP_len (p : Nat) : ∀ k, (nearP cs tr wr width p k).length = 2 * k
  | 0 => rfl
  | k + 1 => by unfold nearP; rw [List.length_append, nearP_len p k]; simp; omega
end pure
section
variable (w : World) (cs : List Int) (width : Int) (G : Gd cs width) (tl : List V) (tr wr : Bool) (h mg fw : Nat) (P : Pn h mg fw)
include G P
theorem recentered_ok (p : Nat) (hp : p ≤ cs.length) (H : AH) (q : Int) (hq : q = 1 + p) (m : Nat) :
    C0 w 17 (.ref 501) [paneV cs tl h width tr wr mg fw, .int q, .int m] H (fun v H' => v = .int (1 + (mvP cs tr wr width p false m : Nat)) ∧ H' = H) := by
  refine' CALL.fn ["pane", "point", "line"] [("line", .int m), ("point", .int q), ("pane", paneV cs tl h width tr wr mg fw)] ?ho ?hcd ?hb ?hn ?hρ ?hloc ?hco ?hgen ?hk ?hcell ?_
  case ho => k_is
  case hcd => k_is
  case hn => rfl
  case hb => exact vals3 (fun _ _ _ => rfl)
  case hρ => rfl
  case hloc => kernel_rfl
  case hco => rfl
  case hgen => rfl
  case hk => rfl
  case hcell => kernel_rfl
  refine SS.top fun _ _ => ?_
  walk_at "go"
  refine CALLV.by (moved_ok w cs width G tl tr wr h mg fw P p hp false m (fun h => by cases h) _ q hq _ (by simp [cntI])) (by decide) ?_
  walk_at "u"
  walk_at "go"; exact ⟨by rw [(mvP_eq cs tr wr width p hp false m).1]; rfl, rfl⟩
theorem near_starts_ok (p : Nat) (hp : p ≤ cs.length) (H : AH) (q : Int) (hq : q = 1 + p) :
    C0 w 17 (.ref 508) [paneV cs tl h width tr wr mg fw, .int q] H (fun v H' => v = .lst ((nearP cs tr wr width p fw).map fun n => V.int (1 + (n : Nat))) ∧ H' = H) := by
  refine CALL.re ?_
  refine' CALL.fn ["pane", "start"] [("start", .int q), ("pane", paneV cs tl h width tr wr mg fw)] ?ho ?hcd ?hb ?hn ?hρ ?hloc ?hco ?hgen ?hk ?hcell ?_
  case ho => k_is
  case hcd => k_is
  case hn => rfl
  case hb => exact vals2 (fun _ _ => rfl)
  case hρ => rfl
  case hloc => kernel_rfl
  case hco => rfl
  case hgen => rfl
  case hk => rfl
  case hcell => kernel_rfl
  refine SS.top fun _ _ => ?_
  have hf := P.f
  walk_at "go"
  walk_at "lm"
  walk_at "go"
  refine ⟨by exact Nat.le_of_ble_eq_true rfl, fun f hfr => ?_⟩
  walk_at "c"
  refine S1.forR (fun _ _ => rfl) ?_
  walk_at "go"
  refine CALLV.range2 ?_
  refine ⟨_, _, rfl, by decide, by decide, by omega, by omega, ?_⟩
  have hn : ((fw : Int) + 1 - 1).toNat = fw := by omega
  rw [hn]
  refine FORT.list (fun i ρ' H' => H' = upd H f (some (.lst ((nearP cs tr wr width p i).map fun n => V.int (1 + (n : Nat))))) ∧ ρ'.lookup ("pane" : Str) = some (paneV cs tl h width tr wr mg fw) ∧ ρ'.lookup ("start" : Str) = some (.int q) ∧ ρ'.lookup ("found" : Str) = some (.ptr f)) _ 0 _ _ ⟨rfl, rfl, rfl, rfl⟩ ?_ ?_
  · rintro i x ρ' H' hx ⟨rfl, h1, h2, h3⟩
    rw [Nat.zero_add] at *
    have hlt : i < fw := by
      rcases Nat.lt_or_ge i fw with h | h
      · exact h
      · rw [List.getElem?_eq_none (by simpa using h)] at hx; cases hx
    have hx' : x = .int (1 + (i : Int)) := by
      rw [List.getElem?_map, List.getElem?_range hlt] at hx
      exact (Option.some.inj hx).symm
    subst hx'
    walk_at "go"
    refine ⟨f, _, rfl, upd_same _ _ _, ?_⟩
    walk_at "lf"
    walk_at "go"
    refine CALLV.by (moved_ok w cs width G tl tr wr h mg fw P p hp true (i + 1) (fun _ => by omega) _ q hq _ (by simp [cntI]; omega)) (by decide) ?_
    walk_at "u"
    walk_at "go"
    refine CALLV.by (moved_ok w cs width G tl tr wr h mg fw P p hp false (i + 1) (fun h => by cases h) _ q hq _ (by simp [cntI]; omega)) (by decide) ?_
    walk_at "u"
    walk_at "go"
    have hlen := nearP_len cs tr wr width p i
    refine ⟨by exact Nat.le_of_ble_eq_true rfl, _, _, rfl, upd_same _ _ _, by simp [hlen]; omega, ?_⟩
    walk_at "go"
    refine ⟨?_, h1, h2, h3⟩
    rw [upd_upd, (mvP_eq cs tr wr width p hp true (i + 1)).1, (mvP_eq cs tr wr width p hp false (i + 1)).1]
    congr 3
    rw [show nearP cs tr wr width p (i + 1) = nearP cs tr wr width p i ++ [mvP cs tr wr width p true (i + 1), mvP cs tr wr width p false (i + 1)] from rfl, List.map_append]; rfl
  · rintro ρ' H' ⟨rfl, h1, h2, h3⟩
    rw [Nat.zero_add, List.length_map, List.length_range] at *
    walk_at "go"
    exact ⟨_, H, .frzL (upd_same _ _ _) (.drop (H' := H) (fun b o e => by rw [upd_upd, upd_ne _ _ (ne_none hfr e)]; exact e) .refl), rfl, rfl⟩
theorem start_for_ok (p : Nat) (hp : p ≤ cs.length) (H : AH) (q : Int) (hq : q = 1 + p) (t : Nat) (ht : t ≤ cs.length) (pt : Int) (hpt : pt = 1 + t) :
    C0 w 19 (.ref 515) [paneV cs tl h width tr wr mg fw, .int q, .int pt] H (fun v H' => v = .int (1 + (startP cs tr wr width h mg fw p t : Nat)) ∧ H' = H) := by
  subst hpt
  refine' CALL.fn ["pane", "start", "point"] [("point", .int (1 + t)), ("start", .int q), ("pane", paneV cs tl h width tr wr mg fw)] ?ho ?hcd ?hb ?hn ?hρ ?hloc ?hco ?hgen ?hk ?hcell ?_
  case ho => k_is
  case hcd => k_is
  case hn => rfl
  case hb => exact vals3 (fun _ _ _ => rfl)
  case hρ => rfl
  case hloc => kernel_rfl
  case hco => rfl
  case hgen => rfl
  case hk => rfl
  case hcell => kernel_rfl
  refine SS.top fun _ _ => ?_
  walk_at "go"
  refine CALLV.by (is_well_ok w cs width G tl tr wr h mg fw P p hp _ q hq (1 + t)) (by decide) ?_
  walk_at "u"
  walk_at "go"
  cases hw : wellP cs tr wr width h mg p (1 + t) with
  | true =>
    walk_at "gb"
    refine ⟨?_, rfl⟩; unfold startP; rw [hw, hq]; rfl
  | false =>
    walk_at "gb"
    refine S1.forL (fun _ _ => rfl) ?_
    walk_at "go"
    refine CALLV.by (near_starts_ok w cs width G tl tr wr h mg fw P p hp _ q hq) (by decide) ?_
    walk_at "u"
    refine ⟨_, rfl, ?_⟩
    refine FORT.list (fun i ρ' H2 => H2 = H ∧ ρ'.lookup ("pane" : Str) = some (paneV cs tl h width tr wr mg fw) ∧ ρ'.lookup ("point" : Str) = some (.int (1 + t)) ∧ (nearP cs tr wr width p fw).find? (fun n => wellP cs tr wr width h mg n (1 + t)) = ((nearP cs tr wr width p fw).drop i).find? (fun n => wellP cs tr wr width h mg n (1 + t))) _ 0 _ _ ⟨rfl, rfl, rfl, rfl⟩ ?_ ?_
    · rintro i x ρ' H2 hx ⟨rfl, h1, h2, h3⟩
      rw [Nat.zero_add] at *
      rw [List.getElem?_map] at hx
      cases hn : (nearP cs tr wr width p fw)[i]? with
      | none => rw [hn] at hx; cases hx
      | some n =>
        rw [hn] at hx
        have hx := (Option.some.inj hx).symm
        subst hx
        have hnl := nearP_le cs tr wr width p hp fw n (List.mem_of_getElem? hn)
        have hil : i < (nearP cs tr wr width p fw).length := by
          rcases Nat.lt_or_ge i (nearP cs tr wr width p fw).length with h | h
          · exact h
          · rw [List.getElem?_eq_none h] at hn; cases hn
        have hdr : (nearP cs tr wr width p fw).drop i = n :: (nearP cs tr wr width p fw).drop (i + 1) := by
          rw [List.drop_eq_getElem_cons hil]
          congr 1
          rw [List.getElem?_eq_getElem hil] at hn; exact Option.some.inj hn
        rw [hdr] at h3
        walk_at "go"
        refine CALLV.by (is_well_ok w cs width G tl tr wr h mg fw P n hnl _ _ rfl (1 + t)) (by decide) ?_
        walk_at "u"
        walk_at "go"
        cases hwn : wellP cs tr wr width h mg n (1 + t) with
        | true =>
          walk_at "gb"
          refine ⟨?_, rfl⟩; unfold startP; rw [hw, h3, List.find?_cons, hwn]; rfl
        | false =>
          walk_at "gb"
          refine ⟨rfl, h1, h2, ?_⟩
          rw [h3, List.find?_cons, hwn]
    · rintro ρ' H2 ⟨rfl, h1, h2, h3⟩
      rw [Nat.zero_add, List.length_map, List.drop_length] at *
      have hh : h = 2 ∨ h = 3 ∨ h = 4 ∨ h = 5 := by have := P.h1; have := P.h2; omega
      walk_at "go"
      refine OP2.div (b := 2) (by decide) ?_ ?_
      · rcases hh with rfl | rfl | rfl | rfl <;> decide
      walk_at "go"
      have hd : (h : Int).fdiv 2 = ((h / 2 : Nat) : Int) := by rcases hh with rfl | rfl | rfl | rfl <;> rfl
      rw [hd]
      refine CALLV.by (recentered_ok w cs width G tl tr wr h mg fw P t ht _ _ rfl (h / 2)) (by decide) ?_
      walk_at "u"
      walk_at "go"; refine ⟨?_, rfl⟩; unfold startP; rw [hw, h3]; rfl
theorem scrolled_ok (p : Nat) (hp : p ≤ cs.length) (H : AH) (q : Int) (hq : q = 1 + p) (t : Nat) (ht : t ≤ cs.length) (pt : Int) (hpt : pt = 1 + t) (up : Bool) (m : Nat) (hm : up = true → 0 < m) (count : Int) (hcount : count = cntI up m) :
    C0 w 19 (.ref 522) [paneV cs tl h width tr wr mg fw, .int q, .int pt, .int count] H (fun v H' => v = .tup [.int (scrollP cs tr wr width h p t up m).1, .int (scrollP cs tr wr width h p t up m).2] ∧ H' = H) := by
  subst hpt
  refine' CALL.fn ["pane", "start", "point", "count"] [("count", .int count), ("point", .int (1 + t)), ("start", .int q), ("pane", paneV cs tl h width tr wr mg fw)] ?ho ?hcd ?hb ?hn ?hρ ?hloc ?hco ?hgen ?hk ?hcell ?_
  case ho => k_is
  case hcd => k_is
  case hn => rfl
  case hb => exact vals4 (fun _ _ _ _ => rfl)
  case hρ => rfl
  case hloc => kernel_rfl
  case hco => rfl
  case hgen => rfl
  case hk => rfl
  case hcell => kernel_rfl
  refine SS.top fun _ _ => ?_
  have hv := mvP_eq cs tr wr width p hp up m
  walk_at "go"
  refine CALLV.by (moved_ok w cs width G tl tr wr h mg fw P p hp up m hm _ q hq count hcount) (by decide) ?_
  walk_at "u"
  rw [hv.1]
  walk_at "go"
  refine CALLV.by (rows_from_ok w cs width G tl tr wr h mg fw P (mvP cs tr wr width p up m) hv.2 _ _ rfl) (by decide) ?_
  rintro v H' ⟨⟨rs, hW, rfl⟩, rfl⟩
  obtain ⟨r0, a1, a2, a3⟩ := hW.first
  obtain ⟨rl, b1, b2, b3⟩ := hW.last
  have hpos := hW.pos
  have hle := hW.le
  rw [← hW.len] at hpos hle
  walk_at "go"
  refine CALLV.by (cursor_in_ok w cs G.cs rs hW.ok (by omega) r0 rl a1 b1 (1 + t) _) (by decide) ?_
  rintro v H' ⟨hc, rfl⟩
  rw [a3, b3] at hc
  cases hb : hasP (headR (winR cs tr wr width h (mvP cs tr wr width p up m))) (endR (winR cs tr wr width h (mvP cs tr wr width p up m))) (1 + t) with
  | true =>
    rw [hb] at hc
    obtain ⟨k, rfl⟩ := hc
    walk_at "gb"
    refine ⟨by exact Nat.le_of_ble_eq_true rfl, ?_⟩; walk_at "go"; refine ⟨?_, rfl⟩; unfold scrollP; rw [hb]; rfl
  | false =>
    rw [hb] at hc
    have hc : v = .none := hc
    subst hc
    walk_at "gb"
    refine CALLV.by (own_spot_ok w cs _ _) (by decide) ?_
    walk_at "u"
    walk_at "gb"
    refine ⟨_, rs.map rowV, _, _, rfl, .inr (.inl rfl), by simp; omega, seq_nat (by simpa using hpos), a2, ?_⟩
    walk_at "go"
    by_cases hlt : (1 + (t : Int)) < r0.d.s
    · refine brT (by simp; omega) ?_
      walk_at "gb"
      refine ⟨_, rs.map rowV, _, _, rfl, .inr (.inl rfl), by simp; omega, seq_nat (by simpa using hpos), a2, ?_⟩
      walk_at "gb"
      refine ⟨_, _, 0, _, rfl, .inl rfl, by exact Nat.le_of_ble_eq_true rfl, rfl, rfl, ?_⟩
      walk_at "gb"
      rw [a3] at hlt
      refine ⟨by exact Nat.le_of_ble_eq_true rfl, ?_⟩; walk_at "go"; refine ⟨?_, rfl⟩; unfold scrollP; rw [hb, a3]
      simp [Fl.val, hlt]
    · refine brF (by simp; omega) ?_
      walk_at "gb"
      refine ⟨_, rs.map rowV, _, _, rfl, .inr (.inl rfl), by simp; omega, by rw [List.length_map]; exact seq_last hpos, b2, ?_⟩
      walk_at "gb"
      refine ⟨_, _, 0, _, rfl, .inl rfl, by exact Nat.le_of_ble_eq_true rfl, rfl, rfl, ?_⟩
      walk_at "gb"
      rw [a3] at hlt
      refine ⟨by exact Nat.le_of_ble_eq_true rfl, ?_⟩; walk_at "go"; refine ⟨?_, rfl⟩; unfold scrollP; rw [hb, b3]
      simp [Fl.val, hlt]
end

-- F19

theorem ex2 (vals : List Value) (e : vals.length = 2) : ∃ a0 a1, vals = [a0, a1] := vals2 (P := fun l => ∃ a0 a1, l = [a0, a1]) (fun _ _ => ⟨_, _, rfl⟩) vals e
theorem ex3 (vals : List Value) (e : vals.length = 3) : ∃ a0 a1 a2, vals = [a0, a1, a2] := vals3 (P := fun l => ∃ a0 a1 a2, l = [a0, a1, a2]) (fun _ _ _ => ⟨_, _, _, rfl⟩) vals e
theorem ex6 (vals : List Value) (e : vals.length = 6) : ∃ a0 a1 a2 a3 a4 a5, vals = [a0, a1, a2, a3, a4, a5] := vals6 (P := fun l => ∃ a0 a1 a2 a3 a4 a5, l = [a0, a1, a2, a3, a4, a5]) (fun _ _ _ _ _ _ => ⟨_, _, _, _, _, _, rfl⟩) vals e
theorem view_init (w : World) (cs : List Int) (a : Addr) (H : AH) (e : H a = some (.obj 138 [] [])) :
    C0 w 1 (.ref 86) [.ptr a, .lst (cs.map V.int)] H (fun v H' => v = .none ∧ H' = upd H a (some (.obj 138 ["codes", "first"] [.lst (cs.map V.int), .int 1]))) := by
  refine' CALL.def (names := ["self", "codes"]) (ρ₀ := [(("begin" : Str), V.int 1), (("codes" : Str), V.lst (cs.map V.int)), (("self" : Str), V.ptr a)]) ?ho ?hcd ?hb ?hn ?hloc ?hco ?hgen ?hk ?hcell ?_
  case ho => k_is
  case hcd => k_is
  case hn => rfl
  case hb =>
    intro s h₀ vals X hl
    obtain ⟨x, y, rfl⟩ := ex2 vals hl
    · refine ⟨_, binds_K X rfl (by k_is) rfl rfl rfl, ?_, [(("begin" : Str), V.int 1)], ?_, rfl⟩
      · intro p hp
        rw [List.mem_singleton.mp hp]
        kernel_rfl
      · intro fz
        simp only [Pairs, Den]
        exact ⟨_, _, rfl, ⟨_, rfl⟩, rfl⟩
  case hloc => kernel_rfl
  case hco => rfl
  case hgen => rfl
  case hk => rfl
  case hcell => kernel_rfl
  walk_at "go"
  exact ⟨rfl, rfl⟩
theorem view_new (w : World) (cs : List Int) (H : AH) : C0 w 2 (.ref 138) [.lst (cs.map V.int)] H (fun v H' => v = viewV cs ∧ H' = H) := by
  refine CALL.re (CALL.cls (fI := 86) (by k_is) (by k_is) (by k_is) fun a ha => ?_)
  refine (view_init w cs a _ (by simp)).mono ?_
  walk_at "u"
  refine ⟨rfl, _, _, .frzI (upd_same _ _ _) .refl, rfl, ?_⟩
  simp only [upd_upd]
  exact upd_none ha
theorem options_init (w : World) (tr wr : Bool) (a : Addr) (H : AH) (e : H a = some (.obj 39 [] [])) :
    C0 w 1 (.ref 36) [.ptr a, .int 4, .bool true, .bool tr, .bool wr, .int 0] H (fun v H' => v = .none ∧ H' = upd H a (some (.obj 39 ["tab_width", "has_carets", "truncates", "wraps_words", "hscroll"] [.int 4, .bool true, .bool tr, .bool wr, .int 0]))) := by
  refine' CALL.def (names := ["self", "tab_width", "has_carets", "truncates", "wraps_words", "hscroll"]) (ρ₀ := [(("hscroll" : Str), .int 0), (("wraps_words" : Str), .bool wr), (("truncates" : Str), .bool tr), (("has_carets" : Str), .bool true), (("tab_width" : Str), .int 4), (("self" : Str), .ptr a)]) ?ho ?hcd ?hb ?hn ?hloc ?hco ?hgen ?hk ?hcell ?_
  case ho => k_is
  case hcd => k_is
  case hn => rfl
  case hb => intro s h₀ vals X hl; obtain ⟨x0, x1, x2, x3, x4, x5, rfl⟩ := ex6 vals hl; exact ⟨[], binds_K X rfl (by k_is) rfl rfl rfl, fun p hp => (nomatch hp), [], fun fz => (by simp only [Pairs]), rfl⟩
  case hloc => kernel_rfl
  case hco => rfl
  case hgen => rfl
  case hk => rfl
  case hcell => kernel_rfl
  refine SS.top fun _ _ => ?_
  walk_at "go"
  exact ⟨rfl, rfl⟩
theorem options_new (w : World) (tr wr : Bool) (H : AH) : C0 w 2 (.ref 39) [.int 4, .bool true, .bool tr, .bool wr, .int 0] H (fun v H' => v = optV tr wr ∧ H' = H) := by
  refine CALL.re (CALL.cls (fI := 36) (by k_is) (by k_is) (by k_is) fun a ha => ?_)
  refine (options_init w tr wr a _ (by simp)).mono ?_
  walk_at "u"
  refine ⟨rfl, _, _, .frzI (upd_same _ _ _) .refl, rfl, ?_⟩
  simp only [upd_upd]
  exact upd_none ha
theorem rules_init (w : World) (mg fw : Nat) (a : Addr) (H : AH) (e : H a = some (.obj 434 [] [])) :
    C0 w 1 (.ref 431) [.ptr a, .int mg, .int fw] H (fun v H' => v = .none ∧ H' = upd H a (some (.obj 434 ["margin", "few"] [.int mg, .int fw]))) := by
  refine' CALL.def (names := ["self", "margin", "few"]) (ρ₀ := [(("few" : Str), .int fw), (("margin" : Str), .int mg), (("self" : Str), .ptr a)]) ?ho ?hcd ?hb ?hn ?hloc ?hco ?hgen ?hk ?hcell ?_
  case ho => k_is
  case hcd => k_is
  case hn => rfl
  case hb => intro s h₀ vals X hl; obtain ⟨x0, x1, x2, rfl⟩ := ex3 vals hl; exact ⟨[], binds_K X rfl (by k_is) rfl rfl rfl, fun p hp => (nomatch hp), [], fun fz => (by simp only [Pairs]), rfl⟩
  case hloc => kernel_rfl
  case hco => rfl
  case hgen => rfl
  case hk => rfl
  case hcell => kernel_rfl
  refine SS.top fun _ _ => ?_
  walk_at "go"
  exact ⟨rfl, rfl⟩
theorem rules_new (w : World) (mg fw : Nat) (H : AH) : C0 w 2 (.ref 434) [.int mg, .int fw] H (fun v H' => v = rulesV mg fw ∧ H' = H) := by
  refine CALL.re (CALL.cls (fI := 431) (by k_is) (by k_is) (by k_is) fun a ha => ?_)
  refine (rules_init w mg fw a _ (by simp)).mono ?_
  walk_at "u"
  refine ⟨rfl, _, _, .frzI (upd_same _ _ _) .refl, rfl, ?_⟩
  simp only [upd_upd]
  exact upd_none ha
theorem pane_init (w : World) (cs : List Int) (tl : List V) (h : Nat) (width : Int) (tr wr : Bool) (mg fw : Nat) (a : Addr) (H : AH) (e : H a = some (.obj 469 [] [])) :
    C0 w 1 (.ref 452) [.ptr a, viewV cs, tblV tl, .int h, .int width, optV tr wr, rulesV mg fw] H (fun v H' => v = .none ∧ H' = upd H a (some (.obj 469 pnN [viewV cs, tblV tl, .int h, .int width, optV tr wr, rulesV mg fw]))) := by
  refine' CALL.fn ["self", "view", "table", "height", "width", "options", "rules"] [("rules", rulesV mg fw), ("options", optV tr wr), ("width", .int width), ("height", .int h), ("table", tblV tl), ("view", viewV cs), ("self", .ptr a)] ?ho ?hcd ?hb ?hn ?hρ ?hloc ?hco ?hgen ?hk ?hcell ?_
  case ho => k_is
  case hcd => k_is
  case hn => rfl
  case hb => exact vals7 (fun _ _ _ _ _ _ _ => rfl)
  case hρ => rfl
  case hloc => kernel_rfl
  case hco => rfl
  case hgen => rfl
  case hk => rfl
  case hcell => kernel_rfl
  refine SS.top fun _ _ => ?_
  walk_at "go"
  exact ⟨rfl, rfl⟩
theorem pane_new (w : World) (cs : List Int) (tl : List V) (h : Nat) (width : Int) (tr wr : Bool) (mg fw : Nat) (H : AH) : C0 w 2 (.ref 469) [viewV cs, tblV tl, .int h, .int width, optV tr wr, rulesV mg fw] H (fun v H' => v = paneV cs tl h width tr wr mg fw ∧ H' = H) := by
  refine CALL.re (CALL.cls (fI := 452) (by k_is) (by k_is) (by k_is) fun a ha => ?_)
  refine (pane_init w cs tl h width tr wr mg fw a _ (by simp)).mono ?_
  walk_at "u"
  refine ⟨rfl, _, _, .frzI (upd_same _ _ _) .refl, rfl, ?_⟩
  simp only [upd_upd]
  exact upd_none ha
theorem face_init (w : World) (u : Value) (a : Addr) (H : AH) (e : H a = some (.obj 543 [] [])) :
    C0 w 1 (.ref 540) [.ptr a, .raw u] H (fun v H' => v = .none ∧ ∃ y, H' = upd H a (some (.obj 543 ["parts", "parents"] [.raw u, .raw y]))) := by
  refine' CALL.def (names := ["self", "parts"]) (ρ₀ := [(("parents" : Str), V.raw (.ref 532)), (("parts" : Str), V.raw u), (("self" : Str), V.ptr a)]) ?ho ?hcd ?hb ?hn ?hloc ?hco ?hgen ?hk ?hcell ?_
  case ho => k_is
  case hcd => k_is
  case hn => rfl
  case hb =>
    intro s h₀ vals X hl
    obtain ⟨x, y, rfl⟩ := ex2 vals hl
    · refine ⟨_, binds_K X rfl (by k_is) rfl rfl rfl, ?_, [(("parents" : Str), V.raw (.ref 532))], ?_, rfl⟩
      · intro p hp
        rw [List.mem_singleton.mp hp]
        kernel_rfl
      · intro fz
        simp only [Pairs, Den]
        exact ⟨_, _, rfl, rfl, rfl⟩
  case hloc => kernel_rfl
  case hco => rfl
  case hgen => rfl
  case hk => rfl
  case hcell => kernel_rfl
  walk_at "go"
  exact ⟨rfl, _, rfl⟩
theorem face_new (w : World) (u : Value) (H : AH) : C0 w 2 (.ref 543) [.raw u] H (fun v H' => H' = H) := by
  refine CALL.re (CALL.cls (fI := 540) (by k_is) (by k_is) (by k_is) fun a ha => ?_)
  refine (face_init w u a _ (by simp)).mono ?_
  rintro v H' ⟨rfl, y, rfl⟩
  refine ⟨rfl, _, H, .drop (fun b o e => ?_) .refl, rfl⟩
  rw [upd_upd, upd_ne _ _ (ne_none ha e)]; exact e
theorem table_init (w : World) (a : Addr) (H : AH) (e : H a = some (.obj 590 [] [])) :
    C0 w 3 (.ref 561) [.ptr a] H (fun v H' => v = .none ∧ ∃ x y z, H' = upd H a (some (.obj 590 ["by_name", "looks", "numbers"] [x, y, z]))) := by
  refine' CALL.fn ["self"] [("self", .ptr a)] ?ho ?hcd ?hb ?hn ?hρ ?hloc ?hco ?hgen ?hk ?hcell ?_
  case ho => k_is
  case hcd => k_is
  case hn => rfl
  case hb => exact vals1 (fun _ => rfl)
  case hρ => rfl
  case hloc => kernel_rfl
  case hco => rfl
  case hgen => rfl
  case hk => rfl
  case hcell => kernel_rfl
  refine SS.top fun _ _ => ?_
  walk_at "c"
  refine S1.setAttr (fun _ => rfl) ?_
  refine EV.dictS ?_
  walk_at "go"
  refine ⟨_, rfl, ⟨_, _, rfl⟩, ?_⟩
  walk_at "go"
  refine CALLV.by (face_new w _ _) (by decide) ?_
  rintro v H' rfl
  intro d1
  walk_at "go"
  walk_at "lf"
  walk_at "go"
  refine ⟨by exact Nat.le_of_ble_eq_true rfl, ?_⟩
  walk_at "go"
  refine EV.dictT (K := Mine.kf.heap_1 w.params) (T := 523) (by k_is) rfl rfl (.cons _ _ (.cons _ _ (.cons _ _ (.cons _ _ (.cons _ _ (.cons _ _ .nil)))))) ?_
  walk_at "go"
  refine ⟨_, rfl, rfl, ?_⟩
  walk_at "go"
  intro d2
  walk_at "go"
  exact ⟨rfl, _, _, _, rfl⟩
theorem table_new (w : World) (H : AH) : C0 w 4 (.ref 590) [] H (fun v H' => (∃ tl, v = tblV tl) ∧ H' = H) := by
  refine CALL.re (CALL.cls (fI := 561) (by k_is) (by k_is) (by k_is) fun a ha => ?_)
  refine (table_init w a _ (by simp)).mono ?_
  rintro v H' ⟨rfl, x, y, z, rfl⟩
  refine ⟨rfl, _, _, .frzI (upd_same _ _ _) .refl, ⟨_, rfl⟩, ?_⟩
  simp only [upd_upd]
  exact upd_none ha

-- F20

abbrev potO (cells : List Int) (k s : Int) : AO := .arr [.lst (cells.map V.int), .int k, .int s]
structure PotOK (cells : List Int) (k s : Int) : Prop where
  hc : ∀ c ∈ cells, 0 ≤ c
  hl : cells.length ≤ 100
  hk : 0 ≤ k
  hs : 0 ≤ s
  hs2 : s ≤ 70000
theorem dip_ok (w : World) (a : Addr) (cells : List Int) (k s many : Int) (hP : PotOK cells k s) (hm : 0 < many) (H : AH) (e : H a = some (potO cells k s)) :
    C0 w 1 (.ref 606) [.ptr a, .int many] H (fun v H' => ∃ r k' s', 0 ≤ r ∧ r < many ∧ v = .int r ∧ PotOK cells k' s' ∧ H' = upd H a (some (potO cells k' s'))) := by
  refine' CALL.fn ["pot", "many"] [("many", .int many), ("pot", .ptr a)] ?ho ?hcd ?hb ?hn ?hρ ?hloc ?hco ?hgen ?hk ?hcell ?_
  case ho => k_is
  case hcd => k_is
  case hn => rfl
  case hb => exact vals2 (fun _ _ => rfl)
  case hρ => rfl
  case hloc => kernel_rfl
  case hco => rfl
  case hgen => rfl
  case hk => rfl
  case hcell => kernel_rfl
  refine SS.top fun _ _ => ?_
  have hk := hP.hk
  have hlen := hP.hl
  walk_at "go"
  refine ⟨_, _, 1, _, rfl, .inr (.inr (.inr ⟨a, rfl, e⟩)), by exact Nat.le_of_ble_eq_true rfl, rfl, rfl, ?_⟩
  walk_at "go"
  refine S1.assignSub (fun _ => rfl) ?_
  walk_at "go"
  refine ⟨a, _, 1, rfl, e, rfl, by decide, by exact (by decide : (1 : Int) < 3), by exact Nat.le_of_ble_eq_true rfl, ?_⟩
  have e1 : upd H a (some (.arr ([V.lst (cells.map V.int), .int k, .int s].set (1 : Int).toNat (.int (k + 1))))) = upd H a (some (potO cells (k + 1) s)) := rfl
  rw [e1]
  have hgg : upd H a (some (potO cells (k + 1) s)) a = some (potO cells (k + 1) s) := upd_same _ _ _
  walk_at "go"
  refine ⟨_, _, 0, _, rfl, .inr (.inr (.inr ⟨a, rfl, hgg⟩)), by exact Nat.le_of_ble_eq_true rfl, rfl, rfl, ?_⟩
  walk_at "go"
  refine CALLV.len (l := cells.map V.int) (.inr (.inl rfl)) (by simp; omega) ?_
  walk_at "go"
  rw [List.length_map]
  by_cases hlt : k < cells.length
  · refine brT (by simpa using hlt) ?_
    walk_at "go"
    refine ⟨_, _, 0, _, rfl, .inr (.inr (.inr ⟨a, rfl, hgg⟩)), by exact Nat.le_of_ble_eq_true rfl, rfl, rfl, ?_⟩
    walk_at "go"
    have hkn : k.toNat < cells.length := by omega
    have hkk : k = (k.toNat : Int) := by omega
    refine ⟨_, cells.map V.int, k.toNat, .int cells[k.toNat], rfl, .inr (.inl rfl), by simp; omega, by rw [List.length_map, hkk]; exact seq_nat (by simpa using hkn), by rw [List.getElem?_map, List.getElem?_eq_getElem hkn]; rfl, ?_⟩
    walk_at "go"
    refine OP2.mod (by omega) ?_
    walk_at "go"; refine ⟨cells[k.toNat].fmod many, k + 1, s, Int.fmod_nonneg_of_pos _ hm, Int.fmod_lt_of_pos _ hm, rfl, ⟨hP.hc, hP.hl, by omega, hP.hs, hP.hs2⟩, rfl⟩
  · refine brF (by simpa using hlt) ?_
    walk_at "go"
    refine S1.assignSub (fun _ => rfl) ?_
    walk_at "go"
    refine ⟨_, _, 2, _, rfl, .inr (.inr (.inr ⟨a, rfl, hgg⟩)), by exact Nat.le_of_ble_eq_true rfl, rfl, rfl, ?_⟩
    walk_at "go"
    refine OP2.mul (IntMulOk.of_right (by decide)) ?_
    walk_at "go"
    refine OP2.mod (by decide) ?_
    walk_at "go"
    refine ⟨a, _, 2, rfl, hgg, rfl, by decide, by exact (by decide : (2 : Int) < 3), by exact Nat.le_of_ble_eq_true rfl, ?_⟩
    rw [upd_upd]
    have e2 : upd H a (some (.arr ([V.lst (cells.map V.int), .int (k + 1), .int s].set (2 : Int).toNat (.int ((s * 75 + 74).fmod 65537))))) = upd H a (some (potO cells (k + 1) ((s * 75 + 74).fmod 65537))) := rfl
    have e3 : (AO.arr ([V.lst (List.map V.int cells), V.int (k + 1), V.int s].set (Int.toNat 2) (V.int ((s * 75 + 74).fmod 65537)))) = potO cells (k + 1) ((s * 75 + 74).fmod 65537) := rfl
    rw [e3]
    generalize hs' : (s * 75 + 74).fmod 65537 = s'
    have hs1 : 0 ≤ s' := by rw [← hs']; exact Int.fmod_nonneg_of_pos _ (by decide)
    have hs2 : s' < 65537 := by rw [← hs']; exact Int.fmod_lt_of_pos _ (by decide)
    walk_at "go"
    refine ⟨_, _, 2, _, rfl, .inr (.inr (.inr ⟨a, rfl, upd_same _ _ _⟩)), by exact Nat.le_of_ble_eq_true rfl, rfl, rfl, ?_⟩
    walk_at "go"
    refine OP2.mod (by omega) ?_
    walk_at "go"; exact ⟨s'.fmod many, k + 1, s', Int.fmod_nonneg_of_pos _ hm, Int.fmod_lt_of_pos _ hm, rfl, ⟨hP.hc, hP.hl, by omega, hs1, by omega⟩, rfl⟩
noncomputable abbrev KP (w : World) (as : Addr) (oo : Obj) : Frag := Mine.kf.heap_1 w.params ++ [(as, oo)]
theorem dipK {w : World} {a : Addr} {cells : List Int} {k s many : Int} {d : Nat} {H0 : AH} {Q : V → AH → Prop} (hP : PotOK cells k s) (hm : 0 < many) (hd : 1 ≤ d) (q : ∀ r k' s', 0 ≤ r → r < many → PotOK cells k' s' → Q (.int r) (upd H0 a (some (potO cells k' s')))) :
    CALLV PySem.Challenge.rw_np0085_01.row.prog w (Mine.kf.heap_1 w.params) d (.ref 606) [.ptr a, .int many] (upd H0 a (some (potO cells k s))) Q := by
  refine CALLV.by (dip_ok w a cells k s many hP hm _ (upd_same _ _ _)) hd ?_
  rintro v H' ⟨r, k', s', h1, h2, rfl, hP', rfl⟩
  rw [upd_upd]
  exact q r k' s' h1 h2 hP'
theorem pot_ok (w : World) (as : Addr) (oo : Obj) (vs : List Value) (n : Nat) (ns : List Int) (hoc : oo.cls = .type "list") (hod : oo.data = .seq (List.toArray vs) n) (hI : IntsAre vs ns) (hlen : vs.length ≤ 63) (hK : List.lookup as (KP w as oo) = some oo) (H : AH) :
    CALL PySem.Challenge.rw_np0085_01.row.prog w (KP w as oo) 1 (.ref 599) [.raw (.ref as)] H (fun v H' => ∃ a cells k s, H a = none ∧ PotOK cells k s ∧ v = .ptr a ∧ H' = upd H a (some (potO cells k s))) := by
  refine CALL.re ?_
  refine' CALL.fn ["script"] [("script", .raw (.ref as))] ?ho ?hcd ?hb ?hn ?hρ ?hloc ?hco ?hgen ?hk ?hcell ?_
  case ho => exact lookup_more (by k_is)
  case hcd => exact codeIn_more (by k_is)
  case hn => rfl
  case hb => intro vals hl; match vals, hl with | [a0], _ => rfl
  case hρ => rfl
  case hloc => kernel_rfl
  case hco => rfl
  case hgen => rfl
  case hk => rfl
  case hcell => kernel_rfl
  walk_at "c"
  refine S1.assignComp none (fun x => [(("cell" : Str), x)]) [] [] (by kernel_rfl) (fun _ _ _ _ => rfl) ⟨fun _ _ => rfl, by kernel_rfl, fun _ _ _ _ => rfl, fun _ h => (nomatch h), by kernel_rfl, Agree.nil, rfl⟩ ?_
  refine SRCE.lst ?_
  refine EV.sliceBase hK hoc hod hI (by omega) ?_
  refine EV.nameL (by kernel_rfl) rfl ?_
  refine ⟨rfl, ?_⟩
  walk_at "go"
  refine ⟨48, rfl, by decide, ?_⟩
  refine ⟨_, rfl, by simp; omega, fun x _ => ASG.name (by kernel_rfl) x, ?_⟩
  refine COMPT.inv (fun i ys H' => H' = H ∧ ∃ cells : List Int, ys = cells.map V.int ∧ cells.length = i ∧ ∀ c ∈ cells, 0 ≤ c) _ 0 _ _ ⟨rfl, [], rfl, rfl, fun _ h => (nomatch h)⟩ ?_ ?_
  · rintro i x ys H' hx ⟨rfl, cells, rfl, h1, h2⟩ vl
    rw [List.getElem?_map] at hx
    cases hn : (ns.take (48 : Int).toNat)[i]? with
    | none => rw [hn] at hx; cases hx
    | some c =>
      rw [hn] at hx
      have hx := (Option.some.inj hx).symm
      subst hx
      refine EV.bin ?_
      refine EV.call rfl (fun _ => rfl) ?_
      refine EV.nameB (by kernel_rfl) (nsIn_more (by k_is)) bb_abs (by kernel_rfl) ?_
      refine ⟨_, rfl, trivial, ?_⟩
      refine ARGS.cons' rfl ?_
      refine EV.nameV (by kernel_rfl) rfl ?_
      refine ARGS.nil ?_
      refine CALLV.abs ?_
      refine EV.cint ?_
      refine OP2.mod (by decide) ?_
      refine ⟨rfl, cells ++ [(if c < 0 then -c else c).fmod 1000003], by simp, by simp; omega, fun y hy => ?_⟩
      rcases List.mem_append.mp hy with hy | hy
      · exact h2 y hy
      · rw [List.mem_singleton.mp hy]; exact Int.fmod_nonneg_of_pos _ (by decide)
  · rintro ys H' ⟨rfl, cells, rfl, h1, h2⟩
    have hcl : cells.length ≤ 100 := by
      simp only [List.length_map, List.length_take] at h1
      omega
    walk_at "c"
    refine S1.ret ?_
    refine EV.listM ?_
    refine ARGS.cons' rfl ?_
    refine EV.nameL (by kernel_rfl) rfl ?_
    refine ARGS.cons' rfl ?_
    refine EV.cint ?_
    refine ARGS.cons' rfl ?_
    refine EV.bin ?_
    refine EV.cint ?_
    refine EV.bin ?_
    refine EV.call rfl (fun _ => rfl) ?_
    refine EV.nameB (by kernel_rfl) (nsIn_more (by k_is)) bb_sum (by kernel_rfl) ?_
    refine ⟨_, rfl, trivial, ?_⟩
    refine ARGS.cons' rfl ?_
    refine EV.nameL (by kernel_rfl) rfl ?_
    refine ARGS.nil ?_
    refine CALLV.sum (ns := cells) rfl ?_
    refine EV.cint ?_
    refine OP2.mod (by decide) ?_
    refine OP2.add ?_
    refine ARGS.nil ?_
    refine ⟨by exact Nat.le_of_ble_eq_true rfl, fun a ha => ?_⟩
    have g1 : 0 ≤ cells.sum.fmod 65519 := Int.fmod_nonneg_of_pos _ (by decide)
    have g2 : cells.sum.fmod 65519 < 65519 := Int.fmod_lt_of_pos _ (by decide)
    exact ⟨_, _, .arr (upd_same _ _ _) .refl, a, cells, 0, 137 + cells.sum.fmod 65519, ha, ⟨h2, hcl, by omega, by omega, by omega⟩, rfl, by rw [upd_upd]⟩
def rowP (q : Int) : V → Bool
  | .tup [_, .obj _ _ [_, _, .tup [.int e, _], _, _, _, _, _, _, _]] => decide (q < e)
  | _ => false
def numF : V → V
  | .tup [i, _] => i
  | _ => .none
theorem first_of (q : Int) : ∀ (rs : List RX) (k : Nat), (idxF (rs.map RX.d) q < rs.length → ∃ rest, ((enumV (rs.map rowV) k).filter (rowP q)).map numF = .int ((k + idxF (rs.map RX.d) q : Nat) : Int) :: rest) ∧
    (¬ idxF (rs.map RX.d) q < rs.length → ((enumV (rs.map rowV) k).filter (rowP q)).map numF = [])
  | [], k => ⟨fun h => by simp at h, fun _ => rfl⟩
  | r :: rs, k => by
    have e : enumV ((r :: rs).map rowV) k = .tup [.int (k : Nat), rowV r] :: enumV (rs.map rowV) (k + 1) := rfl
    have e2 : idxF ((r :: rs).map RX.d) q = if q < r.d.e then 0 else idxF (rs.map RX.d) q + 1 := rfl
    have e3 : rowP q (.tup [.int (k : Nat), rowV r]) = decide (q < r.d.e) := rfl
    rw [e, e2, List.filter_cons, e3, List.length_cons]
    obtain ⟨a, b⟩ := first_of q rs (k + 1)
    by_cases h : q < r.d.e
    · rw [if_pos h, if_pos (by simpa using h), List.map_cons]
      exact ⟨fun _ => ⟨_, rfl⟩, fun h' => absurd (Nat.succ_pos _) h'⟩
    · rw [if_neg h, if_neg (by simpa using h)]
      refine ⟨fun h' => ?_, fun h' => b (by omega)⟩
      obtain ⟨rest, hr⟩ := a (by omega)
      exact ⟨rest, by rw [hr]; congr 2; omega⟩
theorem row_of_ok (w : World) (rs : List RX) (hl : rs.length ≤ 100) (h0 : 0 < rs.length) (q : Int) (H : AH) :
    C0 w 1 (.ref 611) [.lst (rs.map rowV), .int q] H (fun v H' => v = .int (idxOf (rs.map RX.d) q : Nat) ∧ H' = H) := by
  refine' CALL.fnC ["lines_laid", "place"] [] [("place", .int q), ("lines_laid", .lst (rs.map rowV))] ?ho ?hcd ?hb ?hn ?hρ ?hkind ?hcells ?hnd ?hco ?hgen ?hk ?hfree ?_
  case ho => k_is
  case hcd => k_is
  case hn => rfl
  case hb => exact vals2 (fun _ _ => rfl)
  case hρ => rfl
  case hkind => kernel_rfl
  case hcells => kernel_rfl
  case hnd => decide +kernel
  case hco => rfl
  case hgen => rfl
  case hk => rfl
  case hfree => kernel_rfl
  intro L' hf
  walk_at "c"
  refine S1.assignComp (some "place") (pairB "number" "row") [(("place" : Str), V.int q)] (cellsFrom (L' + 1) [(("place" : Str), NameKind.cell)] []) (by kernel_rfl) (fun _ _ _ _ => rfl) ⟨fun _ _ => rfl, by kernel_rfl, fun _ _ _ _ => rfl, fun x h => ?_, by kernel_rfl, .cons rfl .nil, by kernel_rfl⟩ ?_
  · cases h; rfl
  refine SRCE.enum (by kernel_rfl) (by k_is) bb_enum rfl (fun _ => rfl) ?_
  walk_at "go"
  refine ⟨_, rfl, by simp; omega, fun x hx => ?_, ?_⟩
  · obtain ⟨y, _, rfl⟩ := List.mem_map.mp hx
    exact ASG.pair (by kernel_rfl) _ _
  obtain ⟨fa, fb⟩ := first_of q rs 0
  refine COMPT.filter (rowP q) numF _ _ _ (fun x hx vl => ?_) (fun x hx hp vl => ?_) ?_
  · obtain ⟨y, hy, rfl⟩ := List.mem_map.mp hx
    have hy1 : y.1 ∈ rs.map rowV := by
      have := (List.mem_zipIdx hy).2.2
      rw [this]; exact List.getElem_mem _
    obtain ⟨r, hr, hrv⟩ := List.mem_map.mp hy1
    obtain ⟨y1, y2⟩ := y
    simp only at hrv
    subst hrv
    refine TS.cmp rfl ?_
    refine EV.tuple ?_
    refine ARGS.cons' rfl ?_
    refine EV.nameC (by kernel_rfl) rfl ?_
    refine ARGS.cons' rfl ?_
    refine EV.cint ?_
    refine ARGS.nil ?_
    refine ⟨by exact Nat.le_of_ble_eq_true rfl, ?_⟩
    refine EV.attr (fun _ => rfl) ?_
    refine EV.nameV (by kernel_rfl) rfl ?_
    refine at_obj (v := .tup [.int r.d.e, .int 0]) rfl ⟨by k_is, by k_is, by k_is⟩ rfl ?_
    refine OP2.ltT ?_
    refine TR.bool ?_
    refine ⟨?_, rfl⟩
    show decide _ = decide (q < r.d.e)
    congr 1
    simp
  · obtain ⟨y, hy, rfl⟩ := List.mem_map.mp hx
    refine EV.nameV (by kernel_rfl) rfl ?_
    exact ⟨rfl, rfl⟩
  · rw [List.nil_append]
    by_cases hlt : idxF (rs.map RX.d) q < rs.length
    · obtain ⟨rest, hr⟩ := fa hlt
      rw [hr]
      walk_at "gb"
      walk_at "lf"
      walk_at "gb"
      refine ⟨by exact Nat.le_of_ble_eq_true rfl, ?_⟩
      refine OP2.neLd (l := _ :: rest) (l' := []) (.inl rfl) (.inl rfl) (by simp) ?_
      walk_at "gb"
      have hrl : (V.int ((0 + idxF (rs.map RX.d) q : Nat) : Int) :: rest).length ≤ rs.length := by
        rw [← hr, List.length_map]
        refine Nat.le_trans (List.length_filter_le _ _) ?_
        simp
      refine ⟨_, _, 0, _, rfl, .inr (.inl rfl), by omega, seq_nat (by simp), rfl, ?_⟩
      refine ⟨?_, rfl⟩
      show V.int _ = V.int _
      congr 1
      unfold idxOf
      rw [List.length_map, if_pos hlt, Nat.zero_add]
    · rw [fb hlt]
      walk_at "gb"
      walk_at "lf"
      walk_at "gb"
      refine ⟨by exact Nat.le_of_ble_eq_true rfl, ?_⟩
      refine OP2.neL0 (.inl rfl) (.inl rfl) ?_
      walk_at "gb"
      refine CALLV.len (l := rs.map rowV) (.inr (.inl rfl)) (by simp; omega) ?_
      walk_at "gb"
      refine ⟨?_, rfl⟩
      show V.int _ = V.int _
      congr 1
      unfold idxOf
      rw [List.length_map, List.length_map, if_neg hlt]
      omega

-- F21

def lawWell (b o h m n : Int) : Bool := if b ≤ o ∧ o < b + h then (decide (b = 0) || decide (o - b ≥ m)) && (decide (b + h ≥ n) || decide (o - b < h - m)) else false
theorem law_well_ok (w : World) (b o h m n : Int) (H : AH) : C0 w 1 (.ref 618) [.int b, .int o, .int h, .int m, .int n] H (fun v H' => v = .bool (lawWell b o h m n) ∧ H' = H) := by
  refine' CALL.fn ["begin", "own", "height", "margin", "many"] [("many", .int n), ("margin", .int m), ("height", .int h), ("own", .int o), ("begin", .int b)] ?ho ?hcd ?hb ?hn ?hρ ?hloc ?hco ?hgen ?hk ?hcell ?_
  case ho => k_is
  case hcd => k_is
  case hn => rfl
  case hb => exact vals5 (fun _ _ _ _ _ => rfl)
  case hρ => rfl
  case hloc => kernel_rfl
  case hco => rfl
  case hgen => rfl
  case hk => rfl
  case hcell => kernel_rfl
  refine SS.top fun _ _ => ?_
  walk_at "go"
  by_cases h1 : b ≤ o
  · refine brT (by simpa using h1) ?_
    walk_at "go"
    by_cases h2 : o < b + h
    · refine brF (by simpa using h2) ?_
      walk_at "c"
      refine S1.assignSw (names := ["is_first", "is_last"]) (fun _ => rfl) (fun _ _ _ _ _ => rfl) (by decide +kernel) (by simp) ?_
      walk_at "go"
      refine ⟨by exact Nat.le_of_ble_eq_true rfl, _, rfl, rfl, ?_⟩
      walk_at "go"
      by_cases h3 : b = 0
      · refine brT (by simpa using h3) ?_
        walk_at "go"
        refine brT (by simpa using h3) ?_
        walk_at "go"
        by_cases h4 : b + h ≥ n
        · refine brT (by simpa using h4) ?_
          have e1 : decide (b = 0) = true := by simpa using h3
          have e2 : decide (b + h ≥ n) = true := by simpa using h4
          walk_at "go"; refine ⟨?_, rfl⟩; unfold lawWell; rw [if_pos ⟨h1, h2⟩, e1, e2]; rfl
        · refine brF (by simpa using h4) ?_
          walk_at "go"
          have e1 : decide (b = 0) = true := by simpa using h3
          have e2 : decide (b + h ≥ n) = false := by simpa using h4
          walk_at "go"; refine ⟨?_, rfl⟩; unfold lawWell; rw [if_pos ⟨h1, h2⟩, e1, e2]; rfl
      · refine brF (by simpa using h3) ?_
        walk_at "go"
        by_cases h5 : o - b ≥ m
        · refine brT (by simpa using h5) ?_
          walk_at "go"
          by_cases h4 : b + h ≥ n
          · refine brT (by simpa using h4) ?_
            walk_at "go"; refine ⟨?_, rfl⟩; unfold lawWell; rw [if_pos ⟨h1, h2⟩]; simp [Fl.val, h3, h4, h5]
          · refine brF (by simpa using h4) ?_
            walk_at "go"
            walk_at "go"; refine ⟨?_, rfl⟩; unfold lawWell; rw [if_pos ⟨h1, h2⟩]; simp [Fl.val, h3, h4, h5]
        · refine brF (by simpa using h5) ?_
          walk_at "go"; refine ⟨?_, rfl⟩; unfold lawWell; rw [if_pos ⟨h1, h2⟩]; simp [Fl.val, h3, h5]
    · refine brT (by simpa using h2) ?_
      walk_at "go"
      refine ⟨?_, rfl⟩; unfold lawWell; rw [if_neg (fun h => h2 h.2)]; rfl
  · refine brF (by simpa using h1) ?_
    walk_at "gb"
    refine ⟨?_, rfl⟩; unfold lawWell; rw [if_neg (fun h => h1 h.1)]; rfl
def lawNear (b n : Int) : Nat → List Int
  | 0 => []
  | k + 1 => lawNear b n k ++ [min (n - 1) (b + ((k + 1 : Nat) : Int)), max 0 (b - ((k + 1 : Nat) : Int))]
def lawBegins (b o : Int) (h : Nat) (m : Int) (fw : Nat) (n : Int) : Int := if lawWell b o h m n then b else match (lawNear b n fw).find? (fun x => lawWell x o h m n) with
  | some x => x
  | none => max 0 (o - ((h / 2 : Nat) : Int))
theorem law_begins_ok (w : World) (b o : Int) (h : Nat) (hh1 : 2 ≤ h) (hh2 : h ≤ 5) (m : Int) (fw : Nat) (hf : fw ≤ 3) (n : Int) (H : AH) :
    C0 w 2 (.ref 625) [.int b, .int o, .int h, .int m, .int fw, .int n] H (fun v H' => v = .int (lawBegins b o h m fw n) ∧ H' = H) := by
  refine' CALL.fn ["begin", "own", "height", "margin", "few", "many"] [("many", .int n), ("few", .int fw), ("margin", .int m), ("height", .int h), ("own", .int o), ("begin", .int b)] ?ho ?hcd ?hb ?hn ?hρ ?hloc ?hco ?hgen ?hk ?hcell ?_
  case ho => k_is
  case hcd => k_is
  case hn => rfl
  case hb => exact vals6 (fun _ _ _ _ _ _ => rfl)
  case hρ => rfl
  case hloc => kernel_rfl
  case hco => rfl
  case hgen => rfl
  case hk => rfl
  case hcell => kernel_rfl
  refine SS.top fun _ _ => ?_
  have hh : h = 2 ∨ h = 3 ∨ h = 4 ∨ h = 5 := by omega
  walk_at "go"
  refine CALLV.by (law_well_ok w b o h m n _) (by decide) ?_
  walk_at "u"
  walk_at "go"
  cases hw : lawWell b o h m n with
  | true =>
    walk_at "gb"
    refine ⟨?_, rfl⟩; unfold lawBegins; rw [hw]; rfl
  | false =>
    walk_at "gb"
    refine S1.forR (fun _ _ => rfl) ?_
    walk_at "go"
    refine CALLV.range2 ?_
    refine ⟨_, _, rfl, by decide, by decide, by omega, by omega, ?_⟩
    have hn : ((fw : Int) + 1 - 1).toNat = fw := by omega
    rw [hn]
    refine FORT.list (fun i ρ' H' => H' = H ∧ ρ'.lookup ("begin" : Str) = some (.int b) ∧ ρ'.lookup ("own" : Str) = some (.int o) ∧ ρ'.lookup ("height" : Str) = some (.int h) ∧ ρ'.lookup ("margin" : Str) = some (.int m) ∧ ρ'.lookup ("many" : Str) = some (.int n) ∧ (lawNear b n i).find? (fun x => lawWell x o h m n) = none ∧ i ≤ fw) _ 0 _ _ ⟨rfl, rfl, rfl, rfl, rfl, rfl, rfl, Nat.zero_le _⟩ ?_ ?_
    · rintro i x ρ' H' hx ⟨rfl, h1, h2, h3, h4, h5, h6, h7⟩
      rw [Nat.zero_add] at *
      have hlt : i < fw := by
        rcases Nat.lt_or_ge i fw with h | h
        · exact h
        · rw [List.getElem?_eq_none (by simpa using h)] at hx; cases hx
      have hx' : x = .int (1 + (i : Int)) := by
        rw [List.getElem?_map, List.getElem?_range hlt] at hx
        exact (Option.some.inj hx).symm
      subst hx'
      have hc : (1 : Int) + i = ((i + 1 : Nat) : Int) := by push_cast; omega
      have hnear : ∀ x, (lawNear b n (i + 1)).find? (fun x => lawWell x o h m n) = some x → (lawNear b n fw).find? (fun x => lawWell x o h m n) = some x := by
        intro x hx
        have : ∀ k, i + 1 ≤ k → (lawNear b n k).find? (fun x => lawWell x o h m n) = some x := by
          intro k hk
          induction k with
          | zero => omega
          | succ k ih =>
            by_cases he : i + 1 = k + 1
            · rw [← he]; exact hx
            · rw [show lawNear b n (k + 1) = lawNear b n k ++ [min (n - 1) (b + ((k + 1 : Nat) : Int)), max 0 (b - ((k + 1 : Nat) : Int))] from rfl, List.find?_append, ih (by omega)]; rfl
        exact this fw (by omega)
      have hsucc : lawNear b n (i + 1) = lawNear b n i ++ [min (n - 1) (b + ((i + 1 : Nat) : Int)), max 0 (b - ((i + 1 : Nat) : Int))] := rfl
      walk_at "go"
      refine S1.forT (fun _ _ => rfl) (fun _ _ => .inl rfl) ?_
      walk_at "go"
      refine CALLV.min2 ?_
      walk_at "go"
      refine CALLV.max2 ?_
      walk_at "go"
      refine ⟨by exact Nat.le_of_ble_eq_true rfl, _, rfl, ?_⟩
      rw [hc]
      show AS _ _ _ _ _ _ _ _ _ _ _
      walk_at "go"
      refine CALLV.by (law_well_ok w _ o h m n _) (by decide) ?_
      walk_at "u"
      walk_at "go"
      cases hw1 : lawWell (min (n - 1) (b + ((i + 1 : Nat) : Int))) o h m n with
      | true =>
        walk_at "gb"
        refine ⟨?_, rfl⟩; unfold lawBegins; rw [hw, hnear _ (by rw [hsucc, List.find?_append, h6, Option.none_or, List.find?_cons, hw1])]; rfl
      | false =>
        walk_at "gb"
        show AS _ _ _ _ _ _ _ _ _ _ _
        walk_at "go"
        refine CALLV.by (law_well_ok w _ o h m n _) (by decide) ?_
        walk_at "u"
        walk_at "go"
        cases hw2 : lawWell (max 0 (b - ((i + 1 : Nat) : Int))) o h m n with
        | true =>
          walk_at "gb"
          refine ⟨?_, rfl⟩; unfold lawBegins; rw [hw, hnear _ (by rw [hsucc, List.find?_append, h6, Option.none_or, List.find?_cons, hw1, List.find?_cons, hw2])]; rfl
        | false =>
          walk_at "gb"
          first | walk_at "one" | skip
          walk_at "gb"
          exact ⟨rfl, h1, h2, h3, h4, h5, by rw [hsucc, List.find?_append, h6, Option.none_or, List.find?_cons, hw1, List.find?_cons, hw2]; rfl, hlt⟩
    · rintro ρ' H' ⟨rfl, h1, h2, h3, h4, h5, h6, h7⟩
      rw [Nat.zero_add, List.length_map, List.length_range] at *
      have hd : (h : Int).fdiv 2 = ((h / 2 : Nat) : Int) := by rcases hh with rfl | rfl | rfl | rfl <;> rfl
      walk_at "go"
      refine OP2.div (b := 2) (by decide) ?_ ?_
      · rcases hh with rfl | rfl | rfl | rfl <;> decide
      rw [hd]
      walk_at "go"
      refine CALLV.max2 ?_
      walk_at "go"; refine ⟨?_, rfl⟩; unfold lawBegins; rw [hw, h6]; rfl

-- P2
section plain
variable (cs : List Int) (tr wr : Bool) (width : Int)
/-- where the row of a number begins -/
def stA : Nat → Nat × Int
  | 0 => (0, 0)
  | i + 1 => ((layR cs tr wr width (stA i).1 (stA i).2).en, (layR cs tr wr width (stA i).1 (stA i).2).nc)
def rowA (i : Nat) : RD := layR cs tr wr width (stA cs tr wr width i).1 (stA cs tr wr width i).2
def plA (i : Nat) : Nat := (stA cs tr wr width i).1
theorem plA_le : ∀ i, plA cs tr wr width i ≤ cs.length
  | 0 => Nat.zero_le _
  | i + 1 => (layR_en cs tr wr width _ _ (plA_le i)).2.2
theorem plA_succ (i : Nat) : plA cs tr wr width (i + 1) = (rowA cs tr wr width i).en := rfl
theorem rowA_s (i : Nat) : (rowA cs tr wr width i).s = 1 + (plA cs tr wr width i : Int) := layR_s ..
theorem rowA_e (i : Nat) : (rowA cs tr wr width i).e = 1 + (plA cs tr wr width (i + 1) : Int) := (layR_en cs tr wr width _ _ (plA_le cs tr wr width i)).1
/-- what a row tells, by its number -/
theorem rowA_ends (i : Nat) : plA cs tr wr width i ≤ plA cs tr wr width (i + 1) ∧ ((rowA cs tr wr width i).fin = false → plA cs tr wr width i < plA cs tr wr width (i + 1)) ∧
    ((rowA cs tr wr width i).fin = true → plA cs tr wr width (i + 1) = cs.length ∧ (rowA cs tr wr width i).brk = false ∧ ∀ j, plA cs tr wr width i ≤ j → cs[j]? ≠ some 10) ∧
    ((rowA cs tr wr width i).brk = true → (rowA cs tr wr width i).nc = 0 ∧ cs[plA cs tr wr width (i + 1) - 1]? = some 10) ∧
    (∀ j, plA cs tr wr width i ≤ j → j + 1 < plA cs tr wr width (i + 1) → cs[j]? ≠ some 10) ∧
    ((rowA cs tr wr width i).brk = false → ∀ j, plA cs tr wr width i ≤ j → j < plA cs tr wr width (i + 1) → cs[j]? ≠ some 10) := by
  obtain ⟨e', h1, h2, h3, h4, h5, h6, h7, h8⟩ := (layR_ends cs tr wr width (stA cs tr wr width i).1 (stA cs tr wr width i).2 (plA_le cs tr wr width i)).ex
  have he : plA cs tr wr width (i + 1) = e' := by
    have := rowA_e cs tr wr width i
    have h1' : (rowA cs tr wr width i).e = 1 + (e' : Int) := h1
    omega
  rw [he]
  exact ⟨h2, h4, h5, h6, h7, h8⟩
/-- how many rows there are -/
structure Many (m : Nat) : Prop where
  pos : 0 < m
  le : m ≤ cs.length + 1
  mid : ∀ i, i + 1 < m → (rowA cs tr wr width i).fin = false
  last : ∀ i, i + 1 = m → (rowA cs tr wr width i).fin = true
theorem many_ex : ∃ m, Many cs tr wr width m := by
  have key : ∀ k i, cs.length + 1 ≤ plA cs tr wr width i + k → (∀ j, j < i → (rowA cs tr wr width j).fin = false) → i ≤ plA cs tr wr width i → ∃ m, Many cs tr wr width m := by
    intro k
    induction k with
    | zero =>
      intro i h _ _
      have := plA_le cs tr wr width i
      omega
    | succ k ih =>
      intro i h hj hi
      cases hf : (rowA cs tr wr width i).fin with
      | true =>
        have := plA_le cs tr wr width i
        exact ⟨i + 1, Nat.succ_pos _, by omega, fun j hj' => hj j (by omega), fun j hj' => by
          have : j = i := by omega
          rw [this]; exact hf⟩
      | false =>
        have hlt := (rowA_ends cs tr wr width i).2.1 hf
        refine ih (i + 1) (by omega) (fun j hj' => ?_) (by omega)
        by_cases h' : j < i
        · exact hj j h'
        · have : j = i := by omega
          rw [this]; exact hf
  exact key (cs.length + 1) 0 (by omega) (fun j h => absurd h (Nat.not_lt_zero _)) (Nat.zero_le _)
variable {m : Nat} (M : Many cs tr wr width m)
include M
theorem pl_lt {i : Nat} (h : i + 1 < m) : plA cs tr wr width i < plA cs tr wr width (i + 1) := (rowA_ends cs tr wr width i).2.1 (M.mid i h)
theorem pl_mono : ∀ {i j : Nat}, i ≤ j → j < m → plA cs tr wr width i ≤ plA cs tr wr width j
  | i, 0, h, _ => by have : i = 0 := by omega
                     rw [this]; exact Nat.le_refl _
  | i, j + 1, h, hj => by
    by_cases e : i = j + 1
    · rw [e]; exact Nat.le_refl _
    · exact Nat.le_trans (pl_mono (show i ≤ j by omega) (by omega)) (rowA_ends cs tr wr width j).1
theorem pl_strict {i j : Nat} (h : i < j) (hj : j < m) : plA cs tr wr width i < plA cs tr wr width j :=
  Nat.lt_of_lt_of_le (pl_lt cs tr wr width M (show i + 1 < m by omega)) (pl_mono cs tr wr width M (show i + 1 ≤ j by omega) hj)
theorem pl_end : plA cs tr wr width m = cs.length := by
  obtain ⟨k, rfl⟩ : ∃ k, m = k + 1 := ⟨m - 1, by have := M.pos; omega⟩
  exact ((rowA_ends cs tr wr width k).2.2.1 (M.last k rfl)).1
/-- the row that a place lies in -/
structure Own (t i : Nat) : Prop where
  lt : i < m
  ge : plA cs tr wr width i ≤ t
  le : t < plA cs tr wr width (i + 1) ∨ (i + 1 = m ∧ t = plA cs tr wr width (i + 1))
theorem own_ex (t : Nat) (ht : t ≤ cs.length) : ∃ i, Own cs tr wr width (m := m) t i := by
  have key : ∀ k, k < m → plA cs tr wr width k ≤ t → ∀ n, n = m - k → ∃ i, Own cs tr wr width (m := m) t i := by
    intro k hk hp n
    induction n generalizing k with
    | zero => intro e; omega
    | succ n ih =>
      intro e
      by_cases h1 : t < plA cs tr wr width (k + 1)
      · exact ⟨k, hk, hp, .inl h1⟩
      · by_cases h2 : k + 1 = m
        · have := pl_end cs tr wr width M
          rw [← h2] at this
          exact ⟨k, hk, hp, .inr ⟨h2, by omega⟩⟩
        · exact ih (k + 1) (by omega) (by omega) (by omega)
  exact key 0 M.pos (Nat.zero_le _) m (by omega)
theorem own_at {i : Nat} (h : i < m) : Own cs tr wr width (m := m) (plA cs tr wr width i) i := by
  refine ⟨h, Nat.le_refl _, ?_⟩
  by_cases h1 : i + 1 < m
  · exact .inl (pl_lt cs tr wr width M h1)
  · have h2 : i + 1 = m := by omega
    by_cases h3 : plA cs tr wr width i < plA cs tr wr width (i + 1)
    · exact .inl h3
    · have := (rowA_ends cs tr wr width i).1
      exact .inr ⟨h2, by omega⟩
theorem own_ge {t i k : Nat} (o : Own cs tr wr width (m := m) t i) (hk : k < m) : plA cs tr wr width k ≤ t ↔ k ≤ i := by
  constructor
  · intro h
    rcases Nat.lt_or_ge i k with h' | h'
    · exfalso
      rcases o.le with h1 | ⟨h1, _⟩
      · have := pl_mono cs tr wr width M (show i + 1 ≤ k by omega) hk
        omega
      · omega
    · exact h'
  · intro h
    exact Nat.le_trans (pl_mono cs tr wr width M h o.lt) o.ge
/-- rows in a stretch -/
def stretch (a n : Nat) : List RD := (List.range n).map fun j => rowA cs tr wr width (a + j)
omit M in
theorem stretch_len (a n : Nat) : (stretch cs tr wr width a n).length = n := by unfold stretch; simp
omit M in
theorem stretch_get {a n k : Nat} (h : k < n) : (stretch cs tr wr width a n)[k]? = some (rowA cs tr wr width (a + k)) := by
  unfold stretch; rw [List.getElem?_map, List.getElem?_range h]; rfl
omit M in
theorem stretch_succ (a n : Nat) : stretch cs tr wr width a (n + 1) = rowA cs tr wr width a :: stretch cs tr wr width (a + 1) n := by
  unfold stretch
  rw [List.range_succ_eq_map, List.map_cons, List.map_map]
  congr 1
  refine List.map_congr_left fun j _ => ?_
  simp only [Function.comp]
  congr 1
  omega
omit M in
theorem idxF_stretch (q : Int) : ∀ (n a k : Nat), k < n → (∀ j, j < k → ¬ q < (rowA cs tr wr width (a + j)).e) → q < (rowA cs tr wr width (a + k)).e → idxF (stretch cs tr wr width a n) q = k
  | 0, a, k, h, _, _ => absurd h (Nat.not_lt_zero _)
  | n + 1, a, k, h, h1, h2 => by
    rw [stretch_succ]
    unfold idxF
    cases k with
    | zero => rw [if_pos (by simpa using h2)]
    | succ k =>
      rw [if_neg (by simpa using h1 0 (Nat.succ_pos _))]
      congr 1
      refine idxF_stretch q n (a + 1) k (by omega) (fun j hj => ?_) ?_
      · have := h1 (j + 1) (by omega)
        rw [show a + 1 + j = a + (j + 1) by omega]; exact this
      · rw [show a + 1 + k = a + (k + 1) by omega]; exact h2
omit M in
theorem idxF_none (q : Int) : ∀ (n a : Nat), (∀ j, j < n → ¬ q < (rowA cs tr wr width (a + j)).e) → idxF (stretch cs tr wr width a n) q = n
  | 0, a, _ => rfl
  | n + 1, a, h1 => by
    rw [stretch_succ]
    unfold idxF
    rw [if_neg (by simpa using h1 0 (Nat.succ_pos _))]
    congr 1
    refine idxF_none q n (a + 1) fun j hj => ?_
    have := h1 (j + 1) (by omega)
    rw [show a + 1 + j = a + (j + 1) by omega]; exact this
theorem idx_stretch {a n t i : Nat} (hm : a + n ≤ m) (o : Own cs tr wr width (m := m) t i) (h1 : a ≤ i) (h2 : i < a + n) : idxOf (stretch cs tr wr width a n) (1 + t) = i - a := by
  have before : ∀ j, j < i - a → ¬ (1 + (t : Int)) < (rowA cs tr wr width (a + j)).e := fun j hj => by
    rw [rowA_e]
    have := (own_ge cs tr wr width M o (show a + j + 1 < m by have := o.lt; omega)).mpr (by omega)
    omega
  unfold idxOf
  rw [stretch_len]
  rcases o.le with h | ⟨h, h'⟩
  · rw [idxF_stretch cs tr wr width (1 + t) n a (i - a) (by omega) before (by rw [rowA_e, show a + (i - a) = i by omega]; omega), if_pos (by omega)]
  · rw [idxF_none cs tr wr width (1 + t) n a (fun j hj => by
      by_cases hji : j < i - a
      · exact before j hji
      · have : a + j = i := by omega
        rw [this, rowA_e]; omega), if_neg (Nat.lt_irrefl _)]
    omega
theorem rows_stretch : ∀ (h i : Nat), i < m → rowsN cs tr wr width h (stA cs tr wr width i).1 (stA cs tr wr width i).2 = stretch cs tr wr width i (min h (m - i))
  | 0, i, hi => by rw [Nat.zero_min]; rfl
  | h + 1, i, hi => by
    have e : rowsN cs tr wr width (h + 1) (stA cs tr wr width i).1 (stA cs tr wr width i).2 = rowA cs tr wr width i :: if (rowA cs tr wr width i).fin then [] else rowsN cs tr wr width h (stA cs tr wr width (i + 1)).1 (stA cs tr wr width (i + 1)).2 := rfl
    rw [e]
    have e2 : min (h + 1) (m - i) = min h (m - (i + 1)) + 1 := by rw [show m - i = m - (i + 1) + 1 by omega, Nat.add_min_add_right]
    rw [e2, stretch_succ]
    congr 1
    by_cases h1 : i + 1 < m
    · rw [M.mid i h1, if_neg (by decide)]
      exact rows_stretch h (i + 1) h1
    · rw [M.last i (by omega), if_pos rfl, show m - (i + 1) = 0 by omega, Nat.min_zero]; rfl
omit M in
theorem layR_col (p : Nat) (c : Int) : layR cs tr wr width p (layR cs tr wr width p c).col = layR cs tr wr width p c := by
  unfold layR; cases tr <;> rfl
omit M in
theorem rowsN_col (h p : Nat) (c : Int) : rowsN cs tr wr width h p (layR cs tr wr width p c).col = rowsN cs tr wr width h p c := by
  cases h with
  | zero => rfl
  | succ h => unfold rowsN; rw [layR_col]
end plain

-- P3
section plain
variable (cs : List Int) (tr wr : Bool) (width : Int)
/-- the first row of a row's line -/
def lsA : Nat → Nat
  | 0 => 0
  | i + 1 => if (rowA cs tr wr width i).brk then i + 1 else lsA i
theorem lsA_le : ∀ i, lsA cs tr wr width i ≤ i
  | 0 => Nat.le_refl _
  | i + 1 => by unfold lsA; split; exact Nat.le_refl _; exact Nat.le_succ_of_le (lsA_le i)
theorem lsA_mid : ∀ i j, lsA cs tr wr width i ≤ j → j < i → (rowA cs tr wr width j).brk = false
  | 0, j, _, h => absurd h (Nat.not_lt_zero _)
  | i + 1, j, h1, h2 => by
    unfold lsA at h1
    split at h1
    · omega
    · rename_i hb
      by_cases e : j = i
      · rw [e]; simpa using hb
      · exact lsA_mid i j h1 (by omega)
theorem lsA_start : ∀ i, lsA cs tr wr width i = 0 ∨ (0 < lsA cs tr wr width i ∧ (rowA cs tr wr width (lsA cs tr wr width i - 1)).brk = true)
  | 0 => .inl rfl
  | i + 1 => by
    unfold lsA
    split
    · rename_i hb; exact .inr ⟨Nat.succ_pos _, hb⟩
    · exact lsA_start i
theorem lsA_col (i : Nat) : (stA cs tr wr width (lsA cs tr wr width i)).2 = 0 := by
  rcases lsA_start cs tr wr width i with h | ⟨h, hb⟩
  · rw [h]; rfl
  · obtain ⟨k, hk⟩ : ∃ k, lsA cs tr wr width i = k + 1 := ⟨lsA cs tr wr width i - 1, by omega⟩
    rw [hk] at hb ⊢
    exact ((rowA_ends cs tr wr width k).2.2.2.1 hb).1
theorem lsA_same {i : Nat} (h : lsA cs tr wr width i < i) : lsA cs tr wr width (i - 1) = lsA cs tr wr width i := by
  obtain ⟨k, rfl⟩ : ∃ k, i = k + 1 := ⟨i - 1, by omega⟩
  have hb := lsA_mid cs tr wr width (k + 1) k (by omega) (Nat.lt_succ_self _)
  show lsA cs tr wr width k = if (rowA cs tr wr width k).brk then k + 1 else lsA cs tr wr width k
  rw [hb, if_neg (by decide)]
theorem lineBegin_eq (b : Nat) (hb : b = 0 ∨ cs[b - 1]? = some 10) : ∀ t, b ≤ t → (∀ j, b ≤ j → j < t → cs[j]? ≠ some 10) → lineBegin cs t = b
  | 0, h, _ => by have : b = 0 := by omega
                  rw [this]; rfl
  | t + 1, h, hn => by
    unfold lineBegin
    by_cases e : b = t + 1
    · subst e
      rcases hb with hb | hb
      · cases hb
      · rw [if_pos (by simpa using hb)]
    · rw [if_neg (hn t (by omega) (Nat.lt_succ_self _))]
      exact lineBegin_eq b hb t (by omega) fun j h1 h2 => hn j h1 (by omega)
variable {m : Nat} (M : Many cs tr wr width m)
include M
theorem lineBegin_own {t i : Nat} (o : Own cs tr wr width (m := m) t i) : lineBegin cs t = plA cs tr wr width (lsA cs tr wr width i) := by
  have hls := lsA_le cs tr wr width i
  have hlt := o.lt
  refine lineBegin_eq cs _ ?_ t (Nat.le_trans (pl_mono cs tr wr width M hls hlt) o.ge) ?_
  · rcases lsA_start cs tr wr width i with h | ⟨h, hb⟩
    · left; rw [h]; rfl
    · right
      have := ((rowA_ends cs tr wr width (lsA cs tr wr width i - 1)).2.2.2.1 hb).2
      rw [show lsA cs tr wr width i - 1 + 1 = lsA cs tr wr width i by omega] at this
      exact this
  · intro j h1 h2
    -- the row that j lies in
    have hj : j ≤ cs.length := by
      have : plA cs tr wr width (i + 1) ≤ cs.length := plA_le cs tr wr width (i + 1)
      rcases o.le with h | ⟨_, h⟩ <;> omega
    obtain ⟨k, ok⟩ := own_ex cs tr wr width M j hj
    have hk1 : lsA cs tr wr width i ≤ k := (own_ge cs tr wr width M ok (by omega)).mp h1
    have hk2 : k ≤ i := by
      have : plA cs tr wr width k ≤ t := Nat.le_trans ok.ge (Nat.le_of_lt h2)
      exact (own_ge cs tr wr width M o ok.lt).mp this
    have E := rowA_ends cs tr wr width k
    by_cases e : k = i
    · subst e
      rcases o.le with h | ⟨h, h'⟩
      · exact E.2.2.2.2.1 j ok.ge (by omega)
      · exact (E.2.2.1 (M.last k h)).2.2 j ok.ge
    · have hb := lsA_mid cs tr wr width i k hk1 (by omega)
      rcases ok.le with h | ⟨h, h'⟩
      · exact E.2.2.2.2.2 hb j ok.ge h
      · omega
/-- a line is a stretch of rows -/
theorem line_ex : ∀ (k i : Nat), i < m → m - i ≤ k → ∃ n, 0 < n ∧ i + n ≤ m ∧ (∀ j, j + 1 < n → (rowA cs tr wr width (i + j)).brk = false) ∧ ((rowA cs tr wr width (i + (n - 1))).brk = true ∨ i + n = m) ∧
    lineN cs tr wr width k (stA cs tr wr width i).1 (stA cs tr wr width i).2 = stretch cs tr wr width i n
  | 0, i, h1, h2 => by omega
  | k + 1, i, h1, h2 => by
    have e : lineN cs tr wr width (k + 1) (stA cs tr wr width i).1 (stA cs tr wr width i).2 = rowA cs tr wr width i :: if (rowA cs tr wr width i).brk || (rowA cs tr wr width i).fin then [] else lineN cs tr wr width k (stA cs tr wr width (i + 1)).1 (stA cs tr wr width (i + 1)).2 := rfl
    by_cases hf : i + 1 = m
    · refine ⟨1, Nat.one_pos, by omega, fun j h => by omega, .inr hf, ?_⟩
      rw [e, M.last i hf, Bool.or_true, if_pos rfl]; rfl
    · have hfin := M.mid i (by omega)
      cases hb : (rowA cs tr wr width i).brk with
      | true =>
        refine ⟨1, Nat.one_pos, by omega, fun j h => by omega, .inl hb, ?_⟩
        rw [e, hb, Bool.true_or, if_pos rfl]; rfl
      | false =>
        obtain ⟨n, g1, g2, g3, g4, g5⟩ := line_ex k (i + 1) (by omega) (by omega)
        refine ⟨n + 1, Nat.succ_pos _, by omega, fun j hj => ?_, ?_, ?_⟩
        · cases j with
          | zero => exact hb
          | succ j => rw [show i + (j + 1) = i + 1 + j by omega]; exact g3 j (by omega)
        · rw [show i + (n + 1 - 1) = i + 1 + (n - 1) by omega]
          rcases g4 with h | h
          · exact .inl h
          · exact .inr (by omega)
        · rw [e, hb, hfin, Bool.or_false, if_neg (by decide), g5, stretch_succ]
/-- the line of a row -/
structure LineOf (i n : Nat) : Prop where
  lt : i < lsA cs tr wr width i + n
  le : lsA cs tr wr width i + n ≤ m
  mid : ∀ j, lsA cs tr wr width i ≤ j → j + 1 < lsA cs tr wr width i + n → (rowA cs tr wr width j).brk = false
  fin : (rowA cs tr wr width (lsA cs tr wr width i + (n - 1))).brk = true ∨ lsA cs tr wr width i + n = m
  eq : lnR cs tr wr width (plA cs tr wr width (lsA cs tr wr width i)) = stretch cs tr wr width (lsA cs tr wr width i) n
theorem lineOf_ex (h24 : cs.length ≤ 24) {i : Nat} (hi : i < m) : ∃ n, LineOf cs tr wr width (m := m) i n := by
  have hls := lsA_le cs tr wr width i
  have hml := M.le
  obtain ⟨n, g1, g2, g3, g4, g5⟩ := line_ex cs tr wr width M 100 (lsA cs tr wr width i) (by omega) (by omega)
  refine ⟨n, ⟨?_, g2, fun j h1 h2 => ?_, g4, ?_⟩⟩
  · rcases Nat.lt_or_ge i (lsA cs tr wr width i + n) with h | h
    · exact h
    · exfalso
      rcases g4 with h' | h'
      · have := lsA_mid cs tr wr width i (lsA cs tr wr width i + (n - 1)) (by omega) (by omega)
        rw [this] at h'; cases h'
      · omega
  · have := g3 (j - lsA cs tr wr width i) (by omega)
    rw [show lsA cs tr wr width i + (j - lsA cs tr wr width i) = j by omega] at this
    exact this
  · have hc := lsA_col cs tr wr width i
    unfold lnR
    rw [← g5, hc]; rfl
/-- a row, as its line and its number there -/
def repA (i : Nat) : Nat × Nat := (plA cs tr wr width (lsA cs tr wr width i), i - lsA cs tr wr width i)
omit M in
theorem start_rep (h24 : cs.length ≤ 24) (M : Many cs tr wr width m) {i : Nat} (hi : i < m) : startOf cs tr wr width (repA cs tr wr width i) = 1 + (plA cs tr wr width i : Int) := by
  obtain ⟨n, L⟩ := lineOf_ex cs tr wr width M h24 hi
  have hls := lsA_le cs tr wr width i
  have := L.lt
  unfold startOf repA
  simp only
  rw [L.eq, stretch_get cs tr wr width (show i - lsA cs tr wr width i < n by omega), show lsA cs tr wr width i + (i - lsA cs tr wr width i) = i by omega]
  exact rowA_s cs tr wr width i
theorem ahead_rep (h24 : cs.length ≤ 24) {i : Nat} (hi : i < m) : aheadP cs tr wr width (repA cs tr wr width i) = if i = 0 then none else some (repA cs tr wr width (i - 1)) := by
  have hls := lsA_le cs tr wr width i
  unfold aheadP repA
  simp only
  by_cases h0 : 0 < i - lsA cs tr wr width i
  · rw [if_pos h0, if_neg (by omega), lsA_same cs tr wr width (by omega)]
    congr 2
    omega
  · rw [if_neg h0]
    have hi' : lsA cs tr wr width i = i := by omega
    have oo := own_at cs tr wr width M hi
    have hlb := lineBegin_own cs tr wr width M oo
    rw [hi'] at hlb ⊢
    rw [hlb]
    by_cases hz : i = 0
    · subst hz; rw [if_pos rfl, if_pos (show plA cs tr wr width 0 = 0 from rfl)]
    · rw [if_neg hz]
      obtain ⟨k, rfl⟩ : ∃ k, i = k + 1 := ⟨i - 1, by omega⟩
      have hlt := pl_lt cs tr wr width M (show k + 1 < m from hi)
      rw [if_neg (by omega)]
      have ok : Own cs tr wr width (m := m) (plA cs tr wr width (k + 1) - 1) k := ⟨by omega, by omega, .inl (by omega)⟩
      rw [lineBegin_own cs tr wr width M ok]
      obtain ⟨n, L⟩ := lineOf_ex cs tr wr width M h24 (show k < m by omega)
      have hlk := lsA_le cs tr wr width k
      have hbk : (rowA cs tr wr width k).brk = true := by
        rcases lsA_start cs tr wr width (k + 1) with h | ⟨_, h⟩
        · omega
        · rw [hi'] at h; exact h
      have hn : lsA cs tr wr width k + n = k + 1 := by
        have h1 := L.lt
        rcases Nat.lt_or_ge (k + 1) (lsA cs tr wr width k + n) with h | h
        · have := L.mid k hlk h
          rw [this] at hbk; cases hbk
        · omega
      rw [L.eq, stretch_len]
      show some _ = some (plA cs tr wr width (lsA cs tr wr width k), k - lsA cs tr wr width k)
      congr 2
      omega
theorem behind_rep (h24 : cs.length ≤ 24) {i : Nat} (hi : i < m) : behindP cs tr wr width (repA cs tr wr width i) = if i + 1 = m then none else some (repA cs tr wr width (i + 1)) := by
  have hls := lsA_le cs tr wr width i
  obtain ⟨n, L⟩ := lineOf_ex cs tr wr width M h24 hi
  have hL1 := L.lt
  have hL2 := L.le
  unfold behindP repA
  simp only
  rw [L.eq, stretch_len]
  by_cases h1 : i - lsA cs tr wr width i + 1 < n
  · have hb := L.mid i hls (by omega)
    rw [if_pos h1, if_neg (by omega), show lsA cs tr wr width (i + 1) = lsA cs tr wr width i from by
      show (if (rowA cs tr wr width i).brk then i + 1 else lsA cs tr wr width i) = _
      rw [hb, if_neg (by decide)]]
    congr 2
    omega
  · rw [if_neg h1]
    have hlast : lastR cs tr wr width (plA cs tr wr width (lsA cs tr wr width i)) = rowA cs tr wr width i := by
      unfold lastR
      rw [List.getLast_eq_getElem]
      have hlen : (lnR cs tr wr width (plA cs tr wr width (lsA cs tr wr width i))).length = n := by rw [L.eq, stretch_len]
      have hg := stretch_get cs tr wr width (a := lsA cs tr wr width i) (show n - 1 < n by omega)
      rw [← L.eq, show lsA cs tr wr width i + (n - 1) = i by omega] at hg
      rw [List.getElem?_eq_getElem (by omega)] at hg
      rw [← Option.some.inj hg]
      congr 1
      omega
    rw [hlast]
    by_cases hm : i + 1 = m
    · rw [if_pos hm, M.last i hm, if_pos rfl]
    · rw [if_neg hm, M.mid i (by omega), if_neg (by decide)]
      have hb : (rowA cs tr wr width i).brk = true := by
        rcases L.fin with h | h
        · rw [show lsA cs tr wr width i + (n - 1) = i by omega] at h; exact h
        · omega
      have e : lsA cs tr wr width (i + 1) = i + 1 := by
        show (if (rowA cs tr wr width i).brk then i + 1 else lsA cs tr wr width i) = _
        rw [hb, if_pos rfl]
      rw [e, Nat.sub_self]; rfl
theorem go_up (h24 : cs.length ≤ 24) : ∀ (k i : Nat), i < m → goN (stepP cs tr wr width true) k (repA cs tr wr width i) = repA cs tr wr width (min (i + k) (m - 1))
  | 0, i, hi => by rw [Nat.add_zero, Nat.min_eq_left (Nat.le_sub_one_of_lt hi)]; rfl
  | k + 1, i, hi => by
    have e : stepP cs tr wr width true (repA cs tr wr width i) = if i + 1 = m then none else some (repA cs tr wr width (i + 1)) := behind_rep cs tr wr width M h24 hi
    unfold goN
    rw [e]
    by_cases h : i + 1 = m
    · rw [if_pos h]
      show repA cs tr wr width i = _
      rw [Nat.min_eq_right (by omega), show m - 1 = i by omega]
    · rw [if_neg h]
      show goN _ k (repA cs tr wr width (i + 1)) = _
      rw [go_up h24 k (i + 1) (by omega), Nat.add_right_comm, Nat.add_assoc]
theorem go_down (h24 : cs.length ≤ 24) : ∀ (k i : Nat), i < m → goN (stepP cs tr wr width false) k (repA cs tr wr width i) = repA cs tr wr width (i - k)
  | 0, i, hi => rfl
  | k + 1, i, hi => by
    have e : stepP cs tr wr width false (repA cs tr wr width i) = if i = 0 then none else some (repA cs tr wr width (i - 1)) := ahead_rep cs tr wr width M h24 hi
    unfold goN
    rw [e]
    by_cases h : i = 0
    · rw [if_pos h]
      show repA cs tr wr width i = _
      rw [show i - (k + 1) = i by omega]
    · rw [if_neg h]
      show goN _ k (repA cs tr wr width (i - 1)) = _
      rw [go_down h24 k (i - 1) (by omega)]
      congr 1
      omega
/-- a row by a number of rows on -/
def onA (m i k : Nat) (up : Bool) : Nat := if up then min (i + k) (m - 1) else i - k
omit M in
theorem up_cast {m b : Nat} (hb : b < m) (k : Nat) : min ((m : Int) - 1) ((b : Int) + (k : Int)) = ((min (b + k) (m - 1) : Nat) : Int) := by
  obtain ⟨n, rfl⟩ : ∃ n, m = n + 1 := ⟨m - 1, by omega⟩
  rw [Nat.add_sub_cancel, show ((n + 1 : Nat) : Int) - 1 = (n : Int) by omega, Int.min_comm]
  rcases Nat.le_total (b + k) n with h | h
  · rw [Nat.min_eq_left h]; exact Int.min_eq_left (Int.ofNat_le.mpr h)
  · rw [Nat.min_eq_right h]; exact Int.min_eq_right (Int.ofNat_le.mpr h)
omit M in
theorem dn_cast (b k : Nat) : max (0 : Int) ((b : Int) - (k : Int)) = ((b - k : Nat) : Int) := by
  rcases Nat.le_total k b with h | h
  · rw [Int.ofNat_sub h]; exact Int.max_eq_right (Int.sub_nonneg.mpr (Int.ofNat_le.mpr h))
  · rw [Nat.sub_eq_zero_of_le h]; exact Int.max_eq_left (Int.sub_nonpos_of_le (Int.ofNat_le.mpr h))
omit M in
theorem on_lt (M : Many cs tr wr width m) {i : Nat} (hi : i < m) (k : Nat) (up : Bool) : onA m i k up < m := by
  have := M.pos
  unfold onA; cases up
  · simp; omega
  · simp; omega
theorem mv_own (h24 : cs.length ≤ 24) {t i : Nat} (o : Own cs tr wr width (m := m) t i) (up : Bool) (k : Nat) : mvP cs tr wr width t up k = plA cs tr wr width (onA m i k up) := by
  have hi := o.lt
  obtain ⟨n, L⟩ := lineOf_ex cs tr wr width M h24 hi
  have hls := lsA_le cs tr wr width i
  have hL1 := L.lt
  have hrep : (lineBegin cs t, idxOf (lnR cs tr wr width (lineBegin cs t)) (1 + t)) = repA cs tr wr width i := by
    rw [lineBegin_own cs tr wr width M o, L.eq, idx_stretch cs tr wr width M L.le o hls hL1]
    rfl
  have hgo : goN (stepP cs tr wr width up) k (repA cs tr wr width i) = repA cs tr wr width (onA m i k up) := by
    cases up
    · exact go_down cs tr wr width M h24 k i hi
    · exact go_up cs tr wr width M h24 k i hi
  unfold mvP movedP
  rw [hrep, hgo, start_rep cs tr wr width h24 M (on_lt cs tr wr width M hi k up)]
  omega
/-- a window from a row's beginning -/
theorem win_row (h24 : cs.length ≤ 24) {i : Nat} (hi : i < m) (h : Nat) : winR cs tr wr width h (plA cs tr wr width i) = stretch cs tr wr width i (min h (m - i)) := by
  have o := own_at cs tr wr width M hi
  obtain ⟨n, L⟩ := lineOf_ex cs tr wr width M h24 hi
  have hls := lsA_le cs tr wr width i
  have hL1 := L.lt
  have hw : winCol cs tr wr width (1 + (plA cs tr wr width i : Int)) (lineBegin cs (plA cs tr wr width i)) = (rowA cs tr wr width i).col := by
    unfold winCol
    rw [lineBegin_own cs tr wr width M o, L.eq, idx_stretch cs tr wr width M L.le o hls hL1, stretch_get cs tr wr width (show i - lsA cs tr wr width i < n by omega), show lsA cs tr wr width i + (i - lsA cs tr wr width i) = i by omega]
    simp only
    rw [if_pos (rowA_s cs tr wr width i)]
  unfold winR
  rw [hw]
  have : rowsN cs tr wr width h (plA cs tr wr width i) (rowA cs tr wr width i).col = rowsN cs tr wr width h (stA cs tr wr width i).1 (stA cs tr wr width i).2 := rowsN_col cs tr wr width h _ _
  rw [this]
  exact rows_stretch cs tr wr width M h i hi
end plain

-- P4
section plain
variable (cs : List Int) (tr wr : Bool) (width : Int) {m : Nat}
theorem head_stretch (a n : Nat) (h : 0 < n) : headR (stretch cs tr wr width a n) = rowA cs tr wr width a := by
  obtain ⟨k, rfl⟩ : ∃ k, n = k + 1 := ⟨n - 1, by omega⟩
  rw [stretch_succ]; rfl
theorem end_stretch (a n : Nat) (h : 0 < n) : endR (stretch cs tr wr width a n) = rowA cs tr wr width (a + (n - 1)) := by
  unfold endR
  rw [stretch_len, stretch_get cs tr wr width (show n - 1 < n by omega)]
theorem has_stretch (M : Many cs tr wr width m) {t o i : Nat} (oo : Own cs tr wr width (m := m) t o) (hi : i < m) (n : Nat) (hn : 0 < n) (hm : i + n ≤ m) :
    hasP (rowA cs tr wr width i) (rowA cs tr wr width (i + (n - 1))) (1 + t) = decide (i ≤ o ∧ o < i + n) := by
  unfold hasP
  rw [rowA_s, rowA_e]
  have h1 := own_ge cs tr wr width M oo hi
  have ho := oo.lt
  by_cases hio : i ≤ o
  · have := h1.mpr hio
    rw [if_neg (by omega)]
    by_cases hm' : i + n = m
    · rw [M.last (i + (n - 1)) (by omega), Bool.or_true]
      exact (decide_eq_true ⟨hio, by omega⟩).symm
    · have h2 := own_ge cs tr wr width M oo (show i + n < m by omega)
      rw [M.mid (i + (n - 1)) (by omega), Bool.or_false, show i + (n - 1) + 1 = i + n by omega]
      by_cases hlt : o < i + n
      · have : ¬ plA cs tr wr width (i + n) ≤ t := fun h => by have := h2.mp h; omega
        rw [decide_eq_true (show (1 : Int) + t < 1 + (plA cs tr wr width (i + n) : Int) by omega)]
        exact (decide_eq_true ⟨hio, hlt⟩).symm
      · have := h2.mpr (by omega)
        rw [decide_eq_false (show ¬ (1 : Int) + t < 1 + (plA cs tr wr width (i + n) : Int) by omega)]
        exact (decide_eq_false fun h => hlt h.2).symm
  · have : ¬ plA cs tr wr width i ≤ t := fun h => hio (h1.mp h)
    rw [if_pos (by omega)]
    exact (decide_eq_false fun h => hio h.1).symm
theorem min_sub {h i m : Nat} (hi : i < m) (hh : 0 < h) : ∃ n, min h (m - i) = n ∧ 0 < n ∧ n ≤ h ∧ i + n ≤ m ∧ (n = h ∨ i + n = m) := by
  rcases Nat.le_total h (m - i) with e | e
  · exact ⟨h, Nat.min_eq_left e, hh, Nat.le_refl _, by omega, .inl rfl⟩
  · exact ⟨m - i, Nat.min_eq_right e, by omega, e, by omega, .inr (by omega)⟩
theorem well_eq (M : Many cs tr wr width m) (h24 : cs.length ≤ 24) {t o i : Nat} (oo : Own cs tr wr width (m := m) t o) (hi : i < m) (h mg : Nat) (hh : 0 < h) :
    wellP cs tr wr width h mg (plA cs tr wr width i) (1 + t) = lawWell i o h (keptM h mg : Nat) m := by
  have ho := oo.lt
  obtain ⟨n, en, hn, n1, n2, n3⟩ := min_sub hi hh
  unfold wellP popP
  rw [win_row cs tr wr width M h24 hi, en, head_stretch _ _ _ _ _ _ hn, end_stretch _ _ _ _ _ _ hn, has_stretch cs tr wr width M oo hi _ hn n2]
  clear en
  unfold lawWell
  by_cases hin : i ≤ o ∧ o < i + n
  · rw [decide_eq_true hin, if_pos rfl]
    simp only
    rw [idx_stretch cs tr wr width M (by omega) oo hin.1 hin.2]
    rw [if_pos (show (i : Int) ≤ (o : Int) ∧ (o : Int) < (i : Int) + (h : Int) by omega)]
    have hp : 0 < plA cs tr wr width i ↔ i ≠ 0 := by
      constructor
      · intro h e; rw [e] at h; exact absurd h (Nat.lt_irrefl _)
      · intro hne
        exact Nat.lt_of_le_of_lt (Nat.zero_le _) (pl_strict cs tr wr width M (show 0 < i by omega) hi)
    generalize keptM h mg = k
    have hfin : (rowA cs tr wr width (i + (n - 1))).fin = decide ((i : Int) + h ≥ m) := by
      by_cases e : i + h ≥ m
      · rw [M.last _ (by omega)]
        exact (decide_eq_true (by omega)).symm
      · rw [M.mid _ (by omega)]
        exact (decide_eq_false (by omega)).symm
    rw [hfin]
    by_cases c1 : o - i < k ∧ 0 < plA cs tr wr width i
    · rw [if_pos c1]
      have hne := hp.mp c1.2
      rw [decide_eq_false (show ¬ (i : Int) = 0 by omega), decide_eq_false (show ¬ (o : Int) - i ≥ k by omega)]
      rfl
    · rw [if_neg c1]
      have : (decide ((i : Int) = 0) || decide ((o : Int) - i ≥ k)) = true := by
        by_cases e : i = 0
        · rw [decide_eq_true (show (i : Int) = 0 by omega)]; rfl
        · rw [decide_eq_true (show (o : Int) - i ≥ k by
            have h2 := hp.mpr e
            have : ¬ o - i < k := fun h => c1 ⟨h, h2⟩
            omega), Bool.or_true]
      rw [this, Bool.true_and, Bool.or_comm]
      congr 1
      by_cases e : o - i + k < h
      · rw [decide_eq_true e]; exact (decide_eq_true (by omega)).symm
      · rw [decide_eq_false e]; exact (decide_eq_false (by omega)).symm
  · rw [decide_eq_false hin, if_neg (by decide)]
    simp only
    rw [if_neg (fun h => hin ⟨by omega, by omega⟩)]
theorem near_eq (M : Many cs tr wr width m) (h24 : cs.length ≤ 24) {b : Nat} (hb : b < m) : ∀ k, nearP cs tr wr width (plA cs tr wr width b) k = (lawNear b m k).map fun x => plA cs tr wr width x.toNat
  | 0 => rfl
  | k + 1 => by
    have o := own_at cs tr wr width M hb
    show nearP cs tr wr width (plA cs tr wr width b) k ++ [_, _] = (lawNear b m k ++ [_, _]).map _
    rw [near_eq M h24 hb k, List.map_append, mv_own cs tr wr width M h24 o, mv_own cs tr wr width M h24 o]
    congr 1
    simp only [List.map_cons, List.map_nil]
    have e1 : (min ((m : Int) - 1) ((b : Int) + ((k + 1 : Nat) : Int))).toNat = onA m b (k + 1) true := by rw [up_cast hb]; rfl
    have e2 : (max (0 : Int) ((b : Int) - ((k + 1 : Nat) : Int))).toNat = onA m b (k + 1) false := by rw [dn_cast]; rfl
    rw [e1, e2]
theorem near_in {b : Nat} (hb : b < m) : ∀ k, ∀ x ∈ lawNear b m k, 0 ≤ x ∧ x < m
  | 0, x, h => by simp [lawNear] at h
  | k + 1, x, h => by
    unfold lawNear at h
    rcases List.mem_append.mp h with h | h
    · exact near_in hb k x h
    · simp only [List.mem_cons, List.not_mem_nil, or_false] at h
      rcases h with rfl | rfl <;> omega
theorem find_eq (M : Many cs tr wr width m) (h24 : cs.length ≤ 24) {t o : Nat} (oo : Own cs tr wr width (m := m) t o) (h mg : Nat) (hh : 0 < h) : ∀ l : List Int, (∀ x ∈ l, 0 ≤ x ∧ x < m) →
    ((l.map fun x => plA cs tr wr width x.toNat).find? fun n => wellP cs tr wr width h mg n (1 + t)) = (l.find? fun x => lawWell x o h (keptM h mg : Nat) m).map fun x => plA cs tr wr width x.toNat
  | [], _ => rfl
  | x :: l, hx => by
    obtain ⟨h1, h2⟩ := hx x (.head _)
    rw [List.map_cons, List.find?_cons, List.find?_cons, well_eq cs tr wr width M h24 oo (show x.toNat < m by omega) h mg hh, show ((x.toNat : Nat) : Int) = x by omega]
    cases lawWell x o h (keptM h mg : Nat) m with
    | true => rfl
    | false => exact find_eq M h24 oo h mg hh l fun y hy => hx y (.tail _ hy)
theorem start_eq (M : Many cs tr wr width m) (h24 : cs.length ≤ 24) {t o b : Nat} (oo : Own cs tr wr width (m := m) t o) (hb : b < m) (h mg fw : Nat) (hh : 0 < h) :
    0 ≤ lawBegins b o h (keptM h mg : Nat) fw m ∧ lawBegins b o h (keptM h mg : Nat) fw m < m ∧ startP cs tr wr width h mg fw (plA cs tr wr width b) t = plA cs tr wr width (lawBegins b o h (keptM h mg : Nat) fw m).toNat := by
  have ho := oo.lt
  unfold lawBegins startP
  rw [well_eq cs tr wr width M h24 oo hb h mg hh, near_eq cs tr wr width M h24 hb, find_eq cs tr wr width M h24 oo h mg hh _ (near_in hb fw)]
  cases lawWell b o h (keptM h mg : Nat) m with
  | true =>
    simp only [if_true]
    exact ⟨by omega, by omega, by congr 1⟩
  | false =>
    simp only [Bool.false_eq_true, if_false]
    cases hf : (lawNear b m fw).find? fun x => lawWell x o h (keptM h mg : Nat) m with
    | some x =>
      have := near_in hb fw x (List.mem_of_find?_eq_some hf)
      simp only [Option.map_some]
      exact ⟨this.1, this.2, trivial⟩
    | none =>
      simp only [Option.map_none]
      refine ⟨by omega, by omega, ?_⟩
      rw [mv_own cs tr wr width M h24 oo]
      congr 1
      unfold onA
      simp only [Bool.false_eq_true, if_false]
      omega
theorem scroll_eq (M : Many cs tr wr width m) (h24 : cs.length ≤ 24) {t o b : Nat} (oo : Own cs tr wr width (m := m) t o) (hb : b < m) (h : Nat) (hh : 0 < h) (up : Bool) (k : Nat) :
    scrollP cs tr wr width h (plA cs tr wr width b) t up k = (1 + (plA cs tr wr width (onA m b k up) : Int),
      if o < onA m b k up then 1 + (plA cs tr wr width (onA m b k up) : Int) else if o ≥ onA m b k up + h then 1 + (plA cs tr wr width (onA m b k up + h - 1) : Int) else 1 + (t : Int)) := by
  have ho := oo.lt
  have hT := on_lt cs tr wr width M hb k up
  unfold scrollP
  rw [mv_own cs tr wr width M h24 (own_at cs tr wr width M hb)]
  generalize onA m b k up = T at hT ⊢
  obtain ⟨n, en, hn, n1, n2, n3⟩ := min_sub hT hh
  rw [win_row cs tr wr width M h24 hT, en, head_stretch _ _ _ _ _ _ hn, end_stretch _ _ _ _ _ _ hn, has_stretch cs tr wr width M oo hT _ hn n2]
  clear en
  have h1 := own_ge cs tr wr width M oo hT
  congr 1
  by_cases c : T ≤ o ∧ o < T + n
  · rw [decide_eq_true c, if_pos rfl, if_neg (by omega), if_neg (by omega)]
  · rw [decide_eq_false c, if_neg (by decide), rowA_s, rowA_s]
    by_cases c2 : o < T
    · have : ¬ plA cs tr wr width T ≤ t := fun h => by have := h1.mp h; omega
      rw [if_pos (by omega), if_pos c2]
    · have := h1.mpr (by omega)
      rw [if_neg (by omega), if_neg c2, if_pos (by omega)]
      congr 3
      omega
end plain

-- F22

def bodyOf (K : Frag) (f : Addr) : List Stmt := match List.lookup f K with
  | some o => (match o.data with
    | .func fd => (match fd.body with
      | .stmts b => b
      | _ => [])
    | _ => [])
  | none => []
def scopeOf (K : Frag) (f : Addr) : Scope := match List.lookup f K with
  | some o => (match o.data with
    | .func fd => fd.scope
    | _ => default)
  | none => default
theorem SS.ofK {prog : Program} {w : World} {K K' : Frag} {d : Nat} {cl : List (Str × Addr)} {ρ : Rho} {H : AH} {Q : Fl → Rho → AH → Prop} {f : Addr} {oc : Value} {od : Option Addr} {osl : Array (Option Value)} {name qual : Str} {params : Arguments} {body : List Stmt} {scope : Scope} {dV kV doc pm cdv ct : Value} {an : Option Addr}
    (ho : K.lookup f = some ⟨oc, od, .func (fnOf name qual params body scope dV kV doc pm an cdv ct), osl⟩) (h : SS prog w K' d scope cl body.tail ρ H Q) : SS prog w K' d (scopeOf K f) cl (bodyOf K f).tail ρ H Q := by
  have e1 : scopeOf K f = scope := by unfold scopeOf; rw [ho]
  have e2 : bodyOf K f = body := by unfold bodyOf; rw [ho]
  rw [e1, e2]; exact h
theorem script_code : ∀ z ∈ ([97, 98, 32, 9, 10, 10, 97] : List Int), Code z := by
  unfold Code
  decide
theorem cnt_ex {m b : Nat} (hb : b < m) (x : Int) : ∃ (up : Bool) (kk : Nat), x = cntI up kk ∧ (up = true → 0 < kk) ∧ max 0 (min ((m : Int) - 1) ((b : Int) + x)) = ((onA m b kk up : Nat) : Int) := by
  by_cases hpos : 0 < x
  · obtain ⟨k, rfl⟩ := Int.eq_ofNat_of_zero_le (Int.le_of_lt hpos)
    refine ⟨true, k, rfl, fun _ => Int.ofNat_lt.mp hpos, ?_⟩
    rw [up_cast hb]
    exact Int.max_eq_right (Int.natCast_nonneg _)
  · obtain ⟨k, hk⟩ := Int.eq_ofNat_of_zero_le (show 0 ≤ -x by omega)
    obtain rfl : x = -(k : Int) := by omega
    refine ⟨false, k, rfl, (fun h => (nomatch h)), ?_⟩
    rw [Int.min_eq_right (by omega)]
    exact dn_cast b k
theorem law_walk (w : World) (c a : Addr) (cells : List Int) (k0 s0 : Int) (hP0 : PotOK cells k0 s0) (H0 : AH) :
    SS PySem.Challenge.rw_np0085_01.row.prog w (Mine.kf.heap_1 w.params) 25 (scopeOf (Mine.kf.heap_1 w.params) 630) [(("pot" : Str), c)] (bodyOf (Mine.kf.heap_1 w.params) 630).tail [(("pot" : Str), V.ptr a)] (upd H0 a (some (potO cells k0 s0))) (fun F ρ' H' => F = .ret (.bool true)) := by
  refine' SS.ofK ?ho ?_
  case ho => k_is
  dsimp only [List.tail]
  walk_at "go"
  refine dipK hP0 (by decide) (by decide) fun r0 k1 s1 hr0a hr0b hP1 => ?_
  walk_at "go"
  refine dipK hP1 (by decide) (by decide) fun r1 k2 s2 hr1a hr1b hP2 => ?_
  walk_at "go"
  refine CALLV.by (options_new w _ _ _) (by decide) ?_
  walk_at "u"
  generalize hTr : decide (r0 = 0) = tr
  generalize hWr : decide (r1 = 0) = wr
  walk_at "go"
  refine dipK hP2 (by decide) (by decide) fun r2 k3 s3 hr2a hr2b hP3 => ?_
  walk_at "go"
  refine EV.comp (some "pot") (fun x => [(("nth" : Str), x)]) [(("pot" : Str), V.ptr a)] [(("pot" : Str), c)] ⟨fun _ _ => rfl, by kernel_rfl, fun _ _ _ _ => rfl, fun x h => ?_, by kernel_rfl, .cons rfl .nil, by kernel_rfl⟩ ?_
  · rfl
  refine SRCE.rng ?_
  walk_at "go"
  refine dipK hP3 (by decide) (by decide) fun r3 k4 s4 hr3a hr3b hP4 => ?_
  walk_at "go"
  refine CALLV.range1 ?_
  refine ⟨_, _, rfl, by decide, by decide, by omega, by omega, ?_⟩
  refine ⟨by simp; omega, fun x _ => ASG.name (by kernel_rfl) x, ?_⟩
  refine COMPT.inv (fun i ys H' => ∃ cs : List Int, ∃ k s, ys = cs.map V.int ∧ cs.length = i ∧ (∀ y ∈ cs, Code y) ∧ PotOK cells k s ∧ H' = upd H0 a (some (potO cells k s))) _ 0 _ _ ⟨[], k4, s4, rfl, rfl, fun _ h => (nomatch h), hP4, rfl⟩ ?_ ?_
  · rintro i x ys H' hx ⟨cs, k5, s5, rfl, h1, h2, hP5, rfl⟩ vl
    walk_at "go"
    walk_at "lf"
    walk_at "go"
    refine ⟨by exact Nat.le_of_ble_eq_true rfl, ?_⟩
    walk_at "go"
    refine dipK hP5 (by decide) (by decide) fun r5 k6 s6 hr5a hr5b hP6 => ?_
    have hr : r5 = ((r5.toNat : Nat) : Int) := by omega
    have hlt : r5.toNat < ([97, 98, 32, 9, 10, 10, 97] : List Int).length := by show r5.toNat < 7; omega
    refine ⟨r5, ([97, 98, 32, 9, 10, 10, 97] : List Int).map V.int, r5.toNat, .int ([97, 98, 32, 9, 10, 10, 97] : List Int)[r5.toNat], rfl, .inr (.inl rfl), by exact Nat.le_of_ble_eq_true rfl, by rw [hr]; exact seq_nat hlt, by rw [List.getElem?_map, List.getElem?_eq_getElem hlt]; rfl, ?_⟩
    refine ⟨cs ++ [([97, 98, 32, 9, 10, 10, 97] : List Int)[r5.toNat]], k6, s6, by rw [List.map_append]; rfl, by rw [List.length_append, h1]; rfl, fun y hy => ?_, hP6, rfl⟩
    rcases List.mem_append.mp hy with hy | hy
    · exact h2 y hy
    · rw [List.mem_singleton.mp hy]
      have hmem := List.getElem_mem hlt
      generalize ([97, 98, 32, 9, 10, 10, 97] : List Int)[r5.toNat] = z at hmem
      exact script_code z hmem
  · rintro ys H' ⟨cs, k5, s5, rfl, h1, h2, hP5, rfl⟩
    have hcs : Codes cs := ⟨h2, by rw [h1]; simp; omega⟩
    walk_at "go"
    refine CALLV.by (view_new w cs _) (by decide) ?_
    walk_at "u"
    walk_at "c"
    refine S1.assignSw (names := ["rules", "table", "height"]) (fun _ => rfl) (fun _ _ _ _ _ => rfl) (by decide +kernel) (by simp) ?_
    walk_at "go"
    refine dipK hP5 (by decide) (by decide) fun r5 k6 s6 hr5a hr5b hP6 => ?_
    walk_at "go"
    refine dipK hP6 (by decide) (by decide) fun r6 k7 s7 hr6a hr6b hP7 => ?_
    walk_at "go"
    have e5 : r5 = ((r5.toNat : Nat) : Int) := by omega
    have e6 : r6 = ((r6.toNat : Nat) : Int) := by omega
    generalize hmg : r5.toNat = mg at e5
    generalize hfw : r6.toNat = fw at e6
    subst e5
    subst e6
    refine CALLV.by (rules_new w mg fw _) (by decide) ?_
    walk_at "u"
    walk_at "go"
    refine CALLV.by (table_new w _) (by decide) ?_
    rintro v H' ⟨⟨tl, rfl⟩, rfl⟩
    walk_at "go"
    refine dipK hP7 (by decide) (by decide) fun r7 k8 s8 hr7a hr7b hP8 => ?_
    walk_at "go"
    refine ⟨by exact Nat.le_of_ble_eq_true rfl, _, rfl, rfl, ?_⟩
    generalize hHI : (2 : Int) + r7 = hI
    have e7 : hI = ((hI.toNat : Nat) : Int) := by omega
    generalize hh : hI.toNat = h at e7
    subst e7
    have P : Pn h mg fw := ⟨by omega, by omega, by omega, by omega⟩
    generalize hW : (3 : Int) + r2 = width
    have G : Gd cs width := ⟨hcs, by omega, by omega⟩
    have hh4 : h = 2 ∨ h = 3 ∨ h = 4 ∨ h = 5 := by have := P.h1; have := P.h2; omega
    have hm3 : mg = 0 ∨ mg = 1 ∨ mg = 2 := by have := P.m; omega
    walk_at "go"
    refine CALLV.by (pane_new w cs tl h width tr wr mg fw _) (by decide) ?_
    walk_at "u"
    walk_at "go"
    refine CALLV.by (begin_ok w cs _) (by decide) ?_
    walk_at "u"
    walk_at "go"
    refine ⟨by exact Nat.le_of_ble_eq_true rfl, ?_⟩
    walk_at "go"
    refine CALLV.by (laid_rows_ok w cs width G tl 0 (Nat.zero_le _) 0 99 (by decide) tr wr _ 1 (by decide)) (by decide) ?_
    rintro v H' ⟨⟨rs, hrs, hok, rfl⟩, rfl⟩
    obtain ⟨m, M⟩ := many_ex cs tr wr width
    have hml := M.le
    have h24 := hcs.2
    have hmp := M.pos
    have hR : rs.map RX.d = stretch cs tr wr width 0 m := by
      have := rows_stretch cs tr wr width M 99 0 M.pos
      rw [show min 99 (m - 0) = m by omega] at this
      rw [hrs, ← this]; rfl
    have hlen : rs.length = m := by
      have := congrArg List.length hR
      rw [List.length_map, stretch_len] at this; exact this
    have hget : ∀ i, i < m → ∃ r, (rs.map rowV)[i]? = some (rowV r) ∧ r.d = rowA cs tr wr width i := by
      intro i hi
      have h1 := stretch_get cs tr wr width (a := 0) hi
      rw [← hR, Nat.zero_add] at h1
      rw [List.getElem?_map] at h1 ⊢
      cases hr : rs[i]? with
      | none => rw [hr] at h1; cases h1
      | some r => rw [hr] at h1; exact ⟨r, rfl, Option.some.inj h1⟩
    have hseq : ∀ i, i < m → seqIndex? ((i : Nat) : Int) (rs.map rowV).length = some i := fun i hi => seq_nat (by rw [List.length_map, hlen]; exact hi)
    have hl30 : (rs.map rowV).length ≤ 2 ^ 30 := by rw [List.length_map, hlen]; omega
    walk_at "go"
    refine OP2.div (b := 2) (by decide) ?_ ?_
    · rcases hh4 with rfl | rfl | rfl | rfl <;> decide
    walk_at "go"
    refine CALLV.min2 ?_
    have hmar : min (mg : Int) (((h : Int) - 1).fdiv 2) = ((keptM h mg : Nat) : Int) := by rcases hh4 with rfl | rfl | rfl | rfl <;> rcases hm3 with rfl | rfl | rfl <;> rfl
    rw [hmar]
    walk_at "c"
    refine S1.forR (fun _ _ => rfl) ?_
    walk_at "go"
    refine CALLV.range1 ?_
    refine ⟨_, _, rfl, by decide, by decide, by decide, by decide, ?_⟩
    refine FORT.list (fun i ρ' H' => (∃ k s, PotOK cells k s ∧ H' = upd H0 a (some (potO cells k s))) ∧ ρ'.lookup ("pot" : Str) = some (.ptr a) ∧ ρ'.lookup ("pane" : Str) = some (paneV cs tl h width tr wr mg fw) ∧ ρ'.lookup ("view" : Str) = some (viewV cs) ∧ ρ'.lookup ("lines_laid" : Str) = some (.lst (rs.map rowV)) ∧ ρ'.lookup ("margin" : Str) = some (.int (keptM h mg : Nat)) ∧ ρ'.lookup ("height" : Str) = some (.int h) ∧ ρ'.lookup ("rules" : Str) = some (rulesV mg fw)) _ 0 _ _ ⟨⟨k8, s8, hP8, rfl⟩, rfl, rfl, rfl, rfl, rfl, rfl, rfl⟩ ?_ ?_
    · rintro i x ρ' H' hx ⟨⟨k9, s9, hP9, rfl⟩, g1, g2, g3, g4, g5, g6, g7⟩
      refine AS.name (by kernel_rfl) ?_
      walk_at "c"
      refine S1.assignSw (names := ["begin", "at_point"]) (fun _ => rfl) (fun _ _ _ _ _ => rfl) (by decide +kernel) (by simp) ?_
      walk_at "go"
      refine CALLV.len (l := rs.map rowV) (.inr (.inl rfl)) hl30 ?_
      walk_at "go"
      rw [List.length_map, hlen]
      refine dipK hP9 (by omega) (by decide) fun r9 k10 s10 hr9a hr9b hP10 => ?_
      walk_at "go"
      refine CALLV.by (begin_ok w cs _) (by decide) ?_
      walk_at "u"
      walk_at "go"
      refine CALLV.len (l := cs.map V.int) (.inr (.inl rfl)) (by simp; omega) ?_
      walk_at "go"
      rw [List.length_map]
      refine dipK hP10 (by omega) (by decide) fun r10 k11 s11 hr10a hr10b hP11 => ?_
      walk_at "go"
      refine ⟨by exact Nat.le_of_ble_eq_true rfl, _, rfl, rfl, ?_⟩
      obtain ⟨b, hb⟩ : ∃ b : Nat, r9 = (b : Int) := ⟨r9.toNat, by omega⟩
      obtain ⟨t, ht⟩ : ∃ t : Nat, r10 = (t : Int) := ⟨r10.toNat, by omega⟩
      subst hb
      subst ht
      have hbm : b < m := by omega
      have htl : t ≤ cs.length := by omega
      obtain ⟨o, oo⟩ := own_ex cs tr wr width M t htl
      have hom := oo.lt
      have hidx : idxOf (rs.map RX.d) (1 + (t : Int)) = o := by
        rw [hR, idx_stretch cs tr wr width M (by omega) oo (Nat.zero_le _) (by omega)]; omega
      obtain ⟨rb, gb, db⟩ := hget b hbm
      walk_at "c"
      refine S1.assignSw (names := ["own", "start"]) (fun _ => rfl) (fun _ _ _ _ _ => rfl) (by decide +kernel) (by simp) ?_
      walk_at "go"
      refine CALLV.by (row_of_ok w rs (by omega) (by omega) (1 + t) _) (by decide) ?_
      rw [hidx]
      walk_at "u"
      walk_at "go"
      refine ⟨_, rs.map rowV, b, _, rfl, .inr (.inl rfl), hl30, hseq b hbm, gb, ?_⟩
      walk_at "go"
      refine ⟨_, _, 0, _, rfl, .inl rfl, by exact Nat.le_of_ble_eq_true rfl, rfl, rfl, ?_⟩
      walk_at "go"
      refine ⟨by exact Nat.le_of_ble_eq_true rfl, _, rfl, rfl, ?_⟩
      rw [db, rowA_s]
      walk_at "go"
      refine CALLV.len (l := rs.map rowV) (.inr (.inl rfl)) hl30 ?_
      walk_at "go"
      rw [List.length_map, hlen]
      refine CALLV.by (law_begins_ok w b o h P.h1 P.h2 (keptM h mg : Nat) fw P.f m _) (by decide) ?_
      walk_at "u"
      obtain ⟨hd1, hd2, hd3⟩ := start_eq cs tr wr width M h24 oo hbm h mg fw (by have := P.h1; omega)
      generalize hdue : lawBegins b o h (keptM h mg : Nat) fw m = dI at hd1 hd2 hd3 ⊢
      obtain ⟨due, hdu⟩ : ∃ due : Nat, dI = (due : Int) := ⟨dI.toNat, by omega⟩
      subst hdu
      have hdm : due < m := by omega
      rw [Int.toNat_natCast] at hd3
      obtain ⟨rd, gd, dd⟩ := hget due hdm
      walk_at "go"
      refine CALLV.by (start_for_ok w cs width G tl tr wr h mg fw P (plA cs tr wr width b) (plA_le cs tr wr width b) _ _ rfl t htl _ rfl) (by decide) ?_
      rw [hd3]
      walk_at "u"
      walk_at "go"
      refine ⟨_, rs.map rowV, due, _, rfl, .inr (.inl rfl), hl30, hseq due hdm, gd, ?_⟩
      walk_at "go"
      refine ⟨_, _, 0, _, rfl, .inl rfl, by exact Nat.le_of_ble_eq_true rfl, rfl, rfl, ?_⟩
      rw [dd, rowA_s]
      walk_at "go"
      refine brF (by simp) ?_
      walk_at "go"
      refine dipK hP11 (by decide) (by decide) fun r11 k12 s12 hr11a hr11b hP12 => ?_
      walk_at "go"
      obtain ⟨up, kk, hcnt, hup, hth⟩ := cnt_ex hbm (r11 - 4)
      have hsc := scroll_eq cs tr wr width M h24 oo hbm h (by have := P.h1; omega) up kk
      have hTm := on_lt cs tr wr width M hbm kk up
      generalize onA m b kk up = T at hth hsc hTm
      obtain ⟨rt, gt, dt⟩ := hget T hTm
      refine CALLV.len (l := rs.map rowV) (.inr (.inl rfl)) hl30 ?_
      walk_at "go"
      rw [List.length_map, hlen]
      refine CALLV.min2 ?_
      walk_at "go"
      refine CALLV.max2 ?_
      rw [hth]
      walk_at "go"
      refine ⟨_, rs.map rowV, T, _, rfl, .inr (.inl rfl), hl30, hseq T hTm, gt, ?_⟩
      walk_at "go"
      refine ⟨_, _, 0, _, rfl, .inl rfl, by exact Nat.le_of_ble_eq_true rfl, rfl, rfl, ?_⟩
      rw [dt, rowA_s]
      walk_at "go"
      have hcall : ∀ H, C0 w 19 (.ref 522) [paneV cs tl h width tr wr mg fw, .int (1 + (plA cs tr wr width b : Int)), .int (1 + (t : Int)), .int (r11 - 4)] H (fun v H' => v = .tup [.int (scrollP cs tr wr width h (plA cs tr wr width b) t up kk).1, .int (scrollP cs tr wr width h (plA cs tr wr width b) t up kk).2] ∧ H' = H) :=
        fun H => scrolled_ok w cs width G tl tr wr h mg fw P (plA cs tr wr width b) (plA_le cs tr wr width b) H _ rfl t htl _ rfl up kk hup _ hcnt
      rw [hsc] at hcall
      by_cases c1 : o < T
      · refine brT (by simpa using c1) ?_
        walk_at "go"
        refine ⟨by exact Nat.le_of_ble_eq_true rfl, ?_⟩
        walk_at "go"
        refine CALLV.by (hcall _) (by decide) ?_
        walk_at "u"
        walk_at "go"
        rw [if_pos c1]
        refine brF (by simp) ?_
        walk_at "go"
        exact ⟨⟨k12, s12, hP12, rfl⟩, g1, g2, g3, g4, g5, g6, g7⟩
      · refine brF (by simpa using c1) ?_
        walk_at "go"
        rw [if_neg c1] at hcall
        by_cases c2 : o ≥ T + h
        · refine brT (by simp; omega) ?_
          obtain ⟨re, ge, de⟩ := hget (T + h - 1) (by omega)
          have he : (T : Int) + h - 1 = ((T + h - 1 : Nat) : Int) := by have := P.h1; omega
          walk_at "go"
          refine ⟨_, rs.map rowV, T + h - 1, _, rfl, .inr (.inl rfl), hl30, by rw [he]; exact hseq _ (by omega), ge, ?_⟩
          walk_at "go"
          refine ⟨_, _, 0, _, rfl, .inl rfl, by exact Nat.le_of_ble_eq_true rfl, rfl, rfl, ?_⟩
          rw [de, rowA_s]
          walk_at "go"
          refine ⟨by exact Nat.le_of_ble_eq_true rfl, ?_⟩
          walk_at "go"
          refine CALLV.by (hcall _) (by decide) ?_
          walk_at "u"
          walk_at "go"
          rw [if_pos c2]
          refine brF (by simp) ?_
          walk_at "go"
          exact ⟨⟨k12, s12, hP12, rfl⟩, g1, g2, g3, g4, g5, g6, g7⟩
        · refine brF (by simp; omega) ?_
          walk_at "go"
          refine ⟨by exact Nat.le_of_ble_eq_true rfl, ?_⟩
          walk_at "go"
          refine CALLV.by (hcall _) (by decide) ?_
          walk_at "u"
          walk_at "go"
          rw [if_neg c2]
          refine brF (by simp) ?_
          walk_at "go"
          exact ⟨⟨k12, s12, hP12, rfl⟩, g1, g2, g3, g4, g5, g6, g7⟩
    · rintro ρ' H' _
      walk_at "go"
      rfl

-- F23

theorem first_ofK {prog : Program} {w : World} {K K' : Frag} {d : Nat} {cl : List (Str × Addr)} {ρ : Rho} {H : AH} {Q : Fl → Rho → AH → Prop} {f : Addr} {oc : Value} {od : Option Addr} {osl : Array (Option Value)} {name qual : Str} {params : Arguments} {st : Stmt} {rest : List Stmt} {scope : Scope} {dV kV doc pm cdv ct : Value} {an : Option Addr}
    (ho : K.lookup f = some ⟨oc, od, .func (fnOf name qual params (st :: rest) scope dV kV doc pm an cdv ct), osl⟩) (h : S1 prog w K' d scope cl st ρ H Q) : ∃ st rest, bodyOf K f = st :: rest ∧ S1 prog w K' d (scopeOf K f) cl st ρ H Q := by
  have e1 : scopeOf K f = scope := by unfold scopeOf; rw [ho]
  have e2 : bodyOf K f = st :: rest := by unfold bodyOf; rw [ho]
  exact ⟨st, rest, e2, by rw [e1]; exact h⟩
theorem law_first (w : World) (as : Addr) (oo : Obj) (vs : List Value) (n : Nat) (ns : List Int) (hoc : oo.cls = .type "list") (hod : oo.data = .seq (List.toArray vs) n) (hI : IntsAre vs ns) (hlen : vs.length ≤ 63) (hK : List.lookup as (KP w as oo) = some oo) (c : Addr) (H : AH) (hc : H c = some .cel) :
    ∃ st rest, bodyOf (Mine.kf.heap_1 w.params) 630 = st :: rest ∧ S1 PySem.Challenge.rw_np0085_01.row.prog w (KP w as oo) 25 (scopeOf (Mine.kf.heap_1 w.params) 630) [(("pot" : Str), c)] st [(("script" : Str), V.raw (.ref as))] H
      (fun F ρ' H' => F = .next ∧ ∃ a cells k s H0, PotOK cells k s ∧ ρ' = [(("pot" : Str), V.ptr a), (("script" : Str), V.raw (.ref as))] ∧ H' = upd H0 a (some (potO cells k s))) := by
  refine' first_ofK ?ho ?_
  case ho => k_is
  refine S1.assignC (c := c) (by decide +kernel) rfl (fun _ => rfl) ?_
  refine EV.call rfl (fun _ => rfl) ?_
  refine EV.nameG (by kernel_rfl) (nsIn_more (by k_is)) ?_
  refine ca_raw (show keepIn (KP w as oo) (.ref 599) = true from keepIn_fn (lookup_more (by k_is))) ?_
  refine ARGS.cons' rfl ?_
  refine EV.nameL (by kernel_rfl) rfl ?_
  refine ARGS.nil ?_
  refine CALLV.by (pot_ok w as oo vs n ns hoc hod hI hlen hK H) (by decide) ?_
  rintro v H' ⟨a, cells, k, s, ha, hP, rfl, rfl⟩
  have hca : c ≠ a := fun q => by rw [q, ha] at hc; cases hc
  refine ⟨by rw [upd_ne _ _ hca]; exact hc, rfl, a, cells, k, s, upd H c none, hP, rfl, ?_⟩
  rw [upd_comm (Ne.symm hca)]
theorem law_kind (w : World) : (scopeOf (Mine.kf.heap_1 w.params) 630).kind = .function ∧ (∀ x, (scopeOf (Mine.kf.heap_1 w.params) 630).names.lookup x ≠ some .free) ∧ (scopeOf (Mine.kf.heap_1 w.params) 630).names.lookup ("script" : Str) = some .local := by
  have key : ∀ sc : Scope, sc.kind = .function → (sc.names.all fun y => decide (y.2 ≠ .free)) = true → sc.names.lookup ("script" : Str) = some .local → sc.kind = .function ∧ (∀ x, sc.names.lookup x ≠ some .free) ∧ sc.names.lookup ("script" : Str) = some .local := by
    intro sc h1 h2 h3
    refine ⟨h1, fun x hx => ?_, h3⟩
    obtain ⟨l1, l2, e, _⟩ := List.lookup_eq_some_iff.mp hx
    exact of_decide_eq_true (List.all_eq_true.mp h2 (x, .free) (by rw [e]; simp)) rfl
  exact key _ (by kernel_rfl) (by kernel_rfl) (by kernel_rfl)
theorem law_top (w : World) {s₁ : Shared} {h₁ : Heap} {tk : Nat} {fa : Addr} {cd : Value} {wo : Obj} {m : Str → Option Value} {cn : Str} {al : Addr} {vs : List Value} {ns : List Int} {body : List Stmt} {scope : Scope} {GP : Flow → Shared → Prop} {EP : Value → Shared → Prop}
    {p : Program} {loose : List Str} {mean : ExcName → Option Value} {mg mb : Str → Option Value} {base : Heap}
    (hbody : body = bodyOf (Mine.kf.heap_1 w.params) 630) (hscope : scope = scopeOf (Mine.kf.heap_1 w.params) 630)
    (KX : (Mine.kf.heap_1 w.params).In s₁.heap) (T : Top p loose mean mg mb s₁.heap) (K0 : Below callerA base [] s₁.heap)
    (F : Fr s₁.heap s₁.heap.objs.size h₁ m) (hm : m ("script" : Str) = some (.ref al))
    (N0 : News s₁.heap s₁.heap.objs.size h₁ [(s₁.heap.objs.size + 1, wo)]) (hwo : wo.data = .cell none)
    (hL : s₁.heap.IsList al vs.toArray) (hI : IntsAre vs ns) (hlen : ¬ 63 < ns.length)
    (hend : ∀ h' tk' m', Fr s₁.heap s₁.heap.objs.size h' m' → GP (.ret (.bool true)) { s₁ with heap := h', toks := tk' }) :
    wpAny (model PySem.Challenge.rw_np0085_01.row.prog w) (callerA.deeper (envX cn scope s₁.heap.objs.size fa cd [(("pot" : Str), s₁.heap.objs.size + 1)])) (execs body (envX cn scope s₁.heap.objs.size fa cd [(("pot" : Str), s₁.heap.objs.size + 1)])) GP EP { s₁ with heap := h₁, toks := tk } := by
  subst hbody
  subst hscope
  obtain ⟨oo, hget, hoc, n, hod⟩ := hL
  have hvl : vs.length ≤ 63 := by rw [hI.length]; omega
  obtain ⟨k1, k2, k3⟩ := law_kind w
  have hK : List.lookup al (KP w al oo) = some oo := by
    cases q : List.lookup al (Mine.kf.heap_1 w.params) with
    | some o' =>
      have := KX _ _ q
      rw [hget] at this
      cases this
      exact lookup_more q
    | none =>
      have : ∀ K : Frag, K.lookup al = none → List.lookup al (K ++ [(al, oo)]) = some oo := by
        intro K
        induction K with
        | nil => intro _; simp [List.lookup]
        | cons y r ih =>
          obtain ⟨b, x⟩ := y
          intro h
          rw [List.lookup_cons] at h
          rw [List.cons_append, List.lookup_cons]
          cases hb : al == b with
          | true => simp [hb] at h
          | false => simp only [hb] at h ⊢; exact ih h
      exact this _ q
  have S0 : St [] s₁.heap s₁.heap.objs.size m [] (upd (fun _ => none) (s₁.heap.objs.size + 1) (some .cel)) h₁ := by
    refine ⟨F, [(s₁.heap.objs.size + 1, wo)], id, N0, by simp, ?_, ?_⟩
    · intro a o e
      by_cases h : a = s₁.heap.objs.size + 1
      · subst h; rw [upd_same] at e; cases e; exact ⟨wo, .head _, hwo⟩
      · rw [upd_ne _ _ h] at e; cases e
    · intro a b C ns l C' ns' l' e1 e2 q
      by_cases h : a = s₁.heap.objs.size + 1
      · subst h; rw [upd_same] at e1; cases e1
      · rw [upd_ne _ _ h] at e1; cases e1
  have CXof : ∀ K : Frag, K.In s₁.heap → CX K 25 (scopeOf (Mine.kf.heap_1 w.params) 630) [(("pot" : Str), s₁.heap.objs.size + 1)] (envX cn (scopeOf (Mine.kf.heap_1 w.params) 630) s₁.heap.objs.size fa cd [(("pot" : Str), s₁.heap.objs.size + 1)]) (callerA.deeper (envX cn (scopeOf (Mine.kf.heap_1 w.params) 630) s₁.heap.objs.size fa cd [(("pot" : Str), s₁.heap.objs.size + 1)])) s₁.heap s₁.heap.objs.size := fun K hKin =>
    ⟨.inl ⟨⟨cn, fa, cd, rfl⟩, k2⟩, k1, ⟨_, [], callerA, base, K0, Around.frames_deeper rfl, rfl, k1⟩, hKin, ⟨p, loose, mean, mg, mb, T⟩, rfl, (show 1 + claimMargin + 1 + 10 * 25 ≤ 900 by decide), (show 4 + 3 + 100 * 25 ≤ 9000 by decide)⟩
  have LO0 : Loc (scopeOf (Mine.kf.heap_1 w.params) 630) [(("pot" : Str), s₁.heap.objs.size + 1)] [] [] m [(("script" : Str), V.raw (.ref al))] := by
    intro x V e
    rw [List.lookup_cons] at e
    by_cases q : (x == ("script" : Str)) = true
    · have : x = ("script" : Str) := eq_of_beq q
      subst this
      simp only [q] at e
      cases e
      exact ⟨fun _ => ⟨_, hm, by simp only [Den]⟩, fun h => by rw [k3] at h; (cases h), fun h => by rw [k3] at h; (cases h)⟩
    · simp only [q] at e
      cases e
  obtain ⟨st, rest, hb, h1⟩ := law_first w al oo vs n ns hoc hod hI hvl hK (s₁.heap.objs.size + 1) (upd (fun _ => none) (s₁.heap.objs.size + 1) (some .cel)) (upd_same _ _ _)
  rw [hb]
  refine wpAny_mono (wpAny_execs_cons (h1 _ _ [] s₁.heap s₁.heap.objs.size m [] { s₁ with heap := h₁, toks := tk } (CXof _ (in_more KX hget)) S0 LO0 (fun f s' => match f with | .next => wpAny (model PySem.Challenge.rw_np0085_01.row.prog w) (callerA.deeper (envX cn (scopeOf (Mine.kf.heap_1 w.params) 630) s₁.heap.objs.size fa cd [(("pot" : Str), s₁.heap.objs.size + 1)])) (execs rest (envX cn (scopeOf (Mine.kf.heap_1 w.params) 630) s₁.heap.objs.size fa cd [(("pot" : Str), s₁.heap.objs.size + 1)])) GP (fun _ _ => False) s' | f => GP f s') ?_)) (fun _ _ x => x) fun _ _ x => x.elim
  intro f F1 ρ1 m1 fz1 H1 h2 t2 S1 sub1 L1 D1 q1
  obtain ⟨rfl, a, cells, k, s, H0, hP, rfl, rfl⟩ := q1
  simp only [FDen] at D1; subst D1
  have hw := law_walk w (s₁.heap.objs.size + 1) a cells k s hP H0
  rw [hb] at hw
  refine hw _ _ [] s₁.heap s₁.heap.objs.size m1 fz1 { s₁ with heap := h2, toks := t2 } (CXof _ KX) S1 (L1.agree (.cons rfl .nil)) _ ?_
  intro f F2 ρ2 m2 fz2 H2 h3 t3 S2 sub2 L2 D2 q2
  subst q2
  simp only [FDen, Den] at D2
  obtain ⟨u, rfl, rfl⟩ := D2
  exact hend h3 t3 m2 S2.frm

end Mine
-- the two looks that the opening asks were proved above: no second form of the whole program is laid for them
local macro_rules | `(tactic| k_qdec) => `(tactic| first | with_reducible exact Mine.look1 | with_reducible exact Mine.look2)
theorem PySem.Challenge.cw_np0085_01_holds : PySem.Challenge.rw_np0085_01.Holds := by
  w_on
  refine holds_law Mine.said fun said => ?_
  refine holds_open (q := Mine.Hd.q) (loose := Mine.Hd.lo) (Xt := Mine.Hd.Xt) (XP := XL Mine.Hd.q []) (Yf := Hook.obs Mine.Hd.hk) (Ya := Hook.val Mine.Hd.hk) (YP := Hook.says (kHook Mine.kf.heap_1 Mine.Hd.as Mine.Hd.as_eq)) (N := 8608) Mine.Hd.left (Hook.of Mine.Hd.hk) (Hook.keeps Mine.Hd.hk) (fun s e => xl_of s (Bool.and_eq_true_iff.mp e).1) XL.keeps (by rfl) (by rfl) (by rfl) (fun s e => recFacts_of (Bool.and_eq_true_iff.mp e).2) (by rfl) (by first | assumption | decide +kernel) (by decide +kernel) ⟨rfl, rfl, rfl, rfl, rfl, by decide +kernel⟩ ?hw ?hc
  case hw => w_witness2
  w_strict (
    k_go0
    refine Mine.law_top _ (by kernel_rfl) (by kernel_rfl) ‹_› ‹Top _ _ _ _ _ _› (base := _) ‹Below _ _ _ _› ‹_› rfl ‹_› ‹_› ‹_› ‹_› (by omega) ?_
    intro h' tk' m' F'
    show GoodW _ _ _ _ _ (Except.ok (Flow.ret (Value.bool true))) _
    wrow_close)
