import PyProof.Rows.All
import Wide.All
import OpenK.AllK
import Wide.FinOn
import Lean
import PySem.Challenge.RW_oj0034_01
open PySem PySem.W PySem.Calls PyProof.Rows
set_option Elab.async false
set_option linter.all false
set_option maxRecDepth 100000
set_option compiler.extract_closed false

section
set_option Elab.async false
set_option maxRecDepth 100000
set_option compiler.extract_closed false
namespace Mine
noncomputable abbrev pw : Program := PySem.Challenge.pw_oj0034_01
noncomputable def nthS : List Stmt → Nat → Stmt
  | [], _ => .Pass default
  | s :: _, 0 => s
  | _ :: r, n + 1 => nthS r n
noncomputable def clsBody : Stmt → List Stmt
  | .ClassDef _ _ _ b _ _ _ _ _ _ _ => b
  | _ => []
noncomputable def tp (i : Nat) : Stmt := nthS PySem.Challenge.pw_oj0034_01.main.body i
noncomputable def mt (i k : Nat) : Stmt := nthS (clsBody (tp i)) k
noncomputable abbrev vs (x : String) (t : Nat) : Value := .str (Str.ofString x) t
noncomputable def fobj (st : Stmt) (qual : Str) (dV pm : Value) (code : Addr) : Obj := match st with
  | .FunctionDef name params body _ _ _ scope _ _ _ => ⟨.type "function", none, .func (fnOf name qual params body scope dV .none .none pm none (.ref code) .none), #[]⟩
  | _ => default
noncomputable def Kf (P : Params) : Frag := [
  (3, ⟨(.type "dict"), none, .dict #[⟨PyData.keyHash P "__name__", vs "__name__" 165, (vs "law_oj0034_01" 1348)⟩, ⟨PyData.keyHash P "__doc__", vs "__doc__" 166, .none⟩, ⟨PyData.keyHash P "__package__", vs "__package__" 167, .none⟩, ⟨PyData.keyHash P "__loader__", vs "__loader__" 168, (.builtin "__main__.__loader__#opaque")⟩, ⟨PyData.keyHash P "__spec__", vs "__spec__" 169, .none⟩, ⟨PyData.keyHash P "__annotations__", vs "__annotations__" 170, (.ref 6)⟩, ⟨PyData.keyHash P "__builtins__", vs "__builtins__" 171, (.ref 4)⟩, ⟨PyData.keyHash P "__file__", vs "__file__" 173, (vs "/claim/cut.py" 172)⟩, ⟨PyData.keyHash P "__cached__", vs "__cached__" 174, .none⟩, ⟨PyData.keyHash P "_wall", vs "_wall" 193, (.ref 21)⟩, ⟨PyData.keyHash P "downcase", vs "downcase" 202, (.ref 28)⟩, ⟨PyData.keyHash P "upcase", vs "upcase" 209, (.ref 35)⟩, ⟨PyData.keyHash P "is_upper", vs "is_upper" 216, (.ref 42)⟩, ⟨PyData.keyHash P "is_lower", vs "is_lower" 223, (.ref 49)⟩, ⟨PyData.keyHash P "upcased", vs "upcased" 229, (.ref 54)⟩, ⟨PyData.keyHash P "downcased", vs "downcased" 235, (.ref 59)⟩, ⟨PyData.keyHash P "initials_upcased", vs "initials_upcased" 246, (.ref 66)⟩, ⟨PyData.keyHash P "MOST_PARENTS", vs "MOST_PARENTS" 250, (.int 20 249)⟩, ⟨PyData.keyHash P "Abbrev", vs "Abbrev" 284, (.ref 83)⟩, ⟨PyData.keyHash P "AbbrevTable", vs "AbbrevTable" 317, (.ref 104)⟩, ⟨PyData.keyHash P "key_of", vs "key_of" 323, (.ref 113)⟩, ⟨PyData.keyHash P "define", vs "define" 334, (.ref 120)⟩, ⟨PyData.keyHash P "forget", vs "forget" 343, (.ref 127)⟩, ⟨PyData.keyHash P "own_entry", vs "own_entry" 352, (.ref 134)⟩, ⟨PyData.keyHash P "tables_from", vs "tables_from" 363, (.ref 141)⟩, ⟨PyData.keyHash P "entry_of", vs "entry_of" 373, (.ref 148)⟩, ⟨PyData.keyHash P "is_word_sign", vs "is_word_sign" 381, (.ref 155)⟩, ⟨PyData.keyHash P "many_words", vs "many_words" 392, (.ref 162)⟩, ⟨PyData.keyHash P "has_upper", vs "has_upper" 398, (.ref 167)⟩, ⟨PyData.keyHash P "has_lower", vs "has_lower" 404, (.ref 172)⟩, ⟨PyData.keyHash P "first_upcased", vs "first_upcased" 413, (.ref 179)⟩, ⟨PyData.keyHash P "written", vs "written" 424, (.ref 186)⟩, ⟨PyData.keyHash P "expansion_of", vs "expansion_of" 434, (.ref 193)⟩, ⟨PyData.keyHash P "unexpanded", vs "unexpanded" 443, (.ref 200)⟩, ⟨PyData.keyHash P "LispSignal", vs "LispSignal" 476, (.ref 217)⟩, ⟨PyData.keyHash P "need_writable", vs "need_writable" 485, (.ref 227)⟩, ⟨PyData.keyHash P "reached", vs "reached" 496, (.ref 234)⟩, ⟨PyData.keyHash P "tell_ahead", vs "tell_ahead" 506, (.ref 241)⟩, ⟨PyData.keyHash P "tell_behind", vs "tell_behind" 517, (.ref 248)⟩, ⟨PyData.keyHash P "text_out", vs "text_out" 527, (.ref 255)⟩, ⟨PyData.keyHash P "text_in", vs "text_in" 536, (.ref 262)⟩, ⟨PyData.keyHash P "hung_out", vs "hung_out" 545, (.ref 269)⟩, ⟨PyData.keyHash P "hung_in", vs "hung_in" 555, (.ref 276)⟩, ⟨PyData.keyHash P "put_in", vs "put_in" 566, (.ref 283)⟩, ⟨PyData.keyHash P "insert_at", vs "insert_at" 576, (.ref 291)⟩, ⟨PyData.keyHash P "delete", vs "delete" 588, (.ref 298)⟩, ⟨PyData.keyHash P "replace", vs "replace" 602, (.ref 305)⟩, ⟨PyData.keyHash P "syntax_at", vs "syntax_at" 614, (.ref 312)⟩, ⟨PyData.keyHash P "is_of", vs "is_of" 628, (.ref 320)⟩, ⟨PyData.keyHash P "skip_forward", vs "skip_forward" 640, (.ref 328)⟩, ⟨PyData.keyHash P "skip_backward", vs "skip_backward" 652, (.ref 336)⟩, ⟨PyData.keyHash P "WHITESPACE", vs "WHITESPACE" 656, (vs " " 655)⟩, ⟨PyData.keyHash P "WORD", vs "WORD" 658, (vs "w" 657)⟩, ⟨PyData.keyHash P "PUNCTUATION", vs "PUNCTUATION" 660, (vs "." 659)⟩, ⟨PyData.keyHash P "INHERITS", vs "INHERITS" 662, (vs "@" 661)⟩, ⟨PyData.keyHash P "KINDS", vs "KINDS" 664, (vs " w_.()'\"\\/$<>@!|" 663)⟩, ⟨PyData.keyHash P "FLAGS", vs "FLAGS" 666, (vs "1234bcnp" 665)⟩, ⟨PyData.keyHash P "Syntax", vs "Syntax" 728, (.ref 381)⟩, ⟨PyData.keyHash P "sorted_flags", vs "sorted_flags" 734, (.ref 390)⟩, ⟨PyData.keyHash P "read_syntax", vs "read_syntax" 740, (.ref 395)⟩, ⟨PyData.keyHash P "SyntaxTable", vs "SyntaxTable" 834, (.ref 462)⟩, ⟨PyData.keyHash P "forward_by", vs "forward_by" 849, (.ref 473)⟩, ⟨PyData.keyHash P "forward_word", vs "forward_word" 859, (.ref 480)⟩, ⟨PyData.keyHash P "Expansion", vs "Expansion" 894, (.ref 497)⟩, ⟨PyData.keyHash P "word_before", vs "word_before" 906, (.ref 508)⟩, ⟨PyData.keyHash P "expand_abbrev", vs "expand_abbrev" 919, (.ref 515)⟩, ⟨PyData.keyHash P "unexpand_abbrev", vs "unexpand_abbrev" 929, (.ref 522)⟩, ⟨PyData.keyHash P "expand_region", vs "expand_region" 944, (.ref 529)⟩, ⟨PyData.keyHash P "GapText", vs "GapText" 1064, (.ref 616)⟩, ⟨PyData.keyHash P "Markers", vs "Markers" 1164, (.ref 686)⟩, ⟨PyData.keyHash P "Opaque", vs "Opaque" 1208, (.ref 721)⟩, ⟨PyData.keyHash P "Buffer", vs "Buffer" 1347, (.ref 827)⟩, ⟨PyData.keyHash P "_law_draw", vs "_law_draw" 1357, (.ref 836)⟩, ⟨PyData.keyHash P "_law_codes", vs "_law_codes" 1363, (.ref 841)⟩, ⟨PyData.keyHash P "_law_tables", vs "_law_tables" 1381, (.ref 848)⟩, ⟨PyData.keyHash P "_law_due", vs "_law_due" 1391, (.ref 855)⟩, ⟨PyData.keyHash P "_law_lettered", vs "_law_lettered" 1397, (.ref 860)⟩, ⟨PyData.keyHash P "_law_word", vs "_law_word" 1407, (.ref 867)⟩, ⟨PyData.keyHash P "_law_put", vs "_law_put" 1419, (.ref 874)⟩, ⟨PyData.keyHash P "_law_all_put", vs "_law_all_put" 1434, (.ref 881)⟩, ⟨PyData.keyHash P "_law_held", vs "_law_held" 1440, (.ref 886)⟩, ⟨PyData.keyHash P "law", vs "law" 1446, (.ref 891)⟩] 82, #[]⟩),
  (27, ⟨(.type "code"), none, .fields #[(vs "downcase" 196), (vs "downcase" 197), (vs "/claim/cut.py" 198), (.int 5 0), (.int 1 0), (.int 0 0), (.int 0 0), (.int 3 0), (.ref 22), (.bool true), (.int 181 0), (.ref 23), .none, (.ref 24), (.ref 25), (.ref 26), (.int 200 0), (.int 5 0), (vs "/claim/cut.py" 201)], #[]⟩),
  (28, fobj (tp 2) "downcase" .none (vs "emacs.casefold" 194) 27),
  (34, ⟨(.type "code"), none, .fields #[(vs "upcase" 203), (vs "upcase" 204), (vs "/claim/cut.py" 205), (.int 9 0), (.int 1 0), (.int 0 0), (.int 0 0), (.int 3 0), (.ref 29), (.bool true), (.int 181 0), (.ref 30), .none, (.ref 31), (.ref 32), (.ref 33), (.int 207 0), (.int 9 0), (vs "/claim/cut.py" 208)], #[]⟩),
  (35, fobj (tp 3) "upcase" .none (vs "emacs.casefold" 194) 34),
  (41, ⟨(.type "code"), none, .fields #[(vs "is_upper" 210), (vs "is_upper" 211), (vs "/claim/cut.py" 212), (.int 13 0), (.int 1 0), (.int 0 0), (.int 0 0), (.int 3 0), (.ref 36), (.bool true), (.int 181 0), (.ref 37), .none, (.ref 38), (.ref 39), (.ref 40), (.int 214 0), (.int 13 0), (vs "/claim/cut.py" 215)], #[]⟩),
  (42, fobj (tp 4) "is_upper" .none (vs "emacs.casefold" 194) 41),
  (48, ⟨(.type "code"), none, .fields #[(vs "is_lower" 217), (vs "is_lower" 218), (vs "/claim/cut.py" 219), (.int 15 0), (.int 1 0), (.int 0 0), (.int 0 0), (.int 3 0), (.ref 43), (.bool true), (.int 181 0), (.ref 44), .none, (.ref 45), (.ref 46), (.ref 47), (.int 221 0), (.int 15 0), (vs "/claim/cut.py" 222)], #[]⟩),
  (49, fobj (tp 5) "is_lower" .none (vs "emacs.casefold" 194) 48),
  (53, ⟨(.type "code"), none, .fields #[(vs "upcased" 224), (vs "upcased" 225), (vs "/claim/cut.py" 226), (.int 17 0), (.int 1 0), (.int 0 0), (.int 0 0), (.int 3 0), (.ref 50), (.bool true), (.int 181 0), (.ref 51), .none, .none, .none, (.ref 52), (.int 227 0), (.int 17 0), (vs "/claim/cut.py" 228)], #[]⟩),
  (54, fobj (tp 6) "upcased" .none (vs "emacs.casefold" 194) 53),
  (58, ⟨(.type "code"), none, .fields #[(vs "downcased" 230), (vs "downcased" 231), (vs "/claim/cut.py" 232), (.int 19 0), (.int 1 0), (.int 0 0), (.int 0 0), (.int 3 0), (.ref 55), (.bool true), (.int 181 0), (.ref 56), .none, .none, .none, (.ref 57), (.int 233 0), (.int 19 0), (vs "/claim/cut.py" 234)], #[]⟩),
  (59, fobj (tp 7) "downcased" .none (vs "emacs.casefold" 194) 58),
  (65, ⟨(.type "code"), none, .fields #[(vs "initials_upcased" 236), (vs "initials_upcased" 237), (vs "/claim/cut.py" 238), (.int 21 0), (.int 2 0), (.int 0 0), (.int 0 0), (.int 3 0), (.ref 60), (.bool true), (.int 181 0), (.ref 61), .none, (.ref 62), (.ref 63), (.ref 64), (.int 244 0), (.int 21 0), (vs "/claim/cut.py" 245)], #[]⟩),
  (66, fobj (tp 8) "initials_upcased" .none (vs "emacs.casefold" 194) 65),
  (79, ⟨(.type "code"), none, .fields #[(vs "__init__" 263), (vs "Abbrev.__init__" 264), (vs "/claim/cut.py" 265), (.int 31 0), (.int 4 0), (.int 0 0), (.int 0 0), (.int 3 0), (.ref 74), (.bool true), (.int 181 0), (.ref 75), .none, (.ref 76), (.ref 77), (.ref 78), (.int 270 0), (.int 31 0), (vs "/claim/cut.py" 271)], #[]⟩),
  (80, fobj (mt 11 0) "Abbrev.__init__" .none (vs "emacs.abbrevtable" 247) 79),
  (82, ⟨(.type "dict"), none, .dict #[⟨PyData.keyHash P "__module__", vs "__module__" 258, (vs "emacs.abbrevtable" 247)⟩, ⟨PyData.keyHash P "__firstlineno__", vs "__firstlineno__" 262, (.int 29 261)⟩, ⟨PyData.keyHash P "__init__", vs "__init__" 272, (.ref 80)⟩, ⟨PyData.keyHash P "__static_attributes__", vs "__static_attributes__" 277, (.ref 81)⟩, ⟨PyData.keyHash P "__dict__", vs "__dict__" 279, (.ref 84)⟩, ⟨PyData.keyHash P "__weakref__", vs "__weakref__" 281, (.ref 85)⟩, ⟨PyData.keyHash P "__doc__", vs "__doc__" 282, .none⟩] 4, #[]⟩),
  (83, ⟨(.type "type"), none, .cls { name := "Abbrev", bases := [(.type "object")], mro := [(.ref 83), (.type "object")], ns := 82, qualname := "Abbrev", subclasses := [] }, #[none, none, (some (vs "Abbrev" 251)), (some (vs "Abbrev" 259)), (some (.builtin "object.__new__")), (some (.bool true))]⟩),
  (100, ⟨(.type "code"), none, .fields #[(vs "__init__" 297), (vs "AbbrevTable.__init__" 298), (vs "/claim/cut.py" 299), (.int 38 0), (.int 3 0), (.int 0 0), (.int 0 0), (.int 3 0), (.ref 95), (.bool true), (.int 181 0), (.ref 96), .none, (.ref 97), (.ref 98), (.ref 99), (.int 303 0), (.int 38 0), (vs "/claim/cut.py" 304)], #[]⟩),
  (101, fobj (mt 12 0) "AbbrevTable.__init__" .none (vs "emacs.abbrevtable" 247) 100),
  (103, ⟨(.type "dict"), none, .dict #[⟨PyData.keyHash P "__module__", vs "__module__" 292, (vs "emacs.abbrevtable" 247)⟩, ⟨PyData.keyHash P "__firstlineno__", vs "__firstlineno__" 296, (.int 36 295)⟩, ⟨PyData.keyHash P "__init__", vs "__init__" 305, (.ref 101)⟩, ⟨PyData.keyHash P "__static_attributes__", vs "__static_attributes__" 310, (.ref 102)⟩, ⟨PyData.keyHash P "__dict__", vs "__dict__" 312, (.ref 105)⟩, ⟨PyData.keyHash P "__weakref__", vs "__weakref__" 314, (.ref 106)⟩, ⟨PyData.keyHash P "__doc__", vs "__doc__" 315, .none⟩] 4, #[]⟩),
  (104, ⟨(.type "type"), none, .cls { name := "AbbrevTable", bases := [(.type "object")], mro := [(.ref 104), (.type "object")], ns := 103, qualname := "AbbrevTable", subclasses := [] }, #[none, none, (some (vs "AbbrevTable" 285)), (some (vs "AbbrevTable" 293)), (some (.builtin "object.__new__")), (some (.bool true))]⟩),
  (112, ⟨(.type "code"), none, .fields #[(vs "key_of" 318), (vs "key_of" 319), (vs "/claim/cut.py" 320), (.int 43 0), (.int 1 0), (.int 0 0), (.int 0 0), (.int 3 0), (.ref 109), (.bool true), (.int 181 0), (.ref 110), .none, .none, .none, (.ref 111), (.int 321 0), (.int 43 0), (vs "/claim/cut.py" 322)], #[]⟩),
  (113, fobj (tp 13) "key_of" .none (vs "emacs.abbrevtable" 247) 112),
  (119, ⟨(.type "code"), none, .fields #[(vs "define" 324), (vs "define" 325), (vs "/claim/cut.py" 326), (.int 45 0), (.int 4 0), (.int 0 0), (.int 0 0), (.int 3 0), (.ref 114), (.bool true), (.int 181 0), (.ref 115), .none, (.ref 116), (.ref 117), (.ref 118), (.int 332 0), (.int 45 0), (vs "/claim/cut.py" 333)], #[]⟩),
  (120, fobj (tp 14) "define" .none (vs "emacs.abbrevtable" 247) 119),
  (126, ⟨(.type "code"), none, .fields #[(vs "forget" 335), (vs "forget" 336), (vs "/claim/cut.py" 337), (.int 49 0), (.int 2 0), (.int 0 0), (.int 0 0), (.int 3 0), (.ref 121), (.bool true), (.int 181 0), (.ref 122), .none, (.ref 123), (.ref 124), (.ref 125), (.int 341 0), (.int 49 0), (vs "/claim/cut.py" 342)], #[]⟩),
  (127, fobj (tp 15) "forget" .none (vs "emacs.abbrevtable" 247) 126),
  (133, ⟨(.type "code"), none, .fields #[(vs "own_entry" 344), (vs "own_entry" 345), (vs "/claim/cut.py" 346), (.int 53 0), (.int 2 0), (.int 0 0), (.int 0 0), (.int 3 0), (.ref 128), (.bool true), (.int 181 0), (.ref 129), .none, (.ref 130), (.ref 131), (.ref 132), (.int 350 0), (.int 53 0), (vs "/claim/cut.py" 351)], #[]⟩),
  (134, fobj (tp 16) "own_entry" .none (vs "emacs.abbrevtable" 247) 133),
  (140, ⟨(.type "code"), none, .fields #[(vs "tables_from" 353), (vs "tables_from" 354), (vs "/claim/cut.py" 355), (.int 61 0), (.int 1 0), (.int 0 0), (.int 0 0), (.int 3 0), (.ref 135), (.bool true), (.int 181 0), (.ref 136), .none, (.ref 137), (.ref 138), (.ref 139), (.int 361 0), (.int 61 0), (vs "/claim/cut.py" 362)], #[]⟩),
  (141, fobj (tp 17) "tables_from" .none (vs "emacs.abbrevtable" 247) 140),
  (147, ⟨(.type "code"), none, .fields #[(vs "entry_of" 364), (vs "entry_of" 365), (vs "/claim/cut.py" 366), (.int 72 0), (.int 2 0), (.int 0 0), (.int 0 0), (.int 3 0), (.ref 142), (.bool true), (.int 181 0), (.ref 143), .none, (.ref 144), (.ref 145), (.ref 146), (.int 371 0), (.int 72 0), (vs "/claim/cut.py" 372)], #[]⟩),
  (148, fobj (tp 18) "entry_of" .none (vs "emacs.abbrevtable" 247) 147),
  (154, ⟨(.type "code"), none, .fields #[(vs "is_word_sign" 374), (vs "is_word_sign" 375), (vs "/claim/cut.py" 376), (.int 78 0), (.int 2 0), (.int 0 0), (.int 0 0), (.int 3 0), (.ref 149), (.bool true), (.int 181 0), (.ref 150), .none, (.ref 151), (.ref 152), (.ref 153), (.int 379 0), (.int 78 0), (vs "/claim/cut.py" 380)], #[]⟩),
  (155, fobj (tp 19) "is_word_sign" .none (vs "emacs.abbrevtable" 247) 154),
  (161, ⟨(.type "code"), none, .fields #[(vs "many_words" 382), (vs "many_words" 383), (vs "/claim/cut.py" 384), (.int 80 0), (.int 2 0), (.int 0 0), (.int 0 0), (.int 3 0), (.ref 156), (.bool true), (.int 181 0), (.ref 157), .none, (.ref 158), (.ref 159), (.ref 160), (.int 390 0), (.int 80 0), (vs "/claim/cut.py" 391)], #[]⟩),
  (162, fobj (tp 20) "many_words" .none (vs "emacs.abbrevtable" 247) 161),
  (166, ⟨(.type "code"), none, .fields #[(vs "has_upper" 393), (vs "has_upper" 394), (vs "/claim/cut.py" 395), (.int 88 0), (.int 1 0), (.int 0 0), (.int 0 0), (.int 3 0), (.ref 163), (.bool true), (.int 181 0), (.ref 164), .none, .none, .none, (.ref 165), (.int 396 0), (.int 88 0), (vs "/claim/cut.py" 397)], #[]⟩),
  (167, fobj (tp 21) "has_upper" .none (vs "emacs.abbrevtable" 247) 166),
  (171, ⟨(.type "code"), none, .fields #[(vs "has_lower" 399), (vs "has_lower" 400), (vs "/claim/cut.py" 401), (.int 90 0), (.int 1 0), (.int 0 0), (.int 0 0), (.int 3 0), (.ref 168), (.bool true), (.int 181 0), (.ref 169), .none, .none, .none, (.ref 170), (.int 402 0), (.int 90 0), (vs "/claim/cut.py" 403)], #[]⟩),
  (172, fobj (tp 22) "has_lower" .none (vs "emacs.abbrevtable" 247) 171),
  (178, ⟨(.type "code"), none, .fields #[(vs "first_upcased" 405), (vs "first_upcased" 406), (vs "/claim/cut.py" 407), (.int 92 0), (.int 2 0), (.int 0 0), (.int 0 0), (.int 3 0), (.ref 173), (.bool true), (.int 181 0), (.ref 174), .none, (.ref 175), (.ref 176), (.ref 177), (.int 411 0), (.int 92 0), (vs "/claim/cut.py" 412)], #[]⟩),
  (179, fobj (tp 23) "first_upcased" .none (vs "emacs.abbrevtable" 247) 178),
  (185, ⟨(.type "code"), none, .fields #[(vs "written" 414), (vs "written" 415), (vs "/claim/cut.py" 416), (.int 97 0), (.int 4 0), (.int 0 0), (.int 0 0), (.int 3 0), (.ref 180), (.bool true), (.int 181 0), (.ref 181), .none, (.ref 182), (.ref 183), (.ref 184), (.int 422 0), (.int 97 0), (vs "/claim/cut.py" 423)], #[]⟩),
  (186, fobj (tp 24) "written" .none (vs "emacs.abbrevtable" 247) 185),
  (192, ⟨(.type "code"), none, .fields #[(vs "expansion_of" 425), (vs "expansion_of" 426), (vs "/claim/cut.py" 427), (.int 106 0), (.int 3 0), (.int 0 0), (.int 0 0), (.int 3 0), (.ref 187), (.bool true), (.int 181 0), (.ref 188), .none, (.ref 189), (.ref 190), (.ref 191), (.int 432 0), (.int 106 0), (vs "/claim/cut.py" 433)], #[]⟩),
  (193, fobj (tp 25) "expansion_of" .none (vs "emacs.abbrevtable" 247) 192),
  (199, ⟨(.type "code"), none, .fields #[(vs "unexpanded" 435), (vs "unexpanded" 436), (vs "/claim/cut.py" 437), (.int 112 0), (.int 2 0), (.int 0 0), (.int 0 0), (.int 3 0), (.ref 194), (.bool true), (.int 181 0), (.ref 195), .none, (.ref 196), (.ref 197), (.ref 198), (.int 441 0), (.int 112 0), (vs "/claim/cut.py" 442)], #[]⟩),
  (200, fobj (tp 26) "unexpanded" .none (vs "emacs.abbrevtable" 247) 199),
  (213, ⟨(.type "code"), none, .fields #[(vs "__init__" 458), (vs "LispSignal.__init__" 459), (vs "/claim/cut.py" 460), (.int 120 0), (.int 3 0), (.int 0 0), (.int 0 0), (.int 3 0), (.ref 208), (.bool true), (.int 181 0), (.ref 209), .none, (.ref 210), (.ref 211), (.ref 212), (.int 464 0), (.int 120 0), (vs "/claim/cut.py" 465)], #[]⟩),
  (214, fobj (mt 28 0) "LispSignal.__init__" .none (vs "emacs.errors" 444) 213),
  (216, ⟨(.type "dict"), none, .dict #[⟨PyData.keyHash P "__module__", vs "__module__" 453, (vs "emacs.errors" 444)⟩, ⟨PyData.keyHash P "__firstlineno__", vs "__firstlineno__" 457, (.int 118 456)⟩, ⟨PyData.keyHash P "__init__", vs "__init__" 466, (.ref 214)⟩, ⟨PyData.keyHash P "__static_attributes__", vs "__static_attributes__" 469, (.ref 215)⟩, ⟨PyData.keyHash P "__weakref__", vs "__weakref__" 471, (.ref 218)⟩, ⟨PyData.keyHash P "__doc__", vs "__doc__" 472, .none⟩] 3, #[]⟩),
  (217, ⟨(.type "type"), none, .cls { name := "LispSignal", bases := [(.type "Exception")], mro := [(.ref 217), (.type "Exception"), (.type "BaseException"), (.type "object")], ns := 216, qualname := "LispSignal", subclasses := [] }, #[(some (.ref 201)), none, (some (vs "LispSignal" 446)), (some (vs "LispSignal" 454)), (some (.builtin "Exception.__new__")), (some (.bool true))]⟩),
  (226, ⟨(.type "code"), none, .fields #[(vs "need_writable" 479), (vs "need_writable" 480), (vs "/claim/cut.py" 481), (.int 124 0), (.int 1 0), (.int 0 0), (.int 0 0), (.int 3 0), (.ref 221), (.bool true), (.int 181 0), (.ref 222), .none, (.ref 223), (.ref 224), (.ref 225), (.int 483 0), (.int 124 0), (vs "/claim/cut.py" 484)], #[]⟩),
  (227, fobj (tp 30) "need_writable" .none (vs "emacs.editing" 477) 226),
  (233, ⟨(.type "code"), none, .fields #[(vs "reached" 486), (vs "reached" 487), (vs "/claim/cut.py" 488), (.int 127 0), (.int 3 0), (.int 0 0), (.int 0 0), (.int 3 0), (.ref 228), (.bool true), (.int 181 0), (.ref 229), .none, (.ref 230), (.ref 231), (.ref 232), (.int 494 0), (.int 127 0), (vs "/claim/cut.py" 495)], #[]⟩),
  (234, fobj (tp 31) "reached" .none (vs "emacs.editing" 477) 233),
  (240, ⟨(.type "code"), none, .fields #[(vs "tell_ahead" 497), (vs "tell_ahead" 498), (vs "/claim/cut.py" 499), (.int 132 0), (.int 3 0), (.int 0 0), (.int 0 0), (.int 3 0), (.ref 235), (.bool true), (.int 181 0), (.ref 236), .none, (.ref 237), (.ref 238), (.ref 239), (.int 504 0), (.int 132 0), (vs "/claim/cut.py" 505)], #[]⟩),
  (241, fobj (tp 32) "tell_ahead" .none (vs "emacs.editing" 477) 240),
  (247, ⟨(.type "code"), none, .fields #[(vs "tell_behind" 507), (vs "tell_behind" 508), (vs "/claim/cut.py" 509), (.int 135 0), (.int 4 0), (.int 0 0), (.int 0 0), (.int 3 0), (.ref 242), (.bool true), (.int 181 0), (.ref 243), .none, (.ref 244), (.ref 245), (.ref 246), (.int 515 0), (.int 135 0), (vs "/claim/cut.py" 516)], #[]⟩),
  (248, fobj (tp 33) "tell_behind" .none (vs "emacs.editing" 477) 247),
  (254, ⟨(.type "code"), none, .fields #[(vs "text_out" 518), (vs "text_out" 519), (vs "/claim/cut.py" 520), (.int 139 0), (.int 3 0), (.int 0 0), (.int 0 0), (.int 3 0), (.ref 249), (.bool true), (.int 181 0), (.ref 250), .none, (.ref 251), (.ref 252), (.ref 253), (.int 525 0), (.int 139 0), (vs "/claim/cut.py" 526)], #[]⟩),
  (255, fobj (tp 34) "text_out" .none (vs "emacs.editing" 477) 254),
  (261, ⟨(.type "code"), none, .fields #[(vs "text_in" 528), (vs "text_in" 529), (vs "/claim/cut.py" 530), (.int 147 0), (.int 3 0), (.int 0 0), (.int 0 0), (.int 3 0), (.ref 256), (.bool true), (.int 181 0), (.ref 257), .none, (.ref 258), (.ref 259), (.ref 260), (.int 534 0), (.int 147 0), (vs "/claim/cut.py" 535)], #[]⟩),
  (262, fobj (tp 35) "text_in" .none (vs "emacs.editing" 477) 261),
  (268, ⟨(.type "code"), none, .fields #[(vs "hung_out" 537), (vs "hung_out" 538), (vs "/claim/cut.py" 539), (.int 154 0), (.int 3 0), (.int 0 0), (.int 0 0), (.int 3 0), (.ref 263), (.bool true), (.int 181 0), (.ref 264), .none, (.ref 265), (.ref 266), (.ref 267), (.int 543 0), (.int 154 0), (vs "/claim/cut.py" 544)], #[]⟩),
  (269, fobj (tp 36) "hung_out" .none (vs "emacs.editing" 477) 268),
  (275, ⟨(.type "code"), none, .fields #[(vs "hung_in" 546), (vs "hung_in" 547), (vs "/claim/cut.py" 548), (.int 159 0), (.int 4 0), (.int 0 0), (.int 0 0), (.int 3 0), (.ref 270), (.bool true), (.int 181 0), (.ref 271), .none, (.ref 272), (.ref 273), (.ref 274), (.int 553 0), (.int 159 0), (vs "/claim/cut.py" 554)], #[]⟩),
  (276, fobj (tp 37) "hung_in" .none (vs "emacs.editing" 477) 275),
  (282, ⟨(.type "code"), none, .fields #[(vs "put_in" 556), (vs "put_in" 557), (vs "/claim/cut.py" 558), (.int 164 0), (.int 5 0), (.int 0 0), (.int 0 0), (.int 3 0), (.ref 277), (.bool true), (.int 181 0), (.ref 278), .none, (.ref 279), (.ref 280), (.ref 281), (.int 564 0), (.int 164 0), (vs "/claim/cut.py" 565)], #[]⟩),
  (283, fobj (tp 38) "put_in" .none (vs "emacs.editing" 477) 282),
  (290, ⟨(.type "code"), none, .fields #[(vs "insert_at" 567), (vs "insert_at" 568), (vs "/claim/cut.py" 569), (.int 176 0), (.int 4 0), (.int 0 0), (.int 0 0), (.int 3 0), (.ref 285), (.bool true), (.int 181 0), (.ref 286), .none, (.ref 287), (.ref 288), (.ref 289), (.int 574 0), (.int 176 0), (vs "/claim/cut.py" 575)], #[]⟩),
  (291, fobj (tp 39) "insert_at" (.ref 284) (vs "emacs.editing" 477) 290),
  (284, ⟨(.type "tuple"), none, .seq #[(.bool false)] 0, #[]⟩),
  (297, ⟨(.type "code"), none, .fields #[(vs "delete" 577), (vs "delete" 578), (vs "/claim/cut.py" 579), (.int 178 0), (.int 3 0), (.int 0 0), (.int 0 0), (.int 3 0), (.ref 292), (.bool true), (.int 181 0), (.ref 293), .none, (.ref 294), (.ref 295), (.ref 296), (.int 586 0), (.int 178 0), (vs "/claim/cut.py" 587)], #[]⟩),
  (298, fobj (tp 40) "delete" .none (vs "emacs.editing" 477) 297),
  (304, ⟨(.type "code"), none, .fields #[(vs "replace" 589), (vs "replace" 590), (vs "/claim/cut.py" 591), (.int 189 0), (.int 4 0), (.int 0 0), (.int 0 0), (.int 3 0), (.ref 299), (.bool true), (.int 181 0), (.ref 300), .none, (.ref 301), (.ref 302), (.ref 303), (.int 600 0), (.int 189 0), (vs "/claim/cut.py" 601)], #[]⟩),
  (305, fobj (tp 41) "replace" .none (vs "emacs.editing" 477) 304),
  (311, ⟨(.type "code"), none, .fields #[(vs "syntax_at" 605), (vs "syntax_at" 606), (vs "/claim/cut.py" 607), (.int 209 0), (.int 3 0), (.int 0 0), (.int 0 0), (.int 3 0), (.ref 306), (.bool true), (.int 181 0), (.ref 307), .none, (.ref 308), (.ref 309), (.ref 310), (.int 612 0), (.int 209 0), (vs "/claim/cut.py" 613)], #[]⟩),
  (312, fobj (tp 43) "syntax_at" .none (vs "emacs.syntaxpairs" 603) 311),
  (319, ⟨(.type "code"), none, .fields #[(vs "is_of" 617), (vs "is_of" 618), (vs "/claim/cut.py" 619), (.int 213 0), (.int 5 0), (.int 0 0), (.int 0 0), (.int 3 0), (.ref 314), (.bool true), (.int 181 0), (.ref 315), .none, (.ref 316), (.ref 317), (.ref 318), (.int 626 0), (.int 213 0), (vs "/claim/cut.py" 627)], #[]⟩),
  (320, fobj (tp 45) "is_of" (.ref 313) (vs "emacs.skips" 615) 319),
  (313, ⟨(.type "tuple"), none, .seq #[(.bool false)] 0, #[]⟩),
  (327, ⟨(.type "code"), none, .fields #[(vs "skip_forward" 629), (vs "skip_forward" 630), (vs "/claim/cut.py" 631), (.int 216 0), (.int 6 0), (.int 0 0), (.int 0 0), (.int 3 0), (.ref 322), (.bool true), (.int 181 0), (.ref 323), .none, (.ref 324), (.ref 325), (.ref 326), (.int 638 0), (.int 216 0), (vs "/claim/cut.py" 639)], #[]⟩),
  (328, fobj (tp 46) "skip_forward" (.ref 321) (vs "emacs.skips" 615) 327),
  (321, ⟨(.type "tuple"), none, .seq #[(.bool false)] 0, #[]⟩),
  (335, ⟨(.type "code"), none, .fields #[(vs "skip_backward" 641), (vs "skip_backward" 642), (vs "/claim/cut.py" 643), (.int 220 0), (.int 6 0), (.int 0 0), (.int 0 0), (.int 3 0), (.ref 330), (.bool true), (.int 181 0), (.ref 331), .none, (.ref 332), (.ref 333), (.ref 334), (.int 650 0), (.int 220 0), (vs "/claim/cut.py" 651)], #[]⟩),
  (336, fobj (tp 47) "skip_backward" (.ref 329) (vs "emacs.skips" 615) 335),
  (329, ⟨(.type "tuple"), none, .seq #[(.bool false)] 0, #[]⟩),
  (349, ⟨(.type "code"), none, .fields #[(vs "__init__" 679), (vs "Syntax.__init__" 680), (vs "/claim/cut.py" 681), (.int 233 0), (.int 4 0), (.int 0 0), (.int 0 0), (.int 3 0), (.ref 344), (.bool true), (.int 181 0), (.ref 345), .none, (.ref 346), (.ref 347), (.ref 348), (.int 686 0), (.int 233 0), (vs "/claim/cut.py" 687)], #[]⟩),
  (350, fobj (mt 55 0) "Syntax.__init__" .none (vs "emacs.syntax" 653) 349),
  (356, ⟨(.type "code"), none, .fields #[(vs "has" 689), (vs "Syntax.has" 690), (vs "/claim/cut.py" 691), (.int 238 0), (.int 2 0), (.int 0 0), (.int 0 0), (.int 3 0), (.ref 351), (.bool true), (.int 181 0), (.ref 352), .none, (.ref 353), (.ref 354), (.ref 355), (.int 694 0), (.int 238 0), (vs "/claim/cut.py" 695)], #[]⟩),
  (357, fobj (mt 55 1) "Syntax.has" .none (vs "emacs.syntax" 653) 356),
  (380, ⟨(.type "dict"), none, .dict #[⟨PyData.keyHash P "__module__", vs "__module__" 674, (vs "emacs.syntax" 653)⟩, ⟨PyData.keyHash P "__firstlineno__", vs "__firstlineno__" 678, (.int 231 677)⟩, ⟨PyData.keyHash P "__init__", vs "__init__" 688, (.ref 350)⟩, ⟨PyData.keyHash P "has", vs "has" 696, (.ref 357)⟩, ⟨PyData.keyHash P "is_escape", vs "is_escape" 703, (.ref 364)⟩, ⟨PyData.keyHash P "is_word_part", vs "is_word_part" 710, (.ref 371)⟩, ⟨PyData.keyHash P "style", vs "style" 717, (.ref 378)⟩, ⟨PyData.keyHash P "__static_attributes__", vs "__static_attributes__" 721, (.ref 379)⟩, ⟨PyData.keyHash P "__dict__", vs "__dict__" 723, (.ref 382)⟩, ⟨PyData.keyHash P "__weakref__", vs "__weakref__" 725, (.ref 383)⟩, ⟨PyData.keyHash P "__doc__", vs "__doc__" 726, .none⟩] 4, #[]⟩),
  (381, ⟨(.type "type"), none, .cls { name := "Syntax", bases := [(.type "object")], mro := [(.ref 381), (.type "object")], ns := 380, qualname := "Syntax", subclasses := [] }, #[none, none, (some (vs "Syntax" 667)), (some (vs "Syntax" 675)), (some (.builtin "object.__new__")), (some (.bool true))]⟩),
  (389, ⟨(.type "code"), none, .fields #[(vs "sorted_flags" 729), (vs "sorted_flags" 730), (vs "/claim/cut.py" 731), (.int 249 0), (.int 1 0), (.int 0 0), (.int 0 0), (.int 3 0), (.ref 386), (.bool true), (.int 181 0), (.ref 387), .none, .none, .none, (.ref 388), (.int 732 0), (.int 249 0), (vs "/claim/cut.py" 733)], #[]⟩),
  (390, fobj (tp 56) "sorted_flags" .none (vs "emacs.syntax" 653) 389),
  (394, ⟨(.type "code"), none, .fields #[(vs "read_syntax" 735), (vs "read_syntax" 736), (vs "/claim/cut.py" 737), (.int 251 0), (.int 1 0), (.int 0 0), (.int 0 0), (.int 3 0), (.ref 391), (.bool true), (.int 181 0), (.ref 392), .none, .none, .none, (.ref 393), (.int 738 0), (.int 251 0), (vs "/claim/cut.py" 739)], #[]⟩),
  (395, fobj (tp 57) "read_syntax" .none (vs "emacs.syntax" 653) 394),
  (409, ⟨(.type "code"), none, .fields #[(vs "__init__" 753), (vs "SyntaxTable.__init__" 754), (vs "/claim/cut.py" 755), (.int 262 0), (.int 2 0), (.int 0 0), (.int 0 0), (.int 3 0), (.ref 404), (.bool true), (.int 181 0), (.ref 405), .none, (.ref 406), (.ref 407), (.ref 408), (.int 758 0), (.int 262 0), (vs "/claim/cut.py" 759)], #[]⟩),
  (410, fobj (mt 58 0) "SyntaxTable.__init__" (.ref 403) (vs "emacs.syntax" 653) 409),
  (403, ⟨(.type "tuple"), none, .seq #[.none] 0, #[]⟩),
  (423, ⟨(.type "code"), none, .fields #[(vs "modify_all" 770), (vs "SyntaxTable.modify_all" 771), (vs "/claim/cut.py" 772), (.int 269 0), (.int 3 0), (.int 0 0), (.int 0 0), (.int 3 0), (.ref 418), (.bool true), (.int 181 0), (.ref 419), .none, (.ref 420), (.ref 421), (.ref 422), (.int 778 0), (.int 269 0), (vs "/claim/cut.py" 779)], #[]⟩),
  (424, fobj (mt 58 2) "SyntaxTable.modify_all" .none (vs "emacs.syntax" 653) 423),
  (437, ⟨(.type "code"), none, .fields #[(vs "own" 791), (vs "SyntaxTable.own" 792), (vs "/claim/cut.py" 793), (.int 277 0), (.int 2 0), (.int 0 0), (.int 0 0), (.int 3 0), (.ref 432), (.bool true), (.int 181 0), (.ref 433), .none, (.ref 434), (.ref 435), (.ref 436), (.int 797 0), (.int 277 0), (vs "/claim/cut.py" 798)], #[]⟩),
  (438, fobj (mt 58 4) "SyntaxTable.own" .none (vs "emacs.syntax" 653) 437),
  (444, ⟨(.type "code"), none, .fields #[(vs "at" 800), (vs "SyntaxTable.at" 801), (vs "/claim/cut.py" 802), (.int 281 0), (.int 2 0), (.int 0 0), (.int 0 0), (.int 3 0), (.ref 439), (.bool true), (.int 181 0), (.ref 440), .none, (.ref 441), (.ref 442), (.ref 443), (.int 807 0), (.int 281 0), (vs "/claim/cut.py" 808)], #[]⟩),
  (445, fobj (mt 58 5) "SyntaxTable.at" .none (vs "emacs.syntax" 653) 444),
  (451, ⟨(.type "code"), none, .fields #[(vs "kind_of" 810), (vs "SyntaxTable.kind_of" 811), (vs "/claim/cut.py" 812), (.int 290 0), (.int 2 0), (.int 0 0), (.int 0 0), (.int 3 0), (.ref 446), (.bool true), (.int 181 0), (.ref 447), .none, (.ref 448), (.ref 449), (.ref 450), (.int 815 0), (.int 290 0), (vs "/claim/cut.py" 816)], #[]⟩),
  (452, fobj (mt 58 6) "SyntaxTable.kind_of" .none (vs "emacs.syntax" 653) 451),
  (461, ⟨(.type "dict"), none, .dict #[⟨PyData.keyHash P "__module__", vs "__module__" 748, (vs "emacs.syntax" 653)⟩, ⟨PyData.keyHash P "__firstlineno__", vs "__firstlineno__" 752, (.int 260 751)⟩, ⟨PyData.keyHash P "__init__", vs "__init__" 760, (.ref 410)⟩, ⟨PyData.keyHash P "modify", vs "modify" 769, (.ref 417)⟩, ⟨PyData.keyHash P "modify_all", vs "modify_all" 780, (.ref 424)⟩, ⟨PyData.keyHash P "modify_range", vs "modify_range" 790, (.ref 431)⟩, ⟨PyData.keyHash P "own", vs "own" 799, (.ref 438)⟩, ⟨PyData.keyHash P "at", vs "at" 809, (.ref 445)⟩, ⟨PyData.keyHash P "kind_of", vs "kind_of" 817, (.ref 452)⟩, ⟨PyData.keyHash P "copy", vs "copy" 824, (.ref 459)⟩, ⟨PyData.keyHash P "__static_attributes__", vs "__static_attributes__" 827, (.ref 460)⟩, ⟨PyData.keyHash P "__dict__", vs "__dict__" 829, (.ref 463)⟩, ⟨PyData.keyHash P "__weakref__", vs "__weakref__" 831, (.ref 464)⟩, ⟨PyData.keyHash P "__doc__", vs "__doc__" 832, .none⟩] 4, #[]⟩),
  (462, ⟨(.type "type"), none, .cls { name := "SyntaxTable", bases := [(.type "object")], mro := [(.ref 462), (.type "object")], ns := 461, qualname := "SyntaxTable", subclasses := [] }, #[none, none, (some (vs "SyntaxTable" 741)), (some (vs "SyntaxTable" 749)), (some (.builtin "object.__new__")), (some (.bool true))]⟩),
  (472, ⟨(.type "code"), none, .fields #[(vs "forward_by" 837), (vs "forward_by" 838), (vs "/claim/cut.py" 839), (.int 296 0), (.int 5 0), (.int 0 0), (.int 0 0), (.int 3 0), (.ref 467), (.bool true), (.int 181 0), (.ref 468), .none, (.ref 469), (.ref 470), (.ref 471), (.int 847 0), (.int 296 0), (vs "/claim/cut.py" 848)], #[]⟩),
  (473, fobj (tp 60) "forward_by" .none (vs "emacs.words" 835) 472),
  (479, ⟨(.type "code"), none, .fields #[(vs "forward_word" 850), (vs "forward_word" 851), (vs "/claim/cut.py" 852), (.int 310 0), (.int 4 0), (.int 0 0), (.int 0 0), (.int 3 0), (.ref 474), (.bool true), (.int 181 0), (.ref 475), .none, (.ref 476), (.ref 477), (.ref 478), (.int 857 0), (.int 310 0), (vs "/claim/cut.py" 858)], #[]⟩),
  (480, fobj (tp 61) "forward_word" .none (vs "emacs.words" 835) 479),
  (493, ⟨(.type "code"), none, .fields #[(vs "__init__" 874), (vs "Expansion.__init__" 875), (vs "/claim/cut.py" 876), (.int 315 0), (.int 4 0), (.int 0 0), (.int 0 0), (.int 3 0), (.ref 488), (.bool true), (.int 181 0), (.ref 489), .none, (.ref 490), (.ref 491), (.ref 492), (.int 881 0), (.int 315 0), (vs "/claim/cut.py" 882)], #[]⟩),
  (494, fobj (mt 63 0) "Expansion.__init__" .none (vs "emacs.abbrevs" 860) 493),
  (496, ⟨(.type "dict"), none, .dict #[⟨PyData.keyHash P "__module__", vs "__module__" 869, (vs "emacs.abbrevs" 860)⟩, ⟨PyData.keyHash P "__firstlineno__", vs "__firstlineno__" 873, (.int 313 872)⟩, ⟨PyData.keyHash P "__init__", vs "__init__" 883, (.ref 494)⟩, ⟨PyData.keyHash P "__static_attributes__", vs "__static_attributes__" 887, (.ref 495)⟩, ⟨PyData.keyHash P "__dict__", vs "__dict__" 889, (.ref 498)⟩, ⟨PyData.keyHash P "__weakref__", vs "__weakref__" 891, (.ref 499)⟩, ⟨PyData.keyHash P "__doc__", vs "__doc__" 892, .none⟩] 4, #[]⟩),
  (497, ⟨(.type "type"), none, .cls { name := "Expansion", bases := [(.type "object")], mro := [(.ref 497), (.type "object")], ns := 496, qualname := "Expansion", subclasses := [] }, #[none, none, (some (vs "Expansion" 862)), (some (vs "Expansion" 870)), (some (.builtin "object.__new__")), (some (.bool true))]⟩),
  (507, ⟨(.type "code"), none, .fields #[(vs "word_before" 895), (vs "word_before" 896), (vs "/claim/cut.py" 897), (.int 319 0), (.int 2 0), (.int 0 0), (.int 0 0), (.int 3 0), (.ref 502), (.bool true), (.int 181 0), (.ref 503), .none, (.ref 504), (.ref 505), (.ref 506), (.int 904 0), (.int 319 0), (vs "/claim/cut.py" 905)], #[]⟩),
  (508, fobj (tp 64) "word_before" .none (vs "emacs.abbrevs" 860) 507),
  (514, ⟨(.type "code"), none, .fields #[(vs "expand_abbrev" 907), (vs "expand_abbrev" 908), (vs "/claim/cut.py" 909), (.int 325 0), (.int 3 0), (.int 0 0), (.int 0 0), (.int 3 0), (.ref 509), (.bool true), (.int 181 0), (.ref 510), .none, (.ref 511), (.ref 512), (.ref 513), (.int 917 0), (.int 325 0), (vs "/claim/cut.py" 918)], #[]⟩),
  (515, fobj (tp 65) "expand_abbrev" .none (vs "emacs.abbrevs" 860) 514),
  (521, ⟨(.type "code"), none, .fields #[(vs "unexpand_abbrev" 920), (vs "unexpand_abbrev" 921), (vs "/claim/cut.py" 922), (.int 334 0), (.int 3 0), (.int 0 0), (.int 0 0), (.int 3 0), (.ref 516), (.bool true), (.int 181 0), (.ref 517), .none, (.ref 518), (.ref 519), (.ref 520), (.int 927 0), (.int 334 0), (vs "/claim/cut.py" 928)], #[]⟩),
  (522, fobj (tp 66) "unexpand_abbrev" .none (vs "emacs.abbrevs" 860) 521),
  (528, ⟨(.type "code"), none, .fields #[(vs "expand_region" 930), (vs "expand_region" 931), (vs "/claim/cut.py" 932), (.int 341 0), (.int 5 0), (.int 0 0), (.int 0 0), (.int 3 0), (.ref 523), (.bool true), (.int 181 0), (.ref 524), .none, (.ref 525), (.ref 526), (.ref 527), (.int 942 0), (.int 341 0), (vs "/claim/cut.py" 943)], #[]⟩),
  (529, fobj (tp 67) "expand_region" .none (vs "emacs.abbrevs" 860) 528),
  (542, ⟨(.type "code"), none, .fields #[(vs "__init__" 959), (vs "GapText.__init__" 960), (vs "/claim/cut.py" 961), (.int 356 0), (.int 3 0), (.int 0 0), (.int 0 0), (.int 3 0), (.ref 537), (.bool true), (.int 181 0), (.ref 538), .none, (.ref 539), (.ref 540), (.ref 541), (.int 965 0), (.int 356 0), (vs "/claim/cut.py" 966)], #[]⟩),
  (543, fobj (mt 69 0) "GapText.__init__" .none (vs "emacs.gap" 945) 542),
  (549, ⟨(.type "code"), none, .fields #[(vs "size" 968), (vs "GapText.size" 969), (vs "/claim/cut.py" 970), (.int 362 0), (.int 1 0), (.int 0 0), (.int 0 0), (.int 3 0), (.ref 544), (.bool true), (.int 181 0), (.ref 545), .none, (.ref 546), (.ref 547), (.ref 548), (.int 972 0), (.int 362 0), (vs "/claim/cut.py" 973)], #[]⟩),
  (550, fobj (mt 69 1) "GapText.size" .none (vs "emacs.gap" 945) 549),
  (556, ⟨(.type "code"), none, .fields #[(vs "code" 975), (vs "GapText.code" 976), (vs "/claim/cut.py" 977), (.int 365 0), (.int 2 0), (.int 0 0), (.int 0 0), (.int 3 0), (.ref 551), (.bool true), (.int 181 0), (.ref 552), .none, (.ref 553), (.ref 554), (.ref 555), (.int 980 0), (.int 365 0), (vs "/claim/cut.py" 981)], #[]⟩),
  (557, fobj (mt 69 2) "GapText.code" .none (vs "emacs.gap" 945) 556),
  (563, ⟨(.type "code"), none, .fields #[(vs "codes" 983), (vs "GapText.codes" 984), (vs "/claim/cut.py" 985), (.int 370 0), (.int 3 0), (.int 0 0), (.int 0 0), (.int 3 0), (.ref 558), (.bool true), (.int 181 0), (.ref 559), .none, (.ref 560), (.ref 561), (.ref 562), (.int 990 0), (.int 370 0), (vs "/claim/cut.py" 991)], #[]⟩),
  (564, fobj (mt 69 3) "GapText.codes" .none (vs "emacs.gap" 945) 563),
  (570, ⟨(.type "code"), none, .fields #[(vs "move_gap" 993), (vs "GapText.move_gap" 994), (vs "/claim/cut.py" 995), (.int 378 0), (.int 2 0), (.int 0 0), (.int 0 0), (.int 3 0), (.ref 565), (.bool true), (.int 181 0), (.ref 566), .none, (.ref 567), (.ref 568), (.ref 569), (.int 999 0), (.int 378 0), (vs "/claim/cut.py" 1000)], #[]⟩),
  (571, fobj (mt 69 4) "GapText.move_gap" .none (vs "emacs.gap" 945) 570),
  (577, ⟨(.type "code"), none, .fields #[(vs "widen_gap" 1002), (vs "GapText.widen_gap" 1003), (vs "/claim/cut.py" 1004), (.int 389 0), (.int 2 0), (.int 0 0), (.int 0 0), (.int 3 0), (.ref 572), (.bool true), (.int 181 0), (.ref 573), .none, (.ref 574), (.ref 575), (.ref 576), (.int 1008 0), (.int 389 0), (vs "/claim/cut.py" 1009)], #[]⟩),
  (578, fobj (mt 69 5) "GapText.widen_gap" .none (vs "emacs.gap" 945) 577),
  (584, ⟨(.type "code"), none, .fields #[(vs "insert" 1011), (vs "GapText.insert" 1012), (vs "/claim/cut.py" 1013), (.int 395 0), (.int 3 0), (.int 0 0), (.int 0 0), (.int 3 0), (.ref 579), (.bool true), (.int 181 0), (.ref 580), .none, (.ref 581), (.ref 582), (.ref 583), (.int 1017 0), (.int 395 0), (vs "/claim/cut.py" 1018)], #[]⟩),
  (585, fobj (mt 69 6) "GapText.insert" .none (vs "emacs.gap" 945) 584),
  (591, ⟨(.type "code"), none, .fields #[(vs "delete" 1020), (vs "GapText.delete" 1021), (vs "/claim/cut.py" 1022), (.int 401 0), (.int 3 0), (.int 0 0), (.int 0 0), (.int 3 0), (.ref 586), (.bool true), (.int 181 0), (.ref 587), .none, (.ref 588), (.ref 589), (.ref 590), (.int 1027 0), (.int 401 0), (vs "/claim/cut.py" 1028)], #[]⟩),
  (592, fobj (mt 69 7) "GapText.delete" .none (vs "emacs.gap" 945) 591),
  (598, ⟨(.type "code"), none, .fields #[(vs "put" 1030), (vs "GapText.put" 1031), (vs "/claim/cut.py" 1032), (.int 411 0), (.int 3 0), (.int 0 0), (.int 0 0), (.int 3 0), (.ref 593), (.bool true), (.int 181 0), (.ref 594), .none, (.ref 595), (.ref 596), (.ref 597), (.int 1036 0), (.int 411 0), (vs "/claim/cut.py" 1037)], #[]⟩),
  (599, fobj (mt 69 8) "GapText.put" .none (vs "emacs.gap" 945) 598),
  (615, ⟨(.type "dict"), none, .dict #[⟨PyData.keyHash P "__module__", vs "__module__" 954, (vs "emacs.gap" 945)⟩, ⟨PyData.keyHash P "__firstlineno__", vs "__firstlineno__" 958, (.int 354 957)⟩, ⟨PyData.keyHash P "__init__", vs "__init__" 967, (.ref 543)⟩, ⟨PyData.keyHash P "size", vs "size" 974, (.ref 550)⟩, ⟨PyData.keyHash P "code", vs "code" 982, (.ref 557)⟩, ⟨PyData.keyHash P "codes", vs "codes" 992, (.ref 564)⟩, ⟨PyData.keyHash P "move_gap", vs "move_gap" 1001, (.ref 571)⟩, ⟨PyData.keyHash P "widen_gap", vs "widen_gap" 1010, (.ref 578)⟩, ⟨PyData.keyHash P "insert", vs "insert" 1019, (.ref 585)⟩, ⟨PyData.keyHash P "delete", vs "delete" 1029, (.ref 592)⟩, ⟨PyData.keyHash P "put", vs "put" 1038, (.ref 599)⟩, ⟨PyData.keyHash P "narrow_gap", vs "narrow_gap" 1045, (.ref 606)⟩, ⟨PyData.keyHash P "is_whole", vs "is_whole" 1052, (.ref 613)⟩, ⟨PyData.keyHash P "__static_attributes__", vs "__static_attributes__" 1057, (.ref 614)⟩, ⟨PyData.keyHash P "__dict__", vs "__dict__" 1059, (.ref 617)⟩, ⟨PyData.keyHash P "__weakref__", vs "__weakref__" 1061, (.ref 618)⟩, ⟨PyData.keyHash P "__doc__", vs "__doc__" 1062, .none⟩] 4, #[]⟩),
  (616, ⟨(.type "type"), none, .cls { name := "GapText", bases := [(.type "object")], mro := [(.ref 616), (.type "object")], ns := 615, qualname := "GapText", subclasses := [] }, #[none, none, (some (vs "GapText" 947)), (some (vs "GapText" 955)), (some (.builtin "object.__new__")), (some (.bool true))]⟩),
  (633, ⟨(.type "code"), none, .fields #[(vs "__init__" 1079), (vs "Markers.__init__" 1080), (vs "/claim/cut.py" 1081), (.int 422 0), (.int 1 0), (.int 0 0), (.int 0 0), (.int 3 0), (.ref 628), (.bool true), (.int 181 0), (.ref 629), .none, (.ref 630), (.ref 631), (.ref 632), (.int 1083 0), (.int 422 0), (vs "/claim/cut.py" 1084)], #[]⟩),
  (634, fobj (mt 71 0) "Markers.__init__" .none (vs "emacs.markers" 1065) 633),
  (640, ⟨(.type "code"), none, .fields #[(vs "numbers" 1086), (vs "Markers.numbers" 1087), (vs "/claim/cut.py" 1088), (.int 425 0), (.int 1 0), (.int 0 0), (.int 0 0), (.int 3 0), (.ref 635), (.bool true), (.int 181 0), (.ref 636), .none, (.ref 637), (.ref 638), (.ref 639), (.int 1090 0), (.int 425 0), (vs "/claim/cut.py" 1091)], #[]⟩),
  (641, fobj (mt 71 1) "Markers.numbers" .none (vs "emacs.markers" 1065) 640),
  (647, ⟨(.type "code"), none, .fields #[(vs "put" 1093), (vs "Markers.put" 1094), (vs "/claim/cut.py" 1095), (.int 428 0), (.int 3 0), (.int 0 0), (.int 0 0), (.int 3 0), (.ref 642), (.bool true), (.int 181 0), (.ref 643), .none, (.ref 644), (.ref 645), (.ref 646), (.int 1099 0), (.int 428 0), (vs "/claim/cut.py" 1100)], #[]⟩),
  (648, fobj (mt 71 2) "Markers.put" .none (vs "emacs.markers" 1065) 647),
  (661, ⟨(.type "code"), none, .fields #[(vs "within" 1110), (vs "Markers.within" 1111), (vs "/claim/cut.py" 1112), (.int 435 0), (.int 3 0), (.int 0 0), (.int 0 0), (.int 3 0), (.ref 656), (.bool true), (.int 181 0), (.ref 657), .none, (.ref 658), (.ref 659), (.ref 660), (.int 1118 0), (.int 435 0), (vs "/claim/cut.py" 1119)], #[]⟩),
  (662, fobj (mt 71 4) "Markers.within" .none (vs "emacs.markers" 1065) 661),
  (668, ⟨(.type "code"), none, .fields #[(vs "inserted" 1121), (vs "Markers.inserted" 1122), (vs "/claim/cut.py" 1123), (.int 442 0), (.int 4 0), (.int 0 0), (.int 0 0), (.int 3 0), (.ref 663), (.bool true), (.int 181 0), (.ref 664), .none, (.ref 665), (.ref 666), (.ref 667), (.int 1130 0), (.int 442 0), (vs "/claim/cut.py" 1131)], #[]⟩),
  (669, fobj (mt 71 5) "Markers.inserted" .none (vs "emacs.markers" 1065) 668),
  (675, ⟨(.type "code"), none, .fields #[(vs "deleted" 1133), (vs "Markers.deleted" 1134), (vs "/claim/cut.py" 1135), (.int 448 0), (.int 3 0), (.int 0 0), (.int 0 0), (.int 3 0), (.ref 670), (.bool true), (.int 181 0), (.ref 671), .none, (.ref 672), (.ref 673), (.ref 674), (.int 1141 0), (.int 448 0), (vs "/claim/cut.py" 1142)], #[]⟩),
  (676, fobj (mt 71 6) "Markers.deleted" .none (vs "emacs.markers" 1065) 675),
  (682, ⟨(.type "code"), none, .fields #[(vs "replaced" 1144), (vs "Markers.replaced" 1145), (vs "/claim/cut.py" 1146), (.int 456 0), (.int 4 0), (.int 0 0), (.int 0 0), (.int 3 0), (.ref 677), (.bool true), (.int 181 0), (.ref 678), .none, (.ref 679), (.ref 680), (.ref 681), (.int 1153 0), (.int 456 0), (vs "/claim/cut.py" 1154)], #[]⟩),
  (683, fobj (mt 71 7) "Markers.replaced" .none (vs "emacs.markers" 1065) 682),
  (685, ⟨(.type "dict"), none, .dict #[⟨PyData.keyHash P "__module__", vs "__module__" 1074, (vs "emacs.markers" 1065)⟩, ⟨PyData.keyHash P "__firstlineno__", vs "__firstlineno__" 1078, (.int 420 1077)⟩, ⟨PyData.keyHash P "__init__", vs "__init__" 1085, (.ref 634)⟩, ⟨PyData.keyHash P "numbers", vs "numbers" 1092, (.ref 641)⟩, ⟨PyData.keyHash P "put", vs "put" 1101, (.ref 648)⟩, ⟨PyData.keyHash P "drop", vs "drop" 1109, (.ref 655)⟩, ⟨PyData.keyHash P "within", vs "within" 1120, (.ref 662)⟩, ⟨PyData.keyHash P "inserted", vs "inserted" 1132, (.ref 669)⟩, ⟨PyData.keyHash P "deleted", vs "deleted" 1143, (.ref 676)⟩, ⟨PyData.keyHash P "replaced", vs "replaced" 1155, (.ref 683)⟩, ⟨PyData.keyHash P "__static_attributes__", vs "__static_attributes__" 1157, (.ref 684)⟩, ⟨PyData.keyHash P "__dict__", vs "__dict__" 1159, (.ref 687)⟩, ⟨PyData.keyHash P "__weakref__", vs "__weakref__" 1161, (.ref 688)⟩, ⟨PyData.keyHash P "__doc__", vs "__doc__" 1162, .none⟩] 4, #[]⟩),
  (686, ⟨(.type "type"), none, .cls { name := "Markers", bases := [(.type "object")], mro := [(.ref 686), (.type "object")], ns := 685, qualname := "Markers", subclasses := [] }, #[none, none, (some (vs "Markers" 1067)), (some (vs "Markers" 1075)), (some (.builtin "object.__new__")), (some (.bool true))]⟩),
  (710, ⟨(.type "code"), none, .fields #[(vs "kind" 1186), (vs "Opaque.kind" 1187), (vs "/claim/cut.py" 1188), (.int 469 0), (.int 1 0), (.int 0 0), (.int 0 0), (.int 3 0), (.ref 705), (.bool true), (.int 181 0), (.ref 706), .none, (.ref 707), (.ref 708), (.ref 709), (.int 1190 0), (.int 469 0), (vs "/claim/cut.py" 1191)], #[]⟩),
  (711, fobj (mt 73 1) "Opaque.kind" .none (vs "emacs.objects" 1165) 710),
  (720, ⟨(.type "dict"), none, .dict #[⟨PyData.keyHash P "__module__", vs "__module__" 1174, (vs "emacs.objects" 1165)⟩, ⟨PyData.keyHash P "__firstlineno__", vs "__firstlineno__" 1178, (.int 464 1177)⟩, ⟨PyData.keyHash P "shown", vs "shown" 1185, (.ref 704)⟩, ⟨PyData.keyHash P "kind", vs "kind" 1192, (.ref 711)⟩, ⟨PyData.keyHash P "same_as", vs "same_as" 1200, (.ref 718)⟩, ⟨PyData.keyHash P "__static_attributes__", vs "__static_attributes__" 1201, (.ref 719)⟩, ⟨PyData.keyHash P "__dict__", vs "__dict__" 1203, (.ref 722)⟩, ⟨PyData.keyHash P "__weakref__", vs "__weakref__" 1205, (.ref 723)⟩, ⟨PyData.keyHash P "__doc__", vs "__doc__" 1206, .none⟩] 4, #[]⟩),
  (721, ⟨(.type "type"), none, .cls { name := "Opaque", bases := [(.type "object")], mro := [(.ref 721), (.type "object")], ns := 720, qualname := "Opaque", subclasses := [(.ref 827)] }, #[none, none, (some (vs "Opaque" 1167)), (some (vs "Opaque" 1175)), (some (.builtin "object.__new__")), (some (.bool true))]⟩),
  (739, ⟨(.type "code"), none, .fields #[(vs "__init__" 1224), (vs "Buffer.__init__" 1225), (vs "/claim/cut.py" 1226), (.int 477 0), (.int 4 0), (.int 0 0), (.int 0 0), (.int 3 0), (.ref 734), (.bool true), (.int 181 0), (.ref 735), .none, (.ref 736), (.ref 737), (.ref 738), (.int 1231 0), (.int 477 0), (vs "/claim/cut.py" 1232)], #[]⟩),
  (740, fobj (mt 75 0) "Buffer.__init__" (.ref 733) (vs "emacs.buffer" 1209) 739),
  (733, ⟨(.type "tuple"), none, .seq #[(.int 8 1223)] 0, #[]⟩),
  (753, ⟨(.type "code"), none, .fields #[(vs "kind" 1241), (vs "Buffer.kind" 1242), (vs "/claim/cut.py" 1243), (.int 502 0), (.int 1 0), (.int 0 0), (.int 0 0), (.int 3 0), (.ref 748), (.bool true), (.int 181 0), (.ref 749), .none, (.ref 750), (.ref 751), (.ref 752), (.int 1245 0), (.int 502 0), (vs "/claim/cut.py" 1246)], #[]⟩),
  (754, fobj (mt 75 2) "Buffer.kind" .none (vs "emacs.buffer" 1209) 753),
  (760, ⟨(.type "code"), none, .fields #[(vs "begin" 1248), (vs "Buffer.begin" 1249), (vs "/claim/cut.py" 1250), (.int 505 0), (.int 1 0), (.int 0 0), (.int 0 0), (.int 3 0), (.ref 755), (.bool true), (.int 181 0), (.ref 756), .none, (.ref 757), (.ref 758), (.ref 759), (.int 1252 0), (.int 505 0), (vs "/claim/cut.py" 1253)], #[]⟩),
  (761, fobj (mt 75 3) "Buffer.begin" .none (vs "emacs.buffer" 1209) 760),
  (767, ⟨(.type "code"), none, .fields #[(vs "end" 1255), (vs "Buffer.end" 1256), (vs "/claim/cut.py" 1257), (.int 508 0), (.int 1 0), (.int 0 0), (.int 0 0), (.int 3 0), (.ref 762), (.bool true), (.int 181 0), (.ref 763), .none, (.ref 764), (.ref 765), (.ref 766), (.int 1259 0), (.int 508 0), (vs "/claim/cut.py" 1260)], #[]⟩),
  (768, fobj (mt 75 4) "Buffer.end" .none (vs "emacs.buffer" 1209) 767),
  (774, ⟨(.type "code"), none, .fields #[(vs "size" 1262), (vs "Buffer.size" 1263), (vs "/claim/cut.py" 1264), (.int 511 0), (.int 1 0), (.int 0 0), (.int 0 0), (.int 3 0), (.ref 769), (.bool true), (.int 181 0), (.ref 770), .none, (.ref 771), (.ref 772), (.ref 773), (.int 1266 0), (.int 511 0), (vs "/claim/cut.py" 1267)], #[]⟩),
  (775, fobj (mt 75 5) "Buffer.size" .none (vs "emacs.buffer" 1209) 774),
  (781, ⟨(.type "code"), none, .fields #[(vs "code_at" 1269), (vs "Buffer.code_at" 1270), (vs "/claim/cut.py" 1271), (.int 514 0), (.int 2 0), (.int 0 0), (.int 0 0), (.int 3 0), (.ref 776), (.bool true), (.int 181 0), (.ref 777), .none, (.ref 778), (.ref 779), (.ref 780), (.int 1274 0), (.int 514 0), (vs "/claim/cut.py" 1275)], #[]⟩),
  (782, fobj (mt 75 6) "Buffer.code_at" .none (vs "emacs.buffer" 1209) 781),
  (788, ⟨(.type "code"), none, .fields #[(vs "codes" 1277), (vs "Buffer.codes" 1278), (vs "/claim/cut.py" 1279), (.int 519 0), (.int 3 0), (.int 0 0), (.int 0 0), (.int 3 0), (.ref 783), (.bool true), (.int 181 0), (.ref 784), .none, (.ref 785), (.ref 786), (.ref 787), (.int 1283 0), (.int 519 0), (vs "/claim/cut.py" 1284)], #[]⟩),
  (789, fobj (mt 75 7) "Buffer.codes" .none (vs "emacs.buffer" 1209) 788),
  (795, ⟨(.type "code"), none, .fields #[(vs "goto" 1286), (vs "Buffer.goto" 1287), (vs "/claim/cut.py" 1288), (.int 522 0), (.int 2 0), (.int 0 0), (.int 0 0), (.int 3 0), (.ref 790), (.bool true), (.int 181 0), (.ref 791), .none, (.ref 792), (.ref 793), (.ref 794), (.int 1291 0), (.int 522 0), (vs "/claim/cut.py" 1292)], #[]⟩),
  (796, fobj (mt 75 8) "Buffer.goto" .none (vs "emacs.buffer" 1209) 795),
  (823, ⟨(.type "code"), none, .fields #[(vs "touch" 1316), (vs "Buffer.touch" 1317), (vs "/claim/cut.py" 1318), (.int 535 0), (.int 2 0), (.int 0 0), (.int 0 0), (.int 3 0), (.ref 818), (.bool true), (.int 181 0), (.ref 819), .none, (.ref 820), (.ref 821), (.ref 822), (.int 1321 0), (.int 535 0), (vs "/claim/cut.py" 1322)], #[]⟩),
  (824, fobj (mt 75 12) "Buffer.touch" .none (vs "emacs.buffer" 1209) 823),
  (826, ⟨(.type "dict"), none, .dict #[⟨PyData.keyHash P "__module__", vs "__module__" 1218, (vs "emacs.buffer" 1209)⟩, ⟨PyData.keyHash P "__firstlineno__", vs "__firstlineno__" 1222, (.int 475 1221)⟩, ⟨PyData.keyHash P "__init__", vs "__init__" 1233, (.ref 740)⟩, ⟨PyData.keyHash P "shown", vs "shown" 1240, (.ref 747)⟩, ⟨PyData.keyHash P "kind", vs "kind" 1247, (.ref 754)⟩, ⟨PyData.keyHash P "begin", vs "begin" 1254, (.ref 761)⟩, ⟨PyData.keyHash P "end", vs "end" 1261, (.ref 768)⟩, ⟨PyData.keyHash P "size", vs "size" 1268, (.ref 775)⟩, ⟨PyData.keyHash P "code_at", vs "code_at" 1276, (.ref 782)⟩, ⟨PyData.keyHash P "codes", vs "codes" 1285, (.ref 789)⟩, ⟨PyData.keyHash P "goto", vs "goto" 1293, (.ref 796)⟩, ⟨PyData.keyHash P "tick", vs "tick" 1300, (.ref 803)⟩, ⟨PyData.keyHash P "is_modified", vs "is_modified" 1307, (.ref 810)⟩, ⟨PyData.keyHash P "set_modified", vs "set_modified" 1315, (.ref 817)⟩, ⟨PyData.keyHash P "touch", vs "touch" 1323, (.ref 824)⟩, ⟨PyData.keyHash P "__static_attributes__", vs "__static_attributes__" 1344, (.ref 825)⟩, ⟨PyData.keyHash P "__doc__", vs "__doc__" 1345, .none⟩] 2, #[]⟩),
  (827, ⟨(.type "type"), none, .cls { name := "Buffer", bases := [(.ref 721)], mro := [(.ref 827), (.ref 721), (.type "object")], ns := 826, qualname := "Buffer", subclasses := [] }, #[(some (.ref 726)), none, (some (vs "Buffer" 1211)), (some (vs "Buffer" 1219)), (some (.builtin "object.__new__")), (some (.bool true))]⟩),
  (835, ⟨(.type "code"), none, .fields #[(vs "_law_draw" 1350), (vs "_law_draw" 1351), (vs "/claim/cut.py" 1352), (.int 540 0), (.int 2 0), (.int 0 0), (.int 0 0), (.int 3 0), (.ref 830), (.bool true), (.int 181 0), (.ref 831), .none, (.ref 832), (.ref 833), (.ref 834), (.int 1355 0), (.int 540 0), (vs "/claim/cut.py" 1356)], #[]⟩),
  (836, fobj (tp 77) "_law_draw" .none (vs "law_oj0034_01" 1348) 835),
  (840, ⟨(.type "code"), none, .fields #[(vs "_law_codes" 1358), (vs "_law_codes" 1359), (vs "/claim/cut.py" 1360), (.int 545 0), (.int 1 0), (.int 0 0), (.int 0 0), (.int 3 0), (.ref 837), (.bool true), (.int 181 0), (.ref 838), .none, .none, .none, (.ref 839), (.int 1361 0), (.int 545 0), (vs "/claim/cut.py" 1362)], #[]⟩),
  (841, fobj (tp 78) "_law_codes" .none (vs "law_oj0034_01" 1348) 840),
  (847, ⟨(.type "code"), none, .fields #[(vs "_law_tables" 1364), (vs "_law_tables" 1365), (vs "/claim/cut.py" 1366), (.int 547 0), (.int 1 0), (.int 0 0), (.int 0 0), (.int 3 0), (.ref 842), (.bool true), (.int 181 0), (.ref 843), .none, (.ref 844), (.ref 845), (.ref 846), (.int 1379 0), (.int 547 0), (vs "/claim/cut.py" 1380)], #[]⟩),
  (848, fobj (tp 79) "_law_tables" .none (vs "law_oj0034_01" 1348) 847),
  (854, ⟨(.type "code"), none, .fields #[(vs "_law_due" 1382), (vs "_law_due" 1383), (vs "/claim/cut.py" 1384), (.int 561 0), (.int 2 0), (.int 0 0), (.int 0 0), (.int 3 0), (.ref 849), (.bool true), (.int 181 0), (.ref 850), .none, (.ref 851), (.ref 852), (.ref 853), (.int 1389 0), (.int 561 0), (vs "/claim/cut.py" 1390)], #[]⟩),
  (855, fobj (tp 80) "_law_due" .none (vs "law_oj0034_01" 1348) 854),
  (859, ⟨(.type "code"), none, .fields #[(vs "_law_lettered" 1392), (vs "_law_lettered" 1393), (vs "/claim/cut.py" 1394), (.int 569 0), (.int 3 0), (.int 0 0), (.int 0 0), (.int 3 0), (.ref 856), (.bool true), (.int 181 0), (.ref 857), .none, .none, .none, (.ref 858), (.int 1395 0), (.int 569 0), (vs "/claim/cut.py" 1396)], #[]⟩),
  (860, fobj (tp 81) "_law_lettered" .none (vs "law_oj0034_01" 1348) 859),
  (866, ⟨(.type "code"), none, .fields #[(vs "_law_word" 1398), (vs "_law_word" 1399), (vs "/claim/cut.py" 1400), (.int 579 0), (.int 2 0), (.int 0 0), (.int 0 0), (.int 3 0), (.ref 861), (.bool true), (.int 181 0), (.ref 862), .none, (.ref 863), (.ref 864), (.ref 865), (.int 1405 0), (.int 579 0), (vs "/claim/cut.py" 1406)], #[]⟩),
  (867, fobj (tp 82) "_law_word" .none (vs "law_oj0034_01" 1348) 866),
  (873, ⟨(.type "code"), none, .fields #[(vs "_law_put" 1408), (vs "_law_put" 1409), (vs "/claim/cut.py" 1410), (.int 587 0), (.int 3 0), (.int 0 0), (.int 0 0), (.int 3 0), (.ref 868), (.bool true), (.int 181 0), (.ref 869), .none, (.ref 870), (.ref 871), (.ref 872), (.int 1417 0), (.int 587 0), (vs "/claim/cut.py" 1418)], #[]⟩),
  (874, fobj (tp 83) "_law_put" .none (vs "law_oj0034_01" 1348) 873),
  (880, ⟨(.type "code"), none, .fields #[(vs "_law_all_put" 1420), (vs "_law_all_put" 1421), (vs "/claim/cut.py" 1422), (.int 594 0), (.int 4 0), (.int 0 0), (.int 0 0), (.int 3 0), (.ref 875), (.bool true), (.int 181 0), (.ref 876), .none, (.ref 877), (.ref 878), (.ref 879), (.int 1432 0), (.int 594 0), (vs "/claim/cut.py" 1433)], #[]⟩),
  (881, fobj (tp 84) "_law_all_put" .none (vs "law_oj0034_01" 1348) 880),
  (885, ⟨(.type "code"), none, .fields #[(vs "_law_held" 1435), (vs "_law_held" 1436), (vs "/claim/cut.py" 1437), (.int 608 0), (.int 1 0), (.int 0 0), (.int 0 0), (.int 3 0), (.ref 882), (.bool true), (.int 181 0), (.ref 883), .none, .none, .none, (.ref 884), (.int 1438 0), (.int 608 0), (vs "/claim/cut.py" 1439)], #[]⟩),
  (886, fobj (tp 85) "_law_held" .none (vs "law_oj0034_01" 1348) 885),
  (890, ⟨(.type "code"), none, .fields #[(vs "law" 1441), (vs "law" 1442), (vs "/claim/cut.py" 1443), (.int 610 0), (.int 1 0), (.int 0 0), (.int 0 0), (.int 3 0), (.ref 887), (.bool true), (.int 181 0), (.ref 888), .none, .none, .none, (.ref 889), (.int 1444 0), (.int 610 0), (vs "/claim/cut.py" 1445)], #[]⟩),
  (891, fobj (tp 86) "law" .none (vs "law_oj0034_01" 1348) 890)]
noncomputable def Ka : List Addr := [3, 27, 28, 34, 35, 41, 42, 48, 49, 53, 54, 58, 59, 65, 66, 79, 80, 82, 83, 100, 101, 103, 104, 112, 113, 119, 120, 126, 127, 133, 134, 140, 141, 147, 148, 154, 155, 161, 162, 166, 167, 171, 172, 178, 179, 185, 186, 192, 193, 199, 200, 213, 214, 216, 217, 226, 227, 233, 234, 240, 241, 247, 248, 254, 255, 261, 262, 268, 269, 275, 276, 282, 283, 290, 291, 284, 297, 298, 304, 305, 311, 312, 319, 320, 313, 327, 328, 321, 335, 336, 329, 349, 350, 356, 357, 380, 381, 389, 390, 394, 395, 409, 410, 403, 423, 424, 437, 438, 444, 445, 451, 452, 461, 462, 472, 473, 479, 480, 493, 494, 496, 497, 507, 508, 514, 515, 521, 522, 528, 529, 542, 543, 549, 550, 556, 557, 563, 564, 570, 571, 577, 578, 584, 585, 591, 592, 598, 599, 615, 616, 633, 634, 640, 641, 647, 648, 661, 662, 668, 669, 675, 676, 682, 683, 685, 686, 710, 711, 720, 721, 739, 740, 733, 753, 754, 760, 761, 767, 768, 774, 775, 781, 782, 788, 789, 795, 796, 823, 824, 826, 827, 835, 836, 840, 841, 847, 848, 854, 855, 859, 860, 866, 867, 873, 874, 880, 881, 885, 886, 890, 891]
noncomputable def loose : List Str := (["_wall", "downcase", "upcase", "is_upper", "is_lower", "upcased", "downcased", "initials_upcased", "MOST_PARENTS", "Abbrev", "AbbrevTable", "key_of", "define", "forget", "own_entry", "tables_from", "entry_of", "is_word_sign", "many_words", "has_upper", "has_lower", "first_upcased", "written", "expansion_of", "unexpanded", "LispSignal", "need_writable", "reached", "tell_ahead", "tell_behind", "text_out", "text_in", "hung_out", "hung_in", "put_in", "insert_at", "delete", "replace", "syntax_at", "is_of", "skip_forward", "skip_backward", "WHITESPACE", "WORD", "PUNCTUATION", "INHERITS", "KINDS", "FLAGS", "Syntax", "sorted_flags", "read_syntax", "SyntaxTable", "forward_by", "forward_word", "Expansion", "word_before", "expand_abbrev", "unexpand_abbrev", "expand_region", "GapText", "Markers", "Opaque", "Buffer", "_law_draw", "_law_codes", "_law_tables", "_law_due", "_law_lettered", "_law_word", "_law_put", "_law_all_put", "_law_held"] : List String).map Str.ofString

noncomputable def qv : Program := { PySem.Challenge.pw_oj0034_01 with main := { PySem.Challenge.pw_oj0034_01.main with body := [tp 86] } }

noncomputable def topRunT (p : Program) (w : World) (n₀ : Nat) (ann : Option Value) : Nat → SharedT → Thread → Option SharedT
  | 0, _, _ => none
  | n + 1, s, t => match through t with
    | true => some s
    | false => match PySem.W.Fast.tw6613529449190102663 n₀ ann t with
      | false => none
      | true => match PySem.W.Fast.tw10156331382660048174 (PySem.W.Fast.tw11892475500146522536 PySem.W.Fast.tw14364793385576792824) p w s t with
        | some (s', t') => topRunT p w n₀ ann n s' t'
        | none => none
theorem topRunT_spec {p : Program} {w : World} {n₀ : Nat} {ann : Option Value} : ∀ (n : Nat) (s s' : SharedT) (t : Thread), topRunT p w n₀ ann n s t = some s' → topRun treeTable p w n₀ ann n s.abs t = some s'.abs
  | 0, _, _, _, h => by cases h
  | n + 1, s, s', t, h => by
    unfold topRunT at h
    unfold topRun
    cases ht : through t with
    | true => rw [ht] at h; cases h; rfl
    | false =>
      rw [ht, ← PySem.W.Fast.te6613529449190102663, ← PySem.W.Fast.te10156331382660048174, ← PySem.W.Fast.te11892475500146522536, ← PySem.W.Fast.te14364793385576792824] at h
      cases hk : stepOk n₀ ann t with
      | false => rw [hk] at h; cases h
      | true =>
        rw [hk] at h
        cases hs : stepT (denote treeTable) p w s t with
        | none => rw [hs] at h; cases h
        | some r => obtain ⟨s₂, t₂⟩ := r; rw [hs] at h; dsimp only; rw [stepT_spec hs]; exact topRunT_spec n _ _ _ h
noncomputable def mkT (os : List Obj) : Nat → Nat → Nat → BT
  | 0, _, _ => .nil
  | f + 1, a, b => match os[b]? with
    | some o => .node o (mkT os f (2 * a) (a + b)) (mkT os f (2 * a) (2 * a + b))
    | none => .nil
noncomputable def bt (P : Params) : BT := mkT (boot_heap P).objs.toList 6 1 0
noncomputable def s0 (w : World) (os : OsState) : SharedT := ⟨bt w.params, 11, {}, #[], {}, 181, os⟩
theorem s0_abs (w : World) (os : OsState) : (s0 w os).abs = ⟨boot_heap w.params, #[], boot_drawn, boot_toks, os⟩ := by kernel_rfl
noncomputable def Nst : Nat := 12000

end Mine
end

section
set_option Elab.async false
set_option maxRecDepth 100000
namespace Mine
noncomputable def Xt (s : Shared) : Bool := xlAt qv [] s && recOk [] s
noncomputable def look1 (w : World) (s : SharedT) : Bool := staticsOk (importedModules PySem.Challenge.pw_oj0034_01.main.body) (boot_heap w.params) s.abs.heap && namesBound PySem.Challenge.pw_oj0034_01 s.abs.heap && gensDone s.abs && laidKept (boot_heap w.params) s.abs.heap
noncomputable def look2 (s : SharedT) := PySem.W.Fast.tw4187177175401517315 qv loose (importedModules PySem.Challenge.pw_oj0034_01.main.body) Xt true s.abs
theorem run_ok : ∀ (w : World) (os : OsState), (topRunT PySem.Challenge.pw_oj0034_01 w 11 (some (.ref 6)) 12000 (s0 w os) (topStub PySem.Challenge.pw_oj0034_01)).map (fun s => (look1 w s, look2 s, Ka.map s.abs.heap.get?)) =
   some (true, openGood qv loose, (Kf w.params).map fun p => some p.2) := fun w os => by kernel_rfl
end Mine

end

section
set_option Elab.async false
set_option maxRecDepth 100000
namespace Mine
theorem left_gen {p q : Program} {loose : List Str} {Xt : Shared → Bool} {α : Type} {Yf : Shared → α} {Ya : World → α} {N m₀ : Nat} {ann : Option Value} {H₀ : Params → Heap} {gs : Array GenState} {d : Drawn} {k : Nat}
    (open_ : ∀ w : World, (fencedOpening treeTable p w N).map (fun s => (s.heap, s.gens, s.drawn, s.toks)) = some (H₀ w.params, gs, d, k))
    (size : ∀ w : World, ((H₀ w.params).isNs mainGlobals && gs.size == 0, (H₀ w.params).objs.size, (H₀ w.params).nsMap mainGlobals "__annotations__") = (true, m₀, ann))
    (run : ∀ (w : World) (os : OsState), ∃ s₁, topRun treeTable p w m₀ ann N ⟨H₀ w.params, gs, d, k, os⟩ (topStub p) = some s₁ ∧
      (staticsOk (importedModules p.main.body) (H₀ w.params) s₁.heap && namesBound p s₁.heap && gensDone s₁ && laidKept (H₀ w.params) s₁.heap) = true ∧
      openSeen q loose (importedModules p.main.body) Xt true s₁ = openGood q loose ∧ Yf s₁ = Ya w) : LeftO p q loose Xt Yf Ya N := fun w => by
  obtain ⟨⟨h, gs, d, k, os⟩, e, e'⟩ := Option.map_eq_some_iff.mp (open_ w)
  obtain ⟨rfl, rfl, rfl, rfl⟩ : h = H₀ w.params ∧ _ ∧ _ ∧ _ := by simpa only [Prod.mk.injEq] using e'
  obtain ⟨z1, z2, z3⟩ : _ ∧ _ ∧ _ := by simpa only [Prod.mk.injEq] using size w
  obtain ⟨s₁, r, l1, l2, l3⟩ := run w os
  have t : topFrom treeTable p w N ⟨H₀ w.params, gs, d, k, os⟩ = some s₁ := by
    unfold topFrom
    dsimp only
    rw [z1, z2, z3, r]
    dsimp only [Option.bind]
    rw [l1]
  unfold openEnds
  rw [e]
  dsimp only [Option.bind]
  rw [t]
  exact congrArg some (Prod.ext l2 l3)
theorem boot_size : ∀ w : World, ((boot_heap w.params).isNs mainGlobals && (Array.mk [] : Array GenState).size == 0, (boot_heap w.params).objs.size, (boot_heap w.params).nsMap mainGlobals "__annotations__") = (true, 11, some (.ref 6)) := fun w => by kernel_rfl
theorem open_pw : opening PySem.Challenge.pw_oj0034_01 = plainProg PySem.Challenge.pw_oj0034_01.main.scope.names := by kernel_rfl
theorem fence_pw (s : Shared) : fenceModules? PySem.Challenge.pw_oj0034_01 s = some s := by kernel_rfl
theorem look2_eq (s : SharedT) : look2 s = openSeen qv loose (importedModules PySem.Challenge.pw_oj0034_01.main.body) Xt true s.abs := by
  unfold look2; rw [← PySem.W.Fast.te4187177175401517315]
theorem run_all (w : World) (os : OsState) : ∃ s₁, topRun treeTable PySem.Challenge.pw_oj0034_01 w 11 (some (.ref 6)) 12000 ⟨boot_heap w.params, Array.mk [], boot_drawn, boot_toks, os⟩ (topStub PySem.Challenge.pw_oj0034_01) = some s₁ ∧
      (staticsOk (importedModules PySem.Challenge.pw_oj0034_01.main.body) (boot_heap w.params) s₁.heap && namesBound PySem.Challenge.pw_oj0034_01 s₁.heap && gensDone s₁ && laidKept (boot_heap w.params) s₁.heap) = true ∧
      openSeen qv loose (importedModules PySem.Challenge.pw_oj0034_01.main.body) Xt true s₁ = openGood qv loose ∧ Ka.map s₁.heap.get? = (Kf w.params).map fun p => some p.2 := by
  obtain ⟨sT, r1, r2⟩ := Option.map_eq_some_iff.mp (run_ok w os)
  have r := topRunT_spec _ _ _ _ r1
  rw [s0_abs] at r
  rw [Prod.mk.injEq, Prod.mk.injEq] at r2
  obtain ⟨l1, l2, l3⟩ := r2
  rw [look2_eq] at l2
  unfold look1 at l1
  exact ⟨sT.abs, r, l1, l2, l3⟩
noncomputable def Yo (s : Shared) : List (Option Obj) := Ka.map s.heap.get?
noncomputable def Yv (w : World) : List (Option Obj) := (Kf w.params).map fun p => some p.2
theorem left : LeftO PySem.Challenge.pw_oj0034_01 qv loose Xt Yo Yv 12000 :=
  left_gen (boot_open open_pw rfl fence_pw) boot_size run_all
end Mine

end

section
set_option Elab.async false
set_option maxRecDepth 100000
namespace Mine
theorem ws : OpenLaw.wellSaid PySem.Challenge.rw_oj0034_01 = true := by
  rw [PySem.W.Fast.te9446332074065402090]; kernel_rfl
noncomputable def dl : DefRec := match tp 86 with | .FunctionDef name params body _ _ _ scope _ _ pos => { name, params, body, scope, pos } | _ => ⟨"", default, [], default, default⟩
noncomputable abbrev rr : RowW := (PySem.Challenge.rw_oj0034_01.row).toRowW
theorem hdef : defOf qv rr.name = some (dl, []) := by kernel_rfl
theorem hthe : PySem.Challenge.rw_oj0034_01.row.prog.theDef PySem.Challenge.rw_oj0034_01.row.name = some (dl.params, dl.body, dl.scope) := by kernel_rfl
theorem hok : (chainsOk qv && opensWell PySem.Challenge.rw_oj0034_01.row.prog && (frees rr && rr.within.isEmpty)) = true := by kernel_rfl
theorem hd (hw : rr.promised) (call : WalkO qv loose (XL qv []) (fun w h => InK Kf w h) rr dl [] fun f vs => PySem.call f vs) : PySem.Challenge.rw_oj0034_01.Holds :=
  holds_law ws fun said => PySem.W.holds_open (r := PySem.Challenge.rw_oj0034_01.row) (q := qv) (loose := loose) (Xt := Xt) (XP := XL qv []) (α := List (Option Obj))
    (Yf := Yo) (Ya := Yv) (YP := fun w h => InK Kf w h) (d := dl) (kwd := []) (N := 12000)
    left (fun w s e => InK.of (fun P => by kernel_rfl) w s e) InK.keeps (fun s e => xl_of s (Bool.and_eq_true_iff.mp e).1) XL.keeps hdef hthe (by kernel_rfl)
    (fun s e => recFacts_of (Bool.and_eq_true_iff.mp e).2) (by kernel_rfl) said hok ⟨rfl, rfl, rfl, rfl, rfl, by decide +kernel⟩ hw call
end Mine

end

section
set_option Elab.async false
set_option linter.all false
set_option maxRecDepth 100000
set_option compiler.extract_closed false
namespace Mine
/-- the goal as a name, while a fact is taken apart -/
theorem gG {P : Prop} (h : ∀ G : Prop, (P → G) → G) : P := h P id

/-- abstract values: no tokens -/
inductive AV where
  | none | bool (b : Bool) | int (i : Int) | str (x : Str) | ref (a : Addr) | other (v : Value)
noncomputable def ab : Value → AV
  | .none => .none
  | .bool b => .bool b
  | .int i _ => .int i
  | .str x _ => .str x
  | .ref a => .ref a
  | v => .other v
theorem ab_int {v : Value} {i : Int} (h : ab v = .int i) : ∃ t, v = .int i t := by cases v <;> simp only [ab] at h <;> first | exact AV.noConfusion h | (cases h; exact ⟨_, rfl⟩)
theorem ab_str {v : Value} {x : Str} (h : ab v = .str x) : ∃ t, v = .str x t := by cases v <;> simp only [ab] at h <;> first | exact AV.noConfusion h | (cases h; exact ⟨_, rfl⟩)
theorem ab_ref {v : Value} {a : Addr} (h : ab v = .ref a) : v = .ref a := by cases v <;> simp only [ab] at h <;> first | exact AV.noConfusion h | (cases h; rfl)
theorem ab_bool {v : Value} {b : Bool} (h : ab v = .bool b) : v = .bool b := by cases v <;> simp only [ab] at h <;> first | exact AV.noConfusion h | (cases h; rfl)
theorem ab_none {v : Value} (h : ab v = .none) : v = .none := by cases v <;> simp only [ab] at h <;> first | exact AV.noConfusion h | rfl
theorem ab_other {v u : Value} (h : ab v = .other u) : v = u := by cases v <;> simp only [ab] at h <;> first | exact AV.noConfusion h | (cases h; rfl)

inductive AO where
  | list (t : Nat) (xs : List AV)
  | tuple (xs : List AV)
  | sdict (t : Nat) (kvs : List (Str × AV))
  | idict (t : Nat) (kvs : List (Int × AV))
  | inst (C dx : Addr)
  | rcd (k : Nat) (ns : List Str) (vals : List (Option AV))
  | cell (v : AV)
  | rng (n : Nat)
  | slc (lo hi st : AV)
noncomputable abbrev AH := Addr → Option AO
noncomputable def AH.upd (H : AH) (a : Addr) (o : AO) : AH := fun b => if b = a then some o else H b

noncomputable def vget (x : Str) : List Str → List (Option AV) → Option AV
  | n :: ns, v :: vs => if x = n then v else vget x ns vs
  | _, _ => none
inductive RGet (x : Str) (v : AV) : List Str → List (Option AV) → Prop
  | here {ns vs} : RGet x v (x :: ns) (some v :: vs)
  | there {n ns u vs} : RGet x v ns vs → RGet x v (n :: ns) (u :: vs)
inductive RPut (x : Str) (v : AV) : List Str → List (Option AV) → List (Option AV) → Prop
  | here {ns u vs} : RPut x v (x :: ns) (u :: vs) (some v :: vs)
  | there {n ns u vs vs'} : RPut x v ns vs vs' → RPut x v (n :: ns) (u :: vs) (u :: vs')

theorem RGet.mem {x : Str} {v : AV} {ns vs} (h : RGet x v ns vs) : x ∈ ns := by induction h with | here => exact .head _ | there _ ih => exact .tail _ ih
theorem RPut.mem {x : Str} {v : AV} {ns vs vs'} (h : RPut x v ns vs vs') : x ∈ ns := by induction h with | here => exact .head _ | there _ ih => exact .tail _ ih
theorem RGet.vget {x : Str} {v : AV} {ns vs} (h : RGet x v ns vs) (nd : ns.Nodup) : vget x ns vs = some v := by
  induction h with
  | here => simp [Mine.vget]
  | there h ih =>
    obtain ⟨n1, n2⟩ := List.nodup_cons.mp nd
    rename_i n ns u vs
    have : x ≠ n := fun e => n1 (e ▸ h.mem)
    simp [Mine.vget, this, ih n2]
theorem RPut.vget {x : Str} {v : AV} {ns vs vs'} (h : RPut x v ns vs vs') (nd : ns.Nodup) (y : Str) : Mine.vget y ns vs' = if y = x then some v else Mine.vget y ns vs := by
  induction h with
  | here => simp only [Mine.vget]; split <;> rfl
  | there h ih =>
    rename_i n ns u vs vs'
    obtain ⟨n1, n2⟩ := List.nodup_cons.mp nd
    have hx : x ≠ n := fun e => n1 (e ▸ h.mem)
    simp only [Mine.vget]
    rw [ih n2]
    by_cases hy : y = n
    · subst hy; rw [if_pos rfl, if_neg (Ne.symm hx), if_pos rfl]
    · rw [if_neg hy, if_neg hy]
theorem RPut.len {x : Str} {v : AV} {ns vs vs'} (h : RPut x v ns vs vs') : vs'.length = vs.length := by induction h with | here => rfl | there _ ih => simp [ih]
/-- at most so many entries -/
noncomputable def nsome (vs : List (Option AV)) : Nat := (vs.filter (·.isSome)).length
theorem RPut.nsome {x : Str} {v : AV} {ns vs vs'} (h : RPut x v ns vs vs') (nd : ns.Nodup) : Mine.nsome vs' = if (Mine.vget x ns vs).isSome then Mine.nsome vs else Mine.nsome vs + 1 := by
  induction h with
  | here => rename_i u vs; cases u <;> simp [Mine.nsome, Mine.vget]
  | there h ih =>
    rename_i n ns u vs vs'
    obtain ⟨n1, n2⟩ := List.nodup_cons.mp nd
    have hx : x ≠ n := fun e => n1 (e ▸ h.mem)
    have ih := ih n2
    simp only [Mine.vget, if_neg hx]
    cases u <;> simp only [Mine.nsome, List.filter_cons, Option.isSome_none, Option.isSome_some, if_true, if_false, Bool.false_eq_true, List.length_cons] at ih ⊢ <;> split at ih <;> simp_all

noncomputable def scode (s : Str) : Nat := s.cps.toList.foldl (fun a c => a * 1114112 + c + 1) 0
noncomputable def ndN : List Nat → Bool
  | [] => true
  | a :: l => !(l.any (Nat.beq a)) && ndN l
theorem ndN_nodup : ∀ {l : List Nat}, ndN l = true → l.Nodup
  | [], _ => .nil
  | a :: l, h => by
    simp only [ndN, Bool.and_eq_true, Bool.not_eq_true', List.any_eq_false] at h
    refine List.nodup_cons.mpr ⟨fun hm => h.1 a hm (Nat.beq_refl a), ndN_nodup h.2⟩
noncomputable def ndS (l : List Str) : Bool := ndN (l.map scode)
theorem ndS_nodup {l : List Str} (h : ndS l = true) : l.Nodup := by
  have := ndN_nodup h
  exact List.Pairwise.of_map scode (fun a b hab e => hab (by rw [e])) this

noncomputable def lookS (x : Str) (es : List DictEntry) : Option Value := (es.find? (·.key.isStr x)).map (·.val)
theorem putL_look (x name : Str) (hs : Int) (t : Tok) (v : Value) : ∀ es : List DictEntry, lookS x (putL name hs (.str name t) v es) = if x = name then some v else lookS x es
  | [] => by
    by_cases h : x = name
    · subst h; simp [lookS, putL, Value.isStr]
    · have : (name == x) = false := beq_eq_false_iff_ne.mpr (Ne.symm h)
      simp [lookS, putL, Value.isStr, h, this]
  | e :: es => by
    have ih := putL_look x name hs t v es
    unfold putL
    cases q : e.key.isStr name with
    | true =>
      simp only [if_true]
      by_cases h : x = name
      · subst h; simp [lookS, q]
      · have : e.key.isStr x = false := by
          cases hk : e.key.isStr x with
          | false => rfl
          | true => exact absurd (Value.isStr_inj _ _ _ hk q) h
        simp [lookS, this, h]
    | false =>
      simp only [Bool.false_eq_true, if_false]
      by_cases hx : e.key.isStr x = true
      · have : x ≠ name := fun h => by subst h; rw [q] at hx; cases hx
        simp [lookS, hx, this]
      · have hx' : e.key.isStr x = false := by simpa using hx
        simp only [lookS, List.find?_cons, hx'] at ih ⊢
        exact ih

structure RecR (ns : List Str) (vals : List (Option AV)) (es : List DictEntry) : Prop where
  nd : ns.Nodup
  keys : ∀ e ∈ es, ∃ x t, e.key = .str x t
  len : es.length = nsome vals
  small : vals.length ≤ 100
  look : ∀ x, (lookS x es).map ab = vget x ns vals
theorem RecR.noref {ns vals es} (r : RecR ns vals es) : es.any (·.refKey) = false := by
  rw [List.any_eq_false]; intro e he; obtain ⟨n, t, h⟩ := r.keys e he; simp [DictEntry.refKey, h]
theorem RecR.getL {ns vals es} (r : RecR ns vals es) (x : Str) : getL x es = some (lookS x es) := by
  unfold PySem.W.getL lookS
  cases h : es.find? (·.key.isStr x) with
  | some e => rfl
  | none => simp [r.noref]
theorem nsome_le : ∀ vs : List (Option AV), nsome vs ≤ vs.length := fun vs => List.length_filter_le _ _
theorem putL_keys (name : Str) (hs : Int) (t : Tok) (v : Value) : ∀ es : List DictEntry, (∀ e ∈ es, ∃ x t, e.key = .str x t) → ∀ e ∈ putL name hs (.str name t) v es, ∃ x t, e.key = .str x t
  | [], _, e, he => by simp [putL] at he; subst he; exact ⟨name, t, rfl⟩
  | d :: es, h, e, he => by
    unfold putL at he
    split at he
    · rcases List.mem_cons.mp he with rfl | he
      · exact h d (.head _)
      · exact h e (.tail _ he)
    · rcases List.mem_cons.mp he with rfl | he
      · exact h _ (.head _)
      · exact putL_keys name hs t v es (fun e he => h e (.tail _ he)) e he
theorem putL_len (name : Str) (hs : Int) (t : Tok) (v : Value) : ∀ es : List DictEntry, (putL name hs (.str name t) v es).length = if (lookS name es).isSome then es.length else es.length + 1
  | [] => by simp [putL, lookS]
  | e :: es => by
    have ih := putL_len name hs t v es
    unfold putL
    cases q : e.key.isStr name with
    | true => simp [lookS, q]
    | false =>
      simp only [Bool.false_eq_true, if_false, List.length_cons, ih, lookS, List.find?_cons, q]
      split <;> simp_all
theorem RecR.put {ns vals vals' es x v} (r : RecR ns vals es) (p : RPut x (ab v) ns vals vals') (hs : Int) (t : Tok) : RecR ns vals' (putL x hs (.str x t) v es) where
  nd := r.nd
  keys := putL_keys _ _ _ _ _ r.keys
  len := by
    rw [putL_len, p.nsome r.nd, ← r.look x, r.len]
    simp
  small := by rw [p.len]; exact r.small
  look y := by
    rw [putL_look, p.vget r.nd y, ← r.look y]
    by_cases h : y = x <;> simp [h]

noncomputable def OR (w : World) (a : Addr) : AO → Obj → Prop
  | .list _ xs, o => ∃ vs n, o = { cls := .type "list", data := .seq vs n } ∧ vs.toList.map ab = xs
  | .tuple xs, o => ∃ vs n, o = { cls := .type "tuple", data := .seq vs n } ∧ vs.toList.map ab = xs
  | .sdict _ kvs, o => (a == sysModules) = false ∧ o.dict = none ∧ ∃ kvs', o.IsDictOf (strKind pw w) kvs' ∧ kvs'.map (fun p => (p.1, ab p.2)) = kvs
  | .idict _ kvs, o => (a == sysModules) = false ∧ o.dict = none ∧ ∃ kvs', o.IsDictOf (intKind pw w) kvs' ∧ kvs'.map (fun p => (p.1, ab p.2)) = kvs
  | .inst C dx, o => o = instObj C dx
  | .rcd _ ns vals, o => ∃ es n, o = dictOf es n ∧ RecR ns vals es
  | .cell v, o => (∃ v', o.data = .cell (some v') ∧ ab v' = v) ∨ (v = .other .none ∧ o.data = .cell none)
  | .rng n, o => n < 2 ^ 40 ∧ ∃ t u v, o = { cls := .type "range", dict := none, data := .fields #[.int 0 t, .int n u, .int 1 v], slots := #[] }
  | .slc lo hi st, o => o.cls = .type "slice" ∧ ∃ vl vu vs, o.data = .fields #[vl, vu, vs] ∧ ab vl = lo ∧ ab vu = hi ∧ ab vs = st

/-- what the world gives, once and for all -/
structure Sta where
  w : World
  h₀ : Heap
  p : Program
  loose : List Str
  mg : Str → Option Value
  mb : Str → Option Value
  os : OsState
  X : (Kf w.params).In h₀
  T : TopRead p loose mg mb h₀
noncomputable abbrev Sta.K (S : Sta) : Frag := Kf S.w.params
noncomputable abbrev Sta.M (S : Sta) : Model := model pw S.w

inductive NGet (x : Str) (k : NameKind) (v : AV) : List (Str × NameKind) → List (Option AV) → Prop
  | here {ns vs} : NGet x k v ((x, k) :: ns) (some v :: vs)
  | there {n ns u vs} : NGet x k v ns vs → NGet x k v (n :: ns) (u :: vs)
inductive NPut (x : Str) (v : AV) : List (Str × NameKind) → List (Option AV) → List (Option AV) → Prop
  | here {ns u vs} : NPut x v ((x, .local) :: ns) (u :: vs) (some v :: vs)
  | there {n ns u vs vs'} : NPut x v ns vs vs' → NPut x v (n :: ns) (u :: vs) (u :: vs')
inductive NAt (x : Str) (k : NameKind) : List (Str × NameKind) → Prop
  | here {ns} : NAt x k ((x, k) :: ns)
  | there {n ns} : NAt x k ns → NAt x k (n :: ns)
theorem NAt.lookup {x k ns} (h : NAt x k ns) (nd : (ns.map (·.1)).Nodup) : ns.lookup x = some k := by
  induction h with
  | here => simp
  | there h ih =>
    rename_i n ns
    obtain ⟨n1, n2⟩ := List.nodup_cons.mp nd
    have hm : ∀ {ns}, NAt x k ns → x ∈ ns.map (·.1) := fun h => by induction h with | here => exact .head _ | there _ ih => exact .tail _ ih
    have : (x == n.1) = false := beq_eq_false_iff_ne.mpr fun e => n1 (by have := hm h; rw [e] at this; exact this)
    rw [List.lookup_cons, this]; exact ih n2
theorem NGet.at {x k v ns vs} (h : NGet x k v ns vs) : NAt x k ns := by induction h with | here => exact .here | there _ ih => exact .there ih
theorem NPut.at {x v ns vs vs'} (h : NPut x v ns vs vs') : NAt x .local ns := by induction h with | here => exact .here | there _ ih => exact .there ih
theorem NAt.mem {x k ns} (h : NAt x k ns) : x ∈ ns.map (·.1) := by induction h with | here => exact .head _ | there _ ih => exact .tail _ ih
/-- a name got behind a put -/
theorem NPut.get {x v ns vs vs'} (h : NPut x v ns vs vs') (nd : (ns.map (·.1)).Nodup) {y k u} (g : NGet y k u ns vs') : (y = x ∧ u = v) ∨ (y ≠ x ∧ NGet y k u ns vs) := by
  induction h with
  | here => cases g with
    | here => exact .inl ⟨rfl, rfl⟩
    | there g =>
      obtain ⟨n1, n2⟩ := List.nodup_cons.mp nd
      exact .inr ⟨fun e => n1 (e ▸ g.at.mem), .there g⟩
  | there h ih =>
    obtain ⟨n1, n2⟩ := List.nodup_cons.mp nd
    cases g with
    | here => exact .inr ⟨fun e => n1 (e ▸ h.at.mem), .here⟩
    | there g => exact (ih n2 g).imp id fun ⟨a, b⟩ => ⟨a, .there b⟩

/-- what stands below the heap's abstract part: frames with their names, and single objects as they are -/
inductive Fm where
  | fr (L : Addr) (ns : List (Str × NameKind)) (F : List (Option AV))
  | ob (a : Addr) (o : Obj)
noncomputable def Fm.addr : Fm → Addr
  | .fr L _ _ => L
  | .ob a _ => a
noncomputable def Fm.at (h : Heap) : Fm → Prop
  | .fr L ns F => ∃ m, h.Ns L m ∧ ∀ x v, NGet x .local v ns F → ∃ v', m x = some v' ∧ ab v' = v
  | .ob a o => h.get? a = some o

structure St (S : Sta) (stk : List Fm) (H : AH) (s : Shared) : Prop where
  keep : ∀ b o, S.h₀.get? b = some o → s.heap.get? b = some o
  sk : ∀ p ∈ stk, S.h₀.get? p.addr = none ∧ H p.addr = none ∧ p.at s.heap
  nd : (stk.map Fm.addr).Nodup
  heap : ∀ a o, H a = some o → S.h₀.get? a = none ∧ ∃ ob, s.heap.get? a = some ob ∧ OR S.w a o ob
  gens : s.gens = #[]
  os : s.os = S.os
end Mine

end

section
set_option Elab.async false
set_option linter.all false
set_option maxRecDepth 100000
set_option compiler.extract_closed false
namespace Mine
variable {S : Sta} {stk : List Fm} {H H' : AH} {s : Shared}

theorem AH.upd_self (H : AH) (a : Addr) (o : AO) : (H.upd a o) a = some o := if_pos rfl
theorem AH.upd_ne {H : AH} {a b : Addr} {o : AO} (h : b ≠ a) : (H.upd a o) b = H b := if_neg h
theorem AH.upd_old {H : AH} {a b : Addr} {o o' : AO} (ha : H a = none) (hb : H b = some o') : (H.upd a o) b = some o' := by
  rw [AH.upd_ne fun e => ?_]; exact hb
  subst e; rw [ha] at hb; cases hb

theorem Fm.at_keeps {h h' : Heap} {p : Fm} (k : ∀ b o, h.get? b = some o → h'.get? b = some o) (x : p.at h) : p.at h' := by
  cases p with
  | fr L ns F => obtain ⟨m, hn, hm⟩ := x; exact ⟨m, hn.keeps k, hm⟩
  | ob a o => exact k _ _ x
theorem Fm.at_but {h h' : Heap} {p : Fm} {a : Addr} (k : ∀ b o, b ≠ a → h.get? b = some o → h'.get? b = some o) (hp : p.addr ≠ a) (x : p.at h) : p.at h' := by
  cases p with
  | fr L ns F => obtain ⟨m, hn, hm⟩ := x; exact ⟨m, hn.extBut k hp, hm⟩
  | ob b o => exact k _ _ hp x

/-- less is known -/
theorem St.weaken (h : St S stk H' s) (hs : ∀ a o, H a = some o → H' a = some o) : St S stk H s :=
  ⟨h.keep, fun p hp => by
    have z := h.sk p hp
    refine ⟨z.1, ?_, z.2.2⟩
    cases q : H p.addr with
    | none => rfl
    | some o => have := hs _ _ q; rw [z.2.1] at this; exact absurd this (by simp), h.nd, fun a o e => h.heap a o (hs a o e), h.gens, h.os⟩
theorem St.pop {p : Fm} (h : St S (p :: stk) H s) : St S stk H s :=
  ⟨h.keep, fun q hq => h.sk q (.tail _ hq), (List.nodup_cons.mp h.nd).2, h.heap, h.gens, h.os⟩
/-- the heap has grown, tokens were drawn -/
theorem St.grow (h : St S stk H s) {h' : Heap} {t : Nat} (k : ∀ b o, s.heap.get? b = some o → h'.get? b = some o) : St S stk H { s with heap := h', toks := t } :=
  ⟨fun b o e => k _ _ (h.keep b o e), fun p hp => ⟨(h.sk p hp).1, (h.sk p hp).2.1, Fm.at_keeps k (h.sk p hp).2.2⟩, h.nd,
    fun a o e => let ⟨x, ob, y, z⟩ := h.heap a o e; ⟨x, ob, k _ _ y, z⟩, h.gens, h.os⟩
theorem St.tok (h : St S stk H s) {t : Nat} : St S stk H { s with toks := t } := h.grow (h' := s.heap) fun _ _ e => e
theorem St.fresh_h0 (h : St S stk H s) {a : Addr} (ha : s.heap.get? a = none) : S.h₀.get? a = none := by
  cases q : S.h₀.get? a with
  | none => rfl
  | some o => have := h.keep _ _ q; rw [ha] at this; cases this
theorem St.fresh_H (h : St S stk H s) {a : Addr} (ha : s.heap.get? a = none) : H a = none := by
  cases q : H a with
  | none => rfl
  | some o => obtain ⟨_, ob, y, _⟩ := h.heap _ _ q; rw [ha] at y; cases y
theorem Fm.at_some {h : Heap} {p : Fm} (x : p.at h) : ∃ o, h.get? p.addr = some o := by
  cases p with
  | fr L ns F => obtain ⟨m, ⟨o, _, _, ho, _⟩, _⟩ := x; exact ⟨o, ho⟩
  | ob a o => exact ⟨o, x⟩
theorem St.fresh_stk (h : St S stk H s) {a : Addr} (ha : s.heap.get? a = none) : ∀ p ∈ stk, p.addr ≠ a := fun p hp e => by
  obtain ⟨o, ho⟩ := Fm.at_some (h.sk p hp).2.2
  rw [e, ha] at ho; cases ho
/-- one of the heap's objects is known anew: a new one, or one changed -/
theorem St.put (h : St S stk H s) {h' : Heap} {t : Nat} {a : Addr} {o : AO} {ob : Obj} (k : ∀ b o, b ≠ a → s.heap.get? b = some o → h'.get? b = some o)
    (h0 : S.h₀.get? a = none) (hs : ∀ p ∈ stk, p.addr ≠ a) (ho : h'.get? a = some ob) (hr : OR S.w a o ob) : St S stk (H.upd a o) { s with heap := h', toks := t } :=
  ⟨fun b o e => k _ _ (fun q => by rw [q, h0] at e; cases e) (h.keep b o e), fun p hp => ⟨(h.sk p hp).1, by rw [AH.upd_ne (hs p hp)]; exact (h.sk p hp).2.1, Fm.at_but k (hs p hp) (h.sk p hp).2.2⟩, h.nd,
    fun b o' e => by
      by_cases q : b = a
      · subst q; rw [AH.upd_self] at e; cases e; exact ⟨h0, ob, ho, hr⟩
      · rw [AH.upd_ne q] at e; obtain ⟨x, ob', y, z⟩ := h.heap b o' e; exact ⟨x, ob', k _ _ q y, z⟩, h.gens, h.os⟩
/-- a new object -/
theorem St.new (h : St S stk H s) {h' : Heap} {t : Nat} {a : Addr} {o : AO} {ob : Obj} (k : ∀ b o, s.heap.get? b = some o → h'.get? b = some o)
    (ha : s.heap.get? a = none) (ho : h'.get? a = some ob) (hr : OR S.w a o ob) : St S stk (H.upd a o) { s with heap := h', toks := t } :=
  h.put (fun b o _ e => k b o e) (h.fresh_h0 ha) (h.fresh_stk ha) ho hr
theorem St.push (h : St S stk H s) {t : Nat} {o : AO} {ob : Obj} (hr : OR S.w s.heap.objs.size o ob) (hf : ob.isFreed = false) : St S stk (H.upd s.heap.objs.size o) { s with heap := s.heap.push ob, toks := t } :=
  h.new (fun _ _ e => Heap.get?_push_of_some _ e) (by
    cases q : s.heap.get? s.heap.objs.size with
    | none => rfl
    | some o => exact absurd (Heap.lt_size q) (Nat.lt_irrefl _)) (Heap.get?_push_size _ hf) hr
theorem size_none (h : Heap) : h.get? h.objs.size = none := by
  cases q : h.get? h.objs.size with
  | none => rfl
  | some o => exact absurd (Heap.lt_size q) (Nat.lt_irrefl _)
/-- one of the heap's objects is changed -/
theorem St.set (h : St S stk H s) {h' : Heap} {t : Nat} {a : Addr} {o₀ o : AO} {ob : Obj} (ha : H a = some o₀) (k : ∀ b o, b ≠ a → s.heap.get? b = some o → h'.get? b = some o)
    (ho : h'.get? a = some ob) (hr : OR S.w a o ob) : St S stk (H.upd a o) { s with heap := h', toks := t } :=
  h.put k (h.heap _ _ ha).1 (fun p hp e => by have := (h.sk p hp).2.1; rw [e, ha] at this; cases this) ho hr
/-- the topmost frame's names turn -/
theorem St.frame {L : Addr} {ns : List (Str × NameKind)} {F F' : List (Option AV)} (h : St S (.fr L ns F :: stk) H s) {h' : Heap} {t : Nat} (k : ∀ b o, b ≠ L → s.heap.get? b = some o → h'.get? b = some o)
    (hf : (Fm.fr L ns F').at h') : St S (.fr L ns F' :: stk) H { s with heap := h', toks := t } := by
  have h0 := (h.sk _ (.head _)).1
  obtain ⟨n1, n2⟩ := List.nodup_cons.mp h.nd
  refine ⟨fun b o e => k _ _ (fun q => by rw [q] at e; exact absurd (h0.symm.trans e) (by simp)) (h.keep b o e), fun p hp => ?_, h.nd, fun b o' e => ?_, h.gens, h.os⟩
  · rcases List.mem_cons.mp hp with rfl | hp
    · exact ⟨h0, (h.sk _ (.head _)).2.1, hf⟩
    · exact ⟨(h.sk p (.tail _ hp)).1, (h.sk p (.tail _ hp)).2.1, Fm.at_but k (fun e => n1 (by have z := List.mem_map_of_mem (f := Fm.addr) hp; rw [e] at z; exact z)) (h.sk p (.tail _ hp)).2.2⟩
  · obtain ⟨x, ob', y, z⟩ := h.heap b o' e
    exact ⟨x, ob', k _ _ (fun q => by rw [q] at e; exact absurd ((h.sk _ (.head _)).2.1.symm.trans e) (by simp)) y, z⟩
/-- less is known of the topmost frame -/
theorem St.fweak {L : Addr} {ns : List (Str × NameKind)} {F F' : List (Option AV)} (h : St S (.fr L ns F :: stk) H s) (hs : ∀ x v, NGet x .local v ns F' → NGet x .local v ns F) : St S (.fr L ns F' :: stk) H s :=
  ⟨h.keep, fun p hp => by
    rcases List.mem_cons.mp hp with rfl | hp
    · obtain ⟨a, b, m, c, d⟩ := h.sk _ (.head _); exact ⟨a, b, m, c, fun x v g => d x v (hs x v g)⟩
    · exact h.sk p (.tail _ hp), h.nd, h.heap, h.gens, h.os⟩
/-- a new thing on the stack -/
theorem St.under (h : St S stk H s) {p : Fm} {h' : Heap} {t : Nat} (k : ∀ b o, s.heap.get? b = some o → h'.get? b = some o) (ha : s.heap.get? p.addr = none) (hp : p.at h') : St S (p :: stk) H { s with heap := h', toks := t } := by
  have h2 := h.grow (h' := h') (t := t) k
  refine ⟨h2.keep, fun q hq => ?_, List.nodup_cons.mpr ⟨fun hm => ?_, h.nd⟩, h2.heap, h2.gens, h2.os⟩
  · rcases List.mem_cons.mp hq with rfl | hq
    · exact ⟨h.fresh_h0 ha, h.fresh_H ha, hp⟩
    · exact h2.sk q hq
  · obtain ⟨q, hq, e⟩ := List.mem_map.mp hm; exact h.fresh_stk ha q hq e
/-- a thing on the stack turns -/
theorem St.turn {p p' : Fm} {pre : List Fm} (h : St S (pre ++ p :: stk) H s) {h' : Heap} {t : Nat} (e : p'.addr = p.addr) (k : ∀ b o, b ≠ p.addr → s.heap.get? b = some o → h'.get? b = some o) (hp : p'.at h') :
    St S (pre ++ p' :: stk) H { s with heap := h', toks := t } := by
  have hm : p ∈ pre ++ p :: stk := List.mem_append_right _ (.head _)
  have h0 := (h.sk _ hm).1
  have hH := (h.sk _ hm).2.1
  have hne : ∀ q, q ∈ pre ∨ q ∈ stk → q.addr ≠ p.addr := fun q hq e => by
    have nd := h.nd
    rw [List.map_append, List.map_cons] at nd
    rw [List.nodup_append] at nd
    obtain ⟨_, n2, n3⟩ := nd
    rcases hq with hq | hq
    · exact n3 _ (List.mem_map_of_mem hq) _ (List.mem_cons_self ..) e
    · exact (List.nodup_cons.mp n2).1 (e ▸ List.mem_map_of_mem hq)
  refine ⟨fun b o q => k _ _ (fun z => by rw [z] at q; exact absurd (h0.symm.trans q) (by simp)) (h.keep b o q), fun q hq => ?_, ?_, fun b o' q => ?_, h.gens, h.os⟩
  · rcases List.mem_append.mp hq with hq | hq
    · have z := h.sk q (List.mem_append_left _ hq); exact ⟨z.1, z.2.1, Fm.at_but k (hne q (.inl hq)) z.2.2⟩
    · rcases List.mem_cons.mp hq with rfl | hq
      · exact ⟨e ▸ h0, e ▸ hH, hp⟩
      · have z := h.sk q (List.mem_append_right _ (.tail _ hq)); exact ⟨z.1, z.2.1, Fm.at_but k (hne q (.inr hq)) z.2.2⟩
  · have nd := h.nd
    simp only [List.map_append, List.map_cons] at nd ⊢
    rw [e]; exact nd
  · obtain ⟨x, ob', y, z⟩ := h.heap b o' q
    exact ⟨x, ob', k _ _ (fun w => by rw [w] at q; exact absurd (hH.symm.trans q) (by simp)) y, z⟩
/-- an object goes from the heap onto the stack -/
theorem St.tostk (h : St S stk H s) {a : Addr} {o : AO} {ob : Obj} (ha : H a = some o) (ho : s.heap.get? a = some ob) : St S (.ob a ob :: stk) (fun b => if b = a then none else H b) s := by
  have hw := h.weaken (H := fun b => if b = a then none else H b) fun b o e => by split at e <;> first | cases e | exact e
  refine ⟨h.keep, fun q hq => ?_, List.nodup_cons.mpr ⟨fun hm => ?_, h.nd⟩, hw.heap, h.gens, h.os⟩
  · rcases List.mem_cons.mp hq with rfl | hq
    · exact ⟨(h.heap _ _ ha).1, if_pos rfl, ho⟩
    · exact hw.sk q hq
  · obtain ⟨q, hq, e⟩ := List.mem_map.mp hm
    have := (h.sk q hq).2.1
    rw [e] at this; exact absurd (this.symm.trans ha) (by simp)
end Mine

end

section
set_option Elab.async false
set_option linter.all false
set_option maxRecDepth 100000
set_option compiler.extract_closed false
namespace Mine

structure ES where
  sc : Scope
  cl : List (Str × Addr)
noncomputable def scOk (sc : Scope) : Bool := ndN (scode "__debug__" :: sc.names.map (fun p => scode p.1)) && sc.kind == .function
structure EnvOk (E : ES) (L : Addr) (env : Env) : Prop where
  sc : env.scope = E.sc
  cl : env.cells = E.cl
  loc : env.locals = L
  gl : env.globals = mainGlobals
  bu : env.builtins = builtinsNs
  ok : scOk E.sc = true
theorem scOk_kind {sc : Scope} (h : scOk sc = true) : sc.kind = .function := by
  have := (Bool.and_eq_true_iff.mp h).2
  cases q : sc.kind <;> rw [q] at this <;> first | rfl | cases this
theorem scOk_nd {sc : Scope} (h : scOk sc = true) : (sc.names.map (·.1)).Nodup := by
  have := (List.nodup_cons.mp (ndN_nodup (Bool.and_eq_true_iff.mp h).1)).2
  rw [show (fun p : Str × NameKind => scode p.1) = scode ∘ (·.1) from rfl, ← List.map_map] at this
  exact List.Pairwise.of_map scode (fun a b hab e => hab (by rw [e])) this
theorem scOk_dbg {sc : Scope} (h : scOk sc = true) {x : Str} (hx : x ∈ sc.names.map (·.1)) : (x == ("__debug__" : Str)) = false := by
  have := (List.nodup_cons.mp (ndN_nodup (Bool.and_eq_true_iff.mp h).1)).1
  refine beq_eq_false_iff_ne.mpr fun e => this ?_
  subst e
  obtain ⟨p, hp, e⟩ := List.mem_map.mp hx
  exact List.mem_map.mpr ⟨p, hp, by rw [e]⟩

noncomputable def Room (n : Nat) (A : Around) : Prop := A.handled = none ∧ A.depth + 3 * n ≤ 900 ∧ A.units + 20 * n ≤ 9000
theorem Room.in1 {n : Nat} {A : Around} (h : Room (n + 1) A) : Room n A.in1 := ⟨h.1, by have := h.2.1; simp only [Around.in1_depth]; omega, by have := h.2.2; simp only [Around.in1_units]; omega⟩
theorem Room.deeper {n : Nat} {A : Around} {env : Env} (h : Room (n + 1) A) : Room n (A.deeper env) := ⟨h.1, by have := h.2.1; show A.depth + 1 + 3 * n ≤ 900; omega, by have := h.2.2; simp only [Around.deeper_units]; omega⟩
theorem Room.le {n m : Nat} {A : Around} (h : Room n A) (hm : m ≤ n) : Room m A := ⟨h.1, by have := h.2.1; omega, by have := h.2.2; omega⟩
theorem Room.units {n : Nat} {A : Around} (h : Room n A) : A.units < cLine := by have := h.2.2; show A.units < 9900; omega
theorem Room.depth {n : Nat} {A : Around} (h : Room n A) : A.depth < recursionLimit := by have := h.2.1; show A.depth < 1000; omega

variable (S : Sta)
noncomputable abbrev Nope : Value → Shared → Prop := fun _ _ => False
/-- an expression -/
noncomputable def EW (E : ES) (n : Nat) (e : Expr) (Q : AV → AH → Prop) (F : List (Option AV)) (H : AH) : Prop :=
  ∀ A env L stk s, Room n A → EnvOk E L env → St S (.fr L E.sc.names F :: stk) H s →
    wpAny S.M A (eval e env) (fun v s' => ∃ H', St S (.fr L E.sc.names F :: stk) H' s' ∧ Q (ab v) H') Nope s
/-- a test -/
noncomputable def BW (E : ES) (n : Nat) (e : Expr) (Q : Bool → AH → Prop) (F : List (Option AV)) (H : AH) : Prop :=
  ∀ A env L stk s, Room n A → EnvOk E L env → St S (.fr L E.sc.names F :: stk) H s →
    wpAny S.M A (isTrue e env (eval e env)) (fun b s' => ∃ H', St S (.fr L E.sc.names F :: stk) H' s' ∧ Q b H') Nope s
/-- arguments, items -/
noncomputable def EWs (E : ES) (n : Nat) (es : List Expr) (Q : List AV → AH → Prop) (F : List (Option AV)) (H : AH) : Prop :=
  ∀ A env L stk s pos, Room n A → EnvOk E L env → St S (.fr L E.sc.names F :: stk) H s →
    wpAny S.M A (spliced (backTo pos (starEach es env))) (fun vs s' => ∃ H', St S (.fr L E.sc.names F :: stk) H' s' ∧ Q (vs.map ab) H') Nope s
/-- a call of a value, wherever it stands -/
noncomputable def CW (f : Value) (n : Nat) (args : List AV) (Q : AV → AH → Prop) (H : AH) : Prop :=
  ∀ A stk s vals, Room n A → vals.map ab = args → St S stk H s → codeAny S.M A (.call f ⟨vals, []⟩) (fun r s' => ∃ v H', r = .ok (.ret v) ∧ St S stk H' s' ∧ Q (ab v) H') s
/-- a call of a built-in -/
noncomputable def CB (f : Value) (n : Nat) (args : List AV) (Q : AV → AH → Prop) (H : AH) : Prop :=
  ∀ A L ns G stk s vals, Room n A → vals.map ab = args → St S (.fr L ns G :: stk) H s → wpAny S.M A (call f vals []) (fun v s' => ∃ H', St S (.fr L ns G :: stk) H' s' ∧ Q (ab v) H') Nope s
/-- an operation of two values -/
noncomputable def OW (op : Value → Value → Sem Value) (n : Nat) (a b : AV) (Q : AV → AH → Prop) (H : AH) : Prop :=
  ∀ A L ns G stk s u v, Room n A → ab u = a → ab v = b → St S (.fr L ns G :: stk) H s → wpAny S.M A (op u v) (fun v s' => ∃ H', St S (.fr L ns G :: stk) H' s' ∧ Q (ab v) H') Nope s
inductive AFl where
  | brk | cont | ret (v : AV)
/-- what a flow means -/
noncomputable def flowQ (QN : List (Option AV) → AH → Prop) (QX : AFl → List (Option AV) → AH → Prop) (f : Flow) (F : List (Option AV)) (H : AH) : Prop := match f with
  | .next => QN F H
  | .brk => QX .brk F H
  | .cont => QX .cont F H
  | .ret v => QX (.ret (ab v)) F H
/-- a statement -/
noncomputable def XW (E : ES) (n : Nat) (st : Stmt) (QN : List (Option AV) → AH → Prop) (QX : AFl → List (Option AV) → AH → Prop) (F : List (Option AV)) (H : AH) : Prop :=
  ∀ A env L stk s, Room n A → EnvOk E L env → St S (.fr L E.sc.names F :: stk) H s →
    wpAny S.M A (exec st env) (fun f s' => ∃ F' H', St S (.fr L E.sc.names F' :: stk) H' s' ∧ flowQ QN QX f F' H') Nope s
noncomputable def SW (E : ES) (n : Nat) (st : List Stmt) (QN : List (Option AV) → AH → Prop) (QX : AFl → List (Option AV) → AH → Prop) (F : List (Option AV)) (H : AH) : Prop :=
  ∀ A env L stk s, Room n A → EnvOk E L env → St S (.fr L E.sc.names F :: stk) H s →
    wpAny S.M A (execs st env) (fun f s' => ∃ F' H', St S (.fr L E.sc.names F' :: stk) H' s' ∧ flowQ QN QX f F' H') Nope s
/-- a store -/
noncomputable def TW (E : ES) (n : Nat) (t : Expr) (v : AV) (Q : List (Option AV) → AH → Prop) (F : List (Option AV)) (H : AH) : Prop :=
  ∀ A env L stk s u, Room n A → EnvOk E L env → ab u = v → St S (.fr L E.sc.names F :: stk) H s →
    wpAny S.M A (assign t env u) (fun _ s' => ∃ F' H', St S (.fr L E.sc.names F' :: stk) H' s' ∧ Q F' H') Nope s

variable {S} {E : ES} {n : Nat} {F F' : List (Option AV)} {H H' : AH} {Q : AV → AH → Prop} {QN : List (Option AV) → AH → Prop} {QX : AFl → List (Option AV) → AH → Prop}

theorem EW.mono {e : Expr} {Q' : AV → AH → Prop} (h : EW S E n e Q F H) (k : ∀ v H, Q v H → Q' v H) : EW S E n e Q' F H :=
  fun A env L stk s r g st => wpAny_mono (h A env L stk s r g st) (fun _ _ ⟨H', a, b⟩ => ⟨H', a, k _ _ b⟩) fun _ _ x => x
theorem CW.mono {f : Value} {args : List AV} {Q' : AV → AH → Prop} (h : CW S f n args Q H) (k : ∀ v H, Q v H → Q' v H) : CW S f n args Q' H :=
  fun A stk s vals r g st => codeAny_mono (h A stk s vals r g st) (fun _ _ ⟨v, H', e, a, b⟩ => ⟨v, H', e, a, k _ _ b⟩)
theorem CW.call {f : Value} {args : List AV} (h : CW S f n args Q H) {A : Around} {stk : List Fm} {s : Shared} {vals : List Value} (rm : Room n A) (hv : vals.map ab = args) (st : St S stk H s) :
    wpAny S.M A (call f vals []) (fun v s' => ∃ H', St S stk H' s' ∧ Q (ab v) H') Nope s :=
  wpAny_call (codeAny_mono (h A stk s vals rm hv st) fun _ _ ⟨v, H', e, a, b⟩ => by subst e; exact ⟨H', a, b⟩)
theorem CW.room {f : Value} {args : List AV} {m : Nat} (h : CW S f m args Q H) (k : m ≤ n) : CW S f n args Q H :=
  fun A stk s vals r g st => h A stk s vals (r.le k) g st
/-- from less -/
theorem CW.weaken {f : Value} {args : List AV} (h : CW S f n args Q H) (k : ∀ a o, H a = some o → H' a = some o) : CW S f n args Q H' :=
  fun A stk s vals r g st => h A stk s vals r g (st.weaken k)

theorem ew_name {x : Str} {pos : Pos} {v : AV} (g : NGet x .local v E.sc.names F) (h : Q v H) : EW S E n (.Name x pos) Q F H :=
  fun A env L stk s _ ev st => by
    obtain ⟨_, _, m, hn, hm⟩ := st.sk _ (.head _)
    obtain ⟨v', e1, e2⟩ := hm x v g
    have hk : env.scope.kind = .function := by rw [ev.sc]; exact scOk_kind ev.ok
    have hl : env.kindOf x = some .local := by unfold Env.kindOf; rw [ev.sc]; exact g.at.lookup (scOk_nd ev.ok)
    exact wpAny_Name (wpAny_loadName_local hk hl (by rw [ev.loc]; exact hn) e1 ⟨H, st, by rw [e2]; exact h⟩) (scOk_dbg ev.ok g.at.mem)
theorem ew_cell {x : Str} {pos : Pos} {v : AV} {c : Addr} (g : NAt x .cell E.sc.names) (hc : E.cl.lookup x = some c) (hv : H c = some (.cell v)) (hp : v ≠ .other .none) (h : Q v H) : EW S E n (.Name x pos) Q F H :=
  fun A env L stk s _ ev st => by
    obtain ⟨_, ob, e1, r⟩ := st.heap _ _ hv
    rcases r with ⟨v', e2, e3⟩ | ⟨e2, _⟩
    · have hk : env.scope.kind = .function := by rw [ev.sc]; exact scOk_kind ev.ok
      have hl : env.kindOf x = some .cell := by unfold Env.kindOf; rw [ev.sc]; exact g.lookup (scOk_nd ev.ok)
      exact wpAny_Name (wpAny_loadName_cell hk hl (by rw [ev.cl]; exact hc) ⟨ob, e1, e2⟩ ⟨H, st, by rw [e3]; exact h⟩) (scOk_dbg ev.ok g.mem)
    · exact absurd e2 hp
theorem glob_eval {x : Str} {pos : Pos} {v : Value} {A : Around} {env : Env} {L : Addr} {s : Shared} {stk : List Fm} {R : Value → Shared → Prop} (ev : EnvOk E L env) (st : St S stk H s) (g : NAt x .globalImplicit E.sc.names)
    (e : nsIn S.K mainGlobals x = some (some v)) (h : R v s) : wpAny S.M A (eval (.Name x pos) env) R Nope s :=
  Name_function_global (by rw [ev.sc]; exact scOk_kind ev.ok) (by unfold Env.kindOf; rw [ev.sc]; exact g.lookup (scOk_nd ev.ok))
    (loadGlobal_global (env := env) (by rw [ev.gl]; exact S.T.g.keeps st.keep) (mg_of S.X S.T.g e) h) (scOk_dbg ev.ok g.mem)
theorem glob_eval_B {x : Str} {pos : Pos} {v : Value} {A : Around} {env : Env} {L : Addr} {s : Shared} {stk : List Fm} {R : Value → Shared → Prop} (ev : EnvOk E L env) (st : St S stk H s) (g : NAt x .globalImplicit E.sc.names)
    (e : nsIn S.K mainGlobals x = some none) (hv : bootBuiltins x = some v) (hn : x ≠ "__name__") (h : R v s) : wpAny S.M A (eval (.Name x pos) env) R Nope s :=
  Name_function_global (by rw [ev.sc]; exact scOk_kind ev.ok) (by unfold Env.kindOf; rw [ev.sc]; exact g.lookup (scOk_nd ev.ok))
    (loadGlobal_builtin (env := env) (by rw [ev.gl]; exact S.T.g.keeps st.keep) (mg_none_of S.X S.T.g e) (by rw [ev.bu]; exact S.T.b.keeps st.keep) ((S.T.builtins x hn).trans hv) h) (scOk_dbg ev.ok g.mem)
theorem ew_glob {x : Str} {pos : Pos} {v : Value} (g : NAt x .globalImplicit E.sc.names) (e : nsIn S.K mainGlobals x = some (some v)) (h : Q (ab v) H) : EW S E n (.Name x pos) Q F H :=
  fun _ _ _ _ _ _ ev st => glob_eval ev st g e ⟨H, st, h⟩
theorem ew_int {i : Int} {k : Nat} {pos : Pos} (h : Q (.int i) H) : EW S E n (.Constant (.int i) k pos) Q F H :=
  fun _ _ _ _ _ _ _ st => wpAny_Constant_int ⟨H, st.tok, h⟩
theorem ew_str {x : Str} {k : Nat} {pos : Pos} (h : Q (.str x) H) : EW S E n (.Constant (.str x) k pos) Q F H :=
  fun _ _ _ _ _ _ _ st => Constant_str ⟨H, st.tok, h⟩
theorem ew_bool {b : Bool} {k : Nat} {pos : Pos} (h : Q (.bool b) H) : EW S E n (.Constant (.bool b) k pos) Q F H :=
  fun _ _ _ _ _ _ _ st => Constant_bool ⟨H, st, h⟩
theorem ew_none {k : Nat} {pos : Pos} (h : Q .none H) : EW S E n (.Constant .none k pos) Q F H :=
  fun _ _ _ _ _ _ _ st => Constant_none ⟨H, st, h⟩
theorem ew_bin {l r : Expr} {op : Operator} {pos : Pos} (h : EW S E n l (fun a H => EW S E n r (fun b H => OW S (binaryOp op) n a b Q H) F H) F H) : EW S E n (.BinOp l op r pos) Q F H :=
  fun A env L stk s rm ev st => wpAny_BinOp (wpAny_mono (h A env L stk s rm ev st) (fun a s₁ ⟨H₁, st₁, h₁⟩ =>
    wpAny_mono (h₁ A env L stk s₁ rm ev st₁) (fun b s₂ ⟨H₂, st₂, h₂⟩ => h₂ A L _ F stk s₂ a b rm rfl rfl st₂) fun _ _ x => x) fun _ _ x => x)
theorem ew_cmp {l r : Expr} {op : CmpOp} {pos : Pos} (h : EW S E n l (fun a H => EW S E n r (fun b H => OW S (compareOp op) n a b Q H) F H) F H) (hm : behindInMarks op r = false) :
    EW S E n (.Compare l [op] [r] pos) Q F H :=
  fun A env L stk s rm ev st => wpAny_Compare1 (wpAny_mono (h A env L stk s rm ev st) (fun a s₁ ⟨H₁, st₁, h₁⟩ =>
    wpAny_mono (h₁ A env L stk s₁ rm ev st₁) (fun b s₂ ⟨H₂, st₂, h₂⟩ => h₂ A L _ F stk s₂ a b rm rfl rfl st₂) fun _ _ x => x) fun _ _ x => x) hm
/-- the truth of a bool (or of nothing) -/
noncomputable def tru (v : AV) : Option Bool := match v with
  | .bool b => some b
  | .none => some false
  | _ => none
theorem truthy_ab {A : Around} {v : Value} {b : Bool} {s : Shared} {R : Bool → Shared → Prop} (e : tru (ab v) = some b) (h : R b s) : wpAny S.M A (truthy v) R Nope s := by
  cases v <;> simp only [ab, tru] at e <;> first | (cases e; exact wpAny_truthy_bool h) | (cases e; exact wpAny_pure h) | cases e
theorem bw_cmp {l r : Expr} {op : CmpOp} {pos : Pos} {Q : Bool → AH → Prop} (h : EW S E n l (fun a H => EW S E n r (fun b H => OW S (compareOp op) n a b (fun v H => ∃ c, tru v = some c ∧ Q c H) H) F H) F H) (hm : behindInMarks op r = false) :
    BW S E n (.Compare l [op] [r] pos) Q F H :=
  fun A env L stk s rm ev st => wpAny_isTrue_Compare1 (wpAny_mono (h A env L stk s rm ev st) (fun a s₁ ⟨H₁, st₁, h₁⟩ =>
    wpAny_mono (h₁ A env L stk s₁ rm ev st₁) (fun b s₂ ⟨H₂, st₂, h₂⟩ => wpAny_mono (h₂ A L _ F stk s₂ a b rm rfl rfl st₂) (fun c s₃ ⟨H₃, st₃, b, e, q⟩ => truthy_ab e ⟨H₃, st₃, q⟩) fun _ _ x => x) fun _ _ x => x) fun _ _ x => x) hm
theorem bw_not {x : Expr} {pos : Pos} {Q : Bool → AH → Prop} (h : BW S E n x (fun b H => Q (!b) H) F H) : BW S E n (.UnaryOp .Not x pos) Q F H :=
  fun A env L stk s rm ev st => wpAny_isTrue_Not (h A env L stk s rm ev st)
theorem ew_not {x : Expr} {pos : Pos} (h : EW S E n x (fun v H => ∃ b, tru v = some b ∧ Q (.bool (!b)) H) F H) : EW S E n (.UnaryOp .Not x pos) Q F H :=
  fun A env L stk s rm ev st => UnaryOp_ (wpAny_mono (h A env L stk s rm ev st) (fun v s₁ ⟨H₁, st₁, b, e, q⟩ => not_of (truthy_ab e ⟨H₁, st₁, q⟩)) fun _ _ x => x)
theorem ew_ifexp {t b o : Expr} {pos : Pos} (h : BW S E n t (fun c H => (c = true → EW S E n b Q F H) ∧ (c = false → EW S E n o Q F H)) F H) : EW S E n (.IfExp t b o pos) Q F H :=
  fun A env L stk s rm ev st => wpAny_IfExp (wpAny_mono (h A env L stk s rm ev st) (fun c s₁ ⟨H₁, st₁, h₁, h₂⟩ => by
    cases c with
    | true => exact h₁ rfl A env L stk s₁ rm ev st₁
    | false => exact h₂ rfl A env L stk s₁ rm ev st₁) fun _ _ x => x)
theorem ew_and {x y : Expr} {pos : Pos} (h : EW S E n x (fun v H => ∃ b, tru v = some b ∧ (b = true → EW S E n y Q F H) ∧ (b = false → Q v H)) F H) : EW S E n (.BoolOp .And [x, y] pos) Q F H :=
  fun A env L stk s rm ev st => wpAny_And2 (wpAny_mono (h A env L stk s rm ev st) (fun v s₁ ⟨H₁, st₁, b, e, h₁, h₂⟩ => truthy_ab e (by
    cases b with
    | true => exact h₁ rfl A env L stk s₁ rm ev st₁
    | false => exact ⟨H₁, st₁, h₂ rfl⟩)) fun _ _ x => x)
theorem ew_or {x y : Expr} {pos : Pos} (h : EW S E n x (fun v H => ∃ b, tru v = some b ∧ (b = true → Q v H) ∧ (b = false → EW S E n y Q F H)) F H) : EW S E n (.BoolOp .Or [x, y] pos) Q F H :=
  fun A env L stk s rm ev st => wpAny_Or2 (wpAny_mono (h A env L stk s rm ev st) (fun v s₁ ⟨H₁, st₁, b, e, h₁, h₂⟩ => truthy_ab e (by
    cases b with
    | true => exact ⟨H₁, st₁, h₁ rfl⟩
    | false => exact h₂ rfl A env L stk s₁ rm ev st₁)) fun _ _ x => x)
theorem allTrue_cons_and {x : Expr} {rest : List Expr} {env : Env} {M : Model} {A : Around} {s : Shared} {R : Bool → Shared → Prop} {E : Value → Shared → Prop}
    (h : wpAny M A (isTrue x env (eval x env)) (fun b s₁ => if b then wpAny M A (allTrue .And rest env) R E s₁ else R false s₁) E s) : wpAny M A (allTrue .And (x :: rest) env) R E s := by
  unfold allTrue
  refine wpAny_bind (wpAny_mono h (fun b s₁ h₁ => ?_) fun _ _ x => x)
  cases b <;> first | exact h₁ | exact wpAny_pure h₁
theorem allTrue_cons_or {x : Expr} {rest : List Expr} {env : Env} {M : Model} {A : Around} {s : Shared} {R : Bool → Shared → Prop} {E : Value → Shared → Prop}
    (h : wpAny M A (isTrue x env (eval x env)) (fun b s₁ => if b then R true s₁ else wpAny M A (allTrue .Or rest env) R E s₁) E s) : wpAny M A (allTrue .Or (x :: rest) env) R E s := by
  unfold allTrue
  refine wpAny_bind (wpAny_mono h (fun b s₁ h₁ => ?_) fun _ _ x => x)
  cases b <;> first | exact h₁ | exact wpAny_pure h₁
theorem bw_and {x : Expr} {rest : List Expr} {pos : Pos} {Q : Bool → AH → Prop} (h : BW S E n x (fun b H => (b = true → BW S E n (.BoolOp .And rest pos) Q F H) ∧ (b = false → Q false H)) F H) : BW S E n (.BoolOp .And (x :: rest) pos) Q F H :=
  fun A env L stk s rm ev st => by
    show wpAny S.M A (allTrue .And (x :: rest) env) _ _ s
    refine allTrue_cons_and (wpAny_mono (h A env L stk s rm ev st) (fun b s₁ ⟨H₁, st₁, h₁, h₂⟩ => ?_) fun _ _ x => x)
    cases b with
    | true => exact h₁ rfl A env L stk s₁ rm ev st₁
    | false => exact ⟨H₁, st₁, h₂ rfl⟩
theorem bw_and_nil {pos : Pos} {Q : Bool → AH → Prop} (h : Q true H) : BW S E n (.BoolOp .And [] pos) Q F H :=
  fun A env L stk s rm ev st => by
    show wpAny S.M A (allTrue .And [] env) _ _ s
    unfold allTrue; exact wpAny_pure ⟨H, st, h⟩
theorem bw_or {x : Expr} {rest : List Expr} {pos : Pos} {Q : Bool → AH → Prop} (h : BW S E n x (fun b H => (b = true → Q true H) ∧ (b = false → BW S E n (.BoolOp .Or rest pos) Q F H)) F H) : BW S E n (.BoolOp .Or (x :: rest) pos) Q F H :=
  fun A env L stk s rm ev st => by
    show wpAny S.M A (allTrue .Or (x :: rest) env) _ _ s
    refine allTrue_cons_or (wpAny_mono (h A env L stk s rm ev st) (fun b s₁ ⟨H₁, st₁, h₁, h₂⟩ => ?_) fun _ _ x => x)
    cases b with
    | true => exact ⟨H₁, st₁, h₁ rfl⟩
    | false => exact h₂ rfl A env L stk s₁ rm ev st₁
theorem bw_or_nil {pos : Pos} {Q : Bool → AH → Prop} (h : Q false H) : BW S E n (.BoolOp .Or [] pos) Q F H :=
  fun A env L stk s rm ev st => by
    show wpAny S.M A (allTrue .Or [] env) _ _ s
    unfold allTrue; exact wpAny_pure ⟨H, st, h⟩
/-- any other expression as a test -/
theorem bw_plain {e : Expr} {Q : Bool → AH → Prop} (h : EW S E n e (fun v H => ∃ b, tru v = some b ∧ Q b H) F H)
    (hp : ∀ env, isTrue e env (eval e env) = (do let v ← eval e env; standAt e.pos; holding [v] (truthy v))) : BW S E n e Q F H :=
  fun A env L stk s rm ev st => by
    rw [hp]
    exact wpAny_bind (wpAny_mono (h A env L stk s rm ev st) (fun v s₁ ⟨H₁, st₁, b, e, q⟩ => wpAny_bind (wpAny_standAt (wpAny_holding (truthy_ab e ⟨H₁, st₁, q⟩)))) fun _ _ x => x)
theorem ews_nil {Q : List AV → AH → Prop} (h : Q [] H) : EWs S E n [] Q F H := fun _ _ _ _ _ _ _ _ st => spliced_nil ⟨H, st, h⟩
theorem ews_cons {e : Expr} {es : List Expr} {Q : List AV → AH → Prop} (h : EW S E n e (fun v H => EWs S E n es (fun vs H => Q (v :: vs) H) F H) F H)
    (he : ∀ env, starEach (e :: es) env = (false, eval e env) :: starEach es env) : EWs S E n (e :: es) Q F H :=
  fun A env L stk s pos rm ev st => by
    rw [he]
    exact spliced_cons (wpAny_mono (h A env L stk s rm ev st) (fun v s₁ ⟨H₁, st₁, h₁⟩ => h₁ A env L stk s₁ pos rm ev st₁) fun _ _ x => x)
theorem sw_nil (h : QN F H) : SW S E n [] QN QX F H := fun _ _ _ _ _ _ _ st => wpAny_execs_nil ⟨F, H, st, h⟩
theorem sw_cons {st : Stmt} {rest : List Stmt} (h : XW S E n st (fun F H => SW S E n rest QN QX F H) QX F H) : SW S E n (st :: rest) QN QX F H :=
  fun A env L stk s rm ev st => wpAny_execs_cons (wpAny_mono (h A env L stk s rm ev st) (fun f s₁ ⟨F₁, H₁, st₁, h₁⟩ => by
    cases f with
    | next => exact h₁ A env L stk s₁ rm ev st₁
    | _ => exact ⟨F₁, H₁, st₁, h₁⟩) fun _ _ x => x)
theorem SW.mono {st : List Stmt} {QN' : List (Option AV) → AH → Prop} {QX' : AFl → List (Option AV) → AH → Prop} (h : SW S E n st QN QX F H) (k : ∀ F H, QN F H → QN' F H) (k' : ∀ f F H, QX f F H → QX' f F H) : SW S E n st QN' QX' F H :=
  fun A env L stk s rm ev st => wpAny_mono (h A env L stk s rm ev st) (fun f s₁ ⟨F₁, H₁, st₁, h₁⟩ => ⟨F₁, H₁, st₁, by cases f <;> first | exact k _ _ h₁ | exact k' _ _ _ h₁⟩) fun _ _ x => x
theorem xw_pass {pos : Pos} (h : QN F H) : XW S E n (.Pass pos) QN QX F H := fun _ _ _ _ _ _ _ st => wpAny_Pass ⟨F, H, st, h⟩
theorem xw_ret {e : Expr} {pos : Pos} (h : EW S E n e (fun v H => QX (.ret v) F H) F H) : XW S E n (.Return (some e) pos) QN QX F H :=
  fun A env L stk s rm ev st => wpAny_Return_some (wpAny_mono (h A env L stk s rm ev st) (fun v s₁ ⟨H₁, st₁, h₁⟩ => ⟨F, H₁, st₁, h₁⟩) fun _ _ x => x)
theorem xw_ret_none {pos : Pos} (h : QX (.ret .none) F H) : XW S E n (.Return none pos) QN QX F H :=
  fun A env L stk s rm ev st => wpAny_Return_none ⟨F, H, st, h⟩
theorem xw_if {t : Expr} {b o : List Stmt} {pos : Pos} (h : BW S E n t (fun c H => (c = true → SW S E n b QN QX F H) ∧ (c = false → SW S E n o QN QX F H)) F H) : XW S E n (.If t b o pos) QN QX F H :=
  fun A env L stk s rm ev st => wpAny_If (wpAny_mono (h A env L stk s rm ev st) (fun c s₁ ⟨H₁, st₁, h₁, h₂⟩ => by
    cases c with
    | true => exact h₁ rfl A env L stk s₁ rm ev st₁
    | false => exact h₂ rfl A env L stk s₁ rm ev st₁) fun _ _ x => x)
theorem store_local {x : Str} {v : AV} {F' : List (Option AV)} {A : Around} {env : Env} {L : Addr} {stk : List Fm} {s : Shared} {u : Value} {R : Unit → Shared → Prop} (ev : EnvOk E L env) (hu : ab u = v) (st : St S (.fr L E.sc.names F :: stk) H s)
    (p : NPut x v E.sc.names F F') (h : ∀ s', St S (.fr L E.sc.names F' :: stk) H s' → R () s') : wpAny S.M A (storeName env x u) R Nope s := by
  obtain ⟨_, _, m, hn, hm⟩ := st.sk _ (.head _)
  have hk : env.scope.kind = .function := by rw [ev.sc]; exact scOk_kind ev.ok
  have hl : env.kindOf x = some .local := by unfold Env.kindOf; rw [ev.sc]; exact p.at.lookup (scOk_nd ev.ok)
  refine wpAny_storeName_local hl (by rw [ev.loc]; exact hn) (fun h' hn' hs' => ?_) (by rw [hk]; rfl)
  rw [ev.loc] at hn' hs'
  refine h _ (st.frame (fun b o hb e => (hs'.2 b hb).trans e) ⟨_, hn', fun y w g => ?_⟩)
  rcases p.get (scOk_nd ev.ok) g with ⟨rfl, rfl⟩ | ⟨hne, g⟩
  · exact ⟨u, if_pos rfl, hu⟩
  · obtain ⟨v', e1, e2⟩ := hm y w g
    exact ⟨v', (if_neg hne).trans e1, e2⟩
theorem tw_name {x : Str} {pos : Pos} {v : AV} {Q : List (Option AV) → AH → Prop} (p : NPut x v E.sc.names F F') (h : Q F' H) : TW S E n (.Name x pos) v Q F H :=
  fun _ _ _ _ _ _ _ ev hu st => wpAny_assign_Name (store_local ev hu st p fun _ st' => ⟨F', H, st', h⟩)
theorem xw_assign_name {x : Str} {p' pos : Pos} {value : Expr} (h : EW S E n value (fun v H => ∃ F', NPut x v E.sc.names F F' ∧ QN F' H) F H)
    (hs : ∀ env, swapsWith value (some (.Name x p')) pos.line env = pure false) : XW S E n (.Assign [.Name x p'] value pos) QN QX F H :=
  fun A env L stk s rm ev st => wpAny_Assign_Name (wpAny_mono (h A env L stk s rm ev st) (fun v s₁ ⟨H₁, st₁, F', p, q⟩ => store_local ev rfl st₁ p fun _ st' => ⟨F', H₁, st', q⟩) fun _ _ x => x) (hs env)
/-- a call of what a global name holds: a function or a class of the text's -/
theorem ew_call {x : Str} {p pos : Pos} {args : List Expr} {f : Value} (g : NAt x .globalImplicit E.sc.names) (e : nsIn S.K mainGlobals x = some (some f)) (hk : keepIn S.K f = true)
    (h : EWs S E n args (fun vs H => CW S f n vs Q H) F H) (hpl : ∀ env pos, (backTo pos (starEach args env)).any (·.1) = false) (hlen : ∀ env, starEach args env = [] ∨ ∃ e' t, starEach args env = (false, e') :: t) :
    EW S E n (.Call (.Name x p) args [] pos) Q F H :=
  fun A env L stk s rm ev st => by
    refine wpAny_Call_NameR (glob_eval ev st g e ?_)
    refine callWith_of (P := fun h => S.K.In h) (by rw [hpl]; rfl) (keeps_K hk) ?_
    have := wpAny_mono (h A env L stk s pos rm ev st) (Q' := fun vs s' => S.K.In s'.heap ∧ wpAny S.M A (call f ([] ++ vs) []) (fun v s'' => ∃ H', St S (.fr L E.sc.names F :: stk) H' s'' ∧ Q (ab v) H') Nope s')
      (fun vs s₁ ⟨H₁, st₁, h₁⟩ => ⟨S.X.keeps st₁.keep, h₁.call rm rfl st₁⟩) (fun _ _ x => x)
    rcases hlen env with q | ⟨e', t, q⟩
    · rw [q] at this ⊢
      exact evalArgs_nil3 (show S.K.In s.heap ∧ _ from by
        refine ⟨S.X.keeps st.keep, ?_⟩
        have z := h A env L stk s pos rm ev st
        rw [q] at z
        intro Γ pp hΓ
        obtain ⟨H₁, st₁, h₁⟩ := z Γ pp hΓ
        exact h₁.call (vals := []) rm rfl st₁ Γ pp hΓ)
    · rw [q] at this ⊢
      exact evalArgs_plain this
end Mine

end

section
set_option Elab.async false
set_option linter.all false
set_option maxRecDepth 100000
set_option compiler.extract_closed false
namespace Mine

noncomputable def fdOf (st : Stmt) (qual : Str) (dV pm : Value) (code : Addr) : FuncData := match st with
  | .FunctionDef name params body _ _ _ scope _ _ _ => fnOf name qual params body scope dV .none .none pm none (.ref code) .none
  | _ => default
noncomputable def xsOf (st : Stmt) : List Str := match st with
  | .FunctionDef _ params _ _ _ _ _ _ _ _ => params.args.map (·.arg)
  | _ => []
noncomputable def pre : List (Str × NameKind) → List Str → Bool
  | _, [] => true
  | (x, k) :: ns, y :: ys => x == y && k == .local && pre ns ys
  | [], _ :: _ => false
noncomputable def fnbB (st : Stmt) (k : Nat) : Bool := match st with
  | .FunctionDef _ params _ _ _ _ scope _ _ _ => pre scope.names (params.args.map (·.arg)) && params.args.length == k && scOk scope && (scope.names.all fun x => x.2 != .cell) && !scope.isGenerator && !scope.isCoroutine
  | _ => false
structure FnB (K : Frag) (st : Stmt) (qual : Str) (dV pm : Value) (code : Addr) (k : Nat) (ds : List Value) : Prop where
  hb : ∀ s vals, vals.length = k → K.In s.heap → BindsTo s (fdOf st qual dV pm code) ⟨vals, []⟩ ((xsOf st).zip (vals ++ ds))
  ok : fnbB st (k + ds.length) = true
theorem len0 {l : List Value} (h : l.length = 0) : l = [] := List.length_eq_zero_iff.mp h
theorem lenS {l : List Value} {n : Nat} (h : l.length = n + 1) : ∃ a r, l = a :: r ∧ r.length = n := by
  cases l with
  | nil => cases h
  | cons a r => exact ⟨a, r, rfl, Nat.succ.inj h⟩
theorem len1 {l : List Value} (h : l.length = 1) : ∃ a, l = [a] := by obtain ⟨a, r, rfl, h2⟩ := lenS h; cases r with | nil => exact ⟨a, rfl⟩ | cons _ _ => cases h2
theorem len2 {l : List Value} (h : l.length = 2) : ∃ a b, l = [a, b] := by obtain ⟨a, r, rfl, h2⟩ := lenS h; obtain ⟨b, rfl⟩ := len1 h2; exact ⟨a, b, rfl⟩
theorem len3 {l : List Value} (h : l.length = 3) : ∃ a b c, l = [a, b, c] := by obtain ⟨a, r, rfl, h2⟩ := lenS h; obtain ⟨b, c, rfl⟩ := len2 h2; exact ⟨a, b, c, rfl⟩
theorem len4 {l : List Value} (h : l.length = 4) : ∃ a b c d, l = [a, b, c, d] := by obtain ⟨a, r, rfl, h2⟩ := lenS h; obtain ⟨b, c, d, rfl⟩ := len3 h2; exact ⟨a, b, c, d, rfl⟩
theorem len5 {l : List Value} (h : l.length = 5) : ∃ a b c d e, l = [a, b, c, d, e] := by obtain ⟨a, r, rfl, h2⟩ := lenS h; obtain ⟨b, c, d, e, rfl⟩ := len4 h2; exact ⟨a, b, c, d, e, rfl⟩
theorem len6 {l : List Value} (h : l.length = 6) : ∃ a b c d e f, l = [a, b, c, d, e, f] := by obtain ⟨a, r, rfl, h2⟩ := lenS h; obtain ⟨b, c, d, e, f, rfl⟩ := len5 h2; exact ⟨a, b, c, d, e, f, rfl⟩
theorem pre_spec : ∀ {ns : List (Str × NameKind)} {ys : List Str}, pre ns ys = true → ∃ rest, ns = ys.map (fun x => (x, NameKind.local)) ++ rest
  | ns, [], _ => ⟨ns, rfl⟩
  | (x, k) :: ns, y :: ys, h => by
    simp only [pre, Bool.and_eq_true, beq_iff_eq] at h
    obtain ⟨⟨rfl, h2⟩, h3⟩ := h
    obtain ⟨rest, e⟩ := pre_spec h3
    have : k = .local := by cases k <;> first | rfl | cases h2
    exact ⟨rest, by rw [e, this]; rfl⟩
  | [], _ :: _, h => by simp [pre] at h

theorem zip_look {xs : List Str} : ∀ {vs : List Value}, xs.Nodup → ∀ {x : Str} {v : Value}, (x, v) ∈ xs.zip vs → (xs.zip vs).reverse.lookup x = some v := by
  intro vs nd x v hm
  have key : ∀ (l : List (Str × Value)), (l.map (·.1)).Nodup → (x, v) ∈ l → l.lookup x = some v := by
    intro l
    induction l with
    | nil => intro _ h; cases h
    | cons p l ih =>
      intro nd h
      obtain ⟨n1, n2⟩ := List.nodup_cons.mp nd
      rcases List.mem_cons.mp h with rfl | h
      · simp
      · have : (x == p.1) = false := beq_eq_false_iff_ne.mpr fun e => n1 (by have z := List.mem_map_of_mem (f := fun x : Str × Value => x.1) h; dsimp only at z ⊢; rw [e] at z; exact z)
        rw [List.lookup_cons, this]; exact ih n2 h
  refine key _ ?_ (List.mem_reverse.mpr hm)
  have e : ∀ (xs : List Str) (vs : List Value), xs.Nodup → ((xs.zip vs).map (·.1)).Nodup := by
    intro xs
    induction xs with
    | nil => intro vs _; simp
    | cons a xs ih =>
      intro vs nd
      obtain ⟨n1, n2⟩ := List.nodup_cons.mp nd
      cases vs with
      | nil => simp
      | cons v vs =>
        simp only [List.zip_cons_cons, List.map_cons]
        refine List.nodup_cons.mpr ⟨fun hm => ?_, ih vs n2⟩
        obtain ⟨q, hq, e⟩ := List.mem_map.mp hm
        exact n1 (e ▸ (List.of_mem_zip (a := q.1) (b := q.2) hq).1)
  rw [List.map_reverse]
  exact List.pairwise_reverse.mpr ((e xs vs nd).imp fun h => Ne.symm h)

/-- the names as they stand at the start -/
noncomputable def start (args : List AV) (ns : List (Str × NameKind)) : List (Option AV) := args.map some ++ List.replicate (ns.length - args.length) none
theorem get_start {rest : List (Str × NameKind)} : ∀ {xs : List Str} {vs : List Value} {m : Nat} {x : Str} {k : NameKind} {v : AV}, xs.length = vs.length →
    NGet x k v (xs.map (fun x => (x, NameKind.local)) ++ rest) ((vs.map ab).map some ++ List.replicate m none) → ∃ u, (x, u) ∈ xs.zip vs ∧ ab u = v
  | [], [], m, x, k, v, _, h => by
    exfalso
    simp only [List.map_nil, List.nil_append] at h
    induction m generalizing rest with
    | zero => cases h
    | succ m ih => cases h with | there h => exact ih h
  | a :: xs, u :: vs, m, x, k, v, hl, h => by
    simp only [List.map_cons, List.cons_append] at h
    cases h with
    | here => exact ⟨u, .head _, rfl⟩
    | there h =>
      obtain ⟨w, a, b⟩ := get_start (by simpa using hl) h
      exact ⟨w, .tail _ a, b⟩
  | [], _ :: _, _, _, _, _, hl, _ => by cases hl
  | _ :: _, [], _, _, _, _, hl, _ => by cases hl

theorem at_map {rest : List (Str × NameKind)} {a : Arg} : ∀ {l : List Arg}, a ∈ l → NAt a.arg .local (l.map (fun a => (a.arg, NameKind.local)) ++ rest)
  | _ :: _, .head _ => .here
  | _ :: _, .tail _ h => .there (at_map h)
variable {S : Sta} {n : Nat} {H H' : AH} {Q : AV → AH → Prop}
theorem cw_fn {f : Addr} {st : Stmt} {qual : Str} {dV pm : Value} {code : Addr} {args : List AV} {ds : List Value}
    {name : Str} {params : Arguments} {body : List Stmt} {decs : List Expr} {rt : Option Expr} {tps : List TypeParam} {scope : Scope} {tsc : Option Scope} {bind : Str} {pos : Pos}
    (ho : S.K.lookup f = some (fobj st qual dV pm code)) (hcd : codeIn S.K (.ref code) qual = true) (hb : FnB S.K st qual dV pm code args.length ds)
    (hst : st = .FunctionDef name params body decs rt tps scope tsc bind pos)
    (h : SW S ⟨scope, []⟩ n body (fun _ H => Q .none H) (fun fl _ H => match fl with | .ret v => Q v H | _ => False) (start (args ++ ds.map ab) scope.names) H) :
    CW S (.ref f) (n + 1) args Q H := fun A stk s vals rm hv st0 => by
  subst hst
  obtain ⟨hb, hok⟩ := hb
  simp only [fnbB, Bool.and_eq_true, Bool.not_eq_true', beq_iff_eq] at hok
  obtain ⟨⟨⟨⟨⟨hpre, hlen⟩, hok⟩, hcell⟩, hgen⟩, hco⟩ := hok
  obtain ⟨rest, hns⟩ := pre_spec hpre
  have hb : ∀ s vals, vals.length = args.length → S.K.In s.heap → BindsTo s (fnOf name qual params body scope dV .none .none pm none (.ref code) .none) ⟨vals, []⟩ ((params.args.map (·.arg)).zip (vals ++ ds)) := hb
  have X := S.X.keeps st0.keep
  have hl : vals.length = args.length := by rw [← hv, List.length_map]
  have hxl : (params.args.map (·.arg)).length = (vals ++ ds).length := by rw [List.length_map, List.length_append, hl, hlen]
  have nd : ((params.args.map (·.arg))).Nodup := by
    have := scOk_nd hok
    rw [hns, List.map_append, List.map_map] at this
    have := (List.nodup_append.mp this).1
    rw [show ((fun x : Str × NameKind => x.1) ∘ fun x : Str => (x, NameKind.local)) = id from rfl, List.map_id] at this
    exact this
  refine codeAny_mono (codeAny_call_def (R := fun r s' => ∃ v H', r = .ok (.ret v) ∧ St S stk H' s' ∧ Q (ab v) H') (fd := fnOf name qual params body scope dV .none .none pm none (.ref code) .none) (body := body) (binds := (params.args.map (·.arg)).zip (vals ++ ds)) rm.depth (X _ _ ho) rfl
    (S.T.nolimit.keeps st0.keep) (codeRec_of X hcd) rfl (hb s vals hl X) (fun x hx e => ?_) (fun x hx => ?_) (fun h₁ hns₁ hk₁ => ?_) hco hgen (scOk_kind hok)) fun _ _ x => x
  · have := List.all_eq_true.mp hcell x hx
    rw [e] at this; cases this
  · have hm : x.1 ∈ params.args.map (·.arg) := (List.of_mem_zip hx).1
    obtain ⟨a, ha, e⟩ := List.mem_map.mp hm
    refine NAt.lookup (ns := scope.names) (k := .local) ?_ (scOk_nd hok)
    rw [hns, ← e, List.map_map]
    exact at_map ha
  · have st1 : St S (.fr s.heap.objs.size scope.names (start (args ++ ds.map ab) scope.names) :: stk) H { s with heap := h₁, toks := s.toks + ((params.args.map (·.arg)).zip (vals ++ ds)).length } := by
      refine st0.under hk₁ (size_none _) ⟨_, hns₁, fun x v g => ?_⟩
      rw [hns] at g
      unfold start at g
      rw [← hv, ← List.map_append] at g
      obtain ⟨u, hu, e⟩ := get_start hxl g
      exact ⟨u, zip_look nd hu, e⟩
    refine wpAny_mono (h _ _ _ stk _ rm.deeper ⟨rfl, rfl, rfl, rfl, rfl, hok⟩ st1) (fun fl s' ⟨F', H', st', q⟩ => ?_) fun _ _ x => x.elim
    cases fl with
    | next => exact ⟨_, H', rfl, st'.pop, q⟩
    | ret v => exact ⟨_, H', rfl, st'.pop, q⟩
    | brk => exact q.elim
    | cont => exact q.elim
end Mine

end

section
set_option Elab.async false
set_option linter.all false
set_option maxRecDepth 100000
set_option compiler.extract_closed false
namespace Mine

theorem k_downcase (P : Params) : (Kf P).lookup 28 = some (fobj (tp 2) "downcase" .none (vs "emacs.casefold" 194) 27) := by kernel_rfl
theorem c_downcase (P : Params) : codeIn (Kf P) (.ref 27) "downcase" = true := by kernel_rfl
theorem b_downcase (P : Params) : FnB (Kf P) (tp 2) "downcase" .none (vs "emacs.casefold" 194) 27 1 [] := ⟨fun s vals hl _ => by obtain ⟨a, rfl⟩ := len1 hl; exact BindsTo.of_eq (by kernel_rfl), by kernel_rfl⟩
theorem k_upcase (P : Params) : (Kf P).lookup 35 = some (fobj (tp 3) "upcase" .none (vs "emacs.casefold" 194) 34) := by kernel_rfl
theorem c_upcase (P : Params) : codeIn (Kf P) (.ref 34) "upcase" = true := by kernel_rfl
theorem b_upcase (P : Params) : FnB (Kf P) (tp 3) "upcase" .none (vs "emacs.casefold" 194) 34 1 [] := ⟨fun s vals hl _ => by obtain ⟨a, rfl⟩ := len1 hl; exact BindsTo.of_eq (by kernel_rfl), by kernel_rfl⟩
theorem k_is_upper (P : Params) : (Kf P).lookup 42 = some (fobj (tp 4) "is_upper" .none (vs "emacs.casefold" 194) 41) := by kernel_rfl
theorem c_is_upper (P : Params) : codeIn (Kf P) (.ref 41) "is_upper" = true := by kernel_rfl
theorem b_is_upper (P : Params) : FnB (Kf P) (tp 4) "is_upper" .none (vs "emacs.casefold" 194) 41 1 [] := ⟨fun s vals hl _ => by obtain ⟨a, rfl⟩ := len1 hl; exact BindsTo.of_eq (by kernel_rfl), by kernel_rfl⟩
theorem k_is_lower (P : Params) : (Kf P).lookup 49 = some (fobj (tp 5) "is_lower" .none (vs "emacs.casefold" 194) 48) := by kernel_rfl
theorem c_is_lower (P : Params) : codeIn (Kf P) (.ref 48) "is_lower" = true := by kernel_rfl
theorem b_is_lower (P : Params) : FnB (Kf P) (tp 5) "is_lower" .none (vs "emacs.casefold" 194) 48 1 [] := ⟨fun s vals hl _ => by obtain ⟨a, rfl⟩ := len1 hl; exact BindsTo.of_eq (by kernel_rfl), by kernel_rfl⟩
theorem k_upcased (P : Params) : (Kf P).lookup 54 = some (fobj (tp 6) "upcased" .none (vs "emacs.casefold" 194) 53) := by kernel_rfl
theorem c_upcased (P : Params) : codeIn (Kf P) (.ref 53) "upcased" = true := by kernel_rfl
theorem b_upcased (P : Params) : FnB (Kf P) (tp 6) "upcased" .none (vs "emacs.casefold" 194) 53 1 [] := ⟨fun s vals hl _ => by obtain ⟨a, rfl⟩ := len1 hl; exact BindsTo.of_eq (by kernel_rfl), by kernel_rfl⟩
theorem k_downcased (P : Params) : (Kf P).lookup 59 = some (fobj (tp 7) "downcased" .none (vs "emacs.casefold" 194) 58) := by kernel_rfl
theorem c_downcased (P : Params) : codeIn (Kf P) (.ref 58) "downcased" = true := by kernel_rfl
theorem b_downcased (P : Params) : FnB (Kf P) (tp 7) "downcased" .none (vs "emacs.casefold" 194) 58 1 [] := ⟨fun s vals hl _ => by obtain ⟨a, rfl⟩ := len1 hl; exact BindsTo.of_eq (by kernel_rfl), by kernel_rfl⟩
theorem k_initials_upcased (P : Params) : (Kf P).lookup 66 = some (fobj (tp 8) "initials_upcased" .none (vs "emacs.casefold" 194) 65) := by kernel_rfl
theorem c_initials_upcased (P : Params) : codeIn (Kf P) (.ref 65) "initials_upcased" = true := by kernel_rfl
theorem b_initials_upcased (P : Params) : FnB (Kf P) (tp 8) "initials_upcased" .none (vs "emacs.casefold" 194) 65 2 [] := ⟨fun s vals hl _ => by obtain ⟨a, b, rfl⟩ := len2 hl; exact BindsTo.of_eq (by kernel_rfl), by kernel_rfl⟩
theorem k_Abbrev_init (P : Params) : (Kf P).lookup 80 = some (fobj (mt 11 0) "Abbrev.__init__" .none (vs "emacs.abbrevtable" 247) 79) := by kernel_rfl
theorem c_Abbrev_init (P : Params) : codeIn (Kf P) (.ref 79) "Abbrev.__init__" = true := by kernel_rfl
theorem b_Abbrev_init (P : Params) : FnB (Kf P) (mt 11 0) "Abbrev.__init__" .none (vs "emacs.abbrevtable" 247) 79 4 [] := ⟨fun s vals hl _ => by obtain ⟨a, b, c, d, rfl⟩ := len4 hl; exact BindsTo.of_eq (by kernel_rfl), by kernel_rfl⟩
theorem k_AbbrevTable_init (P : Params) : (Kf P).lookup 101 = some (fobj (mt 12 0) "AbbrevTable.__init__" .none (vs "emacs.abbrevtable" 247) 100) := by kernel_rfl
theorem c_AbbrevTable_init (P : Params) : codeIn (Kf P) (.ref 100) "AbbrevTable.__init__" = true := by kernel_rfl
theorem b_AbbrevTable_init (P : Params) : FnB (Kf P) (mt 12 0) "AbbrevTable.__init__" .none (vs "emacs.abbrevtable" 247) 100 3 [] := ⟨fun s vals hl _ => by obtain ⟨a, b, c, rfl⟩ := len3 hl; exact BindsTo.of_eq (by kernel_rfl), by kernel_rfl⟩
theorem k_key_of (P : Params) : (Kf P).lookup 113 = some (fobj (tp 13) "key_of" .none (vs "emacs.abbrevtable" 247) 112) := by kernel_rfl
theorem c_key_of (P : Params) : codeIn (Kf P) (.ref 112) "key_of" = true := by kernel_rfl
theorem b_key_of (P : Params) : FnB (Kf P) (tp 13) "key_of" .none (vs "emacs.abbrevtable" 247) 112 1 [] := ⟨fun s vals hl _ => by obtain ⟨a, rfl⟩ := len1 hl; exact BindsTo.of_eq (by kernel_rfl), by kernel_rfl⟩
theorem k_define (P : Params) : (Kf P).lookup 120 = some (fobj (tp 14) "define" .none (vs "emacs.abbrevtable" 247) 119) := by kernel_rfl
theorem c_define (P : Params) : codeIn (Kf P) (.ref 119) "define" = true := by kernel_rfl
theorem b_define (P : Params) : FnB (Kf P) (tp 14) "define" .none (vs "emacs.abbrevtable" 247) 119 4 [] := ⟨fun s vals hl _ => by obtain ⟨a, b, c, d, rfl⟩ := len4 hl; exact BindsTo.of_eq (by kernel_rfl), by kernel_rfl⟩
theorem k_forget (P : Params) : (Kf P).lookup 127 = some (fobj (tp 15) "forget" .none (vs "emacs.abbrevtable" 247) 126) := by kernel_rfl
theorem c_forget (P : Params) : codeIn (Kf P) (.ref 126) "forget" = true := by kernel_rfl
theorem b_forget (P : Params) : FnB (Kf P) (tp 15) "forget" .none (vs "emacs.abbrevtable" 247) 126 2 [] := ⟨fun s vals hl _ => by obtain ⟨a, b, rfl⟩ := len2 hl; exact BindsTo.of_eq (by kernel_rfl), by kernel_rfl⟩
theorem k_own_entry (P : Params) : (Kf P).lookup 134 = some (fobj (tp 16) "own_entry" .none (vs "emacs.abbrevtable" 247) 133) := by kernel_rfl
theorem c_own_entry (P : Params) : codeIn (Kf P) (.ref 133) "own_entry" = true := by kernel_rfl
theorem b_own_entry (P : Params) : FnB (Kf P) (tp 16) "own_entry" .none (vs "emacs.abbrevtable" 247) 133 2 [] := ⟨fun s vals hl _ => by obtain ⟨a, b, rfl⟩ := len2 hl; exact BindsTo.of_eq (by kernel_rfl), by kernel_rfl⟩
theorem k_tables_from (P : Params) : (Kf P).lookup 141 = some (fobj (tp 17) "tables_from" .none (vs "emacs.abbrevtable" 247) 140) := by kernel_rfl
theorem c_tables_from (P : Params) : codeIn (Kf P) (.ref 140) "tables_from" = true := by kernel_rfl
theorem b_tables_from (P : Params) : FnB (Kf P) (tp 17) "tables_from" .none (vs "emacs.abbrevtable" 247) 140 1 [] := ⟨fun s vals hl _ => by obtain ⟨a, rfl⟩ := len1 hl; exact BindsTo.of_eq (by kernel_rfl), by kernel_rfl⟩
theorem k_entry_of (P : Params) : (Kf P).lookup 148 = some (fobj (tp 18) "entry_of" .none (vs "emacs.abbrevtable" 247) 147) := by kernel_rfl
theorem c_entry_of (P : Params) : codeIn (Kf P) (.ref 147) "entry_of" = true := by kernel_rfl
theorem b_entry_of (P : Params) : FnB (Kf P) (tp 18) "entry_of" .none (vs "emacs.abbrevtable" 247) 147 2 [] := ⟨fun s vals hl _ => by obtain ⟨a, b, rfl⟩ := len2 hl; exact BindsTo.of_eq (by kernel_rfl), by kernel_rfl⟩
theorem k_is_word_sign (P : Params) : (Kf P).lookup 155 = some (fobj (tp 19) "is_word_sign" .none (vs "emacs.abbrevtable" 247) 154) := by kernel_rfl
theorem c_is_word_sign (P : Params) : codeIn (Kf P) (.ref 154) "is_word_sign" = true := by kernel_rfl
theorem b_is_word_sign (P : Params) : FnB (Kf P) (tp 19) "is_word_sign" .none (vs "emacs.abbrevtable" 247) 154 2 [] := ⟨fun s vals hl _ => by obtain ⟨a, b, rfl⟩ := len2 hl; exact BindsTo.of_eq (by kernel_rfl), by kernel_rfl⟩
theorem k_many_words (P : Params) : (Kf P).lookup 162 = some (fobj (tp 20) "many_words" .none (vs "emacs.abbrevtable" 247) 161) := by kernel_rfl
theorem c_many_words (P : Params) : codeIn (Kf P) (.ref 161) "many_words" = true := by kernel_rfl
theorem b_many_words (P : Params) : FnB (Kf P) (tp 20) "many_words" .none (vs "emacs.abbrevtable" 247) 161 2 [] := ⟨fun s vals hl _ => by obtain ⟨a, b, rfl⟩ := len2 hl; exact BindsTo.of_eq (by kernel_rfl), by kernel_rfl⟩
theorem k_has_upper (P : Params) : (Kf P).lookup 167 = some (fobj (tp 21) "has_upper" .none (vs "emacs.abbrevtable" 247) 166) := by kernel_rfl
theorem c_has_upper (P : Params) : codeIn (Kf P) (.ref 166) "has_upper" = true := by kernel_rfl
theorem b_has_upper (P : Params) : FnB (Kf P) (tp 21) "has_upper" .none (vs "emacs.abbrevtable" 247) 166 1 [] := ⟨fun s vals hl _ => by obtain ⟨a, rfl⟩ := len1 hl; exact BindsTo.of_eq (by kernel_rfl), by kernel_rfl⟩
theorem k_has_lower (P : Params) : (Kf P).lookup 172 = some (fobj (tp 22) "has_lower" .none (vs "emacs.abbrevtable" 247) 171) := by kernel_rfl
theorem c_has_lower (P : Params) : codeIn (Kf P) (.ref 171) "has_lower" = true := by kernel_rfl
theorem b_has_lower (P : Params) : FnB (Kf P) (tp 22) "has_lower" .none (vs "emacs.abbrevtable" 247) 171 1 [] := ⟨fun s vals hl _ => by obtain ⟨a, rfl⟩ := len1 hl; exact BindsTo.of_eq (by kernel_rfl), by kernel_rfl⟩
theorem k_first_upcased (P : Params) : (Kf P).lookup 179 = some (fobj (tp 23) "first_upcased" .none (vs "emacs.abbrevtable" 247) 178) := by kernel_rfl
theorem c_first_upcased (P : Params) : codeIn (Kf P) (.ref 178) "first_upcased" = true := by kernel_rfl
theorem b_first_upcased (P : Params) : FnB (Kf P) (tp 23) "first_upcased" .none (vs "emacs.abbrevtable" 247) 178 2 [] := ⟨fun s vals hl _ => by obtain ⟨a, b, rfl⟩ := len2 hl; exact BindsTo.of_eq (by kernel_rfl), by kernel_rfl⟩
theorem k_written (P : Params) : (Kf P).lookup 186 = some (fobj (tp 24) "written" .none (vs "emacs.abbrevtable" 247) 185) := by kernel_rfl
theorem c_written (P : Params) : codeIn (Kf P) (.ref 185) "written" = true := by kernel_rfl
theorem b_written (P : Params) : FnB (Kf P) (tp 24) "written" .none (vs "emacs.abbrevtable" 247) 185 4 [] := ⟨fun s vals hl _ => by obtain ⟨a, b, c, d, rfl⟩ := len4 hl; exact BindsTo.of_eq (by kernel_rfl), by kernel_rfl⟩
theorem k_expansion_of (P : Params) : (Kf P).lookup 193 = some (fobj (tp 25) "expansion_of" .none (vs "emacs.abbrevtable" 247) 192) := by kernel_rfl
theorem c_expansion_of (P : Params) : codeIn (Kf P) (.ref 192) "expansion_of" = true := by kernel_rfl
theorem b_expansion_of (P : Params) : FnB (Kf P) (tp 25) "expansion_of" .none (vs "emacs.abbrevtable" 247) 192 3 [] := ⟨fun s vals hl _ => by obtain ⟨a, b, c, rfl⟩ := len3 hl; exact BindsTo.of_eq (by kernel_rfl), by kernel_rfl⟩
theorem k_unexpanded (P : Params) : (Kf P).lookup 200 = some (fobj (tp 26) "unexpanded" .none (vs "emacs.abbrevtable" 247) 199) := by kernel_rfl
theorem c_unexpanded (P : Params) : codeIn (Kf P) (.ref 199) "unexpanded" = true := by kernel_rfl
theorem b_unexpanded (P : Params) : FnB (Kf P) (tp 26) "unexpanded" .none (vs "emacs.abbrevtable" 247) 199 2 [] := ⟨fun s vals hl _ => by obtain ⟨a, b, rfl⟩ := len2 hl; exact BindsTo.of_eq (by kernel_rfl), by kernel_rfl⟩
theorem k_need_writable (P : Params) : (Kf P).lookup 227 = some (fobj (tp 30) "need_writable" .none (vs "emacs.editing" 477) 226) := by kernel_rfl
theorem c_need_writable (P : Params) : codeIn (Kf P) (.ref 226) "need_writable" = true := by kernel_rfl
theorem b_need_writable (P : Params) : FnB (Kf P) (tp 30) "need_writable" .none (vs "emacs.editing" 477) 226 1 [] := ⟨fun s vals hl _ => by obtain ⟨a, rfl⟩ := len1 hl; exact BindsTo.of_eq (by kernel_rfl), by kernel_rfl⟩
theorem k_reached (P : Params) : (Kf P).lookup 234 = some (fobj (tp 31) "reached" .none (vs "emacs.editing" 477) 233) := by kernel_rfl
theorem c_reached (P : Params) : codeIn (Kf P) (.ref 233) "reached" = true := by kernel_rfl
theorem b_reached (P : Params) : FnB (Kf P) (tp 31) "reached" .none (vs "emacs.editing" 477) 233 3 [] := ⟨fun s vals hl _ => by obtain ⟨a, b, c, rfl⟩ := len3 hl; exact BindsTo.of_eq (by kernel_rfl), by kernel_rfl⟩
theorem k_tell_ahead (P : Params) : (Kf P).lookup 241 = some (fobj (tp 32) "tell_ahead" .none (vs "emacs.editing" 477) 240) := by kernel_rfl
theorem c_tell_ahead (P : Params) : codeIn (Kf P) (.ref 240) "tell_ahead" = true := by kernel_rfl
theorem b_tell_ahead (P : Params) : FnB (Kf P) (tp 32) "tell_ahead" .none (vs "emacs.editing" 477) 240 3 [] := ⟨fun s vals hl _ => by obtain ⟨a, b, c, rfl⟩ := len3 hl; exact BindsTo.of_eq (by kernel_rfl), by kernel_rfl⟩
theorem k_tell_behind (P : Params) : (Kf P).lookup 248 = some (fobj (tp 33) "tell_behind" .none (vs "emacs.editing" 477) 247) := by kernel_rfl
theorem c_tell_behind (P : Params) : codeIn (Kf P) (.ref 247) "tell_behind" = true := by kernel_rfl
theorem b_tell_behind (P : Params) : FnB (Kf P) (tp 33) "tell_behind" .none (vs "emacs.editing" 477) 247 4 [] := ⟨fun s vals hl _ => by obtain ⟨a, b, c, d, rfl⟩ := len4 hl; exact BindsTo.of_eq (by kernel_rfl), by kernel_rfl⟩
theorem k_text_out (P : Params) : (Kf P).lookup 255 = some (fobj (tp 34) "text_out" .none (vs "emacs.editing" 477) 254) := by kernel_rfl
theorem c_text_out (P : Params) : codeIn (Kf P) (.ref 254) "text_out" = true := by kernel_rfl
theorem b_text_out (P : Params) : FnB (Kf P) (tp 34) "text_out" .none (vs "emacs.editing" 477) 254 3 [] := ⟨fun s vals hl _ => by obtain ⟨a, b, c, rfl⟩ := len3 hl; exact BindsTo.of_eq (by kernel_rfl), by kernel_rfl⟩
theorem k_text_in (P : Params) : (Kf P).lookup 262 = some (fobj (tp 35) "text_in" .none (vs "emacs.editing" 477) 261) := by kernel_rfl
theorem c_text_in (P : Params) : codeIn (Kf P) (.ref 261) "text_in" = true := by kernel_rfl
theorem b_text_in (P : Params) : FnB (Kf P) (tp 35) "text_in" .none (vs "emacs.editing" 477) 261 3 [] := ⟨fun s vals hl _ => by obtain ⟨a, b, c, rfl⟩ := len3 hl; exact BindsTo.of_eq (by kernel_rfl), by kernel_rfl⟩
theorem k_hung_out (P : Params) : (Kf P).lookup 269 = some (fobj (tp 36) "hung_out" .none (vs "emacs.editing" 477) 268) := by kernel_rfl
theorem c_hung_out (P : Params) : codeIn (Kf P) (.ref 268) "hung_out" = true := by kernel_rfl
theorem b_hung_out (P : Params) : FnB (Kf P) (tp 36) "hung_out" .none (vs "emacs.editing" 477) 268 3 [] := ⟨fun s vals hl _ => by obtain ⟨a, b, c, rfl⟩ := len3 hl; exact BindsTo.of_eq (by kernel_rfl), by kernel_rfl⟩
theorem k_hung_in (P : Params) : (Kf P).lookup 276 = some (fobj (tp 37) "hung_in" .none (vs "emacs.editing" 477) 275) := by kernel_rfl
theorem c_hung_in (P : Params) : codeIn (Kf P) (.ref 275) "hung_in" = true := by kernel_rfl
theorem b_hung_in (P : Params) : FnB (Kf P) (tp 37) "hung_in" .none (vs "emacs.editing" 477) 275 4 [] := ⟨fun s vals hl _ => by obtain ⟨a, b, c, d, rfl⟩ := len4 hl; exact BindsTo.of_eq (by kernel_rfl), by kernel_rfl⟩
theorem k_put_in (P : Params) : (Kf P).lookup 283 = some (fobj (tp 38) "put_in" .none (vs "emacs.editing" 477) 282) := by kernel_rfl
theorem c_put_in (P : Params) : codeIn (Kf P) (.ref 282) "put_in" = true := by kernel_rfl
theorem b_put_in (P : Params) : FnB (Kf P) (tp 38) "put_in" .none (vs "emacs.editing" 477) 282 5 [] := ⟨fun s vals hl _ => by obtain ⟨a, b, c, d, e, rfl⟩ := len5 hl; exact BindsTo.of_eq (by kernel_rfl), by kernel_rfl⟩
theorem k_insert_at (P : Params) : (Kf P).lookup 291 = some (fobj (tp 39) "insert_at" (.ref 284) (vs "emacs.editing" 477) 290) := by kernel_rfl
theorem c_insert_at (P : Params) : codeIn (Kf P) (.ref 290) "insert_at" = true := by kernel_rfl
theorem b_insert_at3 (P : Params) : FnB (Kf P) (tp 39) "insert_at" (.ref 284) (vs "emacs.editing" 477) 290 3 [.bool false] := ⟨fun s vals hl X => by obtain ⟨a, b, c, rfl⟩ := len3 hl; exact binds_K (T := 284) (o := ⟨(.type "tuple"), none, .seq #[(.bool false)] 0, #[]⟩) X rfl (by kernel_rfl) rfl rfl rfl, by kernel_rfl⟩
theorem k_replace (P : Params) : (Kf P).lookup 305 = some (fobj (tp 41) "replace" .none (vs "emacs.editing" 477) 304) := by kernel_rfl
theorem c_replace (P : Params) : codeIn (Kf P) (.ref 304) "replace" = true := by kernel_rfl
theorem b_replace (P : Params) : FnB (Kf P) (tp 41) "replace" .none (vs "emacs.editing" 477) 304 4 [] := ⟨fun s vals hl _ => by obtain ⟨a, b, c, d, rfl⟩ := len4 hl; exact BindsTo.of_eq (by kernel_rfl), by kernel_rfl⟩
theorem k_syntax_at (P : Params) : (Kf P).lookup 312 = some (fobj (tp 43) "syntax_at" .none (vs "emacs.syntaxpairs" 603) 311) := by kernel_rfl
theorem c_syntax_at (P : Params) : codeIn (Kf P) (.ref 311) "syntax_at" = true := by kernel_rfl
theorem b_syntax_at (P : Params) : FnB (Kf P) (tp 43) "syntax_at" .none (vs "emacs.syntaxpairs" 603) 311 3 [] := ⟨fun s vals hl _ => by obtain ⟨a, b, c, rfl⟩ := len3 hl; exact BindsTo.of_eq (by kernel_rfl), by kernel_rfl⟩
theorem k_is_of (P : Params) : (Kf P).lookup 320 = some (fobj (tp 45) "is_of" (.ref 313) (vs "emacs.skips" 615) 319) := by kernel_rfl
theorem c_is_of (P : Params) : codeIn (Kf P) (.ref 319) "is_of" = true := by kernel_rfl
theorem b_is_of5 (P : Params) : FnB (Kf P) (tp 45) "is_of" (.ref 313) (vs "emacs.skips" 615) 319 5 [] := ⟨fun s vals hl X => by obtain ⟨a, b, c, d, e, rfl⟩ := len5 hl; exact binds_K (T := 313) (o := ⟨(.type "tuple"), none, .seq #[(.bool false)] 0, #[]⟩) X rfl (by kernel_rfl) rfl rfl rfl, by kernel_rfl⟩
theorem k_skip_forward (P : Params) : (Kf P).lookup 328 = some (fobj (tp 46) "skip_forward" (.ref 321) (vs "emacs.skips" 615) 327) := by kernel_rfl
theorem c_skip_forward (P : Params) : codeIn (Kf P) (.ref 327) "skip_forward" = true := by kernel_rfl
theorem b_skip_forward6 (P : Params) : FnB (Kf P) (tp 46) "skip_forward" (.ref 321) (vs "emacs.skips" 615) 327 6 [] := ⟨fun s vals hl X => by obtain ⟨a, b, c, d, e, f, rfl⟩ := len6 hl; exact binds_K (T := 321) (o := ⟨(.type "tuple"), none, .seq #[(.bool false)] 0, #[]⟩) X rfl (by kernel_rfl) rfl rfl rfl, by kernel_rfl⟩
theorem b_skip_forward5 (P : Params) : FnB (Kf P) (tp 46) "skip_forward" (.ref 321) (vs "emacs.skips" 615) 327 5 [.bool false] := ⟨fun s vals hl X => by obtain ⟨a, b, c, d, e, rfl⟩ := len5 hl; exact binds_K (T := 321) (o := ⟨(.type "tuple"), none, .seq #[(.bool false)] 0, #[]⟩) X rfl (by kernel_rfl) rfl rfl rfl, by kernel_rfl⟩
theorem k_skip_backward (P : Params) : (Kf P).lookup 336 = some (fobj (tp 47) "skip_backward" (.ref 329) (vs "emacs.skips" 615) 335) := by kernel_rfl
theorem c_skip_backward (P : Params) : codeIn (Kf P) (.ref 335) "skip_backward" = true := by kernel_rfl
theorem b_skip_backward6 (P : Params) : FnB (Kf P) (tp 47) "skip_backward" (.ref 329) (vs "emacs.skips" 615) 335 6 [] := ⟨fun s vals hl X => by obtain ⟨a, b, c, d, e, f, rfl⟩ := len6 hl; exact binds_K (T := 329) (o := ⟨(.type "tuple"), none, .seq #[(.bool false)] 0, #[]⟩) X rfl (by kernel_rfl) rfl rfl rfl, by kernel_rfl⟩
theorem b_skip_backward5 (P : Params) : FnB (Kf P) (tp 47) "skip_backward" (.ref 329) (vs "emacs.skips" 615) 335 5 [.bool false] := ⟨fun s vals hl X => by obtain ⟨a, b, c, d, e, rfl⟩ := len5 hl; exact binds_K (T := 329) (o := ⟨(.type "tuple"), none, .seq #[(.bool false)] 0, #[]⟩) X rfl (by kernel_rfl) rfl rfl rfl, by kernel_rfl⟩
theorem k_Syntax_init (P : Params) : (Kf P).lookup 350 = some (fobj (mt 55 0) "Syntax.__init__" .none (vs "emacs.syntax" 653) 349) := by kernel_rfl
theorem c_Syntax_init (P : Params) : codeIn (Kf P) (.ref 349) "Syntax.__init__" = true := by kernel_rfl
theorem b_Syntax_init (P : Params) : FnB (Kf P) (mt 55 0) "Syntax.__init__" .none (vs "emacs.syntax" 653) 349 4 [] := ⟨fun s vals hl _ => by obtain ⟨a, b, c, d, rfl⟩ := len4 hl; exact BindsTo.of_eq (by kernel_rfl), by kernel_rfl⟩
theorem k_read_syntax (P : Params) : (Kf P).lookup 395 = some (fobj (tp 57) "read_syntax" .none (vs "emacs.syntax" 653) 394) := by kernel_rfl
theorem c_read_syntax (P : Params) : codeIn (Kf P) (.ref 394) "read_syntax" = true := by kernel_rfl
theorem b_read_syntax (P : Params) : FnB (Kf P) (tp 57) "read_syntax" .none (vs "emacs.syntax" 653) 394 1 [] := ⟨fun s vals hl _ => by obtain ⟨a, rfl⟩ := len1 hl; exact BindsTo.of_eq (by kernel_rfl), by kernel_rfl⟩
theorem k_SyntaxTable_init (P : Params) : (Kf P).lookup 410 = some (fobj (mt 58 0) "SyntaxTable.__init__" (.ref 403) (vs "emacs.syntax" 653) 409) := by kernel_rfl
theorem c_SyntaxTable_init (P : Params) : codeIn (Kf P) (.ref 409) "SyntaxTable.__init__" = true := by kernel_rfl
theorem b_SyntaxTable_init1 (P : Params) : FnB (Kf P) (mt 58 0) "SyntaxTable.__init__" (.ref 403) (vs "emacs.syntax" 653) 409 1 [.none] := ⟨fun s vals hl X => by obtain ⟨a, rfl⟩ := len1 hl; exact binds_K (T := 403) (o := ⟨(.type "tuple"), none, .seq #[.none] 0, #[]⟩) X rfl (by kernel_rfl) rfl rfl rfl, by kernel_rfl⟩
theorem k_SyntaxTable_modify_all (P : Params) : (Kf P).lookup 424 = some (fobj (mt 58 2) "SyntaxTable.modify_all" .none (vs "emacs.syntax" 653) 423) := by kernel_rfl
theorem c_SyntaxTable_modify_all (P : Params) : codeIn (Kf P) (.ref 423) "SyntaxTable.modify_all" = true := by kernel_rfl
theorem b_SyntaxTable_modify_all (P : Params) : FnB (Kf P) (mt 58 2) "SyntaxTable.modify_all" .none (vs "emacs.syntax" 653) 423 3 [] := ⟨fun s vals hl _ => by obtain ⟨a, b, c, rfl⟩ := len3 hl; exact BindsTo.of_eq (by kernel_rfl), by kernel_rfl⟩
theorem k_SyntaxTable_own (P : Params) : (Kf P).lookup 438 = some (fobj (mt 58 4) "SyntaxTable.own" .none (vs "emacs.syntax" 653) 437) := by kernel_rfl
theorem c_SyntaxTable_own (P : Params) : codeIn (Kf P) (.ref 437) "SyntaxTable.own" = true := by kernel_rfl
theorem b_SyntaxTable_own (P : Params) : FnB (Kf P) (mt 58 4) "SyntaxTable.own" .none (vs "emacs.syntax" 653) 437 2 [] := ⟨fun s vals hl _ => by obtain ⟨a, b, rfl⟩ := len2 hl; exact BindsTo.of_eq (by kernel_rfl), by kernel_rfl⟩
theorem k_SyntaxTable_at (P : Params) : (Kf P).lookup 445 = some (fobj (mt 58 5) "SyntaxTable.at" .none (vs "emacs.syntax" 653) 444) := by kernel_rfl
theorem c_SyntaxTable_at (P : Params) : codeIn (Kf P) (.ref 444) "SyntaxTable.at" = true := by kernel_rfl
theorem b_SyntaxTable_at (P : Params) : FnB (Kf P) (mt 58 5) "SyntaxTable.at" .none (vs "emacs.syntax" 653) 444 2 [] := ⟨fun s vals hl _ => by obtain ⟨a, b, rfl⟩ := len2 hl; exact BindsTo.of_eq (by kernel_rfl), by kernel_rfl⟩
theorem k_SyntaxTable_kind_of (P : Params) : (Kf P).lookup 452 = some (fobj (mt 58 6) "SyntaxTable.kind_of" .none (vs "emacs.syntax" 653) 451) := by kernel_rfl
theorem c_SyntaxTable_kind_of (P : Params) : codeIn (Kf P) (.ref 451) "SyntaxTable.kind_of" = true := by kernel_rfl
theorem b_SyntaxTable_kind_of (P : Params) : FnB (Kf P) (mt 58 6) "SyntaxTable.kind_of" .none (vs "emacs.syntax" 653) 451 2 [] := ⟨fun s vals hl _ => by obtain ⟨a, b, rfl⟩ := len2 hl; exact BindsTo.of_eq (by kernel_rfl), by kernel_rfl⟩
theorem k_forward_by (P : Params) : (Kf P).lookup 473 = some (fobj (tp 60) "forward_by" .none (vs "emacs.words" 835) 472) := by kernel_rfl
theorem c_forward_by (P : Params) : codeIn (Kf P) (.ref 472) "forward_by" = true := by kernel_rfl
theorem b_forward_by (P : Params) : FnB (Kf P) (tp 60) "forward_by" .none (vs "emacs.words" 835) 472 5 [] := ⟨fun s vals hl _ => by obtain ⟨a, b, c, d, e, rfl⟩ := len5 hl; exact BindsTo.of_eq (by kernel_rfl), by kernel_rfl⟩
theorem k_forward_word (P : Params) : (Kf P).lookup 480 = some (fobj (tp 61) "forward_word" .none (vs "emacs.words" 835) 479) := by kernel_rfl
theorem c_forward_word (P : Params) : codeIn (Kf P) (.ref 479) "forward_word" = true := by kernel_rfl
theorem b_forward_word (P : Params) : FnB (Kf P) (tp 61) "forward_word" .none (vs "emacs.words" 835) 479 4 [] := ⟨fun s vals hl _ => by obtain ⟨a, b, c, d, rfl⟩ := len4 hl; exact BindsTo.of_eq (by kernel_rfl), by kernel_rfl⟩
theorem k_Expansion_init (P : Params) : (Kf P).lookup 494 = some (fobj (mt 63 0) "Expansion.__init__" .none (vs "emacs.abbrevs" 860) 493) := by kernel_rfl
theorem c_Expansion_init (P : Params) : codeIn (Kf P) (.ref 493) "Expansion.__init__" = true := by kernel_rfl
theorem b_Expansion_init (P : Params) : FnB (Kf P) (mt 63 0) "Expansion.__init__" .none (vs "emacs.abbrevs" 860) 493 4 [] := ⟨fun s vals hl _ => by obtain ⟨a, b, c, d, rfl⟩ := len4 hl; exact BindsTo.of_eq (by kernel_rfl), by kernel_rfl⟩
theorem k_word_before (P : Params) : (Kf P).lookup 508 = some (fobj (tp 64) "word_before" .none (vs "emacs.abbrevs" 860) 507) := by kernel_rfl
theorem c_word_before (P : Params) : codeIn (Kf P) (.ref 507) "word_before" = true := by kernel_rfl
theorem b_word_before (P : Params) : FnB (Kf P) (tp 64) "word_before" .none (vs "emacs.abbrevs" 860) 507 2 [] := ⟨fun s vals hl _ => by obtain ⟨a, b, rfl⟩ := len2 hl; exact BindsTo.of_eq (by kernel_rfl), by kernel_rfl⟩
theorem k_expand_abbrev (P : Params) : (Kf P).lookup 515 = some (fobj (tp 65) "expand_abbrev" .none (vs "emacs.abbrevs" 860) 514) := by kernel_rfl
theorem c_expand_abbrev (P : Params) : codeIn (Kf P) (.ref 514) "expand_abbrev" = true := by kernel_rfl
theorem b_expand_abbrev (P : Params) : FnB (Kf P) (tp 65) "expand_abbrev" .none (vs "emacs.abbrevs" 860) 514 3 [] := ⟨fun s vals hl _ => by obtain ⟨a, b, c, rfl⟩ := len3 hl; exact BindsTo.of_eq (by kernel_rfl), by kernel_rfl⟩
theorem k_unexpand_abbrev (P : Params) : (Kf P).lookup 522 = some (fobj (tp 66) "unexpand_abbrev" .none (vs "emacs.abbrevs" 860) 521) := by kernel_rfl
theorem c_unexpand_abbrev (P : Params) : codeIn (Kf P) (.ref 521) "unexpand_abbrev" = true := by kernel_rfl
theorem b_unexpand_abbrev (P : Params) : FnB (Kf P) (tp 66) "unexpand_abbrev" .none (vs "emacs.abbrevs" 860) 521 3 [] := ⟨fun s vals hl _ => by obtain ⟨a, b, c, rfl⟩ := len3 hl; exact BindsTo.of_eq (by kernel_rfl), by kernel_rfl⟩
theorem k_expand_region (P : Params) : (Kf P).lookup 529 = some (fobj (tp 67) "expand_region" .none (vs "emacs.abbrevs" 860) 528) := by kernel_rfl
theorem c_expand_region (P : Params) : codeIn (Kf P) (.ref 528) "expand_region" = true := by kernel_rfl
theorem b_expand_region (P : Params) : FnB (Kf P) (tp 67) "expand_region" .none (vs "emacs.abbrevs" 860) 528 5 [] := ⟨fun s vals hl _ => by obtain ⟨a, b, c, d, e, rfl⟩ := len5 hl; exact BindsTo.of_eq (by kernel_rfl), by kernel_rfl⟩
theorem k_GapText_init (P : Params) : (Kf P).lookup 543 = some (fobj (mt 69 0) "GapText.__init__" .none (vs "emacs.gap" 945) 542) := by kernel_rfl
theorem c_GapText_init (P : Params) : codeIn (Kf P) (.ref 542) "GapText.__init__" = true := by kernel_rfl
theorem b_GapText_init (P : Params) : FnB (Kf P) (mt 69 0) "GapText.__init__" .none (vs "emacs.gap" 945) 542 3 [] := ⟨fun s vals hl _ => by obtain ⟨a, b, c, rfl⟩ := len3 hl; exact BindsTo.of_eq (by kernel_rfl), by kernel_rfl⟩
theorem k_GapText_size (P : Params) : (Kf P).lookup 550 = some (fobj (mt 69 1) "GapText.size" .none (vs "emacs.gap" 945) 549) := by kernel_rfl
theorem c_GapText_size (P : Params) : codeIn (Kf P) (.ref 549) "GapText.size" = true := by kernel_rfl
theorem b_GapText_size (P : Params) : FnB (Kf P) (mt 69 1) "GapText.size" .none (vs "emacs.gap" 945) 549 1 [] := ⟨fun s vals hl _ => by obtain ⟨a, rfl⟩ := len1 hl; exact BindsTo.of_eq (by kernel_rfl), by kernel_rfl⟩
theorem k_GapText_code (P : Params) : (Kf P).lookup 557 = some (fobj (mt 69 2) "GapText.code" .none (vs "emacs.gap" 945) 556) := by kernel_rfl
theorem c_GapText_code (P : Params) : codeIn (Kf P) (.ref 556) "GapText.code" = true := by kernel_rfl
theorem b_GapText_code (P : Params) : FnB (Kf P) (mt 69 2) "GapText.code" .none (vs "emacs.gap" 945) 556 2 [] := ⟨fun s vals hl _ => by obtain ⟨a, b, rfl⟩ := len2 hl; exact BindsTo.of_eq (by kernel_rfl), by kernel_rfl⟩
theorem k_GapText_codes (P : Params) : (Kf P).lookup 564 = some (fobj (mt 69 3) "GapText.codes" .none (vs "emacs.gap" 945) 563) := by kernel_rfl
theorem c_GapText_codes (P : Params) : codeIn (Kf P) (.ref 563) "GapText.codes" = true := by kernel_rfl
theorem b_GapText_codes (P : Params) : FnB (Kf P) (mt 69 3) "GapText.codes" .none (vs "emacs.gap" 945) 563 3 [] := ⟨fun s vals hl _ => by obtain ⟨a, b, c, rfl⟩ := len3 hl; exact BindsTo.of_eq (by kernel_rfl), by kernel_rfl⟩
theorem k_GapText_move_gap (P : Params) : (Kf P).lookup 571 = some (fobj (mt 69 4) "GapText.move_gap" .none (vs "emacs.gap" 945) 570) := by kernel_rfl
theorem c_GapText_move_gap (P : Params) : codeIn (Kf P) (.ref 570) "GapText.move_gap" = true := by kernel_rfl
theorem b_GapText_move_gap (P : Params) : FnB (Kf P) (mt 69 4) "GapText.move_gap" .none (vs "emacs.gap" 945) 570 2 [] := ⟨fun s vals hl _ => by obtain ⟨a, b, rfl⟩ := len2 hl; exact BindsTo.of_eq (by kernel_rfl), by kernel_rfl⟩
theorem k_GapText_widen_gap (P : Params) : (Kf P).lookup 578 = some (fobj (mt 69 5) "GapText.widen_gap" .none (vs "emacs.gap" 945) 577) := by kernel_rfl
theorem c_GapText_widen_gap (P : Params) : codeIn (Kf P) (.ref 577) "GapText.widen_gap" = true := by kernel_rfl
theorem b_GapText_widen_gap (P : Params) : FnB (Kf P) (mt 69 5) "GapText.widen_gap" .none (vs "emacs.gap" 945) 577 2 [] := ⟨fun s vals hl _ => by obtain ⟨a, b, rfl⟩ := len2 hl; exact BindsTo.of_eq (by kernel_rfl), by kernel_rfl⟩
theorem k_GapText_insert (P : Params) : (Kf P).lookup 585 = some (fobj (mt 69 6) "GapText.insert" .none (vs "emacs.gap" 945) 584) := by kernel_rfl
theorem c_GapText_insert (P : Params) : codeIn (Kf P) (.ref 584) "GapText.insert" = true := by kernel_rfl
theorem b_GapText_insert (P : Params) : FnB (Kf P) (mt 69 6) "GapText.insert" .none (vs "emacs.gap" 945) 584 3 [] := ⟨fun s vals hl _ => by obtain ⟨a, b, c, rfl⟩ := len3 hl; exact BindsTo.of_eq (by kernel_rfl), by kernel_rfl⟩
theorem k_GapText_delete (P : Params) : (Kf P).lookup 592 = some (fobj (mt 69 7) "GapText.delete" .none (vs "emacs.gap" 945) 591) := by kernel_rfl
theorem c_GapText_delete (P : Params) : codeIn (Kf P) (.ref 591) "GapText.delete" = true := by kernel_rfl
theorem b_GapText_delete (P : Params) : FnB (Kf P) (mt 69 7) "GapText.delete" .none (vs "emacs.gap" 945) 591 3 [] := ⟨fun s vals hl _ => by obtain ⟨a, b, c, rfl⟩ := len3 hl; exact BindsTo.of_eq (by kernel_rfl), by kernel_rfl⟩
theorem k_Markers_init (P : Params) : (Kf P).lookup 634 = some (fobj (mt 71 0) "Markers.__init__" .none (vs "emacs.markers" 1065) 633) := by kernel_rfl
theorem c_Markers_init (P : Params) : codeIn (Kf P) (.ref 633) "Markers.__init__" = true := by kernel_rfl
theorem b_Markers_init (P : Params) : FnB (Kf P) (mt 71 0) "Markers.__init__" .none (vs "emacs.markers" 1065) 633 1 [] := ⟨fun s vals hl _ => by obtain ⟨a, rfl⟩ := len1 hl; exact BindsTo.of_eq (by kernel_rfl), by kernel_rfl⟩
theorem k_Markers_numbers (P : Params) : (Kf P).lookup 641 = some (fobj (mt 71 1) "Markers.numbers" .none (vs "emacs.markers" 1065) 640) := by kernel_rfl
theorem c_Markers_numbers (P : Params) : codeIn (Kf P) (.ref 640) "Markers.numbers" = true := by kernel_rfl
theorem b_Markers_numbers (P : Params) : FnB (Kf P) (mt 71 1) "Markers.numbers" .none (vs "emacs.markers" 1065) 640 1 [] := ⟨fun s vals hl _ => by obtain ⟨a, rfl⟩ := len1 hl; exact BindsTo.of_eq (by kernel_rfl), by kernel_rfl⟩
theorem k_Markers_inserted (P : Params) : (Kf P).lookup 669 = some (fobj (mt 71 5) "Markers.inserted" .none (vs "emacs.markers" 1065) 668) := by kernel_rfl
theorem c_Markers_inserted (P : Params) : codeIn (Kf P) (.ref 668) "Markers.inserted" = true := by kernel_rfl
theorem b_Markers_inserted (P : Params) : FnB (Kf P) (mt 71 5) "Markers.inserted" .none (vs "emacs.markers" 1065) 668 4 [] := ⟨fun s vals hl _ => by obtain ⟨a, b, c, d, rfl⟩ := len4 hl; exact BindsTo.of_eq (by kernel_rfl), by kernel_rfl⟩
theorem k_Markers_replaced (P : Params) : (Kf P).lookup 683 = some (fobj (mt 71 7) "Markers.replaced" .none (vs "emacs.markers" 1065) 682) := by kernel_rfl
theorem c_Markers_replaced (P : Params) : codeIn (Kf P) (.ref 682) "Markers.replaced" = true := by kernel_rfl
theorem b_Markers_replaced (P : Params) : FnB (Kf P) (mt 71 7) "Markers.replaced" .none (vs "emacs.markers" 1065) 682 4 [] := ⟨fun s vals hl _ => by obtain ⟨a, b, c, d, rfl⟩ := len4 hl; exact BindsTo.of_eq (by kernel_rfl), by kernel_rfl⟩
theorem k_Buffer_init (P : Params) : (Kf P).lookup 740 = some (fobj (mt 75 0) "Buffer.__init__" (.ref 733) (vs "emacs.buffer" 1209) 739) := by kernel_rfl
theorem c_Buffer_init (P : Params) : codeIn (Kf P) (.ref 739) "Buffer.__init__" = true := by kernel_rfl
theorem b_Buffer_init3 (P : Params) : FnB (Kf P) (mt 75 0) "Buffer.__init__" (.ref 733) (vs "emacs.buffer" 1209) 739 3 [.int 8 1223] := ⟨fun s vals hl X => by obtain ⟨a, b, c, rfl⟩ := len3 hl; exact binds_K (T := 733) (o := ⟨(.type "tuple"), none, .seq #[(.int 8 1223)] 0, #[]⟩) X rfl (by kernel_rfl) rfl rfl rfl, by kernel_rfl⟩
theorem k_Buffer_begin (P : Params) : (Kf P).lookup 761 = some (fobj (mt 75 3) "Buffer.begin" .none (vs "emacs.buffer" 1209) 760) := by kernel_rfl
theorem c_Buffer_begin (P : Params) : codeIn (Kf P) (.ref 760) "Buffer.begin" = true := by kernel_rfl
theorem b_Buffer_begin (P : Params) : FnB (Kf P) (mt 75 3) "Buffer.begin" .none (vs "emacs.buffer" 1209) 760 1 [] := ⟨fun s vals hl _ => by obtain ⟨a, rfl⟩ := len1 hl; exact BindsTo.of_eq (by kernel_rfl), by kernel_rfl⟩
theorem k_Buffer_end (P : Params) : (Kf P).lookup 768 = some (fobj (mt 75 4) "Buffer.end" .none (vs "emacs.buffer" 1209) 767) := by kernel_rfl
theorem c_Buffer_end (P : Params) : codeIn (Kf P) (.ref 767) "Buffer.end" = true := by kernel_rfl
theorem b_Buffer_end (P : Params) : FnB (Kf P) (mt 75 4) "Buffer.end" .none (vs "emacs.buffer" 1209) 767 1 [] := ⟨fun s vals hl _ => by obtain ⟨a, rfl⟩ := len1 hl; exact BindsTo.of_eq (by kernel_rfl), by kernel_rfl⟩
theorem k_Buffer_size (P : Params) : (Kf P).lookup 775 = some (fobj (mt 75 5) "Buffer.size" .none (vs "emacs.buffer" 1209) 774) := by kernel_rfl
theorem c_Buffer_size (P : Params) : codeIn (Kf P) (.ref 774) "Buffer.size" = true := by kernel_rfl
theorem b_Buffer_size (P : Params) : FnB (Kf P) (mt 75 5) "Buffer.size" .none (vs "emacs.buffer" 1209) 774 1 [] := ⟨fun s vals hl _ => by obtain ⟨a, rfl⟩ := len1 hl; exact BindsTo.of_eq (by kernel_rfl), by kernel_rfl⟩
theorem k_Buffer_code_at (P : Params) : (Kf P).lookup 782 = some (fobj (mt 75 6) "Buffer.code_at" .none (vs "emacs.buffer" 1209) 781) := by kernel_rfl
theorem c_Buffer_code_at (P : Params) : codeIn (Kf P) (.ref 781) "Buffer.code_at" = true := by kernel_rfl
theorem b_Buffer_code_at (P : Params) : FnB (Kf P) (mt 75 6) "Buffer.code_at" .none (vs "emacs.buffer" 1209) 781 2 [] := ⟨fun s vals hl _ => by obtain ⟨a, b, rfl⟩ := len2 hl; exact BindsTo.of_eq (by kernel_rfl), by kernel_rfl⟩
theorem k_Buffer_codes (P : Params) : (Kf P).lookup 789 = some (fobj (mt 75 7) "Buffer.codes" .none (vs "emacs.buffer" 1209) 788) := by kernel_rfl
theorem c_Buffer_codes (P : Params) : codeIn (Kf P) (.ref 788) "Buffer.codes" = true := by kernel_rfl
theorem b_Buffer_codes (P : Params) : FnB (Kf P) (mt 75 7) "Buffer.codes" .none (vs "emacs.buffer" 1209) 788 3 [] := ⟨fun s vals hl _ => by obtain ⟨a, b, c, rfl⟩ := len3 hl; exact BindsTo.of_eq (by kernel_rfl), by kernel_rfl⟩
theorem k_Buffer_goto (P : Params) : (Kf P).lookup 796 = some (fobj (mt 75 8) "Buffer.goto" .none (vs "emacs.buffer" 1209) 795) := by kernel_rfl
theorem c_Buffer_goto (P : Params) : codeIn (Kf P) (.ref 795) "Buffer.goto" = true := by kernel_rfl
theorem b_Buffer_goto (P : Params) : FnB (Kf P) (mt 75 8) "Buffer.goto" .none (vs "emacs.buffer" 1209) 795 2 [] := ⟨fun s vals hl _ => by obtain ⟨a, b, rfl⟩ := len2 hl; exact BindsTo.of_eq (by kernel_rfl), by kernel_rfl⟩
theorem k_Buffer_touch (P : Params) : (Kf P).lookup 824 = some (fobj (mt 75 12) "Buffer.touch" .none (vs "emacs.buffer" 1209) 823) := by kernel_rfl
theorem c_Buffer_touch (P : Params) : codeIn (Kf P) (.ref 823) "Buffer.touch" = true := by kernel_rfl
theorem b_Buffer_touch (P : Params) : FnB (Kf P) (mt 75 12) "Buffer.touch" .none (vs "emacs.buffer" 1209) 823 2 [] := ⟨fun s vals hl _ => by obtain ⟨a, b, rfl⟩ := len2 hl; exact BindsTo.of_eq (by kernel_rfl), by kernel_rfl⟩
theorem k_law_draw (P : Params) : (Kf P).lookup 836 = some (fobj (tp 77) "_law_draw" .none (vs "law_oj0034_01" 1348) 835) := by kernel_rfl
theorem c_law_draw (P : Params) : codeIn (Kf P) (.ref 835) "_law_draw" = true := by kernel_rfl
theorem b_law_draw (P : Params) : FnB (Kf P) (tp 77) "_law_draw" .none (vs "law_oj0034_01" 1348) 835 2 [] := ⟨fun s vals hl _ => by obtain ⟨a, b, rfl⟩ := len2 hl; exact BindsTo.of_eq (by kernel_rfl), by kernel_rfl⟩
theorem k_law_codes (P : Params) : (Kf P).lookup 841 = some (fobj (tp 78) "_law_codes" .none (vs "law_oj0034_01" 1348) 840) := by kernel_rfl
theorem c_law_codes (P : Params) : codeIn (Kf P) (.ref 840) "_law_codes" = true := by kernel_rfl
theorem b_law_codes (P : Params) : FnB (Kf P) (tp 78) "_law_codes" .none (vs "law_oj0034_01" 1348) 840 1 [] := ⟨fun s vals hl _ => by obtain ⟨a, rfl⟩ := len1 hl; exact BindsTo.of_eq (by kernel_rfl), by kernel_rfl⟩
theorem k_law_tables (P : Params) : (Kf P).lookup 848 = some (fobj (tp 79) "_law_tables" .none (vs "law_oj0034_01" 1348) 847) := by kernel_rfl
theorem c_law_tables (P : Params) : codeIn (Kf P) (.ref 847) "_law_tables" = true := by kernel_rfl
theorem b_law_tables (P : Params) : FnB (Kf P) (tp 79) "_law_tables" .none (vs "law_oj0034_01" 1348) 847 1 [] := ⟨fun s vals hl _ => by obtain ⟨a, rfl⟩ := len1 hl; exact BindsTo.of_eq (by kernel_rfl), by kernel_rfl⟩
theorem k_law_due (P : Params) : (Kf P).lookup 855 = some (fobj (tp 80) "_law_due" .none (vs "law_oj0034_01" 1348) 854) := by kernel_rfl
theorem c_law_due (P : Params) : codeIn (Kf P) (.ref 854) "_law_due" = true := by kernel_rfl
theorem b_law_due (P : Params) : FnB (Kf P) (tp 80) "_law_due" .none (vs "law_oj0034_01" 1348) 854 2 [] := ⟨fun s vals hl _ => by obtain ⟨a, b, rfl⟩ := len2 hl; exact BindsTo.of_eq (by kernel_rfl), by kernel_rfl⟩
theorem k_law_word (P : Params) : (Kf P).lookup 867 = some (fobj (tp 82) "_law_word" .none (vs "law_oj0034_01" 1348) 866) := by kernel_rfl
theorem c_law_word (P : Params) : codeIn (Kf P) (.ref 866) "_law_word" = true := by kernel_rfl
theorem b_law_word (P : Params) : FnB (Kf P) (tp 82) "_law_word" .none (vs "law_oj0034_01" 1348) 866 2 [] := ⟨fun s vals hl _ => by obtain ⟨a, b, rfl⟩ := len2 hl; exact BindsTo.of_eq (by kernel_rfl), by kernel_rfl⟩
theorem k_law_put (P : Params) : (Kf P).lookup 874 = some (fobj (tp 83) "_law_put" .none (vs "law_oj0034_01" 1348) 873) := by kernel_rfl
theorem c_law_put (P : Params) : codeIn (Kf P) (.ref 873) "_law_put" = true := by kernel_rfl
theorem b_law_put (P : Params) : FnB (Kf P) (tp 83) "_law_put" .none (vs "law_oj0034_01" 1348) 873 3 [] := ⟨fun s vals hl _ => by obtain ⟨a, b, c, rfl⟩ := len3 hl; exact BindsTo.of_eq (by kernel_rfl), by kernel_rfl⟩
theorem k_law_all_put (P : Params) : (Kf P).lookup 881 = some (fobj (tp 84) "_law_all_put" .none (vs "law_oj0034_01" 1348) 880) := by kernel_rfl
theorem c_law_all_put (P : Params) : codeIn (Kf P) (.ref 880) "_law_all_put" = true := by kernel_rfl
theorem b_law_all_put (P : Params) : FnB (Kf P) (tp 84) "_law_all_put" .none (vs "law_oj0034_01" 1348) 880 4 [] := ⟨fun s vals hl _ => by obtain ⟨a, b, c, d, rfl⟩ := len4 hl; exact BindsTo.of_eq (by kernel_rfl), by kernel_rfl⟩
theorem k_law_held (P : Params) : (Kf P).lookup 886 = some (fobj (tp 85) "_law_held" .none (vs "law_oj0034_01" 1348) 885) := by kernel_rfl
theorem c_law_held (P : Params) : codeIn (Kf P) (.ref 885) "_law_held" = true := by kernel_rfl
theorem b_law_held (P : Params) : FnB (Kf P) (tp 85) "_law_held" .none (vs "law_oj0034_01" 1348) 885 1 [] := ⟨fun s vals hl _ => by obtain ⟨a, rfl⟩ := len1 hl; exact BindsTo.of_eq (by kernel_rfl), by kernel_rfl⟩
end Mine

end

section
set_option Elab.async false
set_option linter.all false
set_option maxRecDepth 100000
set_option compiler.extract_closed false
namespace Mine
variable {S : Sta} {E : ES} {n : Nat} {F F' : List (Option AV)} {H H' : AH} {Q : AV → AH → Prop} {QN : List (Option AV) → AH → Prop} {QX : AFl → List (Option AV) → AH → Prop}

noncomputable def clsB (K : Frag) (C : Addr) (ns : List Str) : Bool :=
  plainGet K C "" && hasDictIn K C && findIn K (.ref C) "__setattr__" == some (some (.builtin "object.__setattr__")) && plainOver K C && (ns.all fun x => findIn K (.ref C) x == some none) && ndS ns
structure Cls (K : Frag) (C : Addr) (ns : List Str) : Prop where
  get : ∀ x, plainGet K C x = true
  dict : hasDictIn K C = true
  set : findIn K (.ref C) "__setattr__" = some (some (.builtin "object.__setattr__"))
  over : plainOver K C = true
  none : ∀ x ∈ ns, findIn K (.ref C) x = some Option.none
theorem cls_of {K : Frag} {C : Addr} {ns : List Str} (h : clsB K C ns = true) : Cls K C ns := by
  simp only [clsB, Bool.and_eq_true, beq_iff_eq, List.all_eq_true] at h
  obtain ⟨⟨⟨⟨⟨a, b⟩, c⟩, d⟩, e⟩, _⟩ := h
  exact ⟨fun x => a, b, c, d, e⟩

theorem lookS_some {ns vals es x w} (r : RecR ns vals es) (g : RGet x w ns vals) : ∃ v, lookS x es = some v ∧ ab v = w := by
  have := r.look x
  rw [g.vget r.nd] at this
  exact Option.map_eq_some_iff.mp this
theorem handed_ab {v : Value} {w : AV} (e : ab v = w) (hw : ∀ u, w ≠ .other u) : handedIn v = true := by
  cases v <;> first | rfl | (exfalso; exact hw _ e.symm)
noncomputable def AV.plain : AV → Bool
  | .other _ => false
  | _ => true
theorem plain_ne {w : AV} (h : w.plain = true) : ∀ u, w ≠ .other u := fun u e => by rw [e] at h; cases h
theorem inst_at {stk : List Fm} {s : Shared} (st : St S stk H s) {a C dx : Addr} {k : Nat} {ns : List Str} {vals : List (Option AV)} (h1 : H a = some (.inst C dx)) (h2 : H dx = some (.rcd k ns vals)) :
    ∃ es m, InstAt s.heap a (instObj C dx) C (some (dictOf es m)) ∧ s.heap.get? dx = some (dictOf es m) ∧ RecR ns vals es := by
  obtain ⟨_, o1, e1, r1⟩ := st.heap _ _ h1
  obtain ⟨_, o2, e2, es, m, r2, r⟩ := st.heap _ _ h2
  rw [show o1 = instObj C dx from r1] at e1
  subst r2
  exact ⟨es, m, ⟨e1, rfl, rfl, e2⟩, e2, r⟩
/-- an own field -/
theorem getAttr_own {stk : List Fm} {s : Shared} {A : Around} {ex : Bool} {R : Value → Shared → Prop} (st : St S stk H s) {a C dx : Addr} {k : Nat} {ns : List Str} {vals : List (Option AV)} {x : Str} {w : AV} (h1 : H a = some (.inst C dx)) (h2 : H dx = some (.rcd k ns vals))
    (c : Cls S.K C ns) (g : RGet x w ns vals) (hp : w.plain = true) (h : ∀ v, ab v = w → R v { s with toks := s.toks + 1 }) : wpAny S.M A (getAttr (.ref a) x ex) R Nope s := by
  obtain ⟨es, m, I, _, r⟩ := inst_at st h1 h2
  obtain ⟨v, e1, e2⟩ := lookS_some r g
  have hl : getL x es = some (some v) := by rw [r.getL, e1]
  exact get_value (S.X.keeps st.keep) I (plainGet_of (c.get x)).1 (findObj_own c.dict (c.none x g.mem) rfl hl) (handed_ab e2 (plain_ne hp)) (h v e2)
theorem attr_node {prog : Program} {w : World} {A : Around} {o : Expr} {x : Str} {pos : Pos} {env : Env} {R : Value → Shared → Prop} {Ex : Value → Shared → Prop} {s : Shared} (hb : ∀ m, attributeBase o x env m = m)
    (h : wpAny (model prog w) A (eval o env) (fun ov s₁ => wpAny (model prog w) A (getAttr ov x true) R Ex s₁) Ex s) : wpAny (model prog w) A (eval (.Attribute o x pos) env) R Ex s :=
  Attribute_any_ h (by rw [arm_eval_Attribute, hb])
inductive AttrK (S : Sta) (x : Str) (Q : AV → AH → Prop) (v : AV) (H : AH) : Prop
  | mk (a C dx : Addr) (k : Nat) (ns : List Str) (vals : List (Option AV)) (w : AV) (e : v = .ref a) (h1 : H a = some (.inst C dx)) (h2 : H dx = some (.rcd k ns vals)) (c : clsB S.K C ns = true) (g : RGet x w ns vals) (hp : w.plain = true) (q : Q w H)
inductive AsB (S : Sta) (x : Str) (QN : List (Option AV) → AH → Prop) (F : List (Option AV)) (v ov : AV) (H : AH) : Prop
  | mk (a C dx : Addr) (k : Nat) (ns : List Str) (vals vals' : List (Option AV)) (e : ov = .ref a) (h1 : H a = some (.inst C dx)) (h2 : H dx = some (.rcd k ns vals)) (c : clsB S.K C ns = true) (p : RPut x v ns vals vals') (q : QN F (H.upd dx (.rcd k ns vals')))
theorem ew_attr {o : Expr} {x : Str} {pos : Pos} (h : EW S E n o (AttrK S x Q) F H)
    (hb : ∀ env m, attributeBase o x env m = m) : EW S E n (.Attribute o x pos) Q F H :=
  fun A env L stk s rm ev st => attr_node (hb env) (wpAny_mono (h A env L stk s rm ev st) (fun v s₁ ⟨H₁, st₁, hk⟩ => by
    obtain ⟨a, C, dx, k, ns, vals, w, e, h1, h2, c, g, hp, q⟩ := hk
    rw [ab_ref e]
    exact getAttr_own st₁ h1 h2 (cls_of c) g hp fun v' e' => ⟨H₁, st₁.tok, by rw [e']; exact q⟩) fun _ _ x => x)

theorem others (h : Heap) (L d : Addr) {od : Obj} (hd : h.get? d = some od) (hL : d ≠ L) : ∃ pre : List (Addr × Obj), News {} L h (pre ++ (d, od) :: []) ∧ (∀ p ∈ pre, p.1 ≠ d) ∧ ∀ b o, b ≠ L → b ≠ d → h.get? b = some o → (b, o) ∈ pre := by
  refine ⟨(List.range h.objs.size).filterMap fun b => if b = L ∨ b = d then none else (h.get? b).map fun o => (b, o), fun p hp => ?_, fun p hp => ?_, fun b o h1 h2 e => ?_⟩
  · have he : (({} : Heap).get? p.1) = none := by
      cases q : ({} : Heap).get? p.1 with
      | none => rfl
      | some o => exact absurd (Heap.lt_size q) (Nat.not_lt_zero _)
    rcases List.mem_append.mp hp with hp | hp
    · obtain ⟨b, hb, e⟩ := List.mem_filterMap.mp hp
      split at e
      · cases e
      · rename_i hn
        obtain ⟨o, ho, rfl⟩ := Option.map_eq_some_iff.mp e
        exact ⟨ho, fun q => hn (.inl q), he⟩
    · rcases List.mem_cons.mp hp with rfl | hp
      · exact ⟨hd, hL, he⟩
      · cases hp
  · obtain ⟨b, hb, e⟩ := List.mem_filterMap.mp hp
    split at e
    · cases e
    · rename_i hn
      obtain ⟨o, ho, rfl⟩ := Option.map_eq_some_iff.mp e
      exact fun q => hn (.inr q)
  · refine List.mem_filterMap.mpr ⟨b, List.mem_range.mpr (Heap.lt_size e), ?_⟩
    rw [if_neg (by rintro (q | q) <;> contradiction), e]; rfl
theorem putN_eq {name : Str} {es : List DictEntry} {m : Nat} : ∃ k, putN name es m = k := ⟨_, rfl⟩
/-- a field stored -/
theorem setAttr_own {L : Addr} {nsF : List (Str × NameKind)} {stk : List Fm} {s : Shared} {A : Around} {R : Unit → Shared → Prop} (st : St S (.fr L nsF F :: stk) H s) {a C dx : Addr} {k : Nat} {ns : List Str} {vals vals' : List (Option AV)} {x : Str} {v : Value} (h1 : H a = some (.inst C dx)) (h2 : H dx = some (.rcd k ns vals))
    (c : Cls S.K C ns) (p : RPut x (ab v) ns vals vals') (h : ∀ s', St S (.fr L nsF F :: stk) (H.upd dx (.rcd k ns vals')) s' → R () s') : wpAny S.M A (setAttr (.ref a) x v) R Nope s := by
  obtain ⟨es, m, I, hdx, r⟩ := inst_at st h1 h2
  obtain ⟨_, hHL, mm, hn, hm⟩ := st.sk _ (.head _)
  have hL : dx ≠ L := fun e => by rw [e] at h2; exact absurd (hHL.symm.trans h2) (by simp)
  obtain ⟨pre, N, hpre, hall⟩ := others s.heap L dx hdx hL
  have F0 : Fr {} L s.heap mm := ⟨hn, fun b o e => absurd (Heap.lt_size e) (Nat.not_lt_zero _), Nat.zero_le _⟩
  have X := S.X.keeps st.keep
  have hlen : (putL x (PyData.keyHash S.w.params x) (.str x (s.toks + 1)) v es).length ≤ 1000 := by
    have r' := r.put (v := v) p (PyData.keyHash S.w.params x) (s.toks + 1)
    rw [r'.len]
    have := nsome_le vals'
    have := r'.small
    omega
  refine set_plain X I c.set (osa_dict (s := { s with toks := s.toks + 1 }) (od' := dictOf (putL x (PyData.keyHash S.w.params x) (.str x (s.toks + 1)) v es) (putN x es m)) (es := putL x (PyData.keyHash S.w.params x) (.str x (s.toks + 1)) v es) (n := putN x es m) (post := []) F0 N X I rfl c.over ?_ c.dict ?_ hpre (fun _ hp => nomatch hp)
    (by rw [putName_dict]) rfl hlen fun h' F1 N1 => ?_)
  · unfold takerIn; rw [c.none x p.mem]; rfl
  · show (getL x es).isSome = true; rw [r.getL]; rfl
  · refine h _ ?_
    have hk : ∀ b o, b ≠ dx → b ≠ L → s.heap.get? b = some o → h'.get? b = some o := fun b o hb hbL e => (N1 _ (List.mem_append_left _ (hall b o hbL hb e))).1
    have hd' : h'.get? dx = some (dictOf (putL x (PyData.keyHash S.w.params x) (.str x (s.toks + 1)) v es) (putN x es m)) := (N1 (dx, _) (List.mem_append_right _ (.head _))).1
    obtain ⟨k1, k2, k3, k4, k5, k6⟩ := st
    refine ⟨fun b o e => hk b o (fun q => ?_) (fun q => ?_) (k1 b o e), fun q hq => ?_, k3, fun b o e => ?_, k5, k6⟩
    · have := (k4 _ _ h2).1; rw [q, this] at e; cases e
    · have := (k2 _ (.head _)).1; rw [q] at e; exact absurd (this.symm.trans e) (by simp)
    · rcases List.mem_cons.mp hq with rfl | hq'
      · exact ⟨(k2 _ (.head _)).1, (AH.upd_ne (Ne.symm hL)).trans hHL, mm, F1.ns, hm⟩
      · obtain ⟨z1, z2, z3⟩ := k2 q hq
        have n1 : q.addr ≠ dx := fun e => by rw [e, h2] at z2; cases z2
        have n2 : q.addr ≠ L := fun e => (List.nodup_cons.mp k3).1 (by have z := List.mem_map_of_mem (f := Fm.addr) hq'; rw [e] at z; exact z)
        refine ⟨z1, by rw [AH.upd_ne n1]; exact z2, ?_⟩
        cases q with
        | fr L' ns' F' => obtain ⟨m', hn', hm'⟩ := z3; exact ⟨m', let ⟨o, a1, a2, b1, b2⟩ := hn'; ⟨o, a1, a2, hk _ _ n1 n2 b1, b2⟩, hm'⟩
        | ob b o => exact hk _ _ n1 n2 z3
    · by_cases q : b = dx
      · subst q; rw [AH.upd_self] at e; cases e
        exact ⟨(k4 _ _ h2).1, _, hd', _, _, rfl, r.put p _ _⟩
      · rw [AH.upd_ne q] at e
        obtain ⟨x1, ob, y, z⟩ := k4 b o e
        exact ⟨x1, ob, hk _ _ q (fun w => by rw [w] at e; exact absurd (hHL.symm.trans e) (by simp)) y, z⟩
theorem xw_assign_attr {o : Expr} {x : Str} {p' pos : Pos} {value : Expr} (h : EW S E n value (fun v H => EW S E n o (AsB S x QN F v) F H) F H)
    (hs : ∀ env, swapsWith value (some (.Attribute o x p')) pos.line env = pure false) : XW S E n (.Assign [.Attribute o x p'] value pos) QN QX F H :=
  fun A env L stk s rm ev st => plainObj_wpAny_Assign_Attribute (wpAny_mono (h A env L stk s rm ev st) (fun v s₁ ⟨H₁, st₁, h₁⟩ => wpAny_mono (h₁ A env L stk s₁ rm ev st₁) (fun ov s₂ ⟨H₂, st₂, hk⟩ => by
    obtain ⟨a, C, dx, k, ns, vals, vals', e, h1, h2, c, p, q⟩ := hk
    rw [ab_ref e]
    exact setAttr_own st₂ h1 h2 (cls_of c) p fun s' st' => ⟨F, _, st', q⟩) fun _ _ x => x) fun _ _ x => x) (hs env)

/-- a method of the class's -/
noncomputable def mthB (K : Frag) (C : Addr) (x : Str) (f : Addr) (ns : List Str) : Bool := findIn K (.ref C) x == some (some (.ref f)) && isFn K (.ref f) && !(ns.any fun y => Nat.beq (scode y) (scode x)) && keepIn K (.ref f)
theorem vget_none {x : Str} : ∀ {ns : List Str} {vals : List (Option AV)}, x ∉ ns → vget x ns vals = none
  | [], _, _ => by simp [vget]
  | n :: ns, [], _ => by simp [vget]
  | n :: ns, v :: vs, h => by
    have : x ≠ n := fun e => h (e ▸ .head _)
    simp only [vget, if_neg this]
    exact vget_none fun e => h (.tail _ e)
@[reducible] noncomputable def MethB (S : Sta) (n : Nat) (f : Addr) (Q : AV → AH → Prop) (a : Addr) (vs : List AV) (H : AH) : Prop := CW S (.ref f) n (.ref a :: vs) Q H
inductive MethK (S : Sta) (E : ES) (n : Nat) (es : List Expr) (x : Str) (Q : AV → AH → Prop) (F : List (Option AV)) (v : AV) (H : AH) : Prop
  | mk (a C dx : Addr) (k : Nat) (ns : List Str) (vals : List (Option AV)) (f : Addr) (e : v = .ref a) (h1 : H a = some (.inst C dx)) (h2 : H dx = some (.rcd k ns vals)) (c : clsB S.K C ns = true) (m : mthB S.K C x f ns = true) (h₁ : EWs S E n es (MethB S n f Q a) F H)
theorem ew_meth {o : Expr} {x : Str} {apos pos : Pos} {args : List Expr} (h : EW S E n o (MethK S E n args x Q F) F H)
    (hc : ∀ env, ∃ pl, eval (.Call (.Attribute o x apos) args [] pos) env = (do
      let ov ← eval o env
      standAt apos.atName
      let (f, first) ← holding [ov] (getMethod ov x pl)
      callWith pos f first (backTo pos (starEach args env)) (backToKw pos (keywordEach [] env))))
    (hpl : ∀ env pos, (backTo pos (starEach args env)).any (·.1) = false) (hlen : ∀ env, starEach args env = [] ∨ ∃ e' t, starEach args env = (false, e') :: t) :
    EW S E n (.Call (.Attribute o x apos) args [] pos) Q F H :=
  fun A env L stk s rm ev st => by
    obtain ⟨pl, hc⟩ := hc env
    refine methodCall_KW (pl := pl) (wpAny_mono (h A env L stk s rm ev st) (fun v s₁ ⟨H₁, st₁, hk⟩ => ?_) fun _ _ x => x) hc
    obtain ⟨a, C, dx, k, ns, vals, f, e, h1, h2, c, m, h₁⟩ := hk
    rw [ab_ref e]
    obtain ⟨es, mm, I, _, r⟩ := inst_at st₁ h1 h2
    have X := S.X.keeps st₁.keep
    simp only [mthB, Bool.and_eq_true, beq_iff_eq, Bool.not_eq_true'] at m
    obtain ⟨⟨⟨m1, m2⟩, m3⟩, m4⟩ := m
    have hx : x ∉ ns := fun hx => by
      have := List.any_eq_false.mp m3 x hx
      exact this (Nat.beq_refl _)
    have hl : getL x es = some none := by
      have := r.look x
      rw [vget_none hx] at this
      rw [r.getL, Option.map_eq_none_iff.mp this]
    refine method_fn X I (plainGet_of ((cls_of c).get x)).1 (plainGet_of ((cls_of c).get x)).2 m1 (beq_iff_eq.mp m2) (by show (lookIn x (dictOf es mm)).map _ = _; rw [lookIn_dict, hl]; rfl) ?_
    refine callWith_of (P := fun h => S.K.In h) (by rw [hpl]; rfl) (keeps_K m4) ?_
    have := wpAny_mono (h₁ A env L stk s₁ pos rm ev st₁) (Q' := fun vs s' => S.K.In s'.heap ∧ wpAny S.M A (call (.ref f) ([.ref a] ++ vs) []) (fun v s'' => ∃ H', St S (.fr L E.sc.names F :: stk) H' s'' ∧ Q (ab v) H') Nope s')
      (fun vs s₁ ⟨H₁, st₁, h₁⟩ => ⟨S.X.keeps st₁.keep, h₁.call (vals := .ref a :: vs) rm rfl st₁⟩) (fun _ _ x => x)
    rcases hlen env with q | ⟨e', t, q⟩
    · rw [q] at this ⊢
      exact evalArgs_nil3 (show S.K.In s₁.heap ∧ _ from by
        refine ⟨X, ?_⟩
        have z := h₁ A env L stk s₁ pos rm ev st₁
        rw [q] at z
        intro Γ pp hΓ
        obtain ⟨H₂, st₂, h₂⟩ := z Γ pp hΓ
        exact h₂.call (vals := [.ref a]) rm rfl st₂ Γ pp hΓ)
    · rw [q] at this ⊢
      exact evalArgs_plain this
/-- a class called: a new object, its own __init__ -/
theorem cw_cls {C fI : Addr} {args : List AV} (hm : makesIn S.K C = true) (hi : findIn S.K (.ref C) "__init__" = some (some (.ref fI))) (hf : isFn S.K (.ref fI) = true) (k : Nat) (ns : List Str) (hns : ndS ns = true) (hsm : ns.length ≤ 100)
    (h : ∀ x dx, H x = none → H dx = none → x ≠ dx → CW S (.ref fI) n (.ref x :: args) (fun v H => v = .none ∧ Q (.ref x) H) ((H.upd dx (.rcd k ns (List.replicate ns.length none))).upd x (.inst C dx))) :
    CW S (.ref C) (n + 1) args Q H := fun A stk s vals rm hv st => by
  have hN : News {} (s.heap.objs.size + 5) s.heap [] := News.nil
  have sz := size_none s.heap
  obtain ⟨hh, g, d, t, os⟩ := s
  dsimp only at sz
  have X := S.X.keeps st.keep
  refine (make_core (makes_of X hm) (looks_findIn X hi) (fun self => bind_fn X self (beq_iff_eq.mp hf)) (.inl rfl) ?_)
  have st1 := st.push (t := t) (o := .rcd k ns (List.replicate ns.length none)) (ob := emptyDict) ⟨[], 0, rfl, ndS_nodup hns, (fun _ h => nomatch h), by simp [nsome], by simpa using hsm, fun x => by
      have key : ∀ ns : List Str, vget x ns (List.replicate ns.length none) = none := fun ns => by
        induction ns with
        | nil => simp [vget]
        | cons a l ih => simp only [List.length_cons, List.replicate_succ, vget, ih]; split <;> rfl
      rw [key]; rfl⟩ rfl
  have st2 := st1.push (t := t) (o := .inst C hh.objs.size) (ob := instObj C hh.objs.size) rfl rfl
  dsimp only at st1 st2
  have hsz : (hh.push emptyDict).objs.size = hh.objs.size + 1 := Heap.size_push ..
  have hn1 : hh.get? (hh.objs.size + 1) = none := by
    cases q : hh.get? (hh.objs.size + 1) with
    | none => rfl
    | some o => exact absurd (Heap.lt_size q) (Nat.not_lt.mpr (Nat.le_succ _))
  rw [hsz] at st2
  have fx := st.fresh_H (a := hh.objs.size + 1) hn1
  have fd := st.fresh_H (a := hh.objs.size) sz
  have rm2 : Room n (A.under (.builtin "type.__call__" ⟨.ref C :: vals, []⟩)) := by
    obtain ⟨r1, r2, r3⟩ := rm
    refine ⟨r1, ?_, ?_⟩
    · rw [depth_under_make]; omega
    · rw [units_under_make]; omega
  have z := h (hh.objs.size + 1) hh.objs.size fx fd (Nat.succ_ne_self _) _ stk _ (.ref (hh.objs.size + 1) :: vals) rm2 (by rw [List.map_cons, hv]; rfl) st2
  refine codeAny_mono z fun r s' ⟨v, H', e, a, b, c⟩ => ?_
  subst e
  have := ab_none b
  subst this
  exact ⟨rfl, _, _, rfl, a, c⟩
end Mine

end

section
set_option Elab.async false
set_option linter.all false
set_option maxRecDepth 100000
set_option compiler.extract_closed false
namespace Mine
variable {S : Sta} {E : ES} {n : Nat} {F F' : List (Option AV)} {H H' : AH} {Q : AV → AH → Prop} {QN : List (Option AV) → AH → Prop} {QX : AFl → List (Option AV) → AH → Prop}

/-- the library's frame and ledger over a state of ours, and back -/
theorem St.FN {L : Addr} {ns : List (Str × NameKind)} {G : List (Option AV)} {stk : List Fm} {s : Shared} (st : St S (.fr L ns G :: stk) H s) :
    ∃ m news, Fr {} L s.heap m ∧ News {} L s.heap news ∧ ∀ h' extra t H', Fr {} L h' m → News {} L h' (extra ++ news) →
      (∀ a o, H' a = some o → H a = some o ∨ (s.heap.get? a = none ∧ ∃ ob, (a, ob) ∈ extra ∧ OR S.w a o ob)) → St S (.fr L ns G :: stk) H' { s with heap := h', toks := t } := by
  obtain ⟨_, hHL, mm, hn, hm⟩ := st.sk _ (.head _)
  have F0 : Fr {} L s.heap mm := ⟨hn, fun b o e => absurd (Heap.lt_size e) (Nat.not_lt_zero _), Nat.zero_le _⟩
  have he : ∀ a, (({} : Heap).get? a) = none := fun a => by
      cases q : ({} : Heap).get? a with
      | none => rfl
      | some o => exact absurd (Heap.lt_size q) (Nat.not_lt_zero _)
  have N : ∃ news, News {} L s.heap news ∧ ∀ b o, b ≠ L → s.heap.get? b = some o → (b, o) ∈ news := by
    refine ⟨(List.range s.heap.objs.size).filterMap fun b => if b = L then none else (s.heap.get? b).map fun o => (b, o), fun p hp => ?_, fun b o h1 e => ?_⟩
    · obtain ⟨b, hb, e⟩ := List.mem_filterMap.mp hp
      split at e
      · cases e
      · rename_i hn
        obtain ⟨o, ho, rfl⟩ := Option.map_eq_some_iff.mp e
        exact ⟨ho, hn, he _⟩
    · refine List.mem_filterMap.mpr ⟨b, List.mem_range.mpr (Heap.lt_size e), ?_⟩
      rw [if_neg h1, e]; rfl
  obtain ⟨news, N, hall⟩ := N
  refine ⟨mm, news, F0, N, fun h' extra t H' F1 N1 hH => ?_⟩
  have hk : ∀ b o, b ≠ L → s.heap.get? b = some o → h'.get? b = some o := fun b o hb e => (N1 _ (List.mem_append_right _ (hall b o hb e))).1
  obtain ⟨k1, k2, k3, k4, k5, k6⟩ := st
  refine ⟨fun b o e => hk b o (fun q => ?_) (k1 b o e), fun q hq => ?_, k3, fun b o e => ?_, k5, k6⟩
  · have := (k2 _ (.head _)).1; rw [q] at e; exact absurd (this.symm.trans e) (by simp)
  · have hH' : H' q.addr = none := by
      cases z : H' q.addr with
      | none => rfl
      | some o => rcases hH _ _ z with z | ⟨z, _⟩
                  · have := (k2 q hq).2.1; rw [this] at z; exact absurd z (by simp)
                  · obtain ⟨o', ho'⟩ := Fm.at_some (k2 q hq).2.2; rw [ho'] at z; exact absurd z (by simp)
    rcases List.mem_cons.mp hq with rfl | hq'
    · exact ⟨(k2 _ (.head _)).1, hH', mm, F1.ns, hm⟩
    · obtain ⟨z1, z2, z3⟩ := k2 q hq
      have n2 : q.addr ≠ L := fun e => (List.nodup_cons.mp k3).1 (by have z := List.mem_map_of_mem (f := Fm.addr) hq'; rw [e] at z; exact z)
      refine ⟨z1, hH', ?_⟩
      cases q with
      | fr L' ns' F' => obtain ⟨m', hn', hm'⟩ := z3; exact ⟨m', let ⟨o, a1, a2, b1, b2⟩ := hn'; ⟨o, a1, a2, hk _ _ n2 b1, b2⟩, hm'⟩
      | ob b o => exact hk _ _ n2 z3
  · rcases hH b o e with e | ⟨e1, ob, e2, e3⟩
    · obtain ⟨x1, ob, y, z⟩ := k4 b o e
      exact ⟨x1, ob, hk _ _ (fun w => by rw [w] at e; exact absurd (hHL.symm.trans e) (by simp)) y, z⟩
    · refine ⟨?_, ob, (N1 _ (List.mem_append_left _ e2)).1, e3⟩
      cases q : S.h₀.get? b with
      | none => rfl
      | some o' => have := k1 _ _ q; rw [e1] at this; cases this
theorem upd_cases {a : Addr} {o : AO} {P : Addr → AO → Prop} (h : P a o) : ∀ b o', (H.upd a o) b = some o' → H b = some o' ∨ P b o' := fun b o' e => by
  by_cases q : b = a
  · subst q; rw [AH.upd_self] at e; cases e; exact .inr h
  · rw [AH.upd_ne q] at e; exact .inl e

variable {a b : Int}
theorem ow_add (h : Q (.int (a + b)) H) : OW S (binaryOp .Add) n (.int a) (.int b) Q H := fun A L ns G stk s u v _ hu hv st => by
  obtain ⟨t, rfl⟩ := ab_int hu; obtain ⟨t', rfl⟩ := ab_int hv; exact add_int ⟨H, st.tok, h⟩
theorem ow_sub (h : Q (.int (a - b)) H) : OW S (binaryOp .Sub) n (.int a) (.int b) Q H := fun A L ns G stk s u v _ hu hv st => by
  obtain ⟨t, rfl⟩ := ab_int hu; obtain ⟨t', rfl⟩ := ab_int hv; exact PyProof.Rows.sub_int ⟨H, st.tok, h⟩
theorem ow_mul (hm : IntMulOk a b) (h : Q (.int (a * b)) H) : OW S (binaryOp .Mult) n (.int a) (.int b) Q H := fun A L ns G stk s u v _ hu hv st => by
  obtain ⟨t, rfl⟩ := ab_int hu; obtain ⟨t', rfl⟩ := ab_int hv; exact PyProof.Rows.mul_int ⟨H, st.tok, h⟩ hm
theorem ow_mod (hb : b ≠ 0) (h : Q (.int (a.fmod b)) H) : OW S (binaryOp .Mod) n (.int a) (.int b) Q H := fun A L ns G stk s u v _ hu hv st => by
  obtain ⟨t, rfl⟩ := ab_int hu; obtain ⟨t', rfl⟩ := ab_int hv; exact mod_int' hb ⟨H, st.tok, h⟩
theorem ow_fdiv (hb : b ≠ 0) (hs : b.natAbs < 1073741824) (h : Q (.int (a.fdiv b)) H) : OW S (binaryOp .FloorDiv) n (.int a) (.int b) Q H := fun A L ns G stk s u v _ hu hv st => by
  obtain ⟨t, rfl⟩ := ab_int hu; obtain ⟨t', rfl⟩ := ab_int hv; exact floordiv_int hb ⟨H, st.tok, h⟩ (.inl (PyProof.noPylong_small hs))
theorem ow_lt (h : Q (.bool (decide (a < b))) H) : OW S (compareOp .Lt) n (.int a) (.int b) Q H := fun A L ns G stk s u v _ hu hv st => by
  obtain ⟨t, rfl⟩ := ab_int hu; obtain ⟨t', rfl⟩ := ab_int hv; exact PyProof.Rows.lt_int ⟨H, st, h⟩
theorem ow_le (h : Q (.bool (decide (a ≤ b))) H) : OW S (compareOp .LtE) n (.int a) (.int b) Q H := fun A L ns G stk s u v _ hu hv st => by
  obtain ⟨t, rfl⟩ := ab_int hu; obtain ⟨t', rfl⟩ := ab_int hv; exact PyProof.Rows.le_int ⟨H, st, h⟩
theorem ow_gt (h : Q (.bool (decide (b < a))) H) : OW S (compareOp .Gt) n (.int a) (.int b) Q H := fun A L ns G stk s u v _ hu hv st => by
  obtain ⟨t, rfl⟩ := ab_int hu; obtain ⟨t', rfl⟩ := ab_int hv; exact PyProof.Rows.gt_int ⟨H, st, h⟩
theorem ow_ge (h : Q (.bool (decide (b ≤ a))) H) : OW S (compareOp .GtE) n (.int a) (.int b) Q H := fun A L ns G stk s u v _ hu hv st => by
  obtain ⟨t, rfl⟩ := ab_int hu; obtain ⟨t', rfl⟩ := ab_int hv; exact PyProof.Rows.ge_int ⟨H, st, h⟩
theorem ow_eq (h : Q (.bool (a == b)) H) : OW S (compareOp .Eq) n (.int a) (.int b) Q H := fun A L ns G stk s u v _ hu hv st => by
  obtain ⟨t, rfl⟩ := ab_int hu; obtain ⟨t', rfl⟩ := ab_int hv; exact PyProof.Rows.eq_int ⟨H, st, h⟩
theorem ow_ne (h : Q (.bool (a != b)) H) : OW S (compareOp .NotEq) n (.int a) (.int b) Q H := fun A L ns G stk s u v _ hu hv st => by
  obtain ⟨t, rfl⟩ := ab_int hu; obtain ⟨t', rfl⟩ := ab_int hv; exact PyProof.Rows.ne_int ⟨H, st, h⟩
theorem ow_eqs {x y : Str} (h : Q (.bool (x == y)) H) : OW S (compareOp .Eq) n (.str x) (.str y) Q H := fun A L ns G stk s u v _ hu hv st => by
  obtain ⟨t, rfl⟩ := ab_str hu; obtain ⟨t', rfl⟩ := ab_str hv; exact PyProof.Rows.eq_str ⟨H, st, h⟩
theorem ow_nes {x y : Str} (h : Q (.bool (x != y)) H) : OW S (compareOp .NotEq) n (.str x) (.str y) Q H := fun A L ns G stk s u v _ hu hv st => by
  obtain ⟨t, rfl⟩ := ab_str hu; obtain ⟨t', rfl⟩ := ab_str hv; exact PyProof.Rows.ne_str ⟨H, st, h⟩
theorem ow_neb {x y : Bool} (h : Q (.bool (x != y)) H) : OW S (compareOp .NotEq) n (.bool x) (.bool y) Q H := fun A L ns G stk s u v _ hu hv st => by
  rw [ab_bool hu, ab_bool hv]; exact ne_bool ⟨H, st, h⟩
noncomputable def AV.isN : AV → Bool
  | .none => true
  | _ => false
theorem ow_is {x : AV} (h : Q (.bool x.isN) H) : OW S (compareOp .Is) n x .none Q H := fun A L ns G stk s u v _ hu hv st => by
  rw [ab_none hv]
  cases x with
  | none => rw [ab_none hu]; exact is_none_none ⟨H, st, h⟩
  | _ => exact is_none_ne (fun e => by rw [e] at hu; cases hu) ⟨H, st, h⟩
theorem ow_isnot {x : AV} (h : Q (.bool (!x.isN)) H) : OW S (compareOp .IsNot) n x .none Q H := fun A L ns G stk s u v _ hu hv st => by
  rw [ab_none hv]
  cases x with
  | none => rw [ab_none hu]; exact isnot_none_none ⟨H, st, h⟩
  | _ => exact isnot_none_ne (fun e => by rw [e] at hu; cases hu) ⟨H, st, h⟩
/-- a < b < c -/
theorem bw_cmp2 {l r r' : Expr} {op op' : CmpOp} {pos : Pos} {Q : Bool → AH → Prop}
    (h : EW S E n l (fun x H => EW S E n r (fun y H => OW S (compareOp op) n x y (fun v H => ∃ c, tru v = some c ∧ (c = true → EW S E n r' (fun z H => OW S (compareOp op') n y z (fun v H => ∃ c, tru v = some c ∧ Q c H) H) F H) ∧ (c = false → Q false H)) H) F H) F H)
    (hm : lastMarks [op, op'] [r, r'] = false) : BW S E n (.Compare l [op, op'] [r, r'] pos) Q F H :=
  fun A env L stk s rm ev st => isTrue_chain (wpAny_mono (h A env L stk s rm ev st) (fun x s₁ ⟨H₁, st₁, h₁⟩ => test_link (wpAny_mono (h₁ A env L stk s₁ rm ev st₁) (fun y s₂ ⟨H₂, st₂, h₂⟩ =>
    wpAny_mono (h₂ A L _ F stk s₂ x y rm rfl rfl st₂) (fun v s₃ ⟨H₃, st₃, c, e, q1, q2⟩ => truthy_ab e (by
      cases c with
      | false => exact ⟨H₃, st₃, q2 rfl⟩
      | true => exact test_last (wpAny_mono (q1 rfl A env L stk s₃ rm ev st₃) (fun z s₄ ⟨H₄, st₄, h₄⟩ => wpAny_mono (h₄ A L _ F stk s₄ y z rm rfl rfl st₄) (fun v s₅ ⟨H₅, st₅, c, e, q⟩ => truthy_ab e ⟨H₅, st₅, q⟩) fun _ _ x => x) fun _ _ x => x))) fun _ _ x => x) fun _ _ x => x)) fun _ _ x => x) hm
theorem ew_neg {x : Expr} {pos : Pos} (h : EW S E n x (fun v H => ∃ i, v = .int i ∧ Q (.int (-i)) H) F H) : EW S E n (.UnaryOp .USub x pos) Q F H :=
  fun A env L stk s rm ev st => UnaryOp_ (wpAny_mono (h A env L stk s rm ev st) (fun v s₁ ⟨H₁, st₁, i, e, q⟩ => by obtain ⟨t, rfl⟩ := ab_int e; exact PySem.P.neg_int ⟨H₁, st₁.tok, q⟩) fun _ _ x => x)
/-- a call of a built-in function by its name -/
theorem ew_callB {x : Str} {p pos : Pos} {args : List Expr} {id : String} (g : NAt x .globalImplicit E.sc.names) (e : nsIn S.K mainGlobals x = some none) (hv : bootBuiltins x = some (.builtin id)) (hn : x ≠ "__name__")
    (h : EWs S E n args (fun vs H => CB S (.builtin id) n vs Q H) F H) (hpl : ∀ env pos, (backTo pos (starEach args env)).any (·.1) = false) (hlen : ∀ env, ∃ e' t, starEach args env = (false, e') :: t) :
    EW S E n (.Call (.Name x p) args [] pos) Q F H :=
  fun A env L stk s rm ev st => by
    refine wpAny_Call_NameR (glob_eval_B ev st g e hv hn ?_)
    refine callWith_builtin (hpl _ _) ?_
    have := wpAny_mono (h A env L stk s pos rm ev st) (Q' := fun vs s' => wpAny S.M A (call (.builtin id) ([] ++ vs) []) (fun v s'' => ∃ H', St S (.fr L E.sc.names F :: stk) H' s'' ∧ Q (ab v) H') Nope s')
      (fun vs s₁ ⟨H₁, st₁, h₁⟩ => h₁ A L _ F stk s₁ vs rm rfl st₁) (fun _ _ x => x)
    obtain ⟨e', t, q⟩ := hlen env
    rw [q] at this ⊢
    exact evalArgs_plain this
/-- a call of a built-in type by its name -/
theorem ew_callT {x : Str} {p pos : Pos} {args : List Expr} {id : String} (g : NAt x .globalImplicit E.sc.names) (e : nsIn S.K mainGlobals x = some none) (hv : bootBuiltins x = some (.type id)) (hn : x ≠ "__name__")
    (h : EWs S E n args (fun vs H => CB S (.type id) n vs Q H) F H) (hpl : ∀ env pos, (backTo pos (starEach args env)).any (·.1) = false) (hlen : ∀ env, ∃ e' t, starEach args env = (false, e') :: t) :
    EW S E n (.Call (.Name x p) args [] pos) Q F H :=
  fun A env L stk s rm ev st => by
    refine wpAny_Call_NameR (glob_eval_B ev st g e hv hn ?_)
    refine PySem.callWith_type (hpl _ _) ?_
    have := wpAny_mono (h A env L stk s pos rm ev st) (Q' := fun vs s' => wpAny S.M A (call (.type id) ([] ++ vs) []) (fun v s'' => ∃ H', St S (.fr L E.sc.names F :: stk) H' s'' ∧ Q (ab v) H') Nope s')
      (fun vs s₁ ⟨H₁, st₁, h₁⟩ => h₁ A L _ F stk s₁ vs rm rfl st₁) (fun _ _ x => x)
    obtain ⟨e', t, q⟩ := hlen env
    rw [q] at this ⊢
    exact evalArgs_plain this
theorem mapS {vals : List Value} {a : AV} {r : List AV} (h : vals.map ab = a :: r) : ∃ u us, vals = u :: us ∧ ab u = a ∧ us.map ab = r := by
  cases vals with
  | nil => cases h
  | cons u us => exact ⟨u, us, rfl, (List.cons.inj h).1, (List.cons.inj h).2⟩
theorem map1 {vals : List Value} {a : AV} (h : vals.map ab = [a]) : ∃ u, vals = [u] ∧ ab u = a := by
  obtain ⟨u, us, rfl, e, h2⟩ := mapS h; rw [List.map_eq_nil_iff] at h2; subst h2; exact ⟨u, rfl, e⟩
theorem map2 {vals : List Value} {a b : AV} (h : vals.map ab = [a, b]) : ∃ u v, vals = [u, v] ∧ ab u = a ∧ ab v = b := by
  obtain ⟨u, us, rfl, e, h2⟩ := mapS h; obtain ⟨v, rfl, e2⟩ := map1 h2; exact ⟨u, v, rfl, e, e2⟩
theorem list_at {stk : List Fm} {s : Shared} (st : St S stk H s) {a : Addr} {t : Nat} {xs : List AV} (h : H a = some (.list t xs)) : ∃ o vs m, s.heap.get? a = some o ∧ o.cls = .type "list" ∧ o.dict = none ∧ o.data = .seq vs m ∧ vs.toList.map ab = xs := by
  obtain ⟨_, o, e, vs, m, hd, hx⟩ := st.heap _ _ h
  subst hd
  exact ⟨_, vs, m, e, rfl, rfl, rfl, hx⟩
theorem list_pl {stk : List Fm} {s : Shared} (st : St S stk H s) {a : Addr} {t : Nat} {xs : List AV} (h : H a = some (.list t xs)) : ∃ vs m, s.heap.get? a = some { cls := .type "list", data := .seq vs m } ∧ vs.toList.map ab = xs := by
  obtain ⟨_, o, e, vs, m, hd, hx⟩ := st.heap _ _ h
  subst hd
  exact ⟨vs, m, e, hx⟩
theorem tup_at {stk : List Fm} {s : Shared} (st : St S stk H s) {a : Addr} {xs : List AV} (h : H a = some (.tuple xs)) : ∃ o vs m, s.heap.get? a = some o ∧ o.cls = .type "tuple" ∧ o.dict = none ∧ o.data = .seq vs m ∧ vs.toList.map ab = xs := by
  obtain ⟨_, o, e, vs, m, hd, hx⟩ := st.heap _ _ h
  subst hd
  exact ⟨_, vs, m, e, rfl, rfl, rfl, hx⟩
theorem cb_len_list {l : Addr} {t : Nat} {xs : List AV} (hl : H l = some (.list t xs)) (hs : xs.length < 2 ^ 60) (h : Q (.int xs.length) H) : CB S (.builtin "len") n [.ref l] Q H := fun A L ns G stk s vals rm hv st => by
  obtain ⟨u, rfl, hu⟩ := map1 hv
  rw [ab_ref hu]
  obtain ⟨o, vs, m, e1, e2, e3, e4, e5⟩ := list_at st hl
  have sz : vs.size = xs.length := by rw [← e5, List.length_map, Array.length_toList]
  exact call_len_list ⟨o, e1, e2, m, e4⟩ (by rw [sz]; omega) ⟨H, st.tok, by rw [sz]; exact h⟩
theorem cb_len_str {x : Str} (hs : x.length < 2 ^ 60) (h : Q (.int x.length) H) : CB S (.builtin "len") n [.str x] Q H := fun A L ns G stk s vals rm hv st => by
  obtain ⟨u, rfl, hu⟩ := map1 hv
  obtain ⟨t, rfl⟩ := ab_str hu
  exact PySem.P.len_str (by omega) ⟨H, st.tok, h⟩
theorem cb_max (h : Q (.int (max a b)) H) : CB S (.builtin "max") n [.int a, .int b] Q H := fun A L ns G stk s vals rm hv st => by
  obtain ⟨u, v, rfl, hu, hw⟩ := map2 hv
  obtain ⟨t, rfl⟩ := ab_int hu; obtain ⟨t', rfl⟩ := ab_int hw
  refine max_two_ints rm.1 fun h' tk hk => ⟨H, st.grow hk, ?_⟩
  have : ab (if b > a then Value.int b t' else Value.int a t) = .int (max a b) := by split <;> simp only [ab] <;> congr 1 <;> omega
  rw [this]; exact h
theorem cb_min (h : Q (.int (min a b)) H) : CB S (.builtin "min") n [.int a, .int b] Q H := fun A L ns G stk s vals rm hv st => by
  obtain ⟨u, v, rfl, hu, hw⟩ := map2 hv
  obtain ⟨t, rfl⟩ := ab_int hu; obtain ⟨t', rfl⟩ := ab_int hw
  refine min_two_ints rm.1 fun h' tk hk => ⟨H, st.grow hk, ?_⟩
  have : ab (if b < a then Value.int b t' else Value.int a t) = .int (min a b) := by split <;> simp only [ab] <;> congr 1 <;> omega
  rw [this]; exact h
theorem cb_abs (h : Q (.int a.natAbs) H) : CB S (.builtin "abs") n [.int a] Q H := fun A L ns G stk s vals rm hv st => by
  obtain ⟨u, rfl, hu⟩ := map1 hv
  obtain ⟨t, rfl⟩ := ab_int hu
  refine call_abs_int fun u tk => ⟨H, st.tok, ?_⟩
  have : (if a < 0 then -a else a) = (a.natAbs : Int) := by split <;> omega
  rw [this]; exact h
theorem cb_ord {c : Nat} (h : Q (.int c) H) : CB S (.builtin "ord") n [.str ⟨#[c]⟩] Q H := fun A L ns G stk s vals rm hv st => by
  obtain ⟨u, rfl, hu⟩ := map1 hv
  obtain ⟨t, rfl⟩ := ab_str hu
  exact PySem.P.ord_of_char ⟨H, st.tok, h⟩
theorem cb_chr (h0 : 0 ≤ a) (h1 : a ≤ 1114111) (h : Q (.str ⟨#[a.toNat]⟩) H) : CB S (.builtin "chr") n [.int a] Q H := fun A L ns G stk s vals rm hv st => by
  obtain ⟨u, rfl, hu⟩ := map1 hv
  obtain ⟨t, rfl⟩ := ab_int hu
  exact chr_of_range h0 h1 ⟨H, st.tok, h⟩
theorem cb_str (ha : a.natAbs < 2 ^ 64) (h : Q (.str (toString a)) H) : CB S (.type "str") n [.int a] Q H := fun A L ns G stk s vals rm hv st => by
  obtain ⟨u, rfl, hu⟩ := map1 hv
  obtain ⟨t, rfl⟩ := ab_int hu
  refine PySem.P.str_of_int ?_ ⟨H, st.tok, h⟩
  by_cases q : a.natAbs = 0
  · rw [q]; decide
  · have := (Nat.log2_lt q).mpr ha; omega
theorem cb_int {b : Bool} (h : Q (.int (if b then 1 else 0)) H) : CB S (.type "int") n [.bool b] Q H := fun A L ns G stk s vals rm hv st => by
  obtain ⟨u, rfl, hu⟩ := map1 hv
  rw [ab_bool hu]
  exact call_int_bool ⟨H, st.tok, h⟩
theorem cb_list {l : Addr} {t : Nat} {xs : List AV} (hl : H l = some (.list t xs)) (hs : xs.length ≤ 1000000) (h : ∀ a, H a = none → Q (.ref a) (H.upd a (.list 0 xs))) : CB S (.type "list") n [.ref l] Q H := fun A L ns G stk s vals rm hv st => by
  obtain ⟨u, rfl, hu⟩ := map1 hv
  rw [ab_ref hu]
  obtain ⟨o, vs, m, e1, e2, e3, e4, e5⟩ := list_at st hl
  have sz : vs.size = xs.length := by rw [← e5, List.length_map, Array.length_toList]
  exact call_list_seq l (.inl rfl) e1 e2 e4 (fun h' c' hk hD => ⟨_, st.new (o := .list 0 xs) hk (size_none _) hD ⟨vs, c', rfl, e5⟩, h _ (st.fresh_H (size_none _))⟩) (by rw [sz]; show _ ≤ 2 ^ 24; omega)
end Mine

end

section
set_option Elab.async false
set_option linter.all false
set_option maxRecDepth 100000
set_option compiler.extract_closed false
namespace Mine
variable {S : Sta} {E : ES} {n : Nat} {F F' : List (Option AV)} {H H' : AH} {Q : AV → AH → Prop} {QN : List (Option AV) → AH → Prop} {QX : AFl → List (Option AV) → AH → Prop}

noncomputable def Sub (H H' : AH) : Prop := ∀ a o, H a = some o → H' a = some o
theorem Sub.refl (H : AH) : Sub H H := fun _ _ e => e
theorem Sub.trans {H₁ H₂ H₃ : AH} (a : Sub H₁ H₂) (b : Sub H₂ H₃) : Sub H₁ H₃ := fun _ _ e => b _ _ (a _ _ e)
theorem Sub.upd {H₁ H₂ : AH} {a : Addr} {o : AO} (s : Sub H₁ H₂) (h : H₂ a = none) : Sub H₁ (H₂.upd a o) := fun _ _ e => AH.upd_old h (s _ _ e)
/-- knowledge may be let go -/
theorem CW.relax {f : Value} {args : List AV} (h : CW S f n args (fun v H₁ => ∃ H₂, Sub H₂ H₁ ∧ Q v H₂) H) : CW S f n args Q H :=
  fun A stk s vals r g st => codeAny_mono (h A stk s vals r g st) fun _ _ ⟨v, H', e, a, H₂, b, c⟩ => ⟨v, H₂, e, a.weaken b, c⟩
theorem EW.relax {e : Expr} (h : EW S E n e (fun v H₁ => ∃ H₂, Sub H₂ H₁ ∧ Q v H₂) F H) : EW S E n e Q F H :=
  fun A env L stk s r g st => wpAny_mono (h A env L stk s r g st) (fun _ _ ⟨H', a, H₂, b, c⟩ => ⟨H₂, a.weaken b, c⟩) fun _ _ x => x
theorem EW.forget {e : Expr} (h : EW S E n e Q F H) (k : Sub H H') : EW S E n e Q F H' := fun A env L stk s r g st => h A env L stk s r g (st.weaken k)
theorem SW.forget {st : List Stmt} (h : SW S E n st QN QX F H) (k : Sub H H') : SW S E n st QN QX F H' := fun A env L stk s r g st => h A env L stk s r g (st.weaken k)
theorem CW.forget {f : Value} {args : List AV} (h : CW S f n args Q H) (k : Sub H H') : CW S f n args Q H' := fun A stk s vals r g st => h A stk s vals r g (st.weaken k)
theorem SW.relax {st : List Stmt} (h : SW S E n st (fun F H₁ => ∃ H₂, Sub H₂ H₁ ∧ QN F H₂) (fun f F H₁ => ∃ H₂, Sub H₂ H₁ ∧ QX f F H₂) F H) : SW S E n st QN QX F H :=
  fun A env L stk s r g st => wpAny_mono (h A env L stk s r g st) (fun f _ ⟨F', H', a, x⟩ => by cases f <;> (obtain ⟨H₂, b, c⟩ := x; exact ⟨F', H₂, a.weaken b, c⟩)) fun _ _ x => x
theorem XW.relax {st : Stmt} (h : XW S E n st (fun F H₁ => ∃ H₂, Sub H₂ H₁ ∧ QN F H₂) (fun f F H₁ => ∃ H₂, Sub H₂ H₁ ∧ QX f F H₂) F H) : XW S E n st QN QX F H :=
  fun A env L stk s r g st => wpAny_mono (h A env L stk s r g st) (fun f _ ⟨F', H', a, x⟩ => by cases f <;> (obtain ⟨H₂, b, c⟩ := x; exact ⟨F', H₂, a.weaken b, c⟩)) fun _ _ x => x
theorem XW.mono {st : Stmt} {QN' : List (Option AV) → AH → Prop} {QX' : AFl → List (Option AV) → AH → Prop} (h : XW S E n st QN QX F H) (k : ∀ F H, QN F H → QN' F H) (k' : ∀ f F H, QX f F H → QX' f F H) : XW S E n st QN' QX' F H :=
  fun A env L stk s rm ev st => wpAny_mono (h A env L stk s rm ev st) (fun f s₁ ⟨F₁, H₁, st₁, h₁⟩ => ⟨F₁, H₁, st₁, by cases f <;> first | exact k _ _ h₁ | exact k' _ _ _ h₁⟩) fun _ _ x => x

/-- an object goes from the stack into the heap -/
theorem St.fromstk {stk : List Fm} {s : Shared} {a : Addr} {o : AO} {ob : Obj} (h : St S (.ob a ob :: stk) H s) (hr : OR S.w a o ob) : St S stk (H.upd a o) s := by
  obtain ⟨h0, h1, h2⟩ := h.sk _ (.head _)
  obtain ⟨n1, n2⟩ := List.nodup_cons.mp h.nd
  have := (h.pop).put (h' := s.heap) (t := s.toks) (a := a) (o := o) (ob := ob) (fun _ _ _ e => e) h0 (fun p hp e => n1 (by have z := List.mem_map_of_mem (f := Fm.addr) hp; rw [e] at z; exact z)) h2 hr
  exact this
/-- an object on the stack is let go -/
theorem St.drop {stk pre : List Fm} {s : Shared} {a : Addr} {ob : Obj} {h' : Heap} {t : Nat} (h : St S (pre ++ .ob a ob :: stk) H s) (k : ∀ b o, b ≠ a → s.heap.get? b = some o → h'.get? b = some o) :
    St S (pre ++ stk) H { s with heap := h', toks := t } := by
  have hm : Fm.ob a ob ∈ pre ++ .ob a ob :: stk := List.mem_append_right _ (.head _)
  have h0 := (h.sk _ hm).1
  have hH := (h.sk _ hm).2.1
  have nd := h.nd
  rw [List.map_append, List.map_cons, List.nodup_append] at nd
  obtain ⟨n1, n2, n3⟩ := nd
  have hne : ∀ q ∈ pre ++ stk, q.addr ≠ a := fun q hq e => by
    rcases List.mem_append.mp hq with hq | hq
    · exact n3 _ (List.mem_map_of_mem hq) _ (List.mem_cons_self ..) e
    · exact (List.nodup_cons.mp n2).1 (by have z := List.mem_map_of_mem (f := Fm.addr) hq; rw [e] at z; exact z)
  have hsub : ∀ q ∈ pre ++ stk, q ∈ pre ++ .ob a ob :: stk := fun q hq => by
    rcases List.mem_append.mp hq with hq | hq
    · exact List.mem_append_left _ hq
    · exact List.mem_append_right _ (.tail _ hq)
  refine ⟨fun b o q => k _ _ (fun z => by rw [z] at q; exact absurd (h0.symm.trans q) (by simp)) (h.keep b o q), fun q hq => ?_, ?_, fun b o' q => ?_, h.gens, h.os⟩
  · have z := h.sk q (hsub q hq); exact ⟨z.1, z.2.1, Fm.at_but k (hne q hq) z.2.2⟩
  · rw [List.map_append, List.nodup_append]
    exact ⟨n1, (List.nodup_cons.mp n2).2, fun x hx y hy => n3 x hx y (.tail _ hy)⟩
  · obtain ⟨x, ob', y, z⟩ := h.heap b o' q
    exact ⟨x, ob', k _ _ (fun w => by rw [w] at q; exact absurd (hH.symm.trans q) (by simp)) y, z⟩
/-- one that walks through items -/
structure Walk (S : Sta) (I : Addr) (Wk : Nat → Obj → Prop) (xs : List AV) (K : AH → Prop) : Prop where
  nx : ∀ (A : Around) (pre stk : List Fm) (H : AH) (s : Shared) (i : Nat) (ob : Obj) (R : Option Value → Shared → Prop) (Ex : Value → Shared → Prop), A.handled = none → St S (pre ++ .ob I ob :: stk) H s → Wk i ob → K H → i ≤ xs.length →
    (∀ s' ob' u v, xs[i]? = some v → St S (pre ++ .ob I ob' :: stk) H s' → ab u = v → Wk (i + 1) ob' → R (some u) s') → (∀ s', xs[i]? = none → St S (pre ++ stk) H s' → R none s') → wpAny S.M A (pyNext (.ref I)) R Ex s
  self : ∀ (A : Around) (s : Shared) (i : Nat) (ob : Obj) (R : Value → Shared → Prop) (Ex : Value → Shared → Prop), (s.heap.get? I = some ob) → Wk i ob → R (.ref I) s → wpAny S.M A (pyIter (.ref I)) R Ex s
  go : ∀ (A : Around) (target : Expr) (s : Shared) (i : Nat) (ob : Obj) (v : Value) (R : Unit → Shared → Prop) (Ex : Value → Shared → Prop), (s.heap.get? I = some ob) → Wk i ob → R () s → wpAny S.M A (letOwnedTupleGo target (.ref I) v) R Ex s
/-- a thing walked through -/
noncomputable def IW (S : Sta) (src : AV) (xs : List AV) (K : AH → Prop) (H : AH) : Prop := K H ∧ ∀ (A : Around) (stk : List Fm) (s : Shared) (u : Value) (R : Value → Shared → Prop) (Ex : Value → Shared → Prop), A.handled = none → ab u = src → St S stk H s →
  (∀ I ob Wk s', St S (.ob I ob :: stk) H s' → Wk 0 ob → Walk S I Wk xs K → R (.ref I) s') → wpAny S.M A (pyIter u) R Ex s
theorem go_of {M : Model} {A : Around} {target : Expr} {I : Addr} {s : Shared} {ob : Obj} {v : Value} {R : Unit → Shared → Prop} {Ex : Value → Shared → Prop} {T : String} (ho : s.heap.get? I = some ob) (hc : ob.cls = .type T)
    (hT : (["enumerate", "zip", "dict_itemiterator", "dict_reverseitemiterator", "odict_iterator", "itertools.zip_longest", "itertools.pairwise"].contains T) = false) (h : R () s) : wpAny M A (letOwnedTupleGo target (.ref I) v) R Ex s := by
  have key : wpAny M A (do
      let (.ref r, .ref a) := (Value.ref I, v) | return
      let o ← load r
      match o.cls, o.data with
      | .type n, .fields vs =>
        if ["enumerate", "zip", "dict_itemiterator", "dict_reverseitemiterator", "odict_iterator", "itertools.zip_longest", "itertools.pairwise"].contains n && vs[0]? == some (rawInt a) then
          rule "for.unpacks-the-owned-tuple"
          updateField r 0 .none
      | _, _ => pure () : Sem Unit) R Ex s := by
    cases v <;> try exact wpAny_pure h
    refine wpAny_bind (wpAny_load ho ?_)
    rw [hc]
    split
    · rename_i n vs e1 e2
      cases e1
      rw [if_neg (by rw [hT]; simp)]
      exact wpAny_pure h
    · exact wpAny_pure h
  unfold letOwnedTupleGo
  cases target <;> first | exact wpAny_pure h | exact key
theorem ob_mem {stk pre : List Fm} {s : Shared} {I : Addr} {ob : Obj} (st : St S (pre ++ .ob I ob :: stk) H s) : s.heap.get? I = some ob := (st.sk _ (List.mem_append_right _ (.head _))).2.2
/-- a walker by its object's steps -/
theorem walk_of {I : Addr} {T : String} {W : Nat → Obj → Prop} {xs : List AV} {K : AH → Prop} (hT : (["enumerate", "zip", "dict_itemiterator", "dict_reverseitemiterator", "odict_iterator", "itertools.zip_longest", "itertools.pairwise"].contains T) = false)
    (hW : ∀ i ob, W i ob → ob.cls = .type T)
    (nx : ∀ (A : Around) (s : Shared) (i : Nat) (R : Option Value → Shared → Prop) (Ex : Value → Shared → Prop) (H : AH) (stk : List Fm), A.handled = none → St S stk H s → K H → i ≤ xs.length → (∃ ob, s.heap.get? I = some ob ∧ W i ob) →
      (∀ h' t u v, xs[i]? = some v → (∀ b o, b ≠ I → s.heap.get? b = some o → h'.get? b = some o) → (∃ ob, h'.get? I = some ob ∧ W (i + 1) ob) → ab u = v → R (some u) { s with heap := h', toks := t }) →
      (∀ h' t, xs[i]? = none → (∀ b o, b ≠ I → s.heap.get? b = some o → h'.get? b = some o) → R none { s with heap := h', toks := t }) → wpAny S.M A (pyNext (.ref I)) R Ex s)
    (self : ∀ (A : Around) (s : Shared) (i : Nat) (R : Value → Shared → Prop) (Ex : Value → Shared → Prop), (∃ ob, s.heap.get? I = some ob ∧ W i ob) → R (.ref I) s → wpAny S.M A (pyIter (.ref I)) R Ex s) :
    Walk S I W xs K where
  nx := fun A pre stk H s i ob R Ex hh st w hK hi h1 h2 => by
    refine nx A s i R Ex H _ hh st hK hi ⟨ob, ob_mem st, w⟩ (fun h' t u v e k ⟨ob', a, b⟩ hu => ?_) fun h' t e k => h2 _ e (st.drop k)
    exact h1 _ ob' u v e (st.turn (p' := .ob I ob') rfl k a) hu b
  self := fun A s i ob R Ex ho w h => self A s i R Ex ⟨ob, ho, w⟩ h
  go := fun A target s i ob v R Ex ho w h => go_of ho (hW i ob w) hT h
theorem iw_list {l : Addr} {t : Nat} {xs : List AV} (hl : H l = some (.list t xs)) : IW S (.ref l) xs (fun H => H l = some (.list t xs)) H := ⟨hl, fun A stk s u R Ex hh hu st h => by
  rw [ab_ref hu]
  obtain ⟨o, vs, m, e1, e2, e3, e4, e5⟩ := list_at st hl
  refine wpAny_pyIter_list ⟨o, e1, e2, m, e4⟩ ?_
  refine h s.heap.objs.size _ _ _ (st.under (p := .ob s.heap.objs.size { cls := .type "list_iterator", data := .fields #[.ref l, .int 0 0] }) (fun _ _ e => Heap.get?_push_of_some _ e) (size_none _) (Heap.get?_push_size _ rfl)) ?_
    (walk_of (T := "list_iterator") (W := fun i ob => ob.cls = _ ∧ ob.data = .fields #[.ref l, .int i 0]) (by decide) (fun _ _ x => x.1) ?_ fun A s i R Ex ⟨ob, a, b, c⟩ hR => wpAny_pyIter_listiter ⟨ob, a, b, c⟩ hR)
  · exact ⟨rfl, rfl⟩
  · intro A s i R Ex H stk hh st hK _ hit h1 h2
    obtain ⟨o, vs, m, e1, e2, e3, e4, e5⟩ := list_at st hK
    have q : xs[i]? = (vs[i]?).map ab := by rw [← e5, List.getElem?_map, Array.getElem?_toList]
    cases z : vs[i]? with
    | none => exact wpAny_pyNext_list_end hh hit ⟨o, e1, e2, m, e4⟩ z fun h' he => h2 h' s.toks (by rw [q, z]; rfl) he
    | some u => exact wpAny_pyNext_list_item hit ⟨o, e1, e2, m, e4⟩ z fun h' hi he => h1 h' s.toks u (ab u) (by rw [q, z]; rfl) he.extBut hi rfl⟩
theorem iw_tuple {l : Addr} {xs : List AV} (hl : H l = some (.tuple xs)) : IW S (.ref l) xs (fun H => H l = some (.tuple xs)) H := ⟨hl, fun A stk s u R Ex hh hu st h => by
  rw [ab_ref hu]
  obtain ⟨o, vs, m, e1, e2, e3, e4, e5⟩ := tup_at st hl
  refine wpAny_pyIter_tuple ⟨o, e1, e2, m, e4⟩ ?_
  refine h s.heap.objs.size _ _ _ (st.under (p := .ob s.heap.objs.size { cls := .type "tuple_iterator", data := .fields #[.ref l, .int 0 0] }) (fun _ _ e => Heap.get?_push_of_some _ e) (size_none _) (Heap.get?_push_size _ rfl)) ?_
    (walk_of (T := "tuple_iterator") (W := fun i ob => ob.cls = _ ∧ ob.data = .fields #[.ref l, .int i 0]) (by decide) (fun _ _ x => x.1) ?_ fun A s i R Ex ⟨ob, a, b, c⟩ hR => wpAny_pyIter_tupleiter ⟨ob, a, b, c⟩ hR)
  · exact ⟨rfl, rfl⟩
  · intro A s i R Ex H stk hh st hK _ hit h1 h2
    obtain ⟨o, vs, m, e1, e2, e3, e4, e5⟩ := tup_at st hK
    have q : xs[i]? = (vs[i]?).map ab := by rw [← e5, List.getElem?_map, Array.getElem?_toList]
    cases z : vs[i]? with
    | none => exact wpAny_pyNext_tuple_end hh hit ⟨o, e1, e2, m, e4⟩ z fun h' he => h2 h' s.toks (by rw [q, z]; rfl) he
    | some u => exact wpAny_pyNext_tuple_item hit ⟨o, e1, e2, m, e4⟩ z fun h' hi he => h1 h' s.toks u (ab u) (by rw [q, z]; rfl) he.extBut hi rfl⟩
/-- the signs of a str -/
noncomputable def signs (x : Str) : List AV := x.cps.toList.map fun c => .str ⟨#[c]⟩
theorem signs_get (x : Str) (i : Nat) : (signs x)[i]? = (x.cps[i]?).map fun c => .str ⟨#[c]⟩ := by rw [signs, List.getElem?_map, Array.getElem?_toList]
theorem iw_str {x : Str} : IW S (.str x) (signs x) (fun _ => True) H := ⟨trivial, fun A stk s u R Ex hh hu st h => by
  obtain ⟨t, rfl⟩ := ab_str hu
  cases ha : x.cps.all (· < 128)
  · refine wpAny_pyIter_wide ha ?_
    refine h s.heap.objs.size _ _ _ (st.under (p := .ob s.heap.objs.size { cls := .type "str_iterator", data := .fields #[.str x t, .int 0 0] }) (fun _ _ e => Heap.get?_push_of_some _ e) (size_none _) (Heap.get?_push_size _ rfl)) ?_
      (walk_of (T := "str_iterator") (W := fun i ob => ob.cls = _ ∧ ob.data = .fields #[.str x t, .int i 0]) (by decide) (fun _ _ x => x.1) ?_ fun A s i R Ex ⟨ob, a, b, c⟩ hR => wpAny_pyIter_striter_wide ⟨ob, a, b, c⟩ hR)
    · exact ⟨rfl, rfl⟩
    · intro A s i R Ex H stk hh st hK _ hit h1 h2
      cases z : x.cps[i]? with
      | none => exact wpAny_pyNext_wide_end hh hit z fun h' he => h2 h' s.toks (by rw [signs_get, z]; rfl) he
      | some c => exact wpAny_pyNext_wide_item hit z fun h' hi he => h1 h' _ _ _ (by rw [signs_get, z]; rfl) he.extBut hi rfl
  · refine wpAny_pyIter_ascii ha ?_
    refine h s.heap.objs.size _ _ _ (st.under (p := .ob s.heap.objs.size { cls := .type "str_ascii_iterator", data := .fields #[.str x t, .int 0 0] }) (fun _ _ e => Heap.get?_push_of_some _ e) (size_none _) (Heap.get?_push_size _ rfl)) ?_
      (walk_of (T := "str_ascii_iterator") (W := fun i ob => ob.cls = _ ∧ ob.data = .fields #[.str x t, .int i 0]) (by decide) (fun _ _ x => x.1) ?_ fun A s i R Ex ⟨ob, a, b, c⟩ hR => wpAny_pyIter_striter_ascii ⟨ob, a, b, c⟩ hR)
    · exact ⟨rfl, rfl⟩
    · intro A s i R Ex H stk hh st hK _ hit h1 h2
      cases z : x.cps[i]? with
      | none => exact wpAny_pyNext_ascii_end hh hit z fun h' he => h2 h' s.toks (by rw [signs_get, z]; rfl) he
      | some c => exact wpAny_pyNext_ascii_item hit z fun h' hi he => h1 h' _ _ _ (by rw [signs_get, z]; rfl) he.extBut hi rfl⟩
/-- 0, 1 .. n - 1 -/
noncomputable def upto (n : Nat) : List AV := (List.range n).map fun i : Nat => .int (i : Int)
theorem upto_get (n i : Nat) : (upto n)[i]? = if i < n then some (.int i) else none := by
  rw [upto, List.getElem?_map]
  split
  · rw [List.getElem?_range (by assumption)]; rfl
  · rw [List.getElem?_eq_none (by simp; omega)]; rfl
theorem iw_rng {r : Addr} {n : Nat} (hr : H r = some (.rng n)) : IW S (.ref r) (upto n) (fun _ => True) H := ⟨trivial, fun A stk s u R Ex hh hu st h => by
  rw [ab_ref hu]
  obtain ⟨_, o, e1, hn, t, v, z, e2⟩ := st.heap _ _ hr
  subst e2
  have hsz : Builtin.Range.rangeSize 0 (n : Int) 1 = n := by
    unfold Builtin.Range.rangeSize
    simp; try omega
  have hsmall : Builtin.Range.small 0 (n : Int) 1 = true := by
    have h63 : (n : Int) < 2 ^ 40 := by exact_mod_cast hn
    unfold Builtin.Range.small
    rw [hsz]
    simp [Builtin.Range.rangeFitsLong]; omega
  refine wpAny_pyIter_range e1 hsmall ?_
  rw [hsz]
  refine h s.heap.objs.size _ _ _ (st.under (p := .ob s.heap.objs.size { cls := .type "range_iterator", data := .fields #[rawInt 0, rawInt n, rawInt 1] }) (fun _ _ e => Heap.get?_push_of_some _ e) (size_none _) (Heap.get?_push_size _ rfl)) ?_
      (walk_of (T := "range_iterator") (W := fun i ob => ob = { cls := .type "range_iterator", dict := none, data := .fields #[rawInt (i : Nat), rawInt ((n : Int) - (i : Nat)), rawInt 1], slots := #[] }) (by decide) (fun _ _ x => by rw [x]) ?_
        fun A s i R Ex ⟨ob, a, b⟩ hR => wpAny_pyIter_rangeiter (by rw [b] at a; exact a) hR)
  · simp
  · intro A s i R Ex H stk hh st hK hi ⟨ob, a, b⟩ h1 h2
    subst b
    rw [upto_get] at h1 h2
    by_cases q : i < n
    · refine wpAny_pyNext_range_item a (by omega) fun h' hi he => h1 h' _ _ _ (if_pos q) he.extBut ⟨_, hi, ?_⟩ rfl
      have e1 : ((i + 1 : Nat) : Int) = (i : Int) + 1 := by omega
      have e2 : (n : Int) - ((i + 1 : Nat) : Int) = (n : Int) - (i : Int) - 1 := by omega
      rw [e2, e1]
    · exact wpAny_pyNext_range_end hh a (by omega) fun h' he => h2 h' s.toks (if_neg q) he⟩
theorem cb_range {k : Nat} (hk : k < 2 ^ 40) (h : ∀ r, H r = none → Q (.ref r) (H.upd r (.rng k))) : CB S (.type "range") n [.int k] Q H := fun A L ns G stk s vals rm hv st => by
  obtain ⟨u, rfl, hu⟩ := map1 hv
  obtain ⟨t, rfl⟩ := ab_int hu
  exact call_range_1 ⟨_, st.push (o := .rng k) (ob := { cls := .type "range", data := .fields #[.int 0 s.toks, .int k t, .int 1 (s.toks + 1)] }) ⟨hk, _, _, _, rfl⟩ rfl, h _ (st.fresh_H (size_none _))⟩

/-- a loop's turns -/
noncomputable def ForW (S : Sta) (E : ES) (n : Nat) (target : Expr) (body : List Stmt) (K : AH → Prop) (QN : List (Option AV) → AH → Prop) (QX : AFl → List (Option AV) → AH → Prop) : List AV → List (Option AV) → AH → Prop
  | [], F, H => QN F H
  | v :: rest, F, H => TW S E n target v (fun F H => SW S E n body (fun F H => K H ∧ ForW S E n target body K QN QX rest F H)
      (fun fl F H => match fl with | .brk => QN F H | .cont => K H ∧ ForW S E n target body K QN QX rest F H | .ret v => QX (.ret v) F H) F H) F H
theorem xw_for {target iter : Expr} {body : List Stmt} {pos : Pos} (h : EW S E n iter (fun v H => ∃ xs K, IW S v xs K H ∧ ForW S E n target body K QN QX xs F H) F H)
    (hs : ∀ env x, foldedSetIterable iter env x = pure x) : XW S E n (.For target iter body [] pos) QN QX F H :=
  fun A env L stk s rm ev st => by
    refine wpAny_For (wpAny_mono (h A env L stk s rm ev st) (fun v s₁ ⟨H₁, st₁, xs, K, ⟨hK, iw⟩, hf⟩ => iw A _ s₁ v _ _ rm.1 rfl st₁ fun I ob Wk s₂ st₂ w0 wk => ?_) fun _ _ x => x.elim) (hs env)
    refine codeAny_forLoop_any (fun k s' => ∃ i rest F H ob, i + rest.length = xs.length ∧ xs.drop i = rest ∧ k = rest.length + 1 ∧ Wk i ob ∧ K H ∧ ForW S E n target body K QN QX rest F H ∧ St S (.fr L E.sc.names F :: .ob I ob :: stk) H s') ?_ _
      ⟨0, xs, F, H₁, ob, by simp, by simp, rfl, w0, hK, hf, ?_⟩
    · intro k s' hJ
      refine gG fun GG kG => ?_
      obtain ⟨i, rest, F, H, ob, hi, hd, rfl, w, hK, hf, st'⟩ := hJ
      refine kG ?_
      clear kG GG
      refine wk.nx A [.fr L E.sc.names F] stk H s' i ob _ _ rm.1 st' w hK (by omega) (fun s₃ ob' u v hv st₃ hu w' => ?_) fun s₃ hv st₃ => ?_
      · have hrest : rest = v :: xs.drop (i + 1) := by rw [← hd]; exact (List.drop_eq_getElem?_toList_append (l := xs) (i := i)).trans (by rw [hv]; rfl)
        subst hrest
        refine wk.go A target s₃ (i + 1) ob' u _ _ (ob_mem (pre := [.fr L E.sc.names F]) st₃) w' ?_
        refine wpAny_mono (hf A env L _ s₃ u rm ev hu st₃) (fun _ s₄ ⟨F₄, H₄, st₄, h₄⟩ => ?_) fun _ _ x => x.elim
        refine wpAny_mono (h₄ A env L _ s₄ rm ev st₄) (fun f s₅ ⟨F₅, H₅, st₅, h₅⟩ => ?_) fun _ _ x => x.elim
        have hlen : i + 1 + (xs.drop (i + 1)).length = xs.length := by simp only [List.length_cons] at hi; omega
        cases f with
        | next => exact ⟨(xs.drop (i + 1)).length + 1, by simp, i + 1, _, F₅, H₅, ob', hlen, rfl, rfl, w', h₅.1, h₅.2, st₅⟩
        | cont => exact ⟨(xs.drop (i + 1)).length + 1, by simp, i + 1, _, F₅, H₅, ob', hlen, rfl, rfl, w', h₅.1, h₅.2, st₅⟩
        | brk => exact ⟨F₅, H₅, St.drop (pre := [.fr L E.sc.names F₅]) st₅ fun _ _ _ e => e, h₅⟩
        | ret v => exact ⟨F₅, H₅, St.drop (pre := [.fr L E.sc.names F₅]) st₅ fun _ _ _ e => e, h₅⟩
      · have : rest = [] := by
          have := List.getElem?_eq_none_iff.mp hv
          match rest, hi with
          | [], _ => rfl
          | _ :: _, hi => simp only [List.length_cons] at hi; omega
        subst this
        exact wpAny_execs_nil ⟨F, H, st₃, hf⟩
    · obtain ⟨a, b, c⟩ := st₂.sk _ (.head _)
      obtain ⟨n1, n2⟩ := List.nodup_cons.mp st₂.nd
      obtain ⟨n3, n4⟩ := List.nodup_cons.mp n2
      refine ⟨st₂.keep, fun q hq => ?_, ?_, st₂.heap, st₂.gens, st₂.os⟩
      · rcases List.mem_cons.mp hq with rfl | hq
        · exact st₂.sk _ (.tail _ (.head _))
        · rcases List.mem_cons.mp hq with rfl | hq
          · exact st₂.sk _ (.head _)
          · exact st₂.sk _ (.tail _ (.tail _ hq))
      · refine List.nodup_cons.mpr ⟨fun hm => ?_, List.nodup_cons.mpr ⟨fun hm => n1 (.tail _ hm), n4⟩⟩
        rcases List.mem_cons.mp hm with hm | hm
        · exact n1 (hm ▸ .head _)
        · exact n3 hm
theorem xw_while {test : Expr} {body : List Stmt} {pos : Pos} (J : Nat → List (Option AV) → AH → Prop) (k : Nat)
    (turn : ∀ k F H, J k F H → BW S E n test (fun b H => (b = true → SW S E n body (fun F H => ∃ m, m < k ∧ J m F H) (fun fl F H => match fl with | .brk => QN F H | .cont => ∃ m, m < k ∧ J m F H | .ret v => QX (.ret v) F H) F H) ∧ (b = false → QN F H)) F H)
    (h0 : J k F H) : XW S E n (.While test body [] pos) QN QX F H :=
  fun A env L stk s rm ev st => by
    refine wpAny_While (codeAny_whileLoop (fun k s' => ∃ F H, St S (.fr L E.sc.names F :: stk) H s' ∧ J k F H) (fun k s' ⟨F, H, st', hJ⟩ => ?_) k ⟨F, H, st, h0⟩)
    refine wpAny_mono (turn k F H hJ A env L stk s' rm ev st') (fun b s₂ ⟨H₂, st₂, h1, h2⟩ => ?_) fun _ _ x => x.elim
    cases b with
    | false => exact wpAny_execs_nil ⟨F, H₂, st₂, h2 rfl⟩
    | true =>
      refine wpAny_mono (h1 rfl A env L stk s₂ rm ev st₂) (fun f s₃ ⟨F₃, H₃, st₃, h₃⟩ => ?_) fun _ _ x => x.elim
      cases f with
      | next => obtain ⟨m, hm, hj⟩ := h₃; exact ⟨m, hm, F₃, H₃, st₃, hj⟩
      | cont => obtain ⟨m, hm, hj⟩ := h₃; exact ⟨m, hm, F₃, H₃, st₃, hj⟩
      | brk => exact ⟨F₃, H₃, st₃, h₃⟩
      | ret v => exact ⟨F₃, H₃, st₃, h₃⟩
theorem xw_expr {e : Expr} {pos : Pos} (h : EW S E n e (fun _ H => QN F H) F H) (hs : ∀ env, swapsWith e none pos.line env = pure false) : XW S E n (.Expr e pos) QN QX F H :=
  fun A env L stk s rm ev st => wpAny_Expr_any (wpAny_mono (h A env L stk s rm ev st) (fun v s₁ ⟨H₁, st₁, h₁⟩ => ⟨F, H₁, st₁, h₁⟩) fun _ _ x => x) (by unfold interactive; rw [ev.sc, scOk_kind ev.ok]; rfl) (hs env)
end Mine

end

section
set_option Elab.async false
set_option linter.all false
set_option maxRecDepth 100000
set_option compiler.extract_closed false
namespace Mine
variable {S : Sta} {E : ES} {n : Nat} {F F' : List (Option AV)} {H H' : AH} {Q : AV → AH → Prop} {QN : List (Option AV) → AH → Prop} {QX : AFl → List (Option AV) → AH → Prop}

/-! ## displays -/
theorem len_of_map {vals : List Value} {vs : List AV} (h : vals.map ab = vs) : vals.length = vs.length := by rw [← h, List.length_map]
theorem ew_list {elts : List Expr} {pos : Pos} (h : EWs S E n elts (fun vs H => vs.length ≤ 1000 ∧ ∀ a, H a = none → Q (.ref a) (H.upd a (.list 0 vs))) F H) : EW S E n (.List elts pos) Q F H :=
  fun A env L stk s rm ev st => List_ (wpAny_mono (h A env L stk s pos rm ev st) (fun vals s₁ ⟨H₁, st₁, hl, h₁⟩ =>
    wpAny_newList ⟨_, st₁.push (o := .list 0 (vals.map ab)) (ob := { cls := .type "list", data := .seq vals.toArray }) ⟨_, _, rfl, by simp⟩ rfl, h₁ _ (st₁.fresh_H (size_none _))⟩ (by rw [List.length_map] at hl; exact Nat.le_trans hl (by decide))) fun _ _ x => x)
theorem ew_tuple {elts : List Expr} {k : Nat} {pos : Pos} (h : EWs S E n elts (fun vs H => vs.length ≤ 1000 ∧ ∀ a, H a = none → Q (.ref a) (H.upd a (.tuple vs))) F H) : EW S E n (.Tuple elts k pos) Q F H :=
  fun A env L stk s rm ev st => Tuple_ (wpAny_mono (h A env L stk s pos rm ev st) (fun vals s₁ ⟨H₁, st₁, hl, h₁⟩ =>
    wpAny_newTuple ⟨_, st₁.push (o := .tuple (vals.map ab)) (ob := { cls := .type "tuple", data := .seq vals.toArray }) ⟨_, _, rfl, by simp⟩ rfl, h₁ _ (st₁.fresh_H (size_none _))⟩ (by rw [List.length_map] at hl; exact Nat.le_trans hl (by decide))) fun _ _ x => x)
theorem mods {stk : List Fm} {s : Shared} (st : St S stk H s) : (s.heap.objs.size == sysModules) = false := by
  have h1 : sysModules < s.heap.objs.size := modules_low (S.T.nolimit.keeps st.keep)
  exact beq_eq_false_iff_ne.mpr (Nat.ne_of_gt h1)
theorem new_dict {K : Type} [DecidableEq K] {w : World} (knd : KeyKind pw w K) : Obj.IsDictOf knd { cls := .type "dict", data := .dict #[] } [] := by
  obtain ⟨o, ho, hd⟩ := Heap.dictOf_iff.mp (Heap.DictOf.new (knd := knd) {})
  rw [Heap.get?_push_size _ rfl] at ho
  exact (Option.some.inj ho) ▸ hd
theorem ew_dictS {pos : Pos} (t : Nat) (h : ∀ a, H a = none → Q (.ref a) (H.upd a (.sdict t []))) : EW S E n (.Dict [] [] pos) Q F H :=
  fun A env L stk s rm ev st => wpAny_Dict_empty ⟨_, st.push (o := .sdict t []) (ob := { cls := .type "dict", data := .dict #[] }) ⟨mods st, rfl, [], new_dict _, rfl⟩ rfl, h _ (st.fresh_H (size_none _))⟩
theorem ew_dictI {pos : Pos} (t : Nat) (h : ∀ a, H a = none → Q (.ref a) (H.upd a (.idict t []))) : EW S E n (.Dict [] [] pos) Q F H :=
  fun A env L stk s rm ev st => wpAny_Dict_empty ⟨_, st.push (o := .idict t []) (ob := { cls := .type "dict", data := .dict #[] }) ⟨mods st, rfl, [], new_dict _, rfl⟩ rfl, h _ (st.fresh_H (size_none _))⟩

/-! ## cuts -/
noncomputable def nn : AV → Prop
  | .none => True
  | .int i => 0 ≤ i
  | _ => False
noncomputable def cutHi {α : Type} : AV → List α → List α
  | .int j, xs => xs.take j.toNat
  | _, xs => xs
noncomputable def cutLo {α : Type} : AV → List α → List α
  | .int i, xs => xs.drop i.toNat
  | _, xs => xs
noncomputable def cut {α : Type} (lo hi : AV) (xs : List α) : List α := cutLo lo (cutHi hi xs)
theorem cut_map {α β : Type} (f : α → β) (lo hi : AV) (xs : List α) : (cut lo hi xs).map f = cut lo hi (xs.map f) := by
  unfold cut cutLo cutHi
  cases lo <;> cases hi <;> simp [List.map_drop, List.map_take]
noncomputable def loN : AV → Nat
  | .int i => i.toNat
  | _ => 0
noncomputable def hiN (n : Nat) : AV → Nat
  | .int i => i.toNat
  | _ => n
theorem cut_eq {α : Type} (lo hi : AV) (xs : List α) : cut lo hi xs = (xs.take (hiN xs.length hi)).drop (loN lo) := by
  unfold cut cutLo cutHi loN hiN
  cases lo <;> cases hi <;> simp
theorem part_of {v : Value} {a : AV} (h : ab v = a) (hn : nn a) : ∃ p, IsPart v p ∧ ((a = .none ∧ p = none) ∨ ∃ k : Nat, a = .int k ∧ p = some (k : Int)) := by
  cases a <;> simp only [nn] at hn
  · exact ⟨none, by rw [ab_none h]; exact .none, .inl ⟨rfl, rfl⟩⟩
  · rename_i i
    obtain ⟨t, rfl⟩ := ab_int h
    exact ⟨some i, .int i t, .inr ⟨i.toNat, by rw [Int.toNat_of_nonneg hn], by rw [Int.toNat_of_nonneg hn]⟩⟩
theorem take_min {α : Type} (xs : List α) (k : Nat) : xs.take (min k xs.length) = xs.take k := by
  by_cases h : k ≤ xs.length
  · rw [Nat.min_eq_left h]
  · rw [Nat.min_eq_right (by omega), List.take_length, List.take_of_length_le (by omega)]
theorem drop_min {α : Type} (xs : List α) (k m : Nat) (h : xs.length ≤ m) : xs.drop (min k m) = xs.drop k := by
  by_cases h' : k ≤ m
  · rw [Nat.min_eq_left h']
  · rw [Nat.min_eq_right (by omega), List.drop_of_length_le h, List.drop_of_length_le (by omega)]
theorem bounds_of {lo hi : AV} {p q : Option Int} {m : Nat} (hp : (lo = .none ∧ p = none) ∨ ∃ k : Nat, lo = .int k ∧ p = some (k : Int)) (hq : (hi = .none ∧ q = none) ∨ ∃ k : Nat, hi = .int k ∧ q = some (k : Int)) :
    sliceBounds p q none m = (((min (loN lo) m : Nat) : Int), ((min (hiN m hi) m : Nat) : Int), (1 : Int)) := by
  simp only [sliceBounds, Option.getD_none, show (1 : Int) > 0 by decide, if_true]
  rcases hp with ⟨rfl, rfl⟩ | ⟨k, rfl, rfl⟩ <;> rcases hq with ⟨rfl, rfl⟩ | ⟨k', rfl, rfl⟩ <;> simp only [loN, hiN, Prod.mk.injEq, Int.toNat_natCast, and_true]
  · constructor <;> omega
  · rw [if_neg (by omega)]; constructor <;> omega
  · rw [if_neg (by omega)]; constructor <;> omega
  · rw [if_neg (by omega), if_neg (by omega)]; constructor <;> omega
theorem picks {α : Type} (xs : Array α) (a b : Nat) : (sliceRange (min a xs.size : Nat) (min b xs.size : Nat) 1).filterMap (xs[·]?) = (xs.toList.take b).drop a := by
  rw [sliceRange_one, pick_run, ← List.drop_take, ← Array.length_toList, take_min]
  refine drop_min _ _ _ ?_
  rw [List.length_take]; omega
theorem pick_cut {lo hi : AV} {p q : Option Int} {items : Array Value} (hp : (lo = .none ∧ p = none) ∨ ∃ k : Nat, lo = .int k ∧ p = some (k : Int)) (hq : (hi = .none ∧ q = none) ∨ ∃ k : Nat, hi = .int k ∧ q = some (k : Int)) :
    (slicePick items p q none).toList = cut lo hi items.toList := by
  unfold slicePick
  rw [bounds_of hp hq, List.toList_toArray, picks, cut_eq, Array.length_toList]
noncomputable def scut (lo hi : AV) (x : Str) : Str := ⟨(cut lo hi x.cps.toList).toArray⟩
theorem sidx_of {lo hi : AV} {p q : Option Int} {m : Nat} (hp : (lo = .none ∧ p = none) ∨ ∃ k : Nat, lo = .int k ∧ p = some (k : Int)) (hq : (hi = .none ∧ q = none) ∨ ∃ k : Nat, hi = .int k ∧ q = some (k : Int)) :
    Builtin.Str.strSliceIndices p q 1 m = sliceRange (min (loN lo) m : Nat) (min (hiN m hi) m : Nat) 1 := by
  have := bounds_of (m := m) hp hq
  unfold Builtin.Str.strSliceIndices
  simp only [sliceBounds, Option.getD_none] at this
  simp only [Prod.mk.injEq] at this
  rw [← this.1, ← this.2.1]
  rcases hp with ⟨rfl, rfl⟩ | ⟨k, rfl, rfl⟩ <;> rcases hq with ⟨rfl, rfl⟩ | ⟨k', rfl, rfl⟩ <;> rfl
theorem slice_cut {lo hi : AV} {p q : Option Int} {x : Str} (hp : (lo = .none ∧ p = none) ∨ ∃ k : Nat, lo = .int k ∧ p = some (k : Int)) (hq : (hi = .none ∧ q = none) ∨ ∃ k : Nat, hi = .int k ∧ q = some (k : Int)) :
    (if ((1 : Int) == 1 && (Builtin.Str.strSliceIndices p q 1 x.length).length == x.length) = true then x else (⟨((Builtin.Str.strSliceIndices p q 1 x.length).filterMap (x.cps[·]?)).toArray⟩ : Str)) = scut lo hi x := by
  rw [sidx_of hp hq]
  have hx : x.length = x.cps.size := rfl
  rw [hx, picks]
  have hc : cut lo hi x.cps.toList = (x.cps.toList.take (hiN x.cps.size hi)).drop (loN lo) := by rw [cut_eq, Array.length_toList]
  split
  · rename_i h
    unfold scut
    rw [hc]
    rw [sliceRange_one] at h
    simp only [List.length_map, List.length_range, beq_self_eq_true, Bool.true_and, beq_iff_eq] at h
    have : (x.cps.toList.take (hiN x.cps.size hi)).drop (loN lo) = x.cps.toList := by
      refine List.Sublist.eq_of_length ((List.drop_sublist _ _).trans (List.take_sublist _ _)) ?_
      rw [List.length_drop, List.length_take, Array.length_toList]; omega
    rw [this]
  · unfold scut; rw [hc]
theorem scut_len (lo hi : AV) (x : Str) : (scut lo hi x).length ≤ x.length := by
  show (cut lo hi x.cps.toList).toArray.size ≤ x.cps.size
  rw [List.size_toArray, cut_eq, List.length_drop, List.length_take, Array.length_toList]; omega

/-! ## reads by a subscript -/
noncomputable def GW (S : Sta) (n : Nat) (a b : AV) (Q : AV → AH → Prop) (H : AH) : Prop :=
  ∀ A L ns G stk s u v, Room n A → ab u = a → ab v = b → St S (.fr L ns G :: stk) H s → (∃ T id, typeLookup (.type T) "__getitem__" = pure (some (.builtin id)) ∧ s.TypeIs u T) ∧
    wpAny S.M A (getItem u v) (fun v s' => ∃ H', St S (.fr L ns G :: stk) H' s' ∧ Q (ab v) H') Nope s
theorem ew_sub {o i : Expr} {pos : Pos} (h : EW S E n o (fun a H => EW S E n i (fun b H => GW S n a b Q H) F H) F H) : EW S E n (.Subscript o i pos) Q F H :=
  fun A env L stk s rm ev st => by
    rw [eval_Subscript]
    refine wpAny_bind (wpAny_mono (h A env L stk s rm ev st) (fun u s₁ ⟨H₁, st₁, h₁⟩ => wpAny_bind (wpAny_holding (wpAny_mono (h₁ A env L stk s₁ rm ev st₁) (fun v s₂ ⟨H₂, st₂, h₂⟩ => wpAny_bind (wpAny_standAt ?_)) fun _ _ x => x))) fun _ _ x => x)
    obtain ⟨⟨T, id, hl, hT⟩, hg⟩ := h₂ A L _ F stk s₂ u v rm rfl rfl st₂
    rw [getitemInPython_of_ne hT.not_modules]
    have fin : ∀ ops, wpAny S.M A (operate ops (getItem u v)) (fun r s₃ => wpAny S.M A (letTemporaryGo o u r >>= fun _ => pure r) (fun v s' => ∃ H', St S (.fr L E.sc.names F :: stk) H' s' ∧ Q (ab v) H') Nope s₃) Nope s₂ := fun ops =>
      wpAny_operating (wpAny_mono hg (fun r s₃ h₃ => wpAny_bind (wpAny_letTemporaryGo (wpAny_pure h₃))) fun _ _ x => x)
    have hops : ∃ ops, subscripted i false u v = operate ops (getItem u v) := by
      unfold subscripted
      split
      · exact ⟨_, rfl⟩
      · exact absurd ‹false = true› Bool.false_ne_true
      · exact ⟨_, rfl⟩
    obtain ⟨ops, hops⟩ := hops
    refine wpAny_bind (wpAny_bind (wpAny_specialOf hT hl ?_))
    first
      | exact wpAny_pure (wpAny_bind (by rw [hops]; exact fin ops))
      | exact wpAny_bind (wpAny_pure (wpAny_bind (by rw [hops]; exact fin ops)))
      | exact wpAny_bind (by rw [hops]; exact fin ops)
end Mine

end

section
set_option Elab.async false
set_option linter.all false
set_option maxRecDepth 100000
set_option compiler.extract_closed false
namespace Mine
variable {S : Sta} {E : ES} {n : Nat} {F F' : List (Option AV)} {H H' : AH} {Q : AV → AH → Prop} {QN : List (Option AV) → AH → Prop} {QX : AFl → List (Option AV) → AH → Prop}

theorem seqix {i : Int} {m : Nat} (h0 : 0 ≤ i) (h : i.toNat < m) : seqIndex? i m = some i.toNat := by
  unfold seqIndex?
  simp only []
  split <;> (try split) <;> first | rfl | (simp_all; try omega) | omega
theorem gw_list {l : Addr} {t : Nat} {xs : List AV} {i : Int} {x : AV} (hl : H l = some (.list t xs)) (h0 : 0 ≤ i) (hs : i < 2 ^ 62) (hx : xs[i.toNat]? = some x) (h : Q x H) : GW S n (.ref l) (.int i) Q H := fun A L ns G stk s u v rm hu hv st => by
  rw [ab_ref hu]; obtain ⟨t, rfl⟩ := ab_int hv
  obtain ⟨o, vs, m, e1, e2, e3, e4, e5⟩ := list_at st hl
  rw [← e5, List.getElem?_map, Option.map_eq_some_iff] at hx
  obtain ⟨y, hy, e⟩ := hx
  exact ⟨⟨"list", _, list_getitem_lookup, o, e1, e2⟩, wpAny_getItem_list ⟨o, e1, e2, m, e4⟩ h0 (by omega) (by rw [← Array.getElem?_toList]; exact hy) ⟨H, st, by rw [e]; exact h⟩⟩
theorem gw_tuple {l : Addr} {xs : List AV} {i : Int} {x : AV} (hl : H l = some (.tuple xs)) (h0 : 0 ≤ i) (hs : i < 2 ^ 62) (hx : xs[i.toNat]? = some x) (h : Q x H) : GW S n (.ref l) (.int i) Q H := fun A L ns G stk s u v rm hu hv st => by
  rw [ab_ref hu]; obtain ⟨t, rfl⟩ := ab_int hv
  obtain ⟨o, vs, m, e1, e2, e3, e4, e5⟩ := tup_at st hl
  have hlen : i.toNat < vs.size := by
    rw [← Array.length_toList, ← List.length_map (f := ab), e5]
    exact (List.getElem?_eq_some_iff.mp hx).1
  rw [← e5, List.getElem?_map, Option.map_eq_some_iff] at hx
  obtain ⟨y, hy, e⟩ := hx
  have ht : IsTup s.heap l vs := ⟨o, e1, e2, m, e4⟩
  refine ⟨⟨"tuple", _, slot_tuple_getitem.lookup, ht.typeIs⟩, PyProof.Rows.getItem_tuple (j := i.toNat) ht (by omega) (by omega) ?_ (by rw [← Array.getElem?_toList]; exact hy) ⟨H, st, by rw [e]; exact h⟩⟩
  rw [seqix h0 (by omega)]
theorem gw_str {x : Str} {i : Int} {c : Nat} (h0 : 0 ≤ i) (hs : i < 2 ^ 62) (hx : x.cps[i.toNat]? = some c) (h : Q (.str ⟨#[c]⟩) H) : GW S n (.str x) (.int i) Q H := fun A L ns G stk s u v rm hu hv st => by
  obtain ⟨t', rfl⟩ := ab_str hu; obtain ⟨t, rfl⟩ := ab_int hv
  have hlen : i.toNat < x.length := (Array.getElem?_eq_some_iff.mp hx).1
  refine ⟨⟨"str", _, F.slot_str_getitem.lookup, typeIs_str _ _ _⟩, PySem.P.getItem_str (c := c) (by simp; omega) ?_ ⟨H, st.tok, h⟩⟩
  rw [seqix h0 (by omega)]
  exact hx
theorem slc_at {stk : List Fm} {s : Shared} (st : St S stk H s) {a : Addr} {lo hi k : AV} (h : H a = some (.slc lo hi k)) : ∃ o vl vu vs, s.heap.get? a = some o ∧ o.cls = .type "slice" ∧ o.data = .fields #[vl, vu, vs] ∧ ab vl = lo ∧ ab vu = hi ∧ ab vs = k := by
  obtain ⟨_, o, e, c, vl, vu, vs, d⟩ := st.heap _ _ h
  exact ⟨o, vl, vu, vs, e, c, d⟩
theorem gw_cut {l b : Addr} {t : Nat} {xs : List AV} {lo hi : AV} (hb : H b = some (.slc lo hi .none)) (hl : H l = some (.list t xs)) (h1 : nn lo) (h2 : nn hi) (hsz : xs.length ≤ 100000) (h : ∀ a, H a = none → Q (.ref a) (H.upd a (.list 0 (cut lo hi xs)))) :
    GW S n (.ref l) (.ref b) Q H := fun A L ns G stk s u v rm hu hv st => by
  rw [ab_ref hu, ab_ref hv]
  obtain ⟨o, vs, m, e1, e2, e3, e4, e5⟩ := list_at st hl
  obtain ⟨os, vl, vu, vk, f1, f2, f3, f4, f5, f6⟩ := slc_at st hb
  obtain ⟨p, p1, p2⟩ := part_of f4 h1
  obtain ⟨q, q1, q2⟩ := part_of f5 h2
  rw [ab_none f6] at f3
  have sz : vs.size = xs.length := by rw [← e5, List.length_map, Array.length_toList]
  refine ⟨⟨"list", _, list_getitem_lookup, o, e1, e2⟩, wpAny_getItem_list_slice ⟨o, e1, e2, m, e4⟩ ⟨os, f1, f2, f3⟩ p1 q1 .none (by simp) ?_ (by rw [sz]; exact Nat.le_trans hsz (by decide))⟩
  exact ⟨_, st.push (o := .list 0 (cut lo hi xs)) (ob := { cls := .type "list", data := .seq (slicePick vs p q none) }) ⟨_, _, rfl, by rw [pick_cut p2 q2, cut_map, e5]⟩ rfl, h _ (st.fresh_H (size_none _))⟩
theorem gw_rev {l b : Addr} {t : Nat} {xs : List AV} (hb : H b = some (.slc .none .none (.int (-1)))) (hl : H l = some (.list t xs)) (hsz : xs.length ≤ 100000) (h : ∀ a, H a = none → Q (.ref a) (H.upd a (.list 0 xs.reverse))) :
    GW S n (.ref l) (.ref b) Q H := fun A L ns G stk s u v rm hu hv st => by
  rw [ab_ref hu, ab_ref hv]
  obtain ⟨o, vs, m, e1, e2, e3, e4, e5⟩ := list_at st hl
  obtain ⟨os, vl, vu, vk, f1, f2, f3, f4, f5, f6⟩ := slc_at st hb
  rw [ab_none f4, ab_none f5] at f3
  obtain ⟨t', rfl⟩ := ab_int f6
  have sz : vs.size = xs.length := by rw [← e5, List.length_map, Array.length_toList]
  refine ⟨⟨"list", _, list_getitem_lookup, o, e1, e2⟩, wpAny_getItem_list_slice ⟨o, e1, e2, m, e4⟩ ⟨os, f1, f2, f3⟩ .none .none (.int (-1) t') (by simp) ?_ (by rw [sz]; exact Nat.le_trans hsz (by decide))⟩
  refine ⟨_, st.push (o := .list 0 xs.reverse) (ob := { cls := .type "list", data := .seq (slicePick vs none none (some (-1))) }) ⟨_, _, rfl, ?_⟩ rfl, h _ (st.fresh_H (size_none _))⟩
  rw [krv_pick, ← e5, ← List.map_reverse]
theorem gw_scut {x : Str} {b : Addr} {lo hi : AV} (hb : H b = some (.slc lo hi .none)) (h1 : nn lo) (h2 : nn hi) (hsz : x.length ≤ 100000) (h : Q (.str (scut lo hi x)) H) : GW S n (.str x) (.ref b) Q H := fun A L ns G stk s u v rm hu hv st => by
  obtain ⟨tx, rfl⟩ := ab_str hu
  rw [ab_ref hv]
  obtain ⟨os, vl, vu, vk, f1, f2, f3, f4, f5, f6⟩ := slc_at st hb
  obtain ⟨p, p1, p2⟩ := part_of f4 h1
  obtain ⟨q, q1, q2⟩ := part_of f5 h2
  rw [ab_none f6] at f3
  have hp : ∃ l : Option (Int × Tok), vl = partValue l ∧ l.map (·.1) = p := by
    cases p1 with
    | none => exact ⟨none, rfl, rfl⟩
    | int i t => exact ⟨some (i, t), rfl, rfl⟩
  have hq : ∃ l : Option (Int × Tok), vu = partValue l ∧ l.map (·.1) = q := by
    cases q1 with
    | none => exact ⟨none, rfl, rfl⟩
    | int i t => exact ⟨some (i, t), rfl, rfl⟩
  obtain ⟨p', rfl, rfl⟩ := hp
  obtain ⟨q', rfl, rfl⟩ := hq
  refine ⟨⟨"str", _, F.slot_str_getitem.lookup, typeIs_str _ _ _⟩, wpAny_getItem_str_slice (l := p') (u := q') (st := none) ⟨os, f1, f2, f3⟩ rfl ?_⟩
  refine post_val_or_str ?_
  have := slice_cut (x := x) p2 q2
  show (if ((1 : Int) == 1 && (Builtin.Str.strSliceIndices (p'.map (·.1)) (q'.map (·.1)) 1 x.length).length == x.length) = true then x else (⟨((Builtin.Str.strSliceIndices (p'.map (·.1)) (q'.map (·.1)) 1 x.length).filterMap (x.cps[·]?)).toArray⟩ : Str)).length ≤ sizeLine ∧ ∀ t' k, (fun v s' => ∃ H', St S (Fm.fr L ns G :: stk) H' s' ∧ Q (ab v) H') (.str (if ((1 : Int) == 1 && (Builtin.Str.strSliceIndices (p'.map (·.1)) (q'.map (·.1)) 1 x.length).length == x.length) = true then x else (⟨((Builtin.Str.strSliceIndices (p'.map (·.1)) (q'.map (·.1)) 1 x.length).filterMap (x.cps[·]?)).toArray⟩ : Str)) t') { s with toks := k }
  rw [this]
  exact ⟨Nat.le_trans (scut_len _ _ _) (Nat.le_trans hsz (by decide)), fun t' k => ⟨H, st.tok, h⟩⟩
/-- the parts of a slice -/
noncomputable def OEW (S : Sta) (E : ES) (n : Nat) : Option Expr → (AV → AH → Prop) → List (Option AV) → AH → Prop
  | none, Q, _, H => Q .none H
  | some e, Q, F, H => EW S E n e Q F H
theorem oew {o : Option Expr} {A : Around} {env : Env} {L : Addr} {stk : List Fm} {s : Shared} (h : OEW S E n o Q F H) (rm : Room n A) (ev : EnvOk E L env) (st : St S (.fr L E.sc.names F :: stk) H s) :
    wpAny S.M A (evalPart o env) (fun v s' => ∃ H', St S (.fr L E.sc.names F :: stk) H' s' ∧ Q (ab v) H') Nope s := by
  cases o with
  | none => exact evalPart_none_step ⟨H, st, h⟩
  | some e => exact evalPart_some_step (h A env L stk s rm ev st)
theorem ew_slice {lo hi k : Option Expr} {pos : Pos} (h : OEW S E n lo (fun a H => OEW S E n hi (fun b H => OEW S E n k (fun c H => ∀ x, H x = none → Q (.ref x) (H.upd x (.slc a b c))) F H) F H) F H) : EW S E n (.Slice lo hi k pos) Q F H :=
  fun A env L stk s rm ev st => wpAny_Slice (wpAny_mono (oew h rm ev st) (fun a s₁ ⟨H₁, st₁, h₁⟩ => wpAny_mono (oew h₁ rm ev st₁) (fun b s₂ ⟨H₂, st₂, h₂⟩ => wpAny_mono (oew h₂ rm ev st₂) (fun c s₃ ⟨H₃, st₃, h₃⟩ =>
    ⟨_, st₃.push (o := .slc (ab a) (ab b) (ab c)) (ob := { cls := .type "slice", data := .fields #[a, b, c] }) ⟨rfl, _, _, _, rfl, rfl, rfl, rfl⟩ rfl, h₃ _ (st₃.fresh_H (size_none _))⟩) fun _ _ x => x) fun _ _ x => x) fun _ _ x => x)

/-! ## dicts -/
noncomputable def vat {K V : Type} [DecidableEq K] (kvs : List (K × V)) (k : K) : Option V := (kvs.find? fun kv => kv.1 = k).map (·.2)
noncomputable def sto {K V : Type} [DecidableEq K] (kvs : List (K × V)) (k : K) (v : V) : List (K × V) := if kvs.any (fun kv => kv.1 = k) then kvs.map (fun kv => if kv.1 = k then (kv.1, v) else kv) else kvs ++ [(k, v)]
noncomputable def wout {K V : Type} [DecidableEq K] (kvs : List (K × V)) (k : K) : List (K × V) := kvs.filter fun kv => decide (kv.1 ≠ k)
theorem vat_map {K : Type} [DecidableEq K] (kvs : List (K × Value)) (k : K) : vat (kvs.map (fun p => (p.1, ab p.2))) k = (valueAt kvs k).map ab := by
  unfold vat valueAt
  rw [List.find?_map]
  simp only [Function.comp_def, Option.map_map]
theorem sto_map {K : Type} [DecidableEq K] (kvs : List (K × Value)) (k : K) (v : Value) : (stored kvs k v).map (fun p => (p.1, ab p.2)) = sto (kvs.map (fun p => (p.1, ab p.2))) k (ab v) := by
  unfold sto stored
  rw [List.any_map]
  simp only [Function.comp_def]
  split
  · rw [List.map_map, List.map_map]
    refine List.map_congr_left fun p _ => ?_
    simp only [Function.comp_def]; split <;> rfl
  · simp
theorem wout_map {K : Type} [DecidableEq K] (kvs : List (K × Value)) (k : K) : (without kvs k).map (fun p => (p.1, ab p.2)) = wout (kvs.map (fun p => (p.1, ab p.2))) k := by
  unfold wout without
  rw [List.filter_map]; rfl
theorem sd_at {stk : List Fm} {s : Shared} (st : St S stk H s) {a : Addr} {t : Nat} {kvs : List (Str × AV)} (h : H a = some (.sdict t kvs)) : (a == sysModules) = false ∧ ∃ o kvs', s.heap.get? a = some o ∧ o.dict = none ∧ s.heap.DictOf (strKind pw S.w) a kvs' ∧ kvs'.map (fun p => (p.1, ab p.2)) = kvs := by
  obtain ⟨_, o, e, m, d, kvs', hd, hm⟩ := st.heap _ _ h
  exact ⟨m, o, kvs', e, d, Heap.dictOf_iff.mpr ⟨o, e, hd⟩, hm⟩
theorem id_at {stk : List Fm} {s : Shared} (st : St S stk H s) {a : Addr} {t : Nat} {kvs : List (Int × AV)} (h : H a = some (.idict t kvs)) : (a == sysModules) = false ∧ ∃ o kvs', s.heap.get? a = some o ∧ o.dict = none ∧ s.heap.DictOf (intKind pw S.w) a kvs' ∧ kvs'.map (fun p => (p.1, ab p.2)) = kvs := by
  obtain ⟨_, o, e, m, d, kvs', hd, hm⟩ := st.heap _ _ h
  exact ⟨m, o, kvs', e, d, Heap.dictOf_iff.mpr ⟨o, e, hd⟩, hm⟩
end Mine

end

section
set_option Elab.async false
set_option linter.all false
set_option maxRecDepth 100000
set_option compiler.extract_closed false
namespace Mine
variable {S : Sta} {E : ES} {n : Nat} {F F' : List (Option AV)} {H H' : AH} {Q : AV → AH → Prop} {QN : List (Option AV) → AH → Prop} {QX : AFl → List (Option AV) → AH → Prop}

theorem gw_sdict {d : Addr} {t : Nat} {kvs : List (Str × AV)} {k : Str} {x : AV} (hd : H d = some (.sdict t kvs)) (hx : vat kvs k = some x) (h : Q x H) : GW S n (.ref d) (.str k) Q H := fun A L ns G stk s u v rm hu hv st => by
  rw [ab_ref hu]; obtain ⟨t', rfl⟩ := ab_str hv
  obtain ⟨m, o, kvs', e1, e2, hm, rfl⟩ := sd_at st hd
  rw [vat_map, Option.map_eq_some_iff] at hx
  obtain ⟨y, hy, rfl⟩ := hx
  exact ⟨⟨"dict", _, slot_dict_getitem.lookup, hm.typeIs⟩, wpAny_getItem_of (strKind_is pw S.w k t') hm.mapOf hy ⟨H, st.tok, h⟩⟩

/-! ## stores by a subscript -/
noncomputable def PW (S : Sta) (n : Nat) (a b c : AV) (Q : AH → Prop) (H : AH) : Prop :=
  ∀ A L ns G stk s u v x, Room n A → ab u = a → ab v = b → ab x = c → St S (.fr L ns G :: stk) H s → wpAny S.M A (setItem u v x) (fun _ s' => ∃ H', St S (.fr L ns G :: stk) H' s' ∧ Q H') Nope s
theorem xw_assign_sub {o i : Expr} {p' pos : Pos} {value : Expr} (h : EW S E n value (fun c H => EW S E n o (fun a H => EW S E n i (fun b H => PW S n a b c (QN F) H) F H) F H) F H)
    (hs : ∀ env, swapsWith value (some (.Subscript o i p')) pos.line env = pure false) : XW S E n (.Assign [.Subscript o i p'] value pos) QN QX F H :=
  fun A env L stk s rm ev st => wpAny_Assign_Subscript (wpAny_mono (h A env L stk s rm ev st) (fun c s₁ ⟨H₁, st₁, h₁⟩ => wpAny_mono (h₁ A env L stk s₁ rm ev st₁) (fun a s₂ ⟨H₂, st₂, h₂⟩ =>
    wpAny_mono (h₂ A env L stk s₂ rm ev st₂) (fun b s₃ ⟨H₃, st₃, h₃⟩ => wpAny_mono (h₃ A L _ F stk s₃ a b c rm rfl rfl rfl st₃) (fun _ s₄ ⟨H₄, st₄, h₄⟩ => ⟨F, H₄, st₄, h₄⟩) fun _ _ x => x) fun _ _ x => x) fun _ _ x => x) fun _ _ x => x) (hs env)
theorem upd_pl {h : Heap} {l : Addr} {vs : Array Value} {m : Nat} {f : Array Value → Array Value} (e : h.get? l = some { cls := .type "list", data := .seq vs m }) :
    ∃ k, (h.update l (Obj.mapSeq f)).get? l = some { cls := .type "list", data := .seq (f vs) k } := ⟨_, Heap.get?_update_self (Obj.mapSeq f) e rfl⟩
theorem St.updl {stk : List Fm} {s : Shared} (st : St S stk H s) {l : Addr} {t m tk : Nat} {xs ys : List AV} {vs : Array Value} {f : Array Value → Array Value} (hl : H l = some (.list t xs)) (e : s.heap.get? l = some { cls := .type "list", data := .seq vs m })
    (hf : (f vs).toList.map ab = ys) : St S stk (H.upd l (.list t ys)) { s with heap := s.heap.update l (Obj.mapSeq f), toks := tk } :=
  let ⟨_, hk⟩ := upd_pl (f := f) e
  st.set hl (Heap.SameBut.update ..).extBut hk ⟨_, _, rfl, hf⟩
theorem pw_list {l : Addr} {t : Nat} {xs : List AV} {i : Int} {x : AV} {Q : AH → Prop} (hl : H l = some (.list t xs)) (h0 : 0 ≤ i) (hs : i < 2 ^ 62) (hn : i.toNat < xs.length) (h : Q (H.upd l (.list t (xs.set i.toNat x)))) : PW S n (.ref l) (.int i) x Q H :=
  fun A L ns G stk s u v c rm hu hv hc st => by
    rw [ab_ref hu]; obtain ⟨tk, rfl⟩ := ab_int hv
    obtain ⟨vs, m, e, ex⟩ := list_pl st hl
    have sz : vs.size = xs.length := by rw [← ex, List.length_map, Array.length_toList]
    refine ki_setAt e h0 (by omega) (by omega) ⟨_, st.updl (t := t) (ys := xs.set i.toNat x) hl e ?_, h⟩
    rw [← ex, ← hc]
    simp [List.map_set]
theorem big : (16000000 : Nat) ≤ sizeLine := by decide
theorem maxmin (a b n : Nat) : (max ((min a n : Nat) : Int) ((min b n : Nat) : Int)).toNat = min (max a b) n := by
  rw [Nat.min_max_distrib_right]
  generalize min a n = x
  generalize min b n = y
  rcases Nat.le_total x y with h | h
  · rw [Int.max_eq_right (Int.ofNat_le.mpr h), Nat.max_eq_right h, Int.toNat_natCast]
  · rw [Int.max_eq_left (Int.ofNat_le.mpr h), Nat.max_eq_left h, Int.toNat_natCast]
theorem cutsz2 {k m n : Nat} (h : k ≤ m) : min k n + (n - m) ≤ n := by
  rcases Nat.le_total m n with a | a
  · exact Nat.le_trans (Nat.add_le_add_right (Nat.le_trans (Nat.min_le_left _ _) h) _) (Nat.le_of_eq (Nat.add_sub_cancel' a))
  · rw [Nat.sub_eq_zero_of_le a]; exact Nat.min_le_right _ _
theorem cutsz {α : Type} {xs ys : Array α} {k m N : Nat} (h : k ≤ m) (hN : xs.size + ys.size ≤ N): (xs.extract 0 k ++ ys ++ xs.extract m xs.size).size ≤ N := by
  rw [Array.size_append, Array.size_append, Array.size_extract, Array.size_extract, Nat.min_self, Nat.sub_zero, Nat.add_right_comm]
  exact Nat.le_trans (Nat.add_le_add_right (cutsz2 h) _) hN
theorem listSetSlice {w : World} {A : Around} {Ex : Value → Shared → Prop} {s : Shared} {l b sl : Addr} {items new : Array Value} {m m' : Nat} {vl vu : Value} {p q : Option Int} {Q : Unit → Shared → Prop}
    (hl : s.heap.get? l = some { cls := .type "list", data := .seq items m }) (hb : s.heap.get? b = some { cls := .type "list", data := .seq new m' }) (hs : s.heap.IsSliceOf sl vl vu .none) (pl : IsPart vl p) (pu : IsPart vu q)
    (hsz : items.size + new.size ≤ 16000000)
    (h : Q () { s with heap := s.heap.update l (Obj.mapSeq fun xs => xs.extract 0 (sliceBounds p q none items.size).1.toNat ++ new ++ xs.extract (max (sliceBounds p q none items.size).1 (sliceBounds p q none items.size).2.1).toNat xs.size) }) :
    wpAny (model pw w) A (setItem (.ref l) (.ref sl) (.ref b)) Q Ex s := by
  obtain ⟨os, hos, hcs, hds⟩ := id hs
  have hTs : s.TypeIs (.ref sl) "slice" := ⟨os, hos, hcs⟩
  have hT : s.TypeIs (.ref l) "list" := ⟨_, hl, rfl⟩
  unfold setItem
  try with_reducible refine wpAny_holding ?_
  first | refine wpAny_bind (wpAny_pure ?_) | skip
  refine wpAny_bind (wpAny_sequenceKey hT (by decide) ?_)
  refine wpAny_bind (wpAny_callSpecial?_slot (name := Str.ofString "__setitem__") hT slot_list_setitem
    (wpAny_call_entry slot_list_setitem hT entry_list_setitem ?_ (args_list_setitem _ _ _)))
  show wpAny _ _ (Builtin.List.listSubscript? (.ref sl) >>= _) _ _ s
  refine wpAny_bind ?_
  unfold Builtin.List.listSubscript?
  refine wpAny_bind (wpAny_specialOf hTs slice_no_index ?_)
  simp only [Option.isNone_none, if_true]
  refine wpAny_pure ?_
  show wpAny _ _ (typeOf (.ref sl) >>= _) _ _ s
  refine wpAny_bind (wpAny_typeOf hTs ?_)
  rw [if_neg (by decide)]
  rw [listSliceParts_eq]
  refine wpAny_bind (wpAny_bind (wpAny_field hos hds (x := .none) rfl (wpAny_bind (wpAny_listPart .none ?_))))
  rw [if_neg (by simp [rawPart, rawInt])]
  refine wpAny_bind (wpAny_field hos hds (x := vl) rfl (wpAny_bind (wpAny_listPart pl ?_)))
  refine wpAny_bind (wpAny_field hos hds (x := vu) rfl (wpAny_bind (wpAny_listPart pu (wpAny_pure ?_))))
  have e0 : (none : Option Int) ≠ some 0 := by simp
  have hst : (sliceBounds p q none items.size).2.2 = 1 := rfl
  have htl : Builtin.List.listTooLong (items.size + new.size) = false := by
    unfold Builtin.List.listTooLong
    rw [decide_eq_false_iff_not]
    have : (16000000 : Nat) ≤ sizeLine := by decide
    omega
  split
  · refine wpAny_bind (m := Builtin.List.listItems (.ref b)) (wpAny_bind (wpAny_seqItems hb rfl (wpAny_pure ?_)))
    refine wpAny_bind (m := Builtin.List.listItems (.ref l)) (wpAny_bind (wpAny_seqItems hl rfl (wpAny_pure ?_)))
    refine wpAny_bind (wpAny_of_eq (sliceIndices_raw p q none items.size e0) ?_)
    rw [if_pos (by rw [hst]; rfl)]
    refine wpAny_bind (wpAny_rule ?_)
    rw [if_neg (by rw [htl]; simp)]
    refine wpAny_bind (m := Builtin.List.listUpdate (.ref l) _) (wpAny_updateSeq hl rfl ?_ (Nat.le_trans (by omega) big) ?_)
    · exact wpAny_bind (wpAny_letGo (wpAny_pure ⟨.none, rfl, wpAny_pure h⟩))
    · exact cutsz (Int.toNat_le_toNat (Int.le_max_left _ _)) (Nat.le_trans hsz (by decide))
  · refine wpAny_bind (m := Builtin.List.listAllItems (.ref b) _) ?_
    unfold Builtin.List.listAllItems
    refine wpAny_bind (wpAny_typeOf (T := "list") ⟨_, hb, rfl⟩ ?_)
    rw [if_pos (by rfl)]
    refine (show wpAny _ _ (Builtin.List.listItems (.ref b)) _ _ _ from wpAny_bind (wpAny_seqItems hb rfl (wpAny_pure ?_)))
    refine wpAny_bind (m := Builtin.List.listItems (.ref l)) (wpAny_bind (wpAny_seqItems hl rfl (wpAny_pure ?_)))
    refine wpAny_bind (wpAny_of_eq (sliceIndices_raw p q none items.size e0) ?_)
    rw [if_pos (by rw [hst]; rfl)]
    refine wpAny_bind (wpAny_rule ?_)
    rw [if_neg (by rw [htl]; simp)]
    refine wpAny_bind (m := Builtin.List.listUpdate (.ref l) _) (wpAny_updateSeq hl rfl ?_ (Nat.le_trans (by omega) big) ?_)
    · exact wpAny_bind (wpAny_letGo (wpAny_pure ⟨.none, rfl, wpAny_pure h⟩))
    · exact cutsz (Int.toNat_le_toNat (Int.le_max_left _ _)) (Nat.le_trans hsz (by decide))
theorem ext_take {α : Type} (xs : Array α) (k : Nat) : (xs.extract 0 k).toList = xs.toList.take k := by simp
theorem ext_drop {α : Type} (xs : Array α) (k : Nat) : (xs.extract k xs.size).toList = xs.toList.drop k := by
  rw [Array.toList_extract, List.extract_eq_take_drop, List.take_of_length_le (by simp)]
/-- xs[a:b] = ys -/
noncomputable def putIn {α : Type} (a b : Nat) (xs ys : List α) : List α := xs.take a ++ ys ++ xs.drop (max a b)
theorem pw_cut {l b sl : Addr} {t t' : Nat} {xs ys : List AV} {i j : Int} {Q : AH → Prop} (hs : H sl = some (.slc (.int i) (.int j) .none)) (hl : H l = some (.list t xs)) (hb : H b = some (.list t' ys)) (h0 : 0 ≤ i) (h1 : 0 ≤ j) (hsz : xs.length + ys.length ≤ 16000000)
    (h : Q (H.upd l (.list t (putIn i.toNat j.toNat xs ys)))) : PW S n (.ref l) (.ref sl) (.ref b) Q H := fun A L ns G stk s u v c rm hu hv hc st => by
  rw [ab_ref hu, ab_ref hv, ab_ref hc]
  obtain ⟨vs, m, e, ex⟩ := list_pl st hl
  obtain ⟨ws, m', e', ey⟩ := list_pl st hb
  obtain ⟨os, vl, vu, vk, f1, f2, f3, f4, f5, f6⟩ := slc_at st hs
  obtain ⟨p, p1, p2⟩ := part_of f4 h0
  obtain ⟨q, q1, q2⟩ := part_of f5 h1
  rw [ab_none f6] at f3
  have sz : vs.size = xs.length := by rw [← ex, List.length_map, Array.length_toList]
  have sz' : ws.size = ys.length := by rw [← ey, List.length_map, Array.length_toList]
  refine listSetSlice e e' ⟨os, f1, f2, f3⟩ p1 q1 (by omega) ⟨_, st.updl (t := t) (ys := putIn i.toNat j.toNat xs ys) hl e ?_, h⟩
  rw [bounds_of p2 q2]
  simp only [Array.toList_append, ext_take, ext_drop, List.map_append, List.map_take, List.map_drop, ex, ey, Int.toNat_natCast, loN, hiN, putIn]
  rw [sz, take_min]
  congr 1
  rw [maxmin, drop_min _ _ _ (Nat.le_refl _)]
theorem pw_sdict {d : Addr} {t : Nat} {kvs : List (Str × AV)} {k : Str} {x : AV} {Q : AH → Prop} (hd : H d = some (.sdict t kvs)) (hsz : kvs.length ≤ 100000) (h : Q (H.upd d (.sdict t (sto kvs k x)))) : PW S n (.ref d) (.str k) x Q H := fun A L ns G stk s u v c rm hu hv hc st => by
  rw [ab_ref hu]; obtain ⟨t', rfl⟩ := ab_str hv
  obtain ⟨m, o, kvs', e1, e2, hm, rfl⟩ := sd_at st hd
  rw [List.length_map] at hsz
  refine wpAny_setItem_pairs (hsz := Nat.le_trans hsz (by decide)) (strKind_is pw S.w k t') hm fun h' hm' hs' => ?_
  obtain ⟨o', ho', hd'⟩ := Heap.dictOf_iff.mp hm'
  refine ⟨_, st.set (o := .sdict t _) hd hs'.extBut ho' ⟨m, ?_, _, hd', sto_map _ _ _⟩, by rw [← hc] at h; exact h⟩
  obtain ⟨es, ep, a, _⟩ := hd'
  exact a.2.1
theorem pw_idict {d : Addr} {t : Nat} {kvs : List (Int × AV)} {k : Int} {x : AV} {Q : AH → Prop} (hd : H d = some (.idict t kvs)) (hsz : kvs.length ≤ 100000) (h : Q (H.upd d (.idict t (sto kvs k x)))) : PW S n (.ref d) (.int k) x Q H := fun A L ns G stk s u v c rm hu hv hc st => by
  rw [ab_ref hu]; obtain ⟨t', rfl⟩ := ab_int hv
  obtain ⟨m, o, kvs', e1, e2, hm, rfl⟩ := id_at st hd
  rw [List.length_map] at hsz
  refine wpAny_setItem_pairs (hsz := Nat.le_trans hsz (by decide)) (intKind_is pw S.w k t') hm fun h' hm' hs' => ?_
  obtain ⟨o', ho', hd'⟩ := Heap.dictOf_iff.mp hm'
  refine ⟨_, st.set (o := .idict t _) hd hs'.extBut ho' ⟨m, ?_, _, hd', sto_map _ _ _⟩, by rw [← hc] at h; exact h⟩
  obtain ⟨es, ep, a, _⟩ := hd'
  exact a.2.1
end Mine

end

section
set_option Elab.async false
set_option linter.all false
set_option maxRecDepth 100000
set_option compiler.extract_closed false
namespace Mine
variable {S : Sta} {E : ES} {n : Nat} {F F' : List (Option AV)} {H H' : AH} {Q : AV → AH → Prop} {QN : List (Option AV) → AH → Prop} {QX : AFl → List (Option AV) → AH → Prop}

/-! ## methods of built-in types -/
noncomputable def tyOf : AO → Option String
  | .list .. => some "list"
  | .sdict .. => some "dict"
  | .idict .. => some "dict"
  | _ => none
noncomputable def ATy (H : AH) : AV → String → Prop
  | .str _, T => T = "str"
  | .ref a, T => ∃ o, H a = some o ∧ tyOf o = some T
  | _, _ => False
structure BM (T : String) (name : Str) (id : String) : Prop where
  pa : PlainAttrs T
  slot : Slot T name id
  ty : typeOf (.builtin id) = pure (.type "method_descriptor")
theorem bm_append : BM "list" "append" "list.append" := ⟨F.plainAttrs_list, F.slot_list_append, F.type_list_append⟩
theorem bm_pop : BM "list" "pop" "list.pop" := ⟨F.plainAttrs_list, F.slot_list_pop, F.type_list_pop⟩
theorem bm_extend : BM "list" "extend" "list.extend" := ⟨F.plainAttrs_list, F.slot_list_extend, F.type_list_extend⟩
theorem bm_get : BM "dict" "get" "dict.get" := ⟨F.plainAttrs_dict, F.slot_dict_get, F.type_dict_get⟩
theorem bm_dpop : BM "dict" "pop" "dict.pop" := ⟨F.plainAttrs_dict, F.slot_dict_pop, F.type_dict_pop⟩
theorem bm_join : BM "str" "join" "str.join" := ⟨F.plainAttrs_str, F.slot_str_join, F.type_str_join⟩
theorem bm_lower : BM "str" "lower" "str.lower" := ⟨F.plainAttrs_str, F.slot_str_lower, F.type_str_lower⟩
theorem bm_upper : BM "str" "upper" "str.upper" := ⟨F.plainAttrs_str, F.slot_str_upper, F.type_str_upper⟩
theorem aty_type {stk : List Fm} {s : Shared} (st : St S stk H s) {u : Value} {T : String} (h : ATy H (ab u) T) : s.TypeIs u T ∧ ∀ a, u = .ref a → ∃ o, s.heap.get? a = some o ∧ o.dict = none := by
  cases u <;> simp only [ab, ATy] at h
  · subst h; exact ⟨typeIs_str _ _ _, fun a e => nomatch e⟩
  · obtain ⟨o, e, t⟩ := h
    cases o <;> simp only [tyOf, Option.some.injEq] at t <;> first | (exact absurd t (by simp)) | subst t
    · obtain ⟨vs, m, e1, _⟩ := list_pl st e
      exact ⟨⟨_, e1, rfl⟩, fun a q => by cases q; exact ⟨_, e1, rfl⟩⟩
    · obtain ⟨_, ob, kvs', e1, e2, hm, _⟩ := sd_at st e
      exact ⟨hm.typeIs, fun a q => by cases q; exact ⟨_, e1, e2⟩⟩
    · obtain ⟨_, ob, kvs', e1, e2, hm, _⟩ := id_at st e
      exact ⟨hm.typeIs, fun a q => by cases q; exact ⟨_, e1, e2⟩⟩
theorem ew_mB {o : Expr} {x : Str} {apos pos : Pos} {args : List Expr} {T id : String} (bm : BM T x id) (h : EW S E n o (fun v H => ATy H v T ∧ EWs S E n args (fun vs H => CB S (.builtin id) n (v :: vs) Q H) F H) F H)
    (hc : ∀ env, ∃ pl, eval (.Call (.Attribute o x apos) args [] pos) env = (do
      let ov ← eval o env
      standAt apos.atName
      let (f, first) ← holding [ov] (getMethod ov x pl)
      callWith pos f first (backTo pos (starEach args env)) (backToKw pos (keywordEach [] env))))
    (hpl : ∀ env pos, (backTo pos (starEach args env)).any (·.1) = false) (hlen : ∀ env, starEach args env = [] ∨ ∃ e' t, starEach args env = (false, e') :: t) :
    EW S E n (.Call (.Attribute o x apos) args [] pos) Q F H :=
  fun A env L stk s rm ev st => by
    obtain ⟨pl, hc⟩ := hc env
    refine methodCall_KW (pl := pl) (wpAny_mono (h A env L stk s rm ev st) (fun v s₁ ⟨H₁, st₁, ht, h₁⟩ => ?_) fun _ _ x => x) hc
    obtain ⟨hT, hd⟩ := aty_type st₁ ht
    refine getMethod_builtin hT bm.pa bm.slot bm.ty hd ?_
    refine callWith_builtin (hpl _ _) ?_
    have := wpAny_mono (h₁ A env L stk s₁ pos rm ev st₁) (Q' := fun vs s' => wpAny S.M A (call (.builtin id) ([v] ++ vs) []) (fun v s'' => ∃ H', St S (.fr L E.sc.names F :: stk) H' s'' ∧ Q (ab v) H') Nope s')
      (fun vs s₂ ⟨H₂, st₂, h₂⟩ => h₂ A L _ F stk s₂ (v :: vs) rm rfl st₂) (fun _ _ x => x)
    rcases hlen env with q | ⟨e', t, q⟩
    · rw [q] at this ⊢
      refine evalArgs_nil3 ?_
      have z := h₁ A env L stk s₁ pos rm ev st₁
      rw [q] at z
      intro Γ pp hΓ
      obtain ⟨H₂, st₂, h₂⟩ := z Γ pp hΓ
      exact h₂ A L _ F stk s₁ [v] rm rfl st₂ Γ pp hΓ
    · rw [q] at this ⊢
      exact evalArgs_plain this
theorem cb_append {l : Addr} {t : Nat} {xs : List AV} {x : AV} (hl : H l = some (.list t xs)) (hs : xs.length ≤ 1000000) (h : Q .none (H.upd l (.list t (xs ++ [x])))) : CB S (.builtin "list.append") n [.ref l, x] Q H := fun A L ns G stk s vals rm hv st => by
  obtain ⟨u, v, rfl, hu, hw⟩ := map2 hv
  rw [ab_ref hu]
  obtain ⟨vs, m, e, ex⟩ := list_pl st hl
  have sz : vs.size = xs.length := by rw [← ex, List.length_map, Array.length_toList]
  refine wpAny_call_entry slot_list_append ⟨_, e, rfl⟩ entry_list_append ?_ (args_list_append _ _)
  show wpAny _ _ (updateSeq l (·.push v) >>= fun _ => ret .none) _ _ s
  refine wpAny_bind ?_
  refine wpAny_updateSeq e rfl (wpAny_pure ⟨.none, rfl, _, st.updl (t := t) (ys := xs ++ [x]) hl e ?_, h⟩) (by rw [sz]; exact Nat.le_trans (by omega) big) (by rw [Array.size_push, sz]; exact Nat.le_trans (m := 16000000) (by omega) (Nat.le_succ_of_le big))
  simp [ex, hw]
theorem cb_pop {l : Addr} {t : Nat} {xs : List AV} {x : AV} (hl : H l = some (.list t (xs ++ [x]))) (hs : xs.length ≤ 1000000) (h : Q x (H.upd l (.list t xs))) : CB S (.builtin "list.pop") n [.ref l] Q H := fun A L ns G stk s vals rm hv st => by
  obtain ⟨u, rfl, hu⟩ := map1 hv
  rw [ab_ref hu]
  obtain ⟨vs, m, e, ex⟩ := list_pl st hl
  have sz : vs.size = xs.length + 1 := by rw [← Array.length_toList, ← List.length_map (f := ab), ex]; simp
  obtain ⟨ws, y, hvs⟩ : ∃ ws y, vs.toList = ws ++ [y] := by
    have : vs.toList ≠ [] := fun q => by rw [← Array.length_toList, q] at sz; simp at sz
    exact ⟨_, _, (List.dropLast_concat_getLast this).symm⟩
  have hv2 : vs = (ws ++ [y]).toArray := by rw [← hvs]
  subst hv2
  simp only [List.map_append, List.map_cons, List.map_nil, List.toList_toArray] at ex
  have ⟨e3, e4⟩ := List.append_inj' ex rfl
  simp only [List.cons.injEq, and_true] at e4
  refine call_meets F.slot_list_pop ⟨_, e, rfl⟩ F.entry_list_pop (F.args_list_pop_1 _) (PySem.MeetsSeq.list_pop_last l _ m y (by simp) (by rw [sz]; exact Nat.le_trans (by omega) big)) ⟨e, ?_⟩
  refine ⟨_, st.updl (t := t) (ys := xs) hl e ?_, by rw [e4]; exact h⟩
  simp only [List.size_toArray, List.length_append, List.length_cons, List.length_nil]
  rw [← e3, List.eraseIdxIfInBounds_toArray]
  simp [List.eraseIdx_append_of_length_le]
theorem cb_extend {l b : Addr} {t t' : Nat} {xs ys : List AV} (hl : H l = some (.list t xs)) (hb : H b = some (.list t' ys)) (hs : xs.length + ys.length ≤ 1000000) (h : Q .none (H.upd l (.list t (xs ++ ys)))) : CB S (.builtin "list.extend") n [.ref l, .ref b] Q H := fun A L ns G stk s vals rm hv st => by
  obtain ⟨u, v, rfl, hu, hw⟩ := map2 hv
  rw [ab_ref hu, ab_ref hw]
  obtain ⟨vs, m, e, ex⟩ := list_pl st hl
  obtain ⟨ws, m', e', ey⟩ := list_pl st hb
  have sz : vs.size = xs.length := by rw [← ex, List.length_map, Array.length_toList]
  have sz' : ws.size = ys.length := by rw [← ey, List.length_map, Array.length_toList]
  have : (16000000 : Nat) ≤ sizeLine := big
  have htl : Builtin.List.listTooLong (vs.size + ws.size) = false := by
    unfold Builtin.List.listTooLong
    rw [decide_eq_false_iff_not]; omega
  refine call_meets F.slot_list_extend ⟨_, e, rfl⟩ F.entry_list_extend (F.args_list_extend_2 _ _) (AutoSeq1.list_extend_list_list_0 l vs m b ws m' (by rw [htl]; simp) (by omega) (by omega)) ⟨e, e', ?_⟩
  exact ⟨_, st.updl (t := t) (ys := xs ++ ys) hl e (by simp [ex, ey]), h⟩
theorem map3 {vals : List Value} {a b c : AV} (h : vals.map ab = [a, b, c]) : ∃ u v w, vals = [u, v, w] ∧ ab u = a ∧ ab v = b ∧ ab w = c := by
  obtain ⟨u, us, rfl, e, h2⟩ := mapS h; obtain ⟨v, w, rfl, e2⟩ := map2 h2; exact ⟨u, v, w, rfl, e, e2⟩
theorem cb_get {d : Addr} {t : Nat} {kvs : List (Str × AV)} {k : Str} {x : AV} (hd : H d = some (.sdict t kvs)) (h : Q ((vat kvs k).getD x) H) : CB S (.builtin "dict.get") n [.ref d, .str k, x] Q H := fun A L ns G stk s vals rm hv st => by
  obtain ⟨u, v, y, rfl, hu, hw, hy⟩ := map3 hv
  rw [ab_ref hu]; obtain ⟨t', rfl⟩ := ab_str hw
  obtain ⟨m, o, kvs', e1, e2, hm, rfl⟩ := sd_at st hd
  refine call_meetsIn F.slot_dict_get hm.typeIs F.entry_dict_get (F.args_dict_get_3 _ _ _) (meets_dict_get_default (strKind pw S.w) d (strKind_is pw S.w k t') m y) ⟨_, hm.mapOf, H, st.tok, ?_⟩
  rw [vat_map] at h
  cases q : valueAt kvs' k <;> rw [q] at h <;> simp only [Option.map_none, Option.map_some, Option.getD_none, Option.getD_some] at h ⊢
  · rw [hy]; exact h
  · exact h
theorem cb_getI {d : Addr} {t : Nat} {kvs : List (Int × AV)} {k : Int} {x : AV} (hd : H d = some (.idict t kvs)) (h : Q ((vat kvs k).getD x) H) : CB S (.builtin "dict.get") n [.ref d, .int k, x] Q H := fun A L ns G stk s vals rm hv st => by
  obtain ⟨u, v, y, rfl, hu, hw, hy⟩ := map3 hv
  rw [ab_ref hu]; obtain ⟨t', rfl⟩ := ab_int hw
  obtain ⟨m, o, kvs', e1, e2, hm, rfl⟩ := id_at st hd
  refine call_meetsIn F.slot_dict_get hm.typeIs F.entry_dict_get (F.args_dict_get_3 _ _ _) (meets_dict_get_default (intKind pw S.w) d (intKind_is pw S.w k t') m y) ⟨_, hm.mapOf, H, st.tok, ?_⟩
  rw [vat_map] at h
  cases q : valueAt kvs' k <;> rw [q] at h <;> simp only [Option.map_none, Option.map_some, Option.getD_none, Option.getD_some] at h ⊢
  · rw [hy]; exact h
  · exact h
theorem pop_core {d : Addr} {t : Nat} {kvs : List (Str × AV)} {k : Str} {x : AV} {A : Around} {L : Addr} {ns : List (Str × NameKind)} {G : List (Option AV)} {stk : List Fm} {s : Shared} {t' : Tok} {more : List Value} (hmore : more = [] ∨ ∃ x, more = [x]) (hargs : argsOk "dict.pop" ⟨.ref d :: .str k t' :: more, []⟩)
    (hd : H d = some (.sdict t kvs)) (hx : vat kvs k = some x) (hsz : kvs.length ≤ 100000) (h : Q x (H.upd d (.sdict t (wout kvs k)))) (st : St S (.fr L ns G :: stk) H s) :
    wpAny S.M A (call (.builtin "dict.pop") (.ref d :: .str k t' :: more) []) (fun v s' => ∃ H', St S (.fr L ns G :: stk) H' s' ∧ Q (ab v) H') Nope s := by
  obtain ⟨m, o, kvs', e1, e2, hm, rfl⟩ := sd_at st hd
  rw [List.length_map] at hsz
  rw [vat_map, Option.map_eq_some_iff] at hx
  obtain ⟨y, hy, rfl⟩ := hx
  refine call_meetsIn F.slot_dict_pop hm.typeIs F.entry_dict_pop hargs (meets_dict_pop_there (strKind pw S.w) d (strKind_is pw S.w k t') more hmore rfl) ⟨kvs', y, hm, Nat.le_trans hsz (by decide), hy, fun h' hm' hs' => ?_⟩
  obtain ⟨o', ho', hd'⟩ := Heap.dictOf_iff.mp hm'
  refine ⟨_, st.set (o := .sdict t _) hd hs'.extBut ho' ⟨m, ?_, _, hd', wout_map _ _⟩, h⟩
  obtain ⟨es, ep, a, _⟩ := hd'
  exact a.2.1
theorem cb_dpop {d : Addr} {t : Nat} {kvs : List (Str × AV)} {k : Str} {x : AV} (hd : H d = some (.sdict t kvs)) (hx : vat kvs k = some x) (hsz : kvs.length ≤ 100000) (h : Q x (H.upd d (.sdict t (wout kvs k)))) : CB S (.builtin "dict.pop") n [.ref d, .str k] Q H := fun A L ns G stk s vals rm hv st => by
  obtain ⟨u, v, rfl, hu, hw⟩ := map2 hv
  rw [ab_ref hu]; obtain ⟨t', rfl⟩ := ab_str hw
  exact pop_core (.inl rfl) (F.args_dict_pop_2 _ _) hd hx hsz h st
theorem cb_dpop2 {d : Addr} {t : Nat} {kvs : List (Str × AV)} {k : Str} {x : AV} (hd : H d = some (.sdict t kvs)) (hsz : kvs.length ≤ 100000) (h : Q ((vat kvs k).getD x) (H.upd d (.sdict t (wout kvs k)))) : CB S (.builtin "dict.pop") n [.ref d, .str k, x] Q H := fun A L ns G stk s vals rm hv st => by
  obtain ⟨u, v, y, rfl, hu, hw, hy⟩ := map3 hv
  rw [ab_ref hu]; obtain ⟨t', rfl⟩ := ab_str hw
  cases q : vat kvs k with
  | some z => rw [q] at h; exact pop_core (.inr ⟨_, rfl⟩) (F.args_dict_pop_3 _ _ _) hd q hsz h st
  | none =>
    obtain ⟨m, o, kvs', e1, e2, hm, rfl⟩ := sd_at st hd
    rw [q] at h
    have hw : wout (kvs'.map (fun p => (p.1, ab p.2))) k = kvs'.map (fun p => (p.1, ab p.2)) := by
      unfold wout
      refine List.filter_eq_self.mpr fun p hp => ?_
      rw [decide_eq_true_eq]
      intro e
      unfold vat at q
      rw [Option.map_eq_none_iff, List.find?_eq_none] at q
      have := q p hp
      simp [e] at this
    rw [hw] at h
    have hup : H.upd d (.sdict t (kvs'.map (fun p => (p.1, ab p.2)))) = H := by
      funext b; unfold AH.upd; split
      · rename_i e; rw [e, hd]
      · rfl
    rw [hup] at h
    rw [vat_map, Option.map_eq_none_iff] at q
    exact call_meetsIn F.slot_dict_pop hm.typeIs F.entry_dict_pop (F.args_dict_pop_3 _ _ _) (meets_dict_pop_default (strKind pw S.w) d (strKind_is pw S.w k t') m rfl y) ⟨kvs', hm, q, H, st.tok, by rw [hy]; exact h⟩
theorem strs_of : ∀ {vs : List Value} {ss : List Str}, vs.map ab = ss.map AV.str → StrsAre vs ss
  | [], [], _ => .nil
  | v :: vs, x :: ss, h => by
    simp only [List.map_cons, List.cons.injEq] at h
    obtain ⟨t, rfl⟩ := ab_str h.1
    exact .cons _ _ (strs_of h.2)
  | [], _ :: _, h => by simp at h
  | _ :: _, [], h => by simp at h
theorem ints_of : ∀ {vs : List Value} {ss : List Int}, vs.map ab = ss.map AV.int → IntsAre vs ss
  | [], [], _ => .nil
  | v :: vs, x :: ss, h => by
    simp only [List.map_cons, List.cons.injEq] at h
    obtain ⟨t, rfl⟩ := ab_int h.1
    exact .cons _ _ (ints_of h.2)
  | [], _ :: _, h => by simp at h
  | _ :: _, [], h => by simp at h
theorem of_ints : ∀ {vs : List Value} {ss : List Int}, IntsAre vs ss → vs.map ab = ss.map AV.int
  | _, _, .nil => rfl
  | _, _, .cons _ _ h => by simp only [List.map_cons, of_ints h]; rfl
theorem cb_join {x : Str} {l : Addr} {t : Nat} {ss : List Str} (hl : H l = some (.list t (ss.map AV.str))) (hs : (ss.map (·.length)).sum + ss.length * x.length ≤ 1000000) (h : Q (.str (Txt.join x ss)) H) : CB S (.builtin "str.join") n [.str x, .ref l] Q H := fun A L ns G stk s vals rm hv st => by
  obtain ⟨u, v, rfl, hu, hw⟩ := map2 hv
  rw [ab_ref hw]; obtain ⟨t', rfl⟩ := ab_str hu
  obtain ⟨vs, m, e, ex⟩ := list_pl st hl
  exact join_list ⟨_, e, rfl, m, rfl⟩ (strs_of ex) (by omega) fun t' k => ⟨H, st.tok, h⟩
theorem fits {k : Nat} (h : k ≤ 1000000) : Builtin.Str.tooLong k = false := by
  unfold Builtin.Str.tooLong
  rw [decide_eq_false_iff_not]
  have := big
  omega
theorem cb_lower {x : Str} (hfit : (Txt.lower x).length ≤ 1000000) (h : Q (.str (Txt.lower x)) H) : CB S (.builtin "str.lower") n [.str x] Q H := fun A L ns G stk s vals rm hv st => by
  obtain ⟨u, rfl, hu⟩ := map1 hv
  obtain ⟨t', rfl⟩ := ab_str hu
  exact call_gives F.slot_str_lower (typeIs_str _ _ _) F.entry_str_lower (F.args_str_lower_1 _) (gives_str_lower x t' (fits hfit)) ⟨Nat.le_trans hfit (Nat.le_trans (by omega) big), H, st.tok, h⟩
theorem cb_upper {x : Str} (hfit : (Txt.upper x).length ≤ 1000000) (h : Q (.str (Txt.upper x)) H) : CB S (.builtin "str.upper") n [.str x] Q H := fun A L ns G stk s vals rm hv st => by
  obtain ⟨u, rfl, hu⟩ := map1 hv
  obtain ⟨t', rfl⟩ := ab_str hu
  exact call_gives F.slot_str_upper (typeIs_str _ _ _) F.entry_str_upper (F.args_str_upper_1 _) (gives_str_upper x t' (fits hfit)) ⟨Nat.le_trans hfit (Nat.le_trans (by omega) big), H, st.tok, h⟩
end Mine

end

section
open PySem.SeqAt
open AutoSeq1 (wpAny_loadPart')
open MeetsSeq MeetsSeq2 MeetsSeq3 SeqRoads2
set_option Elab.async false
set_option linter.all false
set_option maxRecDepth 100000
set_option compiler.extract_closed false
namespace Mine
/-- all the items are alike -/
theorem ne_loop (l b : Addr) (items items2 : Array Value) (n n2 : Nat) (hsz : items.size = items2.size) (k : Nat) :
    ∀ i : Nat, items.size - i = k → Meets (Builtin.«list.__eq__.loop» ⟨[.ref l, .ref b, rawInt i, rawInt 3], []⟩)
      (fun A R s => s.heap.get? l = some { cls := .type "list", data := .seq items n } ∧ s.heap.get? b = some { cls := .type "list", data := .seq items2 n2 } ∧
        (∀ j (h1 : j < items.size) (h2 : j < items2.size), EqAt A.in1 s items[j] items2[j] true) ∧
        R (.ok (.ret (.bool false))) s) := by
  induction k with
  | zero =>
    intro i hk prog w A R s h
    obtain ⟨hp, g, d, tk, os⟩ := s; obtain ⟨hl, hb, he, h⟩ := h
    wp_walk using wpAny_loadPart' hl, wpAny_loadPart' hb
    have hi1 : items[((i : Nat) : Int).toNat]? = none := by simp; omega
    have hi2 : items2[((i : Nat) : Int).toNat]? = none := by simp; omega
    rw [hi1, hi2]
    wp_walk using wpAny_loadPart' hl, wpAny_loadPart' hb
    show R (.ok (.ret (.bool (items.size != items2.size)))) _
    rw [hsz]
    simpa using h
  | succ k ih =>
    intro i hk prog w A R s h
    obtain ⟨hp, g, d, tk, os⟩ := s; obtain ⟨hl, hb, he, h⟩ := h
    wp_walk using wpAny_loadPart' hl, wpAny_loadPart' hb
    have hlt : i < items.size := by omega
    have hlt2 : i < items2.size := by omega
    have hi1 : items[((i : Nat) : Int).toNat]? = some items[i] := by simp [hlt]
    have hi2 : items2[((i : Nat) : Int).toNat]? = some items2[i] := by simp [hlt2]
    have hc : ((i : Int) + 1) = ((i + 1 : Nat) : Int) := by push_cast; rfl
    rw [hi1, hi2]
    refine wpAny_bind (he i hlt hlt2 prog w _ _ ?_)
    wp_walk
    rw [hc]
    exact ⟨plainId_quiet plain_eq_loop _, codeAny_builtin entry_eq_loop (by
      rw [Around.under_plainId plain_eq_loop _]
      exact ih (i + 1) (by omega) prog w A R _ ⟨hl, hb, he, h⟩)⟩
theorem list_ne (l b : Addr) (items items2 : Array Value) (n n2 : Nat) (hsz : items.size = items2.size) :
    Meets (Builtin.«list.__ne__» ⟨[.ref l, .ref b], []⟩)
      (fun A R s => s.heap.get? l = some { cls := .type "list", data := .seq items n } ∧ s.heap.get? b = some { cls := .type "list", data := .seq items2 n2 } ∧
        (∀ j (h1 : j < items.size) (h2 : j < items2.size), EqAt A.in1 s items[j] items2[j] true) ∧
        R (.ok (.ret (.bool false))) s) := by
  intro prog w A R s h
  obtain ⟨hp, g, d, tk, os⟩ := s; obtain ⟨hl, hb, he, h⟩ := h
  have f3 := AutoSeq1.sub_list_list
  have hne : ¬ (items.size != items2.size) = true := by simp [hsz]
  wp_walk using wpAny_loadPart' hl, wpAny_loadPart' hb
  exact ⟨plainId_quiet plain_eq_loop _, codeAny_builtin entry_eq_loop (by
    rw [Around.under_plainId plain_eq_loop _]
    exact ne_loop l b items items2 n n2 hsz _ 0 rfl prog w A R _ ⟨hl, hb, he, h⟩)⟩
theorem tuple_ne (l b : Addr) (items items2 : Array Value) (n n2 : Nat) (hsz : items.size = items2.size) :
    Meets (Builtin.«tuple.__ne__» ⟨[.ref l, .ref b], []⟩)
      (fun A R s => s.heap.get? l = some { cls := .type "tuple", data := .seq items n } ∧ s.heap.get? b = some { cls := .type "tuple", data := .seq items2 n2 } ∧
        (∀ j (h1 : j < items.size) (h2 : j < items2.size), EqAt A.in1 s items[j] items2[j] true) ∧
        R (.ok (.ret (.bool false))) s) :=
  .of_wp fun prog w A R s h => by
    obtain ⟨hp, g, d, tk, os⟩ := s; obtain ⟨hl, hb, he, h⟩ := h
    have f2 := AutoSeq1.sub_tuple_tuple
    have hZ : (items.toList.zip items2.toList).length = min items.size items2.size := by simp
    wp_walk using wpAny_loadPart' hl, wpAny_loadPart' hb, wpAny_forIn_list _ (fun rest b s' => b.1 = none ∧ s' = ⟨hp, g, d, tk, os⟩ ∧ ∃ i, rest = (items.toList.zip items2.toList).drop i ∧
      R (.ok (.ret (.bool false))) ⟨hp, g, d, tk, os⟩) _
    case turn =>
      rintro ⟨y, x⟩ rest b s' ⟨hb', rfl, i, hz, hR⟩
      have hlt : i < (items.toList.zip items2.toList).length := by
        rcases Nat.lt_or_ge i (items.toList.zip items2.toList).length with h' | h'
        · exact h'
        · rw [List.drop_of_length_le h'] at hz; cases hz
      have hm : i < min items.size items2.size := hZ ▸ hlt
      have h1 : i < items.size := Nat.lt_of_lt_of_le hm (Nat.min_le_left _ _)
      have h2 : i < items2.size := Nat.lt_of_lt_of_le hm (Nat.min_le_right _ _)
      rw [List.drop_eq_getElem_cons hlt] at hz
      injection hz with hyx hrest
      have hy : y = items[i] := by have := congrArg Prod.fst hyx; simpa using this
      have hx : x = items2[i] := by have := congrArg Prod.snd hyx; simpa using this
      subst hy hx
      refine wpAny_bind (he i h1 h2 prog w _ _ ?_)
      wp_walk
      exact ⟨rfl, rfl, i + 1, hrest, hR⟩
    case fin =>
      rintro ⟨b1, b2⟩ s' ⟨hb', rfl, i, hz, hR⟩
      simp only at hb'
      subst hb'
      wp_walk
      exact ⟨_, rfl, by simpa [Builtin.Tuple.tupleCompareSizes, hsz] using hR⟩
    case h =>
      exact ⟨rfl, rfl, 0, rfl, h⟩
end Mine

end

section
set_option Elab.async false
set_option linter.all false
set_option maxRecDepth 100000
set_option compiler.extract_closed false
namespace Mine
variable {S : Sta} {E : ES} {n : Nat} {F F' : List (Option AV)} {H H' : AH} {Q : AV → AH → Prop} {QN : List (Option AV) → AH → Prop} {QX : AFl → List (Option AV) → AH → Prop}

/-! ## operations on data -/
theorem ow_adds {x y : Str} (hs : x.length + y.length ≤ 1000000) (h : Q (.str (x ++ y)) H) : OW S (binaryOp .Add) n (.str x) (.str y) Q H := fun A L ns G stk s u v _ hu hv st => by
  obtain ⟨t, rfl⟩ := ab_str hu; obtain ⟨t', rfl⟩ := ab_str hv
  exact PyProof.Rows.add_str (fun t' tk => ⟨H, st.tok, h⟩) (Nat.le_trans hs (Nat.le_trans (by omega) big))
theorem ow_addl {l b : Addr} {t t' : Nat} {xs ys : List AV} (hl : H l = some (.list t xs)) (hb : H b = some (.list t' ys)) (hs : xs.length + ys.length ≤ 1000000) (h : ∀ a, H a = none → Q (.ref a) (H.upd a (.list 0 (xs ++ ys)))) :
    OW S (binaryOp .Add) n (.ref l) (.ref b) Q H := fun A L ns G stk s u v _ hu hv st => by
  rw [ab_ref hu, ab_ref hv]
  obtain ⟨vs, m, e, ex⟩ := list_pl st hl
  obtain ⟨ws, m', e', ey⟩ := list_pl st hb
  have sz : vs.size = xs.length := by rw [← ex, List.length_map, Array.length_toList]
  have sz' : ws.size = ys.length := by rw [← ey, List.length_map, Array.length_toList]
  obtain ⟨mm, news, F0, N, back⟩ := st.FN
  refine add_arrays F0 N ⟨_, e, rfl, m, rfl⟩ ⟨_, e', rfl, m', rfl⟩ (fun h' F1 N1 => ?_) (Nat.le_trans (m := 16000000) (by omega) big)
  exact ⟨_, back h' [_] s.toks (H.upd s.heap.objs.size (.list 0 (xs ++ ys))) F1 N1 (upd_cases ⟨size_none _, _, .head _, _, _, rfl, by simp [ex, ey]⟩), h _ (st.fresh_H (size_none _))⟩
theorem fold_rep : ∀ (k : Nat) (v : Value) (acc : Array Value), (List.foldl (fun x1 x2 => x1 ++ x2) acc (List.replicate k #[v])).toList = acc.toList ++ List.replicate k v
  | 0, v, acc => by simp
  | k + 1, v, acc => by
    rw [List.replicate_succ, List.foldl_cons, fold_rep k v]
    simp [List.replicate_succ]
theorem ow_mull {l : Addr} {t : Nat} {x : AV} (hl : H l = some (.list t [x])) (h0 : b.toNat ≤ 1000000) (hb : b < 2 ^ 60) (hb0 : 0 ≤ b) (h : ∀ a, H a = none → Q (.ref a) (H.upd a (.list 0 (List.replicate b.toNat x)))) :
    OW S (binaryOp .Mult) n (.ref l) (.int b) Q H := fun A L ns G stk s u v _ hu hv st => by
  rw [ab_ref hu]; obtain ⟨t', rfl⟩ := ab_int hv
  obtain ⟨vs, m, e, ex⟩ := list_pl st hl
  obtain ⟨y, rfl, rfl⟩ : ∃ y, vs = #[y] ∧ ab y = x := by
    cases vs with
    | mk l => obtain ⟨y, rfl, e2⟩ := map1 (vals := l) ex; exact ⟨y, rfl, e2⟩
  obtain ⟨mm, news, F0, N, back⟩ := st.FN
  refine mul_list F0 N e (by omega) (by omega) (by show 1 * b.toNat ≤ _; omega) (fun h' F1 N1 => ?_)
  refine ⟨_, back h' [_] s.toks (H.upd s.heap.objs.size (.list 0 (List.replicate b.toNat (ab y)))) F1 N1 (upd_cases ⟨size_none _, _, .head _, _, _, rfl, ?_⟩), h _ (st.fresh_H (size_none _))⟩
  rw [show (#[y] : Array Value).isEmpty = false from rfl]
  simp only [Bool.false_eq_true, if_false]
  rw [fold_rep]; simp
theorem ow_ins {x y : Str} (h : Q (.bool (!(Builtin.Str.occurrences x y 0 x.length 1).isEmpty)) H) : OW S (compareOp .In) n (.str y) (.str x) Q H := fun A L ns G stk s u v _ hu hv st => by
  obtain ⟨t, rfl⟩ := ab_str hu; obtain ⟨t', rfl⟩ := ab_str hv
  exact PyProof.Rows.in_str ⟨H, st, h⟩
theorem ow_notins {x y : Str} (h : Q (.bool (!(!(Builtin.Str.occurrences x y 0 x.length 1).isEmpty))) H) : OW S (compareOp .NotIn) n (.str y) (.str x) Q H := fun A L ns G stk s u v _ hu hv st => by
  obtain ⟨t, rfl⟩ := ab_str hu; obtain ⟨t', rfl⟩ := ab_str hv
  exact PyProof.Rows.notIn_str ⟨H, st, h⟩
theorem arr_eta (vs : Array Value) : vs = vs.toList.toArray := by simp
theorem ow_notinl {l : Addr} {t : Nat} {ss : List Str} {k : Str} (hl : H l = some (.list t (ss.map AV.str))) (h : Q (.bool (!(ss.any (· == k)))) H) : OW S (compareOp .NotIn) n (.str k) (.ref l) Q H := fun A L ns G stk s u v _ hu hv st => by
  obtain ⟨t, rfl⟩ := ab_str hu; rw [ab_ref hv]
  obtain ⟨vs, m, e, ex⟩ := list_pl st hl
  exact notin_list_strs (vs := vs.toList) ⟨_, e, rfl, m, by rw [← arr_eta]⟩ (strs_of ex) ⟨H, st, h⟩
theorem ow_inl {l : Addr} {t : Nat} {ss : List Int} {k : Int} (hl : H l = some (.list t (ss.map AV.int))) (h : Q (.bool (ss.any (· == k))) H) : OW S (compareOp .In) n (.int k) (.ref l) Q H := fun A L ns G stk s u v _ hu hv st => by
  obtain ⟨t, rfl⟩ := ab_int hu; rw [ab_ref hv]
  obtain ⟨vs, m, e, ex⟩ := list_pl st hl
  exact in_list_ints (vs := vs.toList) ⟨_, e, rfl, m, by rw [← arr_eta]⟩ (ints_of ex) ⟨H, st, h⟩
theorem vat_isSome {K V : Type} [DecidableEq K] (kvs : List (K × V)) (k : K) : (vat kvs k).isSome = kvs.any (fun p => p.1 = k) := by
  unfold vat
  rw [Option.isSome_map, Bool.eq_iff_iff, List.find?_isSome, List.any_eq_true]
theorem ow_ind {d : Addr} {t : Nat} {kvs : List (Str × AV)} {k : Str} (hd : H d = some (.sdict t kvs)) (h : Q (.bool (vat kvs k).isSome) H) : OW S (compareOp .In) n (.str k) (.ref d) Q H := fun A L ns G stk s u v _ hu hv st => by
  obtain ⟨t', rfl⟩ := ab_str hu; rw [ab_ref hv]
  obtain ⟨m, o, kvs', e1, e2, hm, rfl⟩ := sd_at st hd
  refine wpAny_in_of (strKind_is pw S.w k t') m hm.mapOf ⟨H, st.tok, ?_⟩
  rw [vat_map, Option.isSome_map] at h
  exact h

/-! ## lists and tuples that are alike -/
theorem eqAt_int (i : Int) (t t' : Tok) (A : Around) (s : Shared) : PySem.SeqAt.EqAt A s (.int i t) (.int i t') true := by
  have := (MeetsSeq.EqGives.int i i t t').at A s
  simpa using this
theorem eqAt_str (x : Str) (t t' : Tok) (A : Around) (s : Shared) : PySem.SeqAt.EqAt A s (.str x t) (.str x t') true := by
  have := (eqGives_str x x t t').at A s
  simpa using this
/-- flat values -/
noncomputable def AV.flat : AV → Bool
  | .int _ => true
  | .str _ => true
  | _ => false
theorem eqAt_flat {u v : Value} {A : Around} {s : Shared} (h : ab u = ab v) (hf : (ab u).flat = true) : PySem.SeqAt.EqAt A s u v true := by
  cases u <;> first | exact Bool.noConfusion hf | skip
  · obtain ⟨t, rfl⟩ := ab_int h.symm; exact eqAt_int _ _ _ _ _
  · obtain ⟨t, rfl⟩ := ab_str h.symm; exact eqAt_str _ _ _ _ _
theorem alike {vs ws : Array Value} {xs : List AV} {A : Around} {s : Shared} (h1 : vs.toList.map ab = xs) (h2 : ws.toList.map ab = xs) (hf : xs.all AV.flat = true) :
    vs.size = ws.size ∧ ∀ j (h1 : j < vs.size) (h2 : j < ws.size), PySem.SeqAt.EqAt A s vs[j] ws[j] true := by
  have sz : vs.size = ws.size := by rw [← Array.length_toList, ← Array.length_toList, ← List.length_map (f := ab), h1, ← h2, List.length_map]
  refine ⟨sz, fun j a b => ?_⟩
  have e1 : ab vs[j] = xs[j]'(by rw [← h1, List.length_map, Array.length_toList]; exact a) := by subst h1; simp
  have e2 : ab ws[j] = xs[j]'(by rw [← h1, List.length_map, Array.length_toList]; exact a) := by simp only [← h2]; simp
  exact eqAt_flat (by rw [e1, e2]) (by rw [e1]; exact List.all_eq_true.mp hf _ (List.getElem_mem _))
theorem Room.in1u {n : Nat} {A : Around} (h : Room n A) : A.units < cLine := h.units
theorem ow_nel {l b : Addr} {t t' : Nat} {xs : List AV} (hl : H l = some (.list t xs)) (hb : H b = some (.list t' xs)) (hf : xs.all AV.flat = true) (h : Q (.bool false) H) : OW S (compareOp .NotEq) n (.ref l) (.ref b) Q H := fun A L ns G stk s u v rm hu hv st => by
  rw [ab_ref hu, ab_ref hv]
  obtain ⟨vs, m, e, ex⟩ := list_pl st hl
  obtain ⟨ws, m', e', ey⟩ := list_pl st hb
  obtain ⟨sz, he⟩ := alike (A := A.in1) (s := s) ex ey hf
  show wpAny _ A (richCompare .NotEq (.ref l) (.ref b)) _ _ s
  exact richCompare_meets_room (op := .NotEq) ⟨_, e, rfl⟩ ⟨_, e', rfl⟩ F.slot_list_ne F.entry_list_ne (F.args_list_ne_2 _ _) (list_ne l b vs ws m m' sz)
    ⟨e, e', he, show Value.bool false ≠ Value.notImplemented ∧ _ from ⟨(fun x => nomatch x), H, st, h⟩⟩ rm.units
theorem ow_net {a b p q p' q' : Addr} {i : Int} {xs ys : List AV} {t1 t2 t3 t4 : Nat} (ha : H a = some (.tuple [.int i, .ref p, .ref q])) (hb : H b = some (.tuple [.int i, .ref p', .ref q'])) (h1 : H p = some (.list t1 xs)) (h2 : H p' = some (.list t2 xs)) (h3 : H q = some (.list t3 ys)) (h4 : H q' = some (.list t4 ys))
    (hf : xs.all AV.flat = true) (hg : ys.all AV.flat = true) (h : Q (.bool false) H) : OW S (compareOp .NotEq) n (.ref a) (.ref b) Q H := fun A L ns G stk s u v rm hu hv st => by
  rw [ab_ref hu, ab_ref hv]
  have key : ∀ {p p' : Addr} {t t' : Nat} {xs : List AV}, H p = some (.list t xs) → H p' = some (.list t' xs) → xs.all AV.flat = true → PySem.SeqAt.EqAt A.in1 s (.ref p) (.ref p') true := by
    intro p p' t t' xs e1 e2 hf
    by_cases hpp : p = p'
    · subst hpp; exact PySem.SeqAt.EqAt.same _
    · obtain ⟨vs, m, e, ex⟩ := list_pl st e1
      obtain ⟨ws, m', e', ey⟩ := list_pl st e2
      obtain ⟨sz, he⟩ := alike (A := A.in1.in1) (s := s) ex ey hf
      have := PySem.SeqAt.RcAt.lists (A := A.in1) (e := fun _ => true) ⟨_, e, rfl, m, rfl⟩ ⟨_, e', rfl, m', rfl⟩ sz (by have := rm.2.2; simp only [Around.in1_units]; show _ < 9900; omega) he
      rw [show ((List.range vs.size).all fun _ => true) = true from by simp] at this
      exact PySem.SeqAt.EqAt.of_refs hpp this
  obtain ⟨_, _, e, vs, m, rfl, ex⟩ := st.heap _ _ ha
  obtain ⟨_, _, e', ws, m', rfl, ey⟩ := st.heap _ _ hb
  obtain ⟨⟨vl⟩, rfl⟩ : ∃ x, vs = x := ⟨_, rfl⟩
  obtain ⟨⟨wl⟩, rfl⟩ : ∃ x, ws = x := ⟨_, rfl⟩
  obtain ⟨v1, v2, v3, e1, a1, a2, a3⟩ := map3 ex
  obtain ⟨w1, w2, w3, e2, b1, b2, b3⟩ := map3 ey
  simp only at e1 e2
  subst e1 e2
  rw [ab_ref a2, ab_ref a3] at e
  rw [ab_ref b2, ab_ref b3] at e'
  refine richCompare_meets_room (op := .NotEq) ⟨_, e, rfl⟩ ⟨_, e', rfl⟩ F.slot_tuple_ne F.entry_tuple_ne (F.args_tuple_ne_2 _ _) (tuple_ne a b #[v1, .ref p, .ref q] #[w1, .ref p', .ref q'] m m' rfl)
    ⟨e, e', fun j j1 j2 => ?_, show Value.bool false ≠ Value.notImplemented ∧ _ from ⟨(fun x => nomatch x), H, st, h⟩⟩ rm.units
  match j, j1, j2 with
  | 0, _, _ => exact eqAt_flat (u := v1) (v := w1) (a1.trans b1.symm) (by rw [a1]; rfl)
  | 1, _, _ => exact key h1 h2 hf
  | 2, _, _ => exact key h3 h4 hg
theorem ow_nenn (h : Q (.bool false) H) : OW S (compareOp .NotEq) n .none .none Q H := fun A L ns G stk s u v rm hu hv st => by
  rw [ab_none hu, ab_none hv]
  show wpAny _ A (richCompare .NotEq .none .none) _ _ s
  exact PySem.SeqAt.RcNeAt.none_none _ _ _ _ ⟨H, st, h⟩
end Mine

end

section
set_option Elab.async false
set_option linter.all false
set_option maxRecDepth 100000
set_option compiler.extract_closed false
namespace Mine
variable {S : Sta} {E : ES} {n : Nat} {F F' : List (Option AV)} {H H' : AH} {Q : AV → AH → Prop} {QN : List (Option AV) → AH → Prop} {QX : AFl → List (Option AV) → AH → Prop}

/-! ## unpacking -/
/-- targets in their order -/
noncomputable def TWs (S : Sta) (E : ES) (n : Nat) : List Expr → List AV → (List (Option AV) → AH → Prop) → List (Option AV) → AH → Prop
  | [], [], Q, F, H => Q F H
  | t :: ts, v :: vs, Q, F, H => TW S E n t v (fun F H => TWs S E n ts vs Q F H) F H
  | _, _, _, _, _ => False
noncomputable def namesOnly : List Expr → Bool
  | [] => true
  | .Name .. :: r => namesOnly r
  | _ => false
theorem isN {t : Expr} {r : List Expr} (h : namesOnly (t :: r) = true) : ∃ x p, t = .Name x p := by
  cases t <;> first | exact ⟨_, _, rfl⟩ | exact absurd h Bool.false_ne_true
theorem each_names {env : Env} : ∀ {ts : List Expr}, namesOnly ts = true → assignEach ts env = ts.map fun t => (false, assign t env) := by
  intro ts
  induction ts with
  | nil => intro _; rfl
  | cons t r ih =>
    intro h
    obtain ⟨x, p, rfl⟩ := isN h
    have := ih h
    simp only [List.map_cons, ← this]; rfl
theorem tws_go {A : Around} {env : Env} {L : Addr} {stk : List Fm} (rm : Room n A) (ev : EnvOk E L env) {Q : List (Option AV) → AH → Prop} : ∀ {ts : List Expr} {us : List Value} {F : List (Option AV)} {H : AH} {s : Shared}, TWs S E n ts (us.map ab) Q F H → St S (.fr L E.sc.names F :: stk) H s →
    wpAny S.M A (assignInOrder (ts.map fun t => assign t env) us) (fun _ s' => ∃ F' H', St S (.fr L E.sc.names F' :: stk) H' s' ∧ Q F' H') Nope s
  | [], [], F, H, s, h, st => wpAny_pure ⟨F, H, st, h⟩
  | t :: ts, u :: us, F, H, s, h, st => by
    show wpAny _ _ (do holding us (assign t env u); assignInOrder (ts.map fun t => assign t env) us) _ _ s
    exact wpAny_bind (wpAny_holding (wpAny_mono (h A env L stk s u rm ev rfl st) (fun _ s₁ ⟨F₁, H₁, st₁, h₁⟩ => tws_go rm ev h₁ st₁) fun _ _ x => x))
  | [], _ :: _, _, _, _, h, _ => h.elim
  | _ :: _, [], _, _, _, h, _ => h.elim
theorem tws_len {Q : List (Option AV) → AH → Prop} : ∀ {ts : List Expr} {vs : List AV} {F : List (Option AV)} {H : AH}, TWs S E n ts vs Q F H → (∃ A env L stk s, Room n A ∧ EnvOk E L env ∧ St S (.fr L E.sc.names F :: stk) H s) → True := fun _ _ => trivial
/-- a sequence taken apart -/
noncomputable def SeqAt (H : AH) (v : AV) (vs : List AV) : Prop := ∃ a, v = .ref a ∧ (H a = some (.tuple vs) ∨ ∃ t, H a = some (.list t vs))
theorem unpack_items {A : Around} {L : Addr} {ns : List (Str × NameKind)} {stk : List Fm} {s : Shared} {u : Value} {vs : List AV} {R : List Value → Shared → Prop} (hh : A.handled = none) (hs : SeqAt H (ab u) vs) (st : St S (.fr L ns F :: stk) H s)
    (h : ∀ us s', us.map ab = vs → St S (.fr L ns F :: stk) H s' → R us s') : wpAny S.M A (unpackItems u vs.length none) R Nope s := by
  obtain ⟨a, e, ha⟩ := hs
  have := ab_ref e; subst this
  have grow : ∀ {h' : Heap}, Heap.ExtBut s.heap.objs.size s.heap h' → St S (.fr L ns F :: stk) H { s with heap := h' } := fun he => st.grow (t := s.toks) fun b o e => he b o (Nat.ne_of_lt (Heap.lt_size e)) e
  rcases ha with ha | ⟨t, ha⟩
  · obtain ⟨o, ws, m, e1, e2, e3, e4, e5⟩ := tup_at st ha
    have : vs.length = ws.size := by rw [← e5, List.length_map, Array.length_toList]
    rw [this]
    exact wpAny_unpackItems_tuple hh ⟨o, e1, e2, m, e4⟩ fun h' he => h _ _ e5 (grow he)
  · obtain ⟨o, ws, m, e1, e2, e3, e4, e5⟩ := list_at st ha
    have : vs.length = ws.size := by rw [← e5, List.length_map, Array.length_toList]
    rw [this]
    exact kun_itemsOf hh ⟨o, e1, e2, m, e4⟩ fun h' he => h _ _ e5 (grow he)
theorem tw_tuple {ts : List Expr} {k : Nat} {pos : Pos} {v : AV} {vs : List AV} {Q : List (Option AV) → AH → Prop} (hn : namesOnly ts = true) (hs : SeqAt H v vs) (hl : ts.length = vs.length) (h : TWs S E n ts vs Q F H) : TW S E n (.Tuple ts k pos) v Q F H :=
  fun A env L stk s u rm ev hu st => by
    rw [PyProof.Rows.assign_Tuple]
    refine wpAny_bind (wpAny_standAt ?_)
    unfold unpack
    rw [each_names hn]
    have h1 : ((ts.map fun t => (false, assign t env)).findIdx? (·.1)) = none := by
      rw [List.findIdx?_eq_none_iff]; intro x hx; obtain ⟨t, _, rfl⟩ := List.mem_map.mp hx; rfl
    rw [h1, List.length_map, hl]
    refine wpAny_bind (wpAny_holding (unpack_items rm.1 (by rw [hu]; exact hs) st fun us s' hu st' => ?_))
    rw [List.map_map]
    exact tws_go rm ev (by rw [hu]; exact h) st'
theorem xw_unpack {ts : List Expr} {k : Nat} {tp pos : Pos} {value : Expr} (hn : namesOnly ts = true) (h : EW S E n value (fun v H => ∃ vs, SeqAt H v vs ∧ ts.length = vs.length ∧ TWs S E n ts vs QN F H) F H)
    (hs : ∀ env, swapsWithSole [.Tuple ts k tp] value pos.line env = pure false) (hw : ∀ env, EnvOk E env.locals env → swappedStores [.Tuple ts k tp] value env = pure none) : XW S E n (.Assign [.Tuple ts k tp] value pos) QN QX F H :=
  fun A env L stk s rm ev st => by
    refine PyProof.Rows.Assign_Tuple (wpAny_mono (h A env L stk s rm ev st) (fun v s₁ ⟨H₁, st₁, vs, a, b, c⟩ => wpAny_mono (tw_tuple (k := k) (pos := tp) hn a b c A env L stk s₁ v rm ev rfl st₁) (fun _ s₂ ⟨F₂, H₂, st₂, q⟩ => ⟨F₂, H₂, st₂, q⟩) fun _ _ x => x) fun _ _ x => x) (hs env) (hw env ?_)
    rw [ev.loc]; exact ev
/-- names stored from the last to the first -/
noncomputable def PutsR : List Str → List AV → List (Str × NameKind) → List (Option AV) → List (Option AV) → Prop
  | [], [], _, F, F' => F = F'
  | x :: xs, v :: vs, ns, F, F' => ∃ F₁, PutsR xs vs ns F F₁ ∧ NPut x v ns F₁ F'
  | _, _, _, _, _ => False
theorem putsR_go {A : Around} {env : Env} {L : Addr} {stk : List Fm} (rm : Room n A) (ev : EnvOk E L env) : ∀ {xs : List Str} {us : List Value} {F F' : List (Option AV)} {s : Shared} {more : List (Value → Sem Unit)} {ms : List Value} {R : Unit → Shared → Prop}, PutsR xs (us.map ab) E.sc.names F F' → St S (.fr L E.sc.names F :: stk) H s →
    (∀ s', St S (.fr L E.sc.names F' :: stk) H s' → wpAny S.M A (assignInOrder more ms) R Nope s') → wpAny S.M A (assignInOrder ((xs.reverse.map fun n => bindName env n) ++ more) (us.reverse ++ ms)) R Nope s
  | [], [], F, F', s, more, ms, R, h, st, k => by cases h; exact k _ st
  | x :: xs, u :: us, F, F', s, more, ms, R, h, st, k => by
    obtain ⟨F₁, h1, h2⟩ := h
    simp only [List.reverse_cons, List.map_append, List.map_cons, List.map_nil, List.append_assoc, List.cons_append, List.nil_append]
    refine putsR_go rm ev h1 st fun s' st' => ?_
    show wpAny _ _ (do holding ms (bindName env x u); assignInOrder more ms) _ _ s'
    exact wpAny_bind (wpAny_holding (bindName_ (store_local ev rfl st' h2 fun s'' st'' => k _ st'')))
  | [], _ :: _, _, _, _, _, _, _, h, _, _ => h.elim
  | _ :: _, [], _, _, _, _, _, _, h, _, _ => h.elim
/-- a tuple display stored into local names -/
theorem xw_swap {elts vals : List Expr} {k k' : Nat} {tp vp pos : Pos} (names : List Str) (h : EW S E n (.Tuple vals k' vp) (fun v H => ∃ vs, SeqAt H v vs ∧ names.length = vs.length ∧ ∃ F', PutsR names vs E.sc.names F F' ∧ QN F' H) F H)
    (hw : ∀ env, env.scope = E.sc → swappedStores [.Tuple elts k tp] (.Tuple vals k' vp) env = pure (some names)) : XW S E n (.Assign [.Tuple elts k tp] (.Tuple vals k' vp) pos) QN QX F H :=
  fun A env L stk s rm ev st => by
    refine PyProof.Rows.Assign_Tuple_swapped (names := names) (wpAny_mono (h A env L stk s rm ev st) (fun v s₁ ⟨H₁, st₁, vs, a, b, F', p, q⟩ => ?_) fun _ _ x => x) (by rfl) (hw env ev.sc)
    rw [b]
    refine unpack_items rm.1 a st₁ fun us s₂ hu st₂ => ?_
    have := putsR_go (more := []) (ms := []) (R := fun _ s' => ∃ F' H', St S (.fr L E.sc.names F' :: stk) H' s' ∧ flowQ QN QX .next F' H') rm ev (by rw [hu]; exact p) st₂ fun s' st' => wpAny_pure ⟨F', H₁, st', q⟩
    simpa using this

/-! ## sorted, all -/
theorem cb_sorted2 {l : Addr} {t : Nat} {a b : Int} (hl : H l = some (.list t [.int a, .int b])) (h : ∀ r, H r = none → Q (.ref r) (H.upd r (.list 0 [.int (min a b), .int (max a b)]))) : CB S (.builtin "sorted") n [.ref l] Q H := fun A L ns G stk s vals rm hv st => by
  obtain ⟨u, rfl, hu⟩ := map1 hv
  rw [ab_ref hu]
  obtain ⟨vs, m, e, ex⟩ := list_pl st hl
  refine sorted_ints (vs := vs.toList) (ns := [a, b]) ⟨_, e, rfl, m, by rw [← arr_eta]⟩ (ints_of (by rw [ex]; rfl)) (by rw [← List.length_map (f := ab), ex]; simp) fun out ns' a1 a2 a3 => ?_
  obtain ⟨k, hk⟩ := sortedAll_at s.heap vs.toList out
  have hsz : s.heap.get? (s.heap.objs.size + 1) = none := by
    cases q : s.heap.get? (s.heap.objs.size + 1) with
    | none => rfl
    | some o => exact absurd (Heap.lt_size q) (Nat.not_lt.mpr (Nat.le_succ _))
  refine ⟨_, st.new (o := .list 0 [.int (min a b), .int (max a b)]) (fun b o e => sortedAll_old e) hsz hk ⟨_, _, rfl, ?_⟩, h _ (st.fresh_H hsz)⟩
  rw [of_ints a1]
  have hn : ns' = [min a b, max a b] := by
    have hl := a2.length_eq
    match ns', hl, a2, a3 with
    | [x, y], _, a2, a3 =>
      have hxy : x ≤ y := by simpa using a3
      have hx : x ∈ [a, b] := a2.mem_iff.mp (by simp)
      have hy : y ∈ [a, b] := a2.mem_iff.mp (by simp)
      have ha : a ∈ [x, y] := a2.mem_iff.mpr (by simp)
      have hb : b ∈ [x, y] := a2.mem_iff.mpr (by simp)
      simp only [List.mem_cons, List.not_mem_nil, or_false] at hx hy ha hb
      have h1 : x = min a b := by omega
      have h2 : y = max a b := by omega
      rw [h1, h2]
  rw [hn]; rfl
theorem cb_sorted0 {d : Addr} {t : Nat} (hd : H d = some (.idict t [])) (h : ∀ r, H r = none → Q (.ref r) (H.upd r (.list 0 []))) : CB S (.builtin "sorted") n [.ref d] Q H := fun A L ns G stk s vals rm hv st => by
  obtain ⟨u, rfl, hu⟩ := map1 hv
  rw [ab_ref hu]
  obtain ⟨m, o, kvs', e1, e2, hm, hk⟩ := id_at st hd
  have : kvs' = [] := List.map_eq_nil_iff.mp hk
  subst this
  obtain ⟨ep, hm⟩ := hm.dictAt
  refine call_function_entry kind_sorted plain_sorted entry_sorted (args_sorted1 _) ?_
  unfold Builtin.«sorted»
  refine wpAny_bind (m := checkCount "sorted" 1 1 _) (wpAny_pure ?_)
  refine wpAny_bind (kdu_collect (A := A.in1) (kdl_dict m) rm.1 hm (Nat.zero_le _) fun h' tk acc hk hacc => ?_)
  have hacc : acc.toList = [] := by
    have : acc.size = 0 := hacc.1
    exact List.length_eq_zero_iff.mp (by rw [Array.length_toList]; exact this)
  rw [hacc]
  refine wpAny_bind (wpAny_newList ?_ (Nat.zero_le _))
  have hoL : (h'.push (seqObj "list" ([] : List Value).toArray 0)).get? h'.objs.size = some (seqObj "list" ([] : List Value).toArray 0) := Heap.get?_push_size _ rfl
  refine wpAny_bind (wpAny_holding (wpAny_call_entry slot_list_sort ⟨_, hoL, rfl⟩ entry_list_sort (list_sort_tree (vs := []) (ns := []) hoL .nil (by decide) fun out ns' a1 a2 a3 => ⟨_, rfl, ?_⟩) (args_list_sort _)))
  have hn : ns' = [] := List.Perm.eq_nil a2
  subst hn
  obtain ⟨k, hk2⟩ := sortedHeap_at (out := out) hoL
  have fresh : s.heap.get? h'.objs.size = none := by
    cases q : s.heap.get? h'.objs.size with
    | none => rfl
    | some o' => exact absurd (Heap.lt_size (hk _ _ q)) (Nat.lt_irrefl _)
  refine wpAny_pure ⟨_, rfl, _, st.new (o := .list 0 []) (fun b o e => ?_) fresh hk2 ⟨_, _, rfl, of_ints a1⟩, h _ (st.fresh_H fresh)⟩
  have e' := hk _ _ e
  have hb : b < h'.objs.size := Heap.lt_size e'
  rw [sortedHeap_old (Nat.ne_of_lt hb) (by rw [size_push']; exact Nat.lt_succ_of_lt hb)]
  exact Heap.get?_push_of_some _ e'
theorem cb_all0 {l : Addr} {t : Nat} (hl : H l = some (.list t [])) (h : Q (.bool true) H) : CB S (.builtin "all") n [.ref l] Q H := fun A L ns G stk s vals rm hv st => by
  obtain ⟨u, rfl, hu⟩ := map1 hv
  rw [ab_ref hu]
  obtain ⟨vs, m, e, ex⟩ := list_pl st hl
  have hvs : vs = #[] := by
    have := List.map_eq_nil_iff.mp ex
    rw [arr_eta vs, this]
  subst hvs
  refine call_all_walk (wpAny_pyIter_list ⟨_, e, rfl, m, rfl⟩ ⟨s.heap.objs.size, _, _, 0, _, _, fun _ => true, rfl, Walks.list (A := A.in1) rm.1 s.heap.objs.size l (Nat.ne_of_lt (Heap.lt_size e)) #[], ⟨⟨_, Heap.get?_push_size _ rfl, rfl, rfl⟩, ⟨_, Heap.get?_push_of_some _ e, rfl, m, rfl⟩⟩, ?_, fun h' tk hk => ?_⟩)
  · intro i v s Q E hv; exact absurd hv (by simp)
  · refine ⟨H, st.grow fun b o e' => hk b o ?_ (Heap.get?_push_of_some _ e'), h⟩
    intro hb
    rw [List.mem_singleton.mp hb] at e'
    exact absurd (Heap.lt_size e') (Nat.lt_irrefl _)
end Mine

end

section
set_option Elab.async false
set_option linter.all false
set_option maxRecDepth 100000
set_option compiler.extract_closed false
namespace Mine
variable {S : Sta} {E : ES} {n : Nat} {F F' : List (Option AV)} {H H' : AH} {Q : AV → AH → Prop} {QN : List (Option AV) → AH → Prop} {QX : AFl → List (Option AV) → AH → Prop}

/-! ## comprehensions -/
noncomputable def relNames (E : ES) (names : List (Str × NameKind)) : List (Str × NameKind) := names.map fun (n, k) => if (k == .free && E.sc.kind == .function && E.sc.names.lookup n == some .cell) then (n, .cell) else (n, k)
noncomputable def compES (E : ES) (scope : Scope) (cl : List (Str × Addr)) : ES := ⟨{ scope with names := relNames E scope.names }, cl⟩
theorem relabel_eq {E : ES} {L : Addr} {env : Env} (ev : EnvOk E L env) (scope : Scope) : relabel scope env = { scope with names := relNames E scope.names } := by
  unfold relabel relNames Env.kindOf
  rw [ev.sc]
/-- tests, then the element -/
noncomputable def IfsW (S : Sta) (E : ES) (n : Nat) : List Expr → (Bool → AH → Prop) → List (Option AV) → AH → Prop
  | [], Q, _, H => Q true H
  | [t], Q, F, H => BW S E n t Q F H
  | _, _, _, _ => False
noncomputable def CmpW (S : Sta) (E : ES) (n : Nat) (x : Str) (elt : Expr) (ifs : List Expr) (K : AH → Prop) (R : List AV → AH → Prop) : List AV → List AV → List (Option AV) → AH → Prop
  | [], acc, _, H => R acc H
  | v :: rest, acc, F, H => ∃ F', NPut x v E.sc.names F F' ∧ IfsW S E n ifs (fun b H => if b then EW S E n elt (fun y H => K H ∧ CmpW S E n x elt ifs K R rest (acc ++ [y]) F' H) F' H else K H ∧ CmpW S E n x elt ifs K R rest acc F' H) F' H
theorem ifs_go {ifs : List Expr} {Q : Bool → AH → Prop} {A : Around} {env : Env} {L : Addr} {stk : List Fm} {s : Shared} {Ex : Value → Shared → Prop} (h : IfsW S E n ifs Q F H) (rm : Room n A) (ev : EnvOk E L env) (st : St S (.fr L E.sc.names F :: stk) H s) :
    wpAny S.M A (forIn ifs true fun c r => if r = true then do let ok ← isTrue c env (eval c env); pure (ForInStep.yield ok) else pure (ForInStep.yield r)) (fun b s' => ∃ H', St S (.fr L E.sc.names F :: stk) H' s' ∧ Q b H') Ex s := by
  match ifs, h with
  | [], h => exact wpAny_pure ⟨H, st, h⟩
  | [t], h =>
    simp only [List.forIn_cons, List.forIn_nil, if_true]
    refine wpAny_bind (wpAny_bind (wpAny_mono (h A env L stk s rm ev st) (fun b s₁ h₁ => wpAny_pure (wpAny_pure h₁)) fun _ _ x => x.elim))
  | _ :: _ :: _, h => exact h.elim
/-- a thing on the stack is let go -/
theorem St.dropp {stk pre : List Fm} {s : Shared} {p : Fm} {h' : Heap} {t : Nat} (h : St S (pre ++ p :: stk) H s) (k : ∀ b o, b ≠ p.addr → s.heap.get? b = some o → h'.get? b = some o) :
    St S (pre ++ stk) H { s with heap := h', toks := t } := by
  have hm : p ∈ pre ++ p :: stk := List.mem_append_right _ (.head _)
  have h0 := (h.sk _ hm).1
  have hH := (h.sk _ hm).2.1
  have nd := h.nd
  rw [List.map_append, List.map_cons, List.nodup_append] at nd
  obtain ⟨n1, n2, n3⟩ := nd
  have hne : ∀ q ∈ pre ++ stk, q.addr ≠ p.addr := fun q hq e => by
    rcases List.mem_append.mp hq with hq | hq
    · exact n3 _ (List.mem_map_of_mem hq) _ (List.mem_cons_self ..) e
    · exact (List.nodup_cons.mp n2).1 (by have z := List.mem_map_of_mem (f := Fm.addr) hq; rw [e] at z; exact z)
  have hsub : ∀ q ∈ pre ++ stk, q ∈ pre ++ p :: stk := fun q hq => by
    rcases List.mem_append.mp hq with hq | hq
    · exact List.mem_append_left _ hq
    · exact List.mem_append_right _ (.tail _ hq)
  refine ⟨fun b o q => k _ _ (fun z => by rw [z] at q; exact absurd (h0.symm.trans q) (by simp)) (h.keep b o q), fun q hq => ?_, ?_, fun b o' q => ?_, h.gens, h.os⟩
  · have z := h.sk q (hsub q hq); exact ⟨z.1, z.2.1, Fm.at_but k (hne q hq) z.2.2⟩
  · rw [List.map_append, List.nodup_append]
    exact ⟨n1, (List.nodup_cons.mp n2).2, fun x hx y hy => n3 x hx y (.tail _ hy)⟩
  · obtain ⟨x, ob', y, z⟩ := h.heap b o' q
    exact ⟨x, ob', k _ _ (fun w => by rw [w] at q; exact absurd (hH.symm.trans q) (by simp)) y, z⟩
theorem noget {x : Str} {k : NameKind} {v : AV} : ∀ {ns : List (Str × NameKind)} {m : Nat}, ¬ NGet x k v ns (List.replicate m none)
  | _, 0, h => nomatch h
  | _, m + 1, h => by rw [List.replicate_succ] at h; cases h with | there h => exact noget h
theorem ew_comp {elt iter : Expr} {x : Str} {px : Pos} {ifs : List Expr} {scope : Scope} {pos : Pos} (cl : List (Str × Addr)) (hclos : ∀ env, EnvOk E env.locals env → closureFor scope env = pure cl)
    (hcell : (scope.names.all fun y => y.2 != .cell) = true) (hok : scOk (compES E scope cl).sc = true) (hx : scope.names.lookup x = some .local) (hok' : scOk scope = true)
    (h : EW S E n iter (fun v H => ∃ xs K, xs.length ≤ 100000 ∧ IW S v xs K H ∧ CmpW S (compES E scope cl) n x elt ifs K (fun ys H => ∀ d, H d = none → Q (.ref d) (H.upd d (.list 0 ys))) xs [] (List.replicate scope.names.length none) H) F H)
    (hs : ∀ env v, foldedSetIterable iter env v = pure v) :
    EW S E n (.ListComp elt [⟨.Name x px, iter, ifs, 0⟩] scope pos) Q F H :=
  fun A env L stk s rm ev st => by
    have hkind : scope.kind = .function := scOk_kind hok'
    have hcell' : ∀ y ∈ scope.names, y.2 ≠ .cell := fun y hy e => by have := List.all_eq_true.mp hcell y hy; rw [e] at this; exact absurd this (by decide)
    have hnames : ∀ y ∈ scope.names, y.2 = .local → scope.names.lookup y.1 = some .local := fun y hy hl => by
      refine NAt.lookup ?_ (scOk_nd hok')
      have : ∀ {ns : List (Str × NameKind)}, y ∈ ns → NAt y.1 .local ns := by
        intro ns hm
        induction ns with
        | nil => cases hm
        | cons a l ih =>
          rcases List.mem_cons.mp hm with rfl | hm
          · obtain ⟨a, b⟩ := y; simp only at hl; subst hl; exact .here
          · exact .there (ih hm)
      exact this hy
    rw [eval_ListComp]
    refine wpAny_comprehension_free (use := none) rfl (hs env) (hclos env (by rw [ev.loc]; exact ev)) hkind hnames
      (wpAny_mono (h A env L stk s rm ev st) (fun v s₁ ⟨H₁, st₁, xs, K, hlen, ⟨hK, iw⟩, hc⟩ => iw A _ s₁ v _ _ rm.1 rfl st₁ fun I ob Wk s₂ st₂ w0 wk => ?_) fun _ _ x => x.elim)
    refine wpAny_newObj_type (wpAny_newFunctionEnv hcell' (by intro y hy; simp at hy) (fun h₁ hns₁ hsb₁ => ?_) hkind)
    dsimp only at hns₁ hsb₁ ⊢
    have sz2 : (s₂.heap.push { cls := .type "list", dict := none, data := .seq ([] : List Value).toArray }).objs.size = s₂.heap.objs.size + 1 := Heap.size_push ..
    have hC : s₂.heap.get? (s₂.heap.push { cls := .type "list", dict := none, data := .seq ([] : List Value).toArray }).objs.size = none := by
      rw [sz2]
      cases q : s₂.heap.get? (s₂.heap.objs.size + 1) with
      | none => rfl
      | some o => exact absurd (Heap.lt_size q) (Nat.not_lt.mpr (Nat.le_succ _))
    have st₃ := st₂.under (p := .ob s₂.heap.objs.size { cls := .type "list", dict := none, data := .seq ([] : List Value).toArray }) (h' := s₂.heap.push { cls := .type "list", dict := none, data := .seq ([] : List Value).toArray }) (t := s₂.toks) (fun _ _ e => Heap.get?_push_of_some _ e) (size_none _) (Heap.get?_push_size _ rfl)
    have st₄ := st₃.under (p := .fr (s₂.heap.push { cls := .type "list", dict := none, data := .seq ([] : List Value).toArray }).objs.size (compES E scope cl).sc.names (List.replicate scope.names.length none)) (h' := h₁) (t := s₂.toks + ([] : List (Str × Value)).length)
      (fun b o e => by
        have hb : b ≠ (s₂.heap.push { cls := .type "list", dict := none, data := .seq ([] : List Value).toArray }).objs.size := Nat.ne_of_lt (Heap.lt_size e)
        exact hsb₁.extBut b o hb (Heap.get?_push_of_some _ e)) (size_none _) ⟨_, hns₁, fun y w g => (noget g).elim⟩
    dsimp only at st₄
    have loop : ∀ cenv : Env, EnvOk (compES E scope cl) (s₂.heap.push { cls := .type "list", dict := none, data := .seq ([] : List Value).toArray }).objs.size cenv → codeAny S.M A (.compLoop (.ListComp elt [⟨.Name x px, iter, ifs, 0⟩] scope pos) 0 (.ref I) (.ref s₂.heap.objs.size) cenv)
        (compPost S.M A Nope none (fun v s' => ∃ H', St S (Fm.fr L E.sc.names F :: stk) H' s' ∧ Q (ab v) H') (.ref s₂.heap.objs.size) (s₂.heap.push { cls := .type "list", dict := none, data := .seq ([] : List Value).toArray }).objs.size) { s₂ with heap := h₁, toks := s₂.toks + ([] : List (Str × Value)).length } := by
      intro cenv evC
      refine codeAny_compLoop_tests (fun k s' => ∃ i rest acc Fc H ob' vsD m, i + rest.length = xs.length ∧ xs.drop i = rest ∧ k = rest.length + 1 ∧ Wk i ob' ∧ K H ∧ vsD.toList.map ab = acc ∧ acc.length ≤ i ∧
        CmpW S (compES E scope cl) n x elt ifs K (fun ys H => ∀ d, H d = none → Q (.ref d) (H.upd d (.list 0 ys))) rest acc Fc H ∧
        St S (.fr (s₂.heap.push { cls := .type "list", dict := none, data := .seq ([] : List Value).toArray }).objs.size (compES E scope cl).sc.names Fc :: .ob s₂.heap.objs.size { cls := .type "list", data := .seq vsD m } :: .ob I ob' :: .fr L E.sc.names F :: stk) H s') ?_ _
        ⟨0, xs, [], _, H₁, ob, #[], 0, by simp, by simp, rfl, w0, hK, rfl, Nat.le_refl _, hc, st₄⟩
      intro k s' hJ
      refine gG fun GG kG => ?_
      obtain ⟨i, rest, acc, Fc, H, ob', vsD, m, hi, hd, rfl, w, hK, hacc, hle, hc, st'⟩ := hJ
      refine kG ?_
      clear kG GG
      refine wk.nx A [_, _] _ H s' i ob' _ _ rm.1 st' w hK (by omega) (fun s₅ ob₅ u v hv st₅ hu w' => ?_) fun s₅ hv st₅ => ?_
      · have hrest : rest = v :: xs.drop (i + 1) := by rw [← hd]; exact (List.drop_eq_getElem?_toList_append (l := xs) (i := i)).trans (by rw [hv]; rfl)
        subst hrest
        obtain ⟨F', p, hc⟩ := hc
        have hlen' : i + 1 + (xs.drop (i + 1)).length = xs.length := by simp only [List.length_cons] at hi; omega
        refine wpAny_assign_Name (wpAny_mono (store_local (R := fun _ s' => St S _ H s') evC hu st₅ p fun s₆ st₆ => st₆) (fun _ s₆ st₆ => ?_) fun _ _ x => x.elim)
        refine wpAny_mono (ifs_go hc rm evC st₆) (fun b s₇ ⟨H₇, st₇, h₇⟩ => ?_) fun _ _ x => x
        cases b with
        | false =>
          simp only [Bool.false_eq_true, if_false] at h₇ ⊢
          exact ⟨_, by simp, i + 1, _, acc, F', H₇, ob₅, vsD, m, hlen', rfl, rfl, w', h₇.1, hacc, by omega, h₇.2, st₇⟩
        | true =>
          simp only [if_true] at h₇ ⊢
          refine wpAny_mono (h₇ A _ _ _ s₇ rm evC st₇) (fun y s₈ ⟨H₈, st₈, hK₈, h₈⟩ => ?_) fun _ _ x => x.elim
          have hl : s₈.heap.PlainList s₂.heap.objs.size vsD := ⟨m, (st₈.sk _ (.tail _ (.head _))).2.2⟩
          have hsz : vsD.size ≤ sizeLine := by
            have : vsD.size = acc.length := by rw [← hacc, List.length_map, Array.length_toList]
            rw [this]; exact Nat.le_trans (m := 16000000) (by omega) big
          refine wpAny_list_append_plain (hsz := hsz) hl fun h₉ ⟨m', hl₉⟩ hs₉ => ?_
          refine ⟨_, by simp, i + 1, _, acc ++ [ab y], F', H₈, ob₅, vsD.push y, m', hlen', rfl, rfl, w', hK₈, by simp [hacc], by simp; omega, h₈, ?_⟩
          exact St.turn (pre := [_]) (p' := .ob s₂.heap.objs.size { cls := .type "list", data := .seq (vsD.push y) m' }) (t := s₈.toks) st₈ rfl hs₉.extBut hl₉
      · have : rest = [] := by
          have := List.getElem?_eq_none_iff.mp hv
          match rest, hi with
          | [], _ => rfl
          | _ :: _, hi => simp only [List.length_cons] at hi; omega
        subst this
        obtain ⟨mC, hnC, _⟩ := (st₅.sk _ (.head _)).2.2
        refine ⟨mC, hnC, fun h' hs' => ?_⟩
        have st₆ := St.dropp (pre := []) (t := s₅.toks) st₅ hs'.extBut
        have hD : H s₂.heap.objs.size = none := (st₆.sk _ (.head _)).2.1
        exact ⟨_, St.fromstk (o := .list 0 acc) st₆ ⟨_, _, rfl, hacc⟩, hc _ hD⟩
    refine codeAny_compStart_list ?_ (wk.self A _ 0 ob _ _ (ob_mem (pre := [_, _]) st₄) w0 ?_)
    · refine loop _ ?_
      exact ⟨relabel_eq ev scope, rfl, rfl, ev.gl, ev.bu, hok⟩
    · refine loop _ ?_
      exact ⟨relabel_eq ev scope, rfl, rfl, ev.gl, ev.bu, hok⟩
theorem cw_fn' {f : Addr} {st : Stmt} {qual : Str} {dV pm : Value} {code : Addr} {args : List AV} {ds : List Value} (F₀ : List (Option AV)) {name params body decs rt tps scope tsc bind pos}
  (ho : S.K.lookup f = some (fobj st qual dV pm code)) (hcd : codeIn S.K (.ref code) qual = true) (hb : FnB S.K st qual dV pm code args.length ds)
  (hst : st = .FunctionDef name params body decs rt tps scope tsc bind pos) (hF : start (args ++ ds.map ab) scope.names = F₀)
  (h : SW S ⟨scope, []⟩ n body (fun _ H₁ => ∃ H₂, Sub H₂ H₁ ∧ Q .none H₂) (fun fl _ H₁ => match fl with | .ret v => ∃ H₂, Sub H₂ H₁ ∧ Q v H₂ | _ => False) F₀ H) :
  CW S (.ref f) (n + 1) args Q H := CW.relax (cw_fn ho hcd hb hst (by rw [hF]; exact h))
end Mine

end

section
set_option Elab.async false
set_option linter.all false
set_option maxRecDepth 100000
set_option compiler.extract_closed false
namespace Mine
noncomputable abbrev at_Abbrev : List Str := ["word", "codes", "is_exact", "used"]
noncomputable abbrev at_AbbrevTable : List Str := ["name", "parents", "entries", "is_all_great"]
noncomputable abbrev at_Syntax : List Str := ["kind", "match", "flags"]
noncomputable abbrev at_SyntaxTable : List Str := ["parent", "rows"]
noncomputable abbrev at_Expansion : List Str := ["place", "word", "codes"]
noncomputable abbrev at_GapText : List Str := ["room", "cells", "gap_start", "gap_end"]
noncomputable abbrev at_Markers : List Str := ["rows"]
noncomputable abbrev at_Buffer : List Str := ["number", "name", "text", "markers", "point", "begv", "zv", "mark", "is_live", "is_read_only", "ticks", "codes_ticks", "saved_ticks", "listeners", "undo", "props", "overlays", "locals", "syntax", "file"]

theorem n_downcase (P : Params) : nsIn (Kf P) mainGlobals "downcase" = some (some (.ref 28)) := by kernel_rfl
theorem p_downcase (P : Params) : keepIn (Kf P) (.ref 28) = true := by kernel_rfl
theorem n_upcase (P : Params) : nsIn (Kf P) mainGlobals "upcase" = some (some (.ref 35)) := by kernel_rfl
theorem p_upcase (P : Params) : keepIn (Kf P) (.ref 35) = true := by kernel_rfl
theorem n_is_upper (P : Params) : nsIn (Kf P) mainGlobals "is_upper" = some (some (.ref 42)) := by kernel_rfl
theorem p_is_upper (P : Params) : keepIn (Kf P) (.ref 42) = true := by kernel_rfl
theorem n_is_lower (P : Params) : nsIn (Kf P) mainGlobals "is_lower" = some (some (.ref 49)) := by kernel_rfl
theorem p_is_lower (P : Params) : keepIn (Kf P) (.ref 49) = true := by kernel_rfl
theorem n_upcased (P : Params) : nsIn (Kf P) mainGlobals "upcased" = some (some (.ref 54)) := by kernel_rfl
theorem p_upcased (P : Params) : keepIn (Kf P) (.ref 54) = true := by kernel_rfl
theorem n_downcased (P : Params) : nsIn (Kf P) mainGlobals "downcased" = some (some (.ref 59)) := by kernel_rfl
theorem p_downcased (P : Params) : keepIn (Kf P) (.ref 59) = true := by kernel_rfl
theorem n_initials_upcased (P : Params) : nsIn (Kf P) mainGlobals "initials_upcased" = some (some (.ref 66)) := by kernel_rfl
theorem p_initials_upcased (P : Params) : keepIn (Kf P) (.ref 66) = true := by kernel_rfl
theorem i_Abbrev (P : Params) : findIn (Kf P) (.ref 83) "__init__" = some (some (.ref 80)) := by kernel_rfl
theorem f_Abbrev (P : Params) : isFn (Kf P) (.ref 80) = true := by kernel_rfl
theorem i_AbbrevTable (P : Params) : findIn (Kf P) (.ref 104) "__init__" = some (some (.ref 101)) := by kernel_rfl
theorem f_AbbrevTable (P : Params) : isFn (Kf P) (.ref 101) = true := by kernel_rfl
theorem n_key_of (P : Params) : nsIn (Kf P) mainGlobals "key_of" = some (some (.ref 113)) := by kernel_rfl
theorem p_key_of (P : Params) : keepIn (Kf P) (.ref 113) = true := by kernel_rfl
theorem n_define (P : Params) : nsIn (Kf P) mainGlobals "define" = some (some (.ref 120)) := by kernel_rfl
theorem p_define (P : Params) : keepIn (Kf P) (.ref 120) = true := by kernel_rfl
theorem n_forget (P : Params) : nsIn (Kf P) mainGlobals "forget" = some (some (.ref 127)) := by kernel_rfl
theorem p_forget (P : Params) : keepIn (Kf P) (.ref 127) = true := by kernel_rfl
theorem n_own_entry (P : Params) : nsIn (Kf P) mainGlobals "own_entry" = some (some (.ref 134)) := by kernel_rfl
theorem p_own_entry (P : Params) : keepIn (Kf P) (.ref 134) = true := by kernel_rfl
theorem n_tables_from (P : Params) : nsIn (Kf P) mainGlobals "tables_from" = some (some (.ref 141)) := by kernel_rfl
theorem p_tables_from (P : Params) : keepIn (Kf P) (.ref 141) = true := by kernel_rfl
theorem n_entry_of (P : Params) : nsIn (Kf P) mainGlobals "entry_of" = some (some (.ref 148)) := by kernel_rfl
theorem p_entry_of (P : Params) : keepIn (Kf P) (.ref 148) = true := by kernel_rfl
theorem n_is_word_sign (P : Params) : nsIn (Kf P) mainGlobals "is_word_sign" = some (some (.ref 155)) := by kernel_rfl
theorem p_is_word_sign (P : Params) : keepIn (Kf P) (.ref 155) = true := by kernel_rfl
theorem n_many_words (P : Params) : nsIn (Kf P) mainGlobals "many_words" = some (some (.ref 162)) := by kernel_rfl
theorem p_many_words (P : Params) : keepIn (Kf P) (.ref 162) = true := by kernel_rfl
theorem n_has_upper (P : Params) : nsIn (Kf P) mainGlobals "has_upper" = some (some (.ref 167)) := by kernel_rfl
theorem p_has_upper (P : Params) : keepIn (Kf P) (.ref 167) = true := by kernel_rfl
theorem n_has_lower (P : Params) : nsIn (Kf P) mainGlobals "has_lower" = some (some (.ref 172)) := by kernel_rfl
theorem p_has_lower (P : Params) : keepIn (Kf P) (.ref 172) = true := by kernel_rfl
theorem n_first_upcased (P : Params) : nsIn (Kf P) mainGlobals "first_upcased" = some (some (.ref 179)) := by kernel_rfl
theorem p_first_upcased (P : Params) : keepIn (Kf P) (.ref 179) = true := by kernel_rfl
theorem n_written (P : Params) : nsIn (Kf P) mainGlobals "written" = some (some (.ref 186)) := by kernel_rfl
theorem p_written (P : Params) : keepIn (Kf P) (.ref 186) = true := by kernel_rfl
theorem n_expansion_of (P : Params) : nsIn (Kf P) mainGlobals "expansion_of" = some (some (.ref 193)) := by kernel_rfl
theorem p_expansion_of (P : Params) : keepIn (Kf P) (.ref 193) = true := by kernel_rfl
theorem n_unexpanded (P : Params) : nsIn (Kf P) mainGlobals "unexpanded" = some (some (.ref 200)) := by kernel_rfl
theorem p_unexpanded (P : Params) : keepIn (Kf P) (.ref 200) = true := by kernel_rfl
theorem n_need_writable (P : Params) : nsIn (Kf P) mainGlobals "need_writable" = some (some (.ref 227)) := by kernel_rfl
theorem p_need_writable (P : Params) : keepIn (Kf P) (.ref 227) = true := by kernel_rfl
theorem n_reached (P : Params) : nsIn (Kf P) mainGlobals "reached" = some (some (.ref 234)) := by kernel_rfl
theorem p_reached (P : Params) : keepIn (Kf P) (.ref 234) = true := by kernel_rfl
theorem n_tell_ahead (P : Params) : nsIn (Kf P) mainGlobals "tell_ahead" = some (some (.ref 241)) := by kernel_rfl
theorem p_tell_ahead (P : Params) : keepIn (Kf P) (.ref 241) = true := by kernel_rfl
theorem n_tell_behind (P : Params) : nsIn (Kf P) mainGlobals "tell_behind" = some (some (.ref 248)) := by kernel_rfl
theorem p_tell_behind (P : Params) : keepIn (Kf P) (.ref 248) = true := by kernel_rfl
theorem n_text_out (P : Params) : nsIn (Kf P) mainGlobals "text_out" = some (some (.ref 255)) := by kernel_rfl
theorem p_text_out (P : Params) : keepIn (Kf P) (.ref 255) = true := by kernel_rfl
theorem n_text_in (P : Params) : nsIn (Kf P) mainGlobals "text_in" = some (some (.ref 262)) := by kernel_rfl
theorem p_text_in (P : Params) : keepIn (Kf P) (.ref 262) = true := by kernel_rfl
theorem n_hung_out (P : Params) : nsIn (Kf P) mainGlobals "hung_out" = some (some (.ref 269)) := by kernel_rfl
theorem p_hung_out (P : Params) : keepIn (Kf P) (.ref 269) = true := by kernel_rfl
theorem n_hung_in (P : Params) : nsIn (Kf P) mainGlobals "hung_in" = some (some (.ref 276)) := by kernel_rfl
theorem p_hung_in (P : Params) : keepIn (Kf P) (.ref 276) = true := by kernel_rfl
theorem n_put_in (P : Params) : nsIn (Kf P) mainGlobals "put_in" = some (some (.ref 283)) := by kernel_rfl
theorem p_put_in (P : Params) : keepIn (Kf P) (.ref 283) = true := by kernel_rfl
theorem n_insert_at (P : Params) : nsIn (Kf P) mainGlobals "insert_at" = some (some (.ref 291)) := by kernel_rfl
theorem p_insert_at (P : Params) : keepIn (Kf P) (.ref 291) = true := by kernel_rfl
theorem n_replace (P : Params) : nsIn (Kf P) mainGlobals "replace" = some (some (.ref 305)) := by kernel_rfl
theorem p_replace (P : Params) : keepIn (Kf P) (.ref 305) = true := by kernel_rfl
theorem n_syntax_at (P : Params) : nsIn (Kf P) mainGlobals "syntax_at" = some (some (.ref 312)) := by kernel_rfl
theorem p_syntax_at (P : Params) : keepIn (Kf P) (.ref 312) = true := by kernel_rfl
theorem n_is_of (P : Params) : nsIn (Kf P) mainGlobals "is_of" = some (some (.ref 320)) := by kernel_rfl
theorem p_is_of (P : Params) : keepIn (Kf P) (.ref 320) = true := by kernel_rfl
theorem n_skip_forward (P : Params) : nsIn (Kf P) mainGlobals "skip_forward" = some (some (.ref 328)) := by kernel_rfl
theorem p_skip_forward (P : Params) : keepIn (Kf P) (.ref 328) = true := by kernel_rfl
theorem n_skip_backward (P : Params) : nsIn (Kf P) mainGlobals "skip_backward" = some (some (.ref 336)) := by kernel_rfl
theorem p_skip_backward (P : Params) : keepIn (Kf P) (.ref 336) = true := by kernel_rfl
theorem i_Syntax (P : Params) : findIn (Kf P) (.ref 381) "__init__" = some (some (.ref 350)) := by kernel_rfl
theorem f_Syntax (P : Params) : isFn (Kf P) (.ref 350) = true := by kernel_rfl
theorem n_read_syntax (P : Params) : nsIn (Kf P) mainGlobals "read_syntax" = some (some (.ref 395)) := by kernel_rfl
theorem p_read_syntax (P : Params) : keepIn (Kf P) (.ref 395) = true := by kernel_rfl
theorem i_SyntaxTable (P : Params) : findIn (Kf P) (.ref 462) "__init__" = some (some (.ref 410)) := by kernel_rfl
theorem f_SyntaxTable (P : Params) : isFn (Kf P) (.ref 410) = true := by kernel_rfl
theorem m_SyntaxTable_modify_all (P : Params) : mthB (Kf P) 462 "modify_all" 424 at_SyntaxTable = true := by kernel_rfl
theorem m_SyntaxTable_own (P : Params) : mthB (Kf P) 462 "own" 438 at_SyntaxTable = true := by kernel_rfl
theorem m_SyntaxTable_at (P : Params) : mthB (Kf P) 462 "at" 445 at_SyntaxTable = true := by kernel_rfl
theorem m_SyntaxTable_kind_of (P : Params) : mthB (Kf P) 462 "kind_of" 452 at_SyntaxTable = true := by kernel_rfl
theorem n_forward_by (P : Params) : nsIn (Kf P) mainGlobals "forward_by" = some (some (.ref 473)) := by kernel_rfl
theorem p_forward_by (P : Params) : keepIn (Kf P) (.ref 473) = true := by kernel_rfl
theorem n_forward_word (P : Params) : nsIn (Kf P) mainGlobals "forward_word" = some (some (.ref 480)) := by kernel_rfl
theorem p_forward_word (P : Params) : keepIn (Kf P) (.ref 480) = true := by kernel_rfl
theorem i_Expansion (P : Params) : findIn (Kf P) (.ref 497) "__init__" = some (some (.ref 494)) := by kernel_rfl
theorem f_Expansion (P : Params) : isFn (Kf P) (.ref 494) = true := by kernel_rfl
theorem n_word_before (P : Params) : nsIn (Kf P) mainGlobals "word_before" = some (some (.ref 508)) := by kernel_rfl
theorem p_word_before (P : Params) : keepIn (Kf P) (.ref 508) = true := by kernel_rfl
theorem n_expand_abbrev (P : Params) : nsIn (Kf P) mainGlobals "expand_abbrev" = some (some (.ref 515)) := by kernel_rfl
theorem p_expand_abbrev (P : Params) : keepIn (Kf P) (.ref 515) = true := by kernel_rfl
theorem n_unexpand_abbrev (P : Params) : nsIn (Kf P) mainGlobals "unexpand_abbrev" = some (some (.ref 522)) := by kernel_rfl
theorem p_unexpand_abbrev (P : Params) : keepIn (Kf P) (.ref 522) = true := by kernel_rfl
theorem n_expand_region (P : Params) : nsIn (Kf P) mainGlobals "expand_region" = some (some (.ref 529)) := by kernel_rfl
theorem p_expand_region (P : Params) : keepIn (Kf P) (.ref 529) = true := by kernel_rfl
theorem i_GapText (P : Params) : findIn (Kf P) (.ref 616) "__init__" = some (some (.ref 543)) := by kernel_rfl
theorem f_GapText (P : Params) : isFn (Kf P) (.ref 543) = true := by kernel_rfl
theorem m_GapText_size (P : Params) : mthB (Kf P) 616 "size" 550 at_GapText = true := by kernel_rfl
theorem m_GapText_code (P : Params) : mthB (Kf P) 616 "code" 557 at_GapText = true := by kernel_rfl
theorem m_GapText_codes (P : Params) : mthB (Kf P) 616 "codes" 564 at_GapText = true := by kernel_rfl
theorem m_GapText_move_gap (P : Params) : mthB (Kf P) 616 "move_gap" 571 at_GapText = true := by kernel_rfl
theorem m_GapText_widen_gap (P : Params) : mthB (Kf P) 616 "widen_gap" 578 at_GapText = true := by kernel_rfl
theorem m_GapText_insert (P : Params) : mthB (Kf P) 616 "insert" 585 at_GapText = true := by kernel_rfl
theorem m_GapText_delete (P : Params) : mthB (Kf P) 616 "delete" 592 at_GapText = true := by kernel_rfl
theorem i_Markers (P : Params) : findIn (Kf P) (.ref 686) "__init__" = some (some (.ref 634)) := by kernel_rfl
theorem f_Markers (P : Params) : isFn (Kf P) (.ref 634) = true := by kernel_rfl
theorem m_Markers_numbers (P : Params) : mthB (Kf P) 686 "numbers" 641 at_Markers = true := by kernel_rfl
theorem m_Markers_inserted (P : Params) : mthB (Kf P) 686 "inserted" 669 at_Markers = true := by kernel_rfl
theorem m_Markers_replaced (P : Params) : mthB (Kf P) 686 "replaced" 683 at_Markers = true := by kernel_rfl
theorem i_Buffer (P : Params) : findIn (Kf P) (.ref 827) "__init__" = some (some (.ref 740)) := by kernel_rfl
theorem f_Buffer (P : Params) : isFn (Kf P) (.ref 740) = true := by kernel_rfl
theorem m_Buffer_begin (P : Params) : mthB (Kf P) 827 "begin" 761 at_Buffer = true := by kernel_rfl
theorem m_Buffer_end (P : Params) : mthB (Kf P) 827 "end" 768 at_Buffer = true := by kernel_rfl
theorem m_Buffer_size (P : Params) : mthB (Kf P) 827 "size" 775 at_Buffer = true := by kernel_rfl
theorem m_Buffer_code_at (P : Params) : mthB (Kf P) 827 "code_at" 782 at_Buffer = true := by kernel_rfl
theorem m_Buffer_codes (P : Params) : mthB (Kf P) 827 "codes" 789 at_Buffer = true := by kernel_rfl
theorem m_Buffer_goto (P : Params) : mthB (Kf P) 827 "goto" 796 at_Buffer = true := by kernel_rfl
theorem m_Buffer_touch (P : Params) : mthB (Kf P) 827 "touch" 824 at_Buffer = true := by kernel_rfl
theorem n_law_draw (P : Params) : nsIn (Kf P) mainGlobals "_law_draw" = some (some (.ref 836)) := by kernel_rfl
theorem p_law_draw (P : Params) : keepIn (Kf P) (.ref 836) = true := by kernel_rfl
theorem n_law_codes (P : Params) : nsIn (Kf P) mainGlobals "_law_codes" = some (some (.ref 841)) := by kernel_rfl
theorem p_law_codes (P : Params) : keepIn (Kf P) (.ref 841) = true := by kernel_rfl
theorem n_law_tables (P : Params) : nsIn (Kf P) mainGlobals "_law_tables" = some (some (.ref 848)) := by kernel_rfl
theorem p_law_tables (P : Params) : keepIn (Kf P) (.ref 848) = true := by kernel_rfl
theorem n_law_due (P : Params) : nsIn (Kf P) mainGlobals "_law_due" = some (some (.ref 855)) := by kernel_rfl
theorem p_law_due (P : Params) : keepIn (Kf P) (.ref 855) = true := by kernel_rfl
theorem n_law_word (P : Params) : nsIn (Kf P) mainGlobals "_law_word" = some (some (.ref 867)) := by kernel_rfl
theorem p_law_word (P : Params) : keepIn (Kf P) (.ref 867) = true := by kernel_rfl
theorem n_law_put (P : Params) : nsIn (Kf P) mainGlobals "_law_put" = some (some (.ref 874)) := by kernel_rfl
theorem p_law_put (P : Params) : keepIn (Kf P) (.ref 874) = true := by kernel_rfl
theorem n_law_all_put (P : Params) : nsIn (Kf P) mainGlobals "_law_all_put" = some (some (.ref 881)) := by kernel_rfl
theorem p_law_all_put (P : Params) : keepIn (Kf P) (.ref 881) = true := by kernel_rfl
theorem n_law_held (P : Params) : nsIn (Kf P) mainGlobals "_law_held" = some (some (.ref 886)) := by kernel_rfl
theorem p_law_held (P : Params) : keepIn (Kf P) (.ref 886) = true := by kernel_rfl
theorem n_sorted_flags (P : Params) : nsIn (Kf P) mainGlobals "sorted_flags" = some (some (.ref 390)) := by kernel_rfl
theorem p_sorted_flags (P : Params) : keepIn (Kf P) (.ref 390) = true := by kernel_rfl
theorem n_law_lettered (P : Params) : nsIn (Kf P) mainGlobals "_law_lettered" = some (some (.ref 860)) := by kernel_rfl
theorem p_law_lettered (P : Params) : keepIn (Kf P) (.ref 860) = true := by kernel_rfl
theorem n_Abbrev (P : Params) : nsIn (Kf P) mainGlobals "Abbrev" = some (some (.ref 83)) := by kernel_rfl
theorem p_Abbrev (P : Params) : keepIn (Kf P) (.ref 83) = true := by kernel_rfl
theorem mk_Abbrev (P : Params) : makesIn (Kf P) 83 = true := by kernel_rfl
theorem cl_Abbrev (P : Params) : clsB (Kf P) 83 at_Abbrev = true := by kernel_rfl
theorem nd_Abbrev : ndS at_Abbrev = true := by kernel_rfl
theorem n_AbbrevTable (P : Params) : nsIn (Kf P) mainGlobals "AbbrevTable" = some (some (.ref 104)) := by kernel_rfl
theorem p_AbbrevTable (P : Params) : keepIn (Kf P) (.ref 104) = true := by kernel_rfl
theorem mk_AbbrevTable (P : Params) : makesIn (Kf P) 104 = true := by kernel_rfl
theorem cl_AbbrevTable (P : Params) : clsB (Kf P) 104 at_AbbrevTable = true := by kernel_rfl
theorem nd_AbbrevTable : ndS at_AbbrevTable = true := by kernel_rfl
theorem n_Syntax (P : Params) : nsIn (Kf P) mainGlobals "Syntax" = some (some (.ref 381)) := by kernel_rfl
theorem p_Syntax (P : Params) : keepIn (Kf P) (.ref 381) = true := by kernel_rfl
theorem mk_Syntax (P : Params) : makesIn (Kf P) 381 = true := by kernel_rfl
theorem cl_Syntax (P : Params) : clsB (Kf P) 381 at_Syntax = true := by kernel_rfl
theorem nd_Syntax : ndS at_Syntax = true := by kernel_rfl
theorem n_SyntaxTable (P : Params) : nsIn (Kf P) mainGlobals "SyntaxTable" = some (some (.ref 462)) := by kernel_rfl
theorem p_SyntaxTable (P : Params) : keepIn (Kf P) (.ref 462) = true := by kernel_rfl
theorem mk_SyntaxTable (P : Params) : makesIn (Kf P) 462 = true := by kernel_rfl
theorem cl_SyntaxTable (P : Params) : clsB (Kf P) 462 at_SyntaxTable = true := by kernel_rfl
theorem nd_SyntaxTable : ndS at_SyntaxTable = true := by kernel_rfl
theorem n_Expansion (P : Params) : nsIn (Kf P) mainGlobals "Expansion" = some (some (.ref 497)) := by kernel_rfl
theorem p_Expansion (P : Params) : keepIn (Kf P) (.ref 497) = true := by kernel_rfl
theorem mk_Expansion (P : Params) : makesIn (Kf P) 497 = true := by kernel_rfl
theorem cl_Expansion (P : Params) : clsB (Kf P) 497 at_Expansion = true := by kernel_rfl
theorem nd_Expansion : ndS at_Expansion = true := by kernel_rfl
theorem n_GapText (P : Params) : nsIn (Kf P) mainGlobals "GapText" = some (some (.ref 616)) := by kernel_rfl
theorem p_GapText (P : Params) : keepIn (Kf P) (.ref 616) = true := by kernel_rfl
theorem mk_GapText (P : Params) : makesIn (Kf P) 616 = true := by kernel_rfl
theorem cl_GapText (P : Params) : clsB (Kf P) 616 at_GapText = true := by kernel_rfl
theorem nd_GapText : ndS at_GapText = true := by kernel_rfl
theorem n_Markers (P : Params) : nsIn (Kf P) mainGlobals "Markers" = some (some (.ref 686)) := by kernel_rfl
theorem p_Markers (P : Params) : keepIn (Kf P) (.ref 686) = true := by kernel_rfl
theorem mk_Markers (P : Params) : makesIn (Kf P) 686 = true := by kernel_rfl
theorem cl_Markers (P : Params) : clsB (Kf P) 686 at_Markers = true := by kernel_rfl
theorem nd_Markers : ndS at_Markers = true := by kernel_rfl
theorem n_Buffer (P : Params) : nsIn (Kf P) mainGlobals "Buffer" = some (some (.ref 827)) := by kernel_rfl
theorem p_Buffer (P : Params) : keepIn (Kf P) (.ref 827) = true := by kernel_rfl
theorem mk_Buffer (P : Params) : makesIn (Kf P) 827 = true := by kernel_rfl
theorem cl_Buffer (P : Params) : clsB (Kf P) 827 at_Buffer = true := by kernel_rfl
theorem nd_Buffer : ndS at_Buffer = true := by kernel_rfl
theorem n_len (P : Params) : nsIn (Kf P) mainGlobals "len" = some none := by kernel_rfl
theorem v_len : bootBuiltins "len" = some (.builtin "len") := by kernel_rfl
theorem h_len : ("len" : Str) ≠ "__name__" := by decide +kernel
theorem n_max (P : Params) : nsIn (Kf P) mainGlobals "max" = some none := by kernel_rfl
theorem v_max : bootBuiltins "max" = some (.builtin "max") := by kernel_rfl
theorem h_max : ("max" : Str) ≠ "__name__" := by decide +kernel
theorem n_min (P : Params) : nsIn (Kf P) mainGlobals "min" = some none := by kernel_rfl
theorem v_min : bootBuiltins "min" = some (.builtin "min") := by kernel_rfl
theorem h_min : ("min" : Str) ≠ "__name__" := by decide +kernel
theorem n_abs (P : Params) : nsIn (Kf P) mainGlobals "abs" = some none := by kernel_rfl
theorem v_abs : bootBuiltins "abs" = some (.builtin "abs") := by kernel_rfl
theorem h_abs : ("abs" : Str) ≠ "__name__" := by decide +kernel
theorem n_ord (P : Params) : nsIn (Kf P) mainGlobals "ord" = some none := by kernel_rfl
theorem v_ord : bootBuiltins "ord" = some (.builtin "ord") := by kernel_rfl
theorem h_ord : ("ord" : Str) ≠ "__name__" := by decide +kernel
theorem n_chr (P : Params) : nsIn (Kf P) mainGlobals "chr" = some none := by kernel_rfl
theorem v_chr : bootBuiltins "chr" = some (.builtin "chr") := by kernel_rfl
theorem h_chr : ("chr" : Str) ≠ "__name__" := by decide +kernel
theorem n_sorted (P : Params) : nsIn (Kf P) mainGlobals "sorted" = some none := by kernel_rfl
theorem v_sorted : bootBuiltins "sorted" = some (.builtin "sorted") := by kernel_rfl
theorem h_sorted : ("sorted" : Str) ≠ "__name__" := by decide +kernel
theorem n_all (P : Params) : nsIn (Kf P) mainGlobals "all" = some none := by kernel_rfl
theorem v_all : bootBuiltins "all" = some (.builtin "all") := by kernel_rfl
theorem h_all : ("all" : Str) ≠ "__name__" := by decide +kernel
theorem n_str (P : Params) : nsIn (Kf P) mainGlobals "str" = some none := by kernel_rfl
theorem v_str : bootBuiltins "str" = some (.type "str") := by kernel_rfl
theorem h_str : ("str" : Str) ≠ "__name__" := by decide +kernel
theorem n_int (P : Params) : nsIn (Kf P) mainGlobals "int" = some none := by kernel_rfl
theorem v_int : bootBuiltins "int" = some (.type "int") := by kernel_rfl
theorem h_int : ("int" : Str) ≠ "__name__" := by decide +kernel
theorem n_list (P : Params) : nsIn (Kf P) mainGlobals "list" = some none := by kernel_rfl
theorem v_list : bootBuiltins "list" = some (.type "list") := by kernel_rfl
theorem h_list : ("list" : Str) ≠ "__name__" := by decide +kernel
theorem n_range (P : Params) : nsIn (Kf P) mainGlobals "range" = some none := by kernel_rfl
theorem v_range : bootBuiltins "range" = some (.type "range") := by kernel_rfl
theorem h_range : ("range" : Str) ≠ "__name__" := by decide +kernel
theorem n_MOST_PARENTS (P : Params) : nsIn (Kf P) mainGlobals "MOST_PARENTS" = some (some (.int 20 249)) := by kernel_rfl
theorem n_WHITESPACE (P : Params) : nsIn (Kf P) mainGlobals "WHITESPACE" = some (some (vs " " 655)) := by kernel_rfl
theorem n_WORD (P : Params) : nsIn (Kf P) mainGlobals "WORD" = some (some (vs "w" 657)) := by kernel_rfl
theorem n_PUNCTUATION (P : Params) : nsIn (Kf P) mainGlobals "PUNCTUATION" = some (some (vs "." 659)) := by kernel_rfl
theorem n_INHERITS (P : Params) : nsIn (Kf P) mainGlobals "INHERITS" = some (some (vs "@" 661)) := by kernel_rfl
theorem n_KINDS (P : Params) : nsIn (Kf P) mainGlobals "KINDS" = some (some (vs " w_.()'\"\\/$<>@!|" 663)) := by kernel_rfl
theorem n_FLAGS (P : Params) : nsIn (Kf P) mainGlobals "FLAGS" = some (some (vs "1234bcnp" 665)) := by kernel_rfl
end Mine

end

section
set_option Elab.async false
set_option linter.all false
set_option maxRecDepth 100000
set_option compiler.extract_closed false
namespace Mine
/-- the kind of an object -/
noncomputable def kd : AO → Nat
  | .list t _ => 10 * t + 1
  | .tuple _ => 2
  | .sdict t _ => 10 * t + 3
  | .idict t _ => 10 * t + 4
  | .inst _ _ => 5
  | .rcd k _ _ => 10 * k + 6
  | .cell _ => 7
  | .rng _ => 8
  | .slc _ _ _ => 9
theorem upd_by {H : AH} {a b : Addr} {o o1 o2 : AO} (hb : H b = some o1) (ha : H a = some o2) (hne : kd o1 ≠ kd o2) : (H.upd a o) b = some o1 := by
  rw [AH.upd_ne fun e => ?_]; exact hb
  subst e; rw [ha] at hb; cases hb; exact hne rfl
theorem if_t {c : Bool} {P R : Prop} (h : c = true) (p : P) : (c = true → P) ∧ (c = false → R) := ⟨fun _ => p, fun e => absurd (h.symm.trans e) (by decide)⟩
theorem if_f {c : Bool} {P R : Prop} (h : c = false) (p : R) : (c = true → P) ∧ (c = false → R) := ⟨fun e => absurd (h.symm.trans e) (by decide), fun _ => p⟩
theorem gS {S : Sta} {E : ES} {n : Nat} {F : List (Option AV)} {H : AH} {QN : List (Option AV) → AH → Prop} {QX : AFl → List (Option AV) → AH → Prop} {st} (h : SW S E n st QN QX F H) : SW S E n st QN QX F H := h
theorem gX {S : Sta} {E : ES} {n : Nat} {F : List (Option AV)} {H : AH} {QN : List (Option AV) → AH → Prop} {QX : AFl → List (Option AV) → AH → Prop} {st} (h : XW S E n st QN QX F H) : XW S E n st QN QX F H := h
theorem gE {S : Sta} {E : ES} {n : Nat} {F : List (Option AV)} {H : AH} {Q : AV → AH → Prop} {e} (h : EW S E n e Q F H) : EW S E n e Q F H := h
theorem gB {S : Sta} {E : ES} {n : Nat} {F : List (Option AV)} {H : AH} {Q : Bool → AH → Prop} {e} (h : BW S E n e Q F H) : BW S E n e Q F H := h
theorem gO {S : Sta} {n : Nat} {H : AH} {Q : AV → AH → Prop} {op a b} (h : OW S op n a b Q H) : OW S op n a b Q H := h
theorem gL {S : Sta} {E : ES} {n : Nat} {F : List (Option AV)} {H : AH} {Q : List AV → AH → Prop} {e} (h : EWs S E n e Q F H) : EWs S E n e Q F H := h
theorem gC {S : Sta} {E : ES} {n : Nat} {F : List (Option AV)} {H : AH} {Q : AV → AH → Prop} {f a k p} (h : EW S E n (.Call f a k p) Q F H) : EW S E n (.Call f a k p) Q F H := h
theorem and_sp {c : Bool} {P R : Prop} (p : c = true → P) (r : c = false → R) : (c = true → P) ∧ (c = false → R) := ⟨p, r⟩
theorem ex_np {x : Str} {v : AV} {ns : List (Str × NameKind)} {F F' : List (Option AV)} {P : List (Option AV) → Prop} (h : NPut x v ns F F') (q : P F') : ∃ F', NPut x v ns F F' ∧ P F' := ⟨_, h, q⟩
theorem ex_tru {v : AV} {b : Bool} {P : Bool → Prop} (h : tru v = some b) (q : P b) : ∃ b, tru v = some b ∧ P b := ⟨_, h, q⟩
theorem ex_tb {b : Bool} {P : Bool → Prop} (q : P b) : ∃ c, tru (.bool b) = some c ∧ P c := ⟨_, rfl, q⟩
theorem ex_tn {P : Bool → Prop} (q : P false) : ∃ c, tru .none = some c ∧ P c := ⟨_, rfl, q⟩
theorem if_T {P R : Prop} (p : P) : (true = true → P) ∧ (true = false → R) := ⟨fun _ => p, nofun⟩
theorem if_F {P R : Prop} (p : R) : (false = true → P) ∧ (false = false → R) := ⟨nofun, fun _ => p⟩
theorem aty_l {H : AH} {a : Addr} {t : Nat} {xs : List AV} {P : Prop} (h : H a = some (.list t xs)) (q : P) : ATy H (.ref a) "list" ∧ P := ⟨⟨_, h, rfl⟩, q⟩
theorem aty_s {H : AH} {x : Str} {P : Prop} (q : P) : ATy H (.str x) "str" ∧ P := ⟨rfl, q⟩
theorem aty_d {H : AH} {a : Addr} {t : Nat} {xs : List (Str × AV)} {P : Prop} (h : H a = some (.sdict t xs)) (q : P) : ATy H (.ref a) "dict" ∧ P := ⟨⟨_, h, rfl⟩, q⟩
theorem aty_i {H : AH} {a : Addr} {t : Nat} {xs : List (Int × AV)} {P : Prop} (h : H a = some (.idict t xs)) (q : P) : ATy H (.ref a) "dict" ∧ P := ⟨⟨_, h, rfl⟩, q⟩
theorem ex_fn {H H₁ : AH} {Q : AV → AH → Prop} {v : AV} (s : Sub H H₁) (q : Q v H) : ∃ H₂, Sub H₂ H₁ ∧ Q v H₂ := ⟨H, s, q⟩
theorem fr {P : AV → AH → Prop} {o : AO} {H : AH} (h : ∀ a, H a = none → P (.ref a) (H.upd a o)) : ∀ a, H a = none → P (.ref a) (H.upd a o) := h
end Mine

end

section
set_option Elab.async false
set_option linter.all false
set_option maxRecDepth 100000
set_option compiler.extract_closed false
namespace Mine
variable {S : Sta} {E : ES} {n : Nat} {F F' : List (Option AV)} {H H' : AH} {Q : AV → AH → Prop} {QN : List (Option AV) → AH → Prop} {QX : AFl → List (Option AV) → AH → Prop}

theorem cmp_gen {x : Str} {elt : Expr} {ifs : List Expr} {K : AH → Prop} {R : List AV → AH → Prop} (Fr : Option AV → List (Option AV)) (hput : ∀ u v, NPut x v E.sc.names (Fr u) (Fr (some v))) (f : AV → Option AV) (hK : K H) :
    ∀ (xs acc : List AV) (u : Option AV), (∀ v ∈ xs, IfsW S E n ifs (fun b H' => if b then EW S E n elt (fun y H' => f v = some y ∧ H' = H) (Fr (some v)) H' else f v = none ∧ H' = H) (Fr (some v)) H) → R (acc ++ xs.filterMap f) H → CmpW S E n x elt ifs K R xs acc (Fr u) H
  | [], acc, u, _, h => by simpa [CmpW] using h
  | v :: rest, acc, u, he, h => by
    refine ⟨_, hput u v, ?_⟩
    have hv := he v (.head _)
    have key : ∀ b H', (if b = true then EW S E n elt (fun y H' => f v = some y ∧ H' = H) (Fr (some v)) H' else f v = none ∧ H' = H) → (if b = true then EW S E n elt (fun y H => K H ∧ CmpW S E n x elt ifs K R rest (acc ++ [y]) (Fr (some v)) H) (Fr (some v)) H' else K H' ∧ CmpW S E n x elt ifs K R rest acc (Fr (some v)) H') := by
      intro b H' hb
      cases b with
      | true =>
        simp only [if_true] at hb ⊢
        refine hb.mono fun y H' ⟨e, e'⟩ => ?_
        rw [e']
        refine ⟨hK, cmp_gen Fr hput f hK rest _ _ (fun w hw => he w (.tail _ hw)) ?_⟩
        simpa [List.filterMap_cons, e] using h
      | false =>
        simp only [Bool.false_eq_true, if_false] at hb ⊢
        obtain ⟨e, e'⟩ := hb
        rw [e']
        refine ⟨hK, cmp_gen Fr hput f hK rest _ _ (fun w hw => he w (.tail _ hw)) ?_⟩
        simpa [List.filterMap_cons, e] using h
    match ifs, hv with
    | [], hv => exact key true H hv
    | [t], hv => exact fun A env L stk s rm ev st => wpAny_mono (hv A env L stk s rm ev st) (fun b s' ⟨H', st', q⟩ => ⟨H', st', key _ _ q⟩) fun _ _ x => x
    | _ :: _ :: _, hv => exact hv.elim

theorem ew_comp1 {elt iter : Expr} {x : Str} {px : Pos} {ifs : List Expr} {scope : Scope} {pos : Pos} (cl : List (Str × Addr)) (N : List (Str × NameKind)) (hN : relNames E scope.names = N) (Fr : Option AV → List (Option AV)) (hF0 : Fr none = List.replicate scope.names.length none)
    (hput : ∀ u v, NPut x v N (Fr u) (Fr (some v))) (f : AV → Option AV)
    (hclos : ∀ env, EnvOk E env.locals env → closureFor scope env = pure cl)
    (hcell : (scope.names.all fun y => y.2 != .cell) = true) (hok : scOk { scope with names := N } = true) (hx : scope.names.lookup x = some .local) (hok' : scOk scope = true)
    (h : EW S E n iter (fun v H => ∃ xs K, xs.length ≤ 100000 ∧ IW S v xs K H ∧ (∀ v ∈ xs, IfsW S ⟨{ scope with names := N }, cl⟩ n ifs (fun b H' => if b then EW S ⟨{ scope with names := N }, cl⟩ n elt (fun y H' => f v = some y ∧ H' = H) (Fr (some v)) H' else f v = none ∧ H' = H) (Fr (some v)) H) ∧
      ∀ d, H d = none → Q (.ref d) (H.upd d (.list 0 (xs.filterMap f)))) F H)
    (hs : ∀ env v, foldedSetIterable iter env v = pure v := by walk_at "hpl") :
    EW S E n (.ListComp elt [⟨.Name x px, iter, ifs, 0⟩] scope pos) Q F H := by
  subst hN
  refine ew_comp cl hclos hcell hok hx hok' (h.mono fun v H ⟨xs, K, h1, h2, h3, h4⟩ => ⟨xs, K, h1, h2, ?_⟩) hs
  rw [← hF0]
  refine cmp_gen Fr (E := compES E scope cl) hput f h2.1 xs [] none h3 ?_
  simpa using h4
theorem ifs0 {P R : AH → Prop} (h : P H) : IfsW S E n [] (fun b H' => if b = true then P H' else R H') F H := by simpa [IfsW] using h
theorem ifs1 {t : Expr} {P R : AH → Prop} (h : BW S E n t (fun b H' => (b = true → P H') ∧ (b = false → R H')) F H) : IfsW S E n [t] (fun b H' => if b = true then P H' else R H') F H :=
  fun A env L stk s rm ev st => wpAny_mono (h A env L stk s rm ev st) (fun b s' ⟨H', st', q1, q2⟩ => ⟨H', st', by cases b <;> simp_all⟩) fun _ _ x => x
/-- an object without its tag -/
noncomputable def unt : AO → AO
  | .list _ xs => .list 0 xs
  | .sdict _ k => .sdict 0 k
  | .idict _ k => .idict 0 k
  | .rcd _ a b => .rcd 0 a b
  | o => o
theorem or_unt {w : World} {a : Addr} {o : AO} : OR w a (unt o) = OR w a o := by cases o <;> rfl
theorem or_tag {w : World} {a : Addr} {o o' : AO} {ob : Obj} (e : unt o = unt o') (h : OR w a o' ob) : OR w a o ob := by rw [← or_unt, e, or_unt]; exact h
noncomputable def Ret (H₂ H₁ : AH) : Prop := ∀ a o, H₂ a = some o → ∃ o', H₁ a = some o' ∧ unt o = unt o'
theorem St.ret {stk : List Fm} {s : Shared} {H₂ : AH} (h : St S stk H s) (r : Ret H₂ H) : St S stk H₂ s :=
  ⟨h.keep, fun p hp => ⟨(h.sk p hp).1, (by
    cases q : H₂ p.addr with
    | none => rfl
    | some o => (obtain ⟨o', e, _⟩ := r _ _ q; rw [(h.sk p hp).2.1] at e; cases e)), (h.sk p hp).2.2⟩, h.nd, fun a o e => by
      obtain ⟨o', e1, e2⟩ := r _ _ e
      obtain ⟨a, ob, b, c⟩ := h.heap _ _ e1
      exact ⟨a, ob, b, or_tag e2 c⟩, h.gens, h.os⟩
theorem EW.ret {e : Expr} (h : EW S E n e (fun v H₁ => ∃ H₂, Ret H₂ H₁ ∧ Q v H₂) F H) : EW S E n e Q F H :=
  fun A env L stk s rm ev st => wpAny_mono (h A env L stk s rm ev st) (fun v s' ⟨H₁, st', H₂, r, q⟩ => ⟨H₂, st'.ret r, q⟩) fun _ _ x => x
theorem ret_upd {H : AH} {a : Addr} {o o' : AO} (e : unt o = unt o') : Ret (H.upd a o) (H.upd a o') := fun b p h => by
  by_cases hb : b = a
  · subst hb; rw [AH.upd_self] at h; cases h; exact ⟨_, AH.upd_self _ _ _, e⟩
  · rw [AH.upd_ne hb] at h; exact ⟨p, by rw [AH.upd_ne hb]; exact h, rfl⟩
theorem ew_listT {elts : List Expr} {pos : Pos} (t : Nat) (h : EWs S E n elts (fun vs H => vs.length ≤ 1000 ∧ ∀ a, H a = none → Q (.ref a) (H.upd a (.list t vs))) F H) : EW S E n (.List elts pos) Q F H :=
  EW.ret (ew_list (fun A env L stk s pos rm ev st => wpAny_mono (h A env L stk s pos rm ev st) (fun v s' ⟨H₁, st', q1, q2⟩ => ⟨H₁, st', q1, fun a ha => ⟨_, ret_upd (o := .list t _) rfl, q2 a ha⟩⟩) fun _ _ x => x))
theorem Sub.both {a : Addr} {o : AO} (h : Sub H H') : Sub (H.upd a o) (H'.upd a o) := fun b p e => by
  by_cases hb : b = a
  · subst hb; rw [AH.upd_self] at e ⊢; exact e
  · rw [AH.upd_ne hb] at e ⊢; exact h _ _ e
theorem upd_upd (H : AH) (a : Addr) (o o' : AO) : (H.upd a o).upd a o' = H.upd a o' := by funext b; by_cases hb : b = a <;> simp [AH.upd, hb]
theorem upd_id {a : Addr} {o : AO} (h : H a = some o) : H.upd a o = H := by funext b; by_cases hb : b = a <;> simp [AH.upd, hb, h]
theorem Sub.updl {a : Addr} {o : AO} (h : Sub H H') (h2 : H' a = some o) : Sub (H.upd a o) H' := fun b p e => by
  by_cases hb : b = a
  · subst hb; rw [AH.upd_self] at e; cases e; exact h2
  · rw [AH.upd_ne hb] at e; exact h _ _ e
theorem BW.mono {e : Expr} {Q Q' : Bool → AH → Prop} (h : BW S E n e Q F H) (k : ∀ v H, Q v H → Q' v H) : BW S E n e Q' F H :=
  fun A env L stk s r g st => wpAny_mono (h A env L stk s r g st) (fun _ _ ⟨H', a, b⟩ => ⟨H', a, k _ _ b⟩) fun _ _ x => x
theorem if_c {c b : Bool} {P R : Prop} (e : c = b) (h : (b = true → P) ∧ (b = false → R)) : (c = true → P) ∧ (c = false → R) := e ▸ h
theorem ow_isN (h : Q (.bool true) H) : OW S (compareOp .Is) n .none .none Q H := ow_is h
theorem ow_isR {a : Addr} (h : Q (.bool false) H) : OW S (compareOp .Is) n (.ref a) .none Q H := ow_is h
theorem ow_isnotN (h : Q (.bool false) H) : OW S (compareOp .IsNot) n .none .none Q H := ow_isnot h
theorem ow_isnotR {a : Addr} (h : Q (.bool true) H) : OW S (compareOp .IsNot) n (.ref a) .none Q H := ow_isnot h
theorem ow_eqsT {x : Str} (h : Q (.bool true) H) : OW S (compareOp .Eq) n (.str x) (.str x) Q H := ow_eqs (by rw [beq_self_eq_true]; exact h)
theorem ow_eqsF {x y : Str} (e : (x == y) = false) (h : Q (.bool false) H) : OW S (compareOp .Eq) n (.str x) (.str y) Q H := ow_eqs (by rw [e]; exact h)
theorem ew_globS {x : Str} {pos : Pos} {y : String} {t : Nat} (g : NAt x .globalImplicit E.sc.names) (e : nsIn S.K mainGlobals x = some (some (vs y t))) (h : Q (.str (Str.ofString y)) H) : EW S E n (.Name x pos) Q F H := ew_glob g e h
theorem ew_globI {x : Str} {pos : Pos} {y : Int} {t : Nat} (g : NAt x .globalImplicit E.sc.names) (e : nsIn S.K mainGlobals x = some (some (.int y t))) (h : Q (.int y) H) : EW S E n (.Name x pos) Q F H := ew_glob g e h
theorem ew_call' {x : Str} {p pos : Pos} {args : List Expr} {f : Value} (g : NAt x .globalImplicit E.sc.names) (e : nsIn S.K mainGlobals x = some (some f)) (hk : keepIn S.K f = true)
    (hpl : ∀ env pos, (backTo pos (starEach args env)).any (·.1) = false) (hlen : ∀ env, starEach args env = [] ∨ ∃ e' t, starEach args env = (false, e') :: t) (h : EWs S E n args (fun vs H => CW S f n vs Q H) F H) :
    EW S E n (.Call (.Name x p) args [] pos) Q F H := ew_call g e hk h hpl hlen
theorem ew_callB' {x : Str} {p pos : Pos} {args : List Expr} {id : String} (g : NAt x .globalImplicit E.sc.names) (e : nsIn S.K mainGlobals x = some none) (hv : bootBuiltins x = some (.builtin id)) (hn : x ≠ "__name__")
    (hpl : ∀ env pos, (backTo pos (starEach args env)).any (·.1) = false) (hlen : ∀ env, ∃ e' t, starEach args env = (false, e') :: t) (h : EWs S E n args (fun vs H => CB S (.builtin id) n vs Q H) F H) :
    EW S E n (.Call (.Name x p) args [] pos) Q F H := ew_callB g e hv hn h hpl hlen
theorem ew_callT' {x : Str} {p pos : Pos} {args : List Expr} {id : String} (g : NAt x .globalImplicit E.sc.names) (e : nsIn S.K mainGlobals x = some none) (hv : bootBuiltins x = some (.type id)) (hn : x ≠ "__name__")
    (hpl : ∀ env pos, (backTo pos (starEach args env)).any (·.1) = false) (hlen : ∀ env, ∃ e' t, starEach args env = (false, e') :: t) (h : EWs S E n args (fun vs H => CB S (.type id) n vs Q H) F H) :
    EW S E n (.Call (.Name x p) args [] pos) Q F H := ew_callT g e hv hn h hpl hlen
theorem ew_glob' {x : Str} {pos : Pos} {v : Value} (g : NAt x .globalImplicit E.sc.names) (e : nsIn S.K mainGlobals x = some (some v)) (h : Q (ab v) H) : EW S E n (.Name x pos) Q F H := ew_glob g e h
theorem gN {f p as k q} (h : EW S E n (.Call (.Name f p) as k q) Q F H) : EW S E n (.Call (.Name f p) as k q) Q F H := h
theorem gM {o x p as k q} (h : EW S E n (.Call (.Attribute o x p) as k q) Q F H) : EW S E n (.Call (.Attribute o x p) as k q) Q F H := h
theorem oew_s {e : Expr} (h : EW S E n e Q F H) : OEW S E n (some e) Q F H := h
theorem oew_n (h : Q .none H) : OEW S E n none Q F H := h
theorem upd_none {a b : Addr} {o : AO} (h : (H.upd a o) b = none) : H b = none := by
  by_cases hb : b = a
  · subst hb; rw [AH.upd_self] at h; cases h
  · rw [AH.upd_ne hb] at h; exact h
theorem upd_nne {a b : Addr} {o : AO} (h : (H.upd a o) b = none) : b ≠ a := fun e => by subst e; rw [AH.upd_self] at h; cases h
theorem ex_fr {H₁ : AH} {a : Addr} {o : AO} (s : Sub H H₁) (q : Q (.ref a) (H.upd a o)) : ∃ H₂, Sub H₂ (H₁.upd a o) ∧ Q (.ref a) H₂ := ⟨_, s.both, q⟩
/-- a list of codes -/
noncomputable def ic (T : List Nat) : List AV := T.map fun (c : Nat) => .int (c : Int)
theorem ic_len (T : List Nat) : (ic T).length = T.length := by simp [ic]
theorem ic_mem {T : List Nat} {v : AV} (h : v ∈ ic T) : ∃ c, c ∈ T ∧ v = .int (c : Nat) := by
  obtain ⟨c, h1, h2⟩ := List.mem_map.mp h; exact ⟨c, h1, h2.symm⟩
theorem q_eq {P : AV → Prop} {x y : AV} (e : x = y) (h : P y) : P x := e ▸ h
end Mine

end

section
set_option Elab.async false
set_option linter.all false
set_option maxRecDepth 100000
set_option compiler.extract_closed false
namespace Mine
variable {S : Sta} {E : ES} {n : Nat} {F F' : List (Option AV)} {H H' : AH} {Q : AV → AH → Prop} {QN : List (Option AV) → AH → Prop} {QX : AFl → List (Option AV) → AH → Prop}
theorem tws_nil {Q : List (Option AV) → AH → Prop} (h : Q F H) : TWs S E n [] [] Q F H := h
theorem tws_cons {t : Expr} {ts : List Expr} {v : AV} {vs : List AV} {Q : List (Option AV) → AH → Prop} (h : TW S E n t v (fun F H => TWs S E n ts vs Q F H) F H) : TWs S E n (t :: ts) (v :: vs) Q F H := h
theorem ex_up {t : Addr} {vs : List AV} {k : Nat} {P : List AV → Prop} (h : H t = some (.tuple vs)) (hl : k = vs.length) (q : P vs) : ∃ vs, SeqAt H (.ref t) vs ∧ k = vs.length ∧ P vs := ⟨_, ⟨_, rfl, .inl h⟩, hl, q⟩
theorem ex_ul {t : Addr} {g : Nat} {vs : List AV} {k : Nat} {P : List AV → Prop} (h : H t = some (.list g vs)) (hl : k = vs.length) (q : P vs) : ∃ vs, SeqAt H (.ref t) vs ∧ k = vs.length ∧ P vs := ⟨_, ⟨_, rfl, .inr ⟨_, h⟩⟩, hl, q⟩
theorem ex_tup {vs : List AV} (hl : vs.length ≤ 1000) (h : ∀ a, H a = none → Q (.ref a) (H.upd a (.tuple vs))) : vs.length ≤ 1000 ∧ ∀ a, H a = none → Q (.ref a) (H.upd a (.tuple vs)) := ⟨hl, h⟩
theorem ex_lst {t : Nat} {vs : List AV} (hl : vs.length ≤ 1000) (h : ∀ a, H a = none → Q (.ref a) (H.upd a (.list t vs))) : vs.length ≤ 1000 ∧ ∀ a, H a = none → Q (.ref a) (H.upd a (.list t vs)) := ⟨hl, h⟩
theorem xw_unpack' {ts : List Expr} {k : Nat} {tp pos : Pos} {value : Expr} (hn : namesOnly ts = true) (hs : ∀ env, swapsWithSole [.Tuple ts k tp] value pos.line env = pure false) (hw : ∀ env, EnvOk E env.locals env → swappedStores [.Tuple ts k tp] value env = pure none)
    (h : EW S E n value (fun v H => ∃ vs, SeqAt H v vs ∧ ts.length = vs.length ∧ TWs S E n ts vs QN F H) F H) : XW S E n (.Assign [.Tuple ts k tp] value pos) QN QX F H := xw_unpack hn h hs hw
theorem ex_len {P : Prop} {vs : List AV} (hl : vs.length ≤ 1000) (h : P) : vs.length ≤ 1000 ∧ P := ⟨hl, h⟩
end Mine

end

section
set_option Elab.async false
set_option linter.all false
set_option maxRecDepth 100000
set_option compiler.extract_closed false
namespace Mine
variable {S : Sta} {E : ES} {n : Nat} {F F' : List (Option AV)} {H H' : AH} {Q : AV → AH → Prop} {QN : List (Option AV) → AH → Prop} {QX : AFl → List (Option AV) → AH → Prop}
/-- all but the objects of some kinds stay -/
noncomputable def Mv (P : Nat → Bool) (H H' : AH) : Prop := ∀ a o, H a = some o → P (kd o) = false → H' a = some o
theorem Mv.refl {P : Nat → Bool} (H : AH) : Mv P H H := fun _ _ e _ => e
theorem Mv.trans {P : Nat → Bool} {H₁ H₂ H₃ : AH} (a : Mv P H₁ H₂) (b : Mv P H₂ H₃) : Mv P H₁ H₃ := fun _ _ e k => b _ _ (a _ _ e k) k
theorem Mv.ofSub {P : Nat → Bool} (s : Sub H H') : Mv P H H' := fun _ _ e _ => s _ _ e
theorem Mv.mono {P P' : Nat → Bool} (a : Mv P H H') (k : ∀ n, P' n = false → P n = false) : Mv P' H H' := fun _ _ e p => a _ _ e (k _ p)
theorem Mv.fr {P : Nat → Bool} {H₁ : AH} {a : Addr} {o : AO} (m : Mv P H H₁) (h : H₁ a = none) : Mv P H (H₁.upd a o) := fun b p e k => AH.upd_old h (m b p e k)
theorem Mv.ch {P : Nat → Bool} {H₁ : AH} {a : Addr} {o o' : AO} (m : Mv P H H₁) (h : H₁ a = some o') (hp : P (kd o') = true) : Mv P H (H₁.upd a o) := fun b p e k => by
  have := m b p e k
  rw [AH.upd_ne fun q => ?_]; exact this
  subst q; rw [h] at this; cases this; rw [hp] at k; cases k
noncomputable def pG (k : Nat) : Bool := k == 11 || k == 116
noncomputable def pB (k : Nat) : Bool := k == 11 || k == 116 || k == 16
noncomputable def pX (k : Nat) : Bool := k == 11 || k == 116 || k == 16 || k == 36
theorem pGB {H H' : AH} (m : Mv pG H H') : Mv pB H H' := m.mono fun n h => by simp [pB, pG] at *; omega
theorem pBX {H H' : AH} (m : Mv pB H H') : Mv pX H H' := m.mono fun n h => by simp [pB, pX] at *; omega
theorem SW.weakF {st : List Stmt} (h : SW S E n st QN QX F H) : SW S E n st QN QX F H := h
end Mine

end

section
set_option Elab.async false
set_option linter.all false
set_option maxRecDepth 100000
set_option compiler.extract_closed false
namespace Mine
theorem if_nT {P R : Prop} (p : P) : ((!false) = true → P) ∧ ((!false) = false → R) := ⟨fun _ => p, nofun⟩
theorem if_nF {P R : Prop} (p : R) : ((!true) = true → P) ∧ ((!true) = false → R) := ⟨nofun, fun _ => p⟩
theorem ex_int {i : Int} {P : Int → Prop} (q : P i) : ∃ i', AV.int i = .int i' ∧ P i' := ⟨_, rfl, q⟩
theorem gPop {S : Sta} {E : ES} {n : Nat} {F : List (Option AV)} {H : AH} {Q : AV → AH → Prop} {o p as k q} (h : EW S E n (.Call (.Attribute o "pop" p) as k q) Q F H) : EW S E n (.Call (.Attribute o "pop" p) as k q) Q F H := h
theorem Sub.updN {H H' : AH} {a : Addr} {o : AO} (s : Sub H H') (h : H a = none) : Sub H (H'.upd a o) := fun b p e => by
  rw [AH.upd_ne fun q => ?_]; exact s _ _ e
  subst q; rw [h] at e; cases e
end Mine

end

section
set_option Elab.async false
set_option linter.all false
set_option maxRecDepth 100000
set_option compiler.extract_closed false
namespace Mine
variable {S : Sta} {E : ES} {n : Nat} {F F' : List (Option AV)} {H H' : AH} {Q : AV → AH → Prop} {QN : List (Option AV) → AH → Prop} {QX : AFl → List (Option AV) → AH → Prop}
theorem store_cell {x : Str} {v v₀ : AV} {c : Addr} {A : Around} {env : Env} {L : Addr} {stk : List Fm} {s : Shared} {u : Value} {R : Unit → Shared → Prop} (ev : EnvOk E L env) (hu : ab u = v) (st : St S stk H s)
    (g : NAt x .cell E.sc.names) (hc : E.cl.lookup x = some c) (hv : H c = some (.cell v₀)) (h : ∀ s', St S stk (H.upd c (.cell v)) s' → R () s') : wpAny S.M A (storeName env x u) R Nope s := by
  obtain ⟨_, ob, e1, r⟩ := st.heap _ _ hv
  have hk : env.scope.kind = .function := by rw [ev.sc]; exact scOk_kind ev.ok
  have hl : env.kindOf x = some .cell := by unfold Env.kindOf; rw [ev.sc]; exact g.lookup (scOk_nd ev.ok)
  have hic : ∃ w, s.heap.IsCell c w := by
    rcases r with ⟨v', e2, _⟩ | ⟨_, e2⟩
    · exact ⟨_, ob, e1, e2⟩
    · exact ⟨_, ob, e1, e2⟩
  obtain ⟨w, hic⟩ := hic
  refine wpAny_storeName_cell hk hl (by rw [ev.cl]; exact hc) hic fun h' hic' hs' => ?_
  obtain ⟨ob', o1, o2⟩ := hic'
  exact h _ (St.set (t := s.toks) st hv (fun b o hb e => (hs'.2 b hb).trans e) o1 (.inl ⟨u, o2, hu⟩))
theorem tw_cell {x : Str} {pos : Pos} {v v₀ : AV} {c : Addr} {Q : List (Option AV) → AH → Prop} (g : NAt x .cell E.sc.names) (hc : E.cl.lookup x = some c) (hv : H c = some (.cell v₀)) (h : Q F (H.upd c (.cell v))) : TW S E n (.Name x pos) v Q F H :=
  fun _ _ _ _ _ _ _ ev hu st => wpAny_assign_Name (store_cell ev hu st g hc hv fun _ st' => ⟨F, _, st', h⟩)
noncomputable def cellsH (H : AH) (cv : Str → AV) : List (Str × Addr) → AH
  | [] => H
  | p :: r => (cellsH H cv r).upd p.2 (.cell (cv p.1))
theorem St.cells {stk : List Fm} {cv : Str → AV} {cm : Str → Option Value} (hcv : ∀ x, match cm x with | some v => ab v = cv x | none => cv x = .other .none) :
    ∀ (cs : List (Str × Addr)) (s : Shared), St S stk H s → (∀ p ∈ cs, s.heap.IsCell p.2 (cm p.1)) → (∀ p ∈ cs, S.h₀.get? p.2 = none) → (∀ p ∈ cs, ∀ q ∈ stk, q.addr ≠ p.2) → St S stk (cellsH H cv cs) s
  | [], s, st, _, _, _ => st
  | p :: r, s, st, h1, h2, h3 => by
    have ih := St.cells hcv r s st (fun q hq => h1 q (.tail _ hq)) (fun q hq => h2 q (.tail _ hq)) (fun q hq => h3 q (.tail _ hq))
    obtain ⟨ob, o1, o2⟩ := h1 p (.head _)
    refine St.put (h' := s.heap) (t := s.toks) ih (fun _ _ _ e => e) (h2 p (.head _)) (fun q hq => h3 p (.head _) q hq) o1 ?_
    have := hcv p.1
    cases q : cm p.1 with
    | some v => rw [q] at this o2; exact .inl ⟨v, o2, this⟩
    | none => rw [q] at this o2; exact .inr ⟨this, o2⟩
theorem cw_fnC {f : Addr} {st : Stmt} {qual : Str} {dV pm : Value} {code : Addr} {args : List AV} (F₀ : List (Option AV)) (cv : Str → AV)
    {name : Str} {params : Arguments} {body : List Stmt} {decs : List Expr} {rt : Option Expr} {tps : List TypeParam} {scope : Scope} {tsc : Option Scope} {bind : Str} {pos : Pos} (binds : List Value → List (Str × Value))
    (ho : S.K.lookup f = some (fobj st qual dV pm code)) (hcd : codeIn S.K (.ref code) qual = true)
    (hst : st = .FunctionDef name params body decs rt tps scope tsc bind pos)
    (hok : scOk scope = true) (hco : scope.isCoroutine = false) (hgen : scope.isGenerator = false)
    (hb : ∀ vals : List Value, vals.map ab = args → bindArgs (fnOf name qual params body scope dV .none .none pm none (.ref code) .none) ⟨vals, []⟩ = pure (binds vals))
    (hkind : ∀ vals : List Value, vals.map ab = args → ∀ L, ∀ x ∈ binds vals, scope.names.lookup x.1 = some .local ∨ (scope.names.lookup x.1 = some .cell ∧ ((cellsFrom L scope.names []).lookup x.1).isSome = true))
    (hF : ∀ vals : List Value, vals.map ab = args → ∀ x v, NGet x .local v scope.names F₀ → ∃ v', bindL (fun n => scope.names.lookup n) (binds vals) (fun _ => none) x = some v' ∧ ab v' = v)
    (hcv : ∀ vals : List Value, vals.map ab = args → ∀ x, match bindC (fun n => scope.names.lookup n) (binds vals) (fun _ => none) x with | some v => ab v = cv x | none => cv x = .other .none)
    (hlk : ∀ L, ∀ p ∈ cellsFrom L scope.names [], (cellsFrom L scope.names []).lookup p.1 = some p.2)
    (h : ∀ cs L, cs = cellsFrom (L + 1) scope.names [] → (∀ p ∈ cs, H p.2 = none) → (cs.Pairwise fun x y => x.2 ≠ y.2) → SW S ⟨scope, cs⟩ n body (fun _ H₁ => ∃ H₂, Sub H₂ H₁ ∧ Q .none H₂) (fun fl _ H₁ => match fl with | .ret v => ∃ H₂, Sub H₂ H₁ ∧ Q v H₂ | _ => False) F₀ (cellsH H cv cs)) :
    CW S (.ref f) (n + 1) args Q H := CW.relax fun A stk s vals rm hv st0 => by
  subst hst
  have X := S.X.keeps st0.keep
  refine codeAny_mono (codeAny_call_cells (R := fun r s' => ∃ v H', r = .ok (.ret v) ∧ St S stk H' s' ∧ ∃ H₂, Sub H₂ H' ∧ Q (ab v) H₂) (fd := fnOf name qual params body scope dV .none .none pm none (.ref code) .none) (body := body) (binds := binds vals) rm.depth (X _ _ ho) rfl
    (S.T.nolimit.keeps st0.keep) (codeRec_of X hcd) rfl (hb vals hv) rfl (hkind vals hv _) (fun s₁ x => ?_) hco hgen (scOk_kind hok)) fun _ _ x => x
  have hab : ∀ p ∈ cellsFrom (s.heap.objs.size + 1) scope.names [], s.heap.get? p.2 = none := fun p hp => by
    have this : s.heap.objs.size < p.2 := x.above p.1 p.2 hp
    cases q : s.heap.get? p.2 with
    | none => rfl
    | some o => exact absurd (Heap.lt_size q) (Nat.lt_asymm this)
  obtain ⟨h₁, tk, rfl⟩ := x.toInCall.same
  have st1 : St S (.fr s.heap.objs.size scope.names F₀ :: stk) H { s with heap := h₁, toks := tk } :=
    st0.under x.toInCall.keep (size_none _) ⟨_, x.toInCall.ns, fun y v g => hF vals hv y v g⟩
  have st2 := St.cells (hcv vals hv) (cellsFrom (s.heap.objs.size + 1) scope.names []) _ st1 (fun p hp => by
      exact x.cell p.1 p.2 (hlk _ p hp)) (fun p hp => st0.fresh_h0 (hab p hp)) (fun p hp q hq => by
      rcases List.mem_cons.mp hq with rfl | hq
      · have := x.above p.1 p.2 hp
        exact Nat.ne_of_lt this
      · exact st0.fresh_stk (hab p hp) q hq)
  refine wpAny_mono (h _ _ rfl (fun p hp => st0.fresh_H (hab p hp)) x.apart _ _ _ stk _ rm.deeper ⟨rfl, rfl, rfl, rfl, rfl, hok⟩ st2) (fun fl s' ⟨F', H', st', q⟩ => ?_) fun _ _ x => x.elim
  cases fl with
  | next => exact ⟨_, H', rfl, st'.pop, q⟩
  | ret v => exact ⟨_, H', rfl, st'.pop, q⟩
  | brk => exact q.elim
  | cont => exact q.elim
end Mine

end

section
set_option Elab.async false
set_option linter.all false
set_option maxRecDepth 100000
set_option compiler.extract_closed false
namespace Mine
variable {S : Sta} {E : ES} {n : Nat} {F F' : List (Option AV)} {H H' : AH} {Q : AV → AH → Prop} {QN : List (Option AV) → AH → Prop} {QX : AFl → List (Option AV) → AH → Prop}
theorem swaps_cell {value : Expr} {x : Str} {p : Pos} {line : Nat} {env : Env} (h : env.kindOf x = some .cell) : swapsWith value (some (.Name x p)) line env = pure false := by
  unfold swapsWith
  have e : (NameKind.cell == NameKind.local) = false := rfl
  cases value <;> first | rfl | (simp only [h]; simp [e])
theorem xw_assign_cell {x : Str} {p' pos : Pos} {value : Expr} {c : Addr} (g : NAt x .cell E.sc.names) (hc : E.cl.lookup x = some c) (h : EW S E n value (fun v H => ∃ v₀, H c = some (.cell v₀) ∧ QN F (H.upd c (.cell v))) F H) : XW S E n (.Assign [.Name x p'] value pos) QN QX F H :=
  fun A env L stk s rm ev st => wpAny_Assign_Name (wpAny_mono (h A env L stk s rm ev st) (fun v s₁ ⟨H₁, st₁, v₀, hv, q⟩ => store_cell ev rfl st₁ g hc hv fun _ st' => ⟨F, _, st', q⟩) fun _ _ x => x)
    (swaps_cell (by unfold Env.kindOf; rw [ev.sc]; exact g.lookup (scOk_nd ev.ok)))
end Mine

end

section
set_option Elab.async false
set_option linter.all false
set_option maxRecDepth 100000
set_option compiler.extract_closed false
namespace Mine
/-! checks in place of equations -/
noncomputable def kdE : Expr → Nat
  | .Starred .. => 1
  | .ListComp .. | .SetComp .. | .DictComp .. => 2
  | .Set .. => 3
  | .Call .. => 4
  | .UnaryOp .. | .BoolOp .. | .IfExp .. | .Compare .. => 5
  | _ => 0
noncomputable def nst (e : Expr) : Bool := !(Nat.beq (kdE e) 1)
theorem nst_each {e : Expr} {es : List Expr} (h : nst e = true) : ∀ env, starEach (e :: es) env = (false, eval e env) :: starEach es env := by
  intro env
  cases e <;> first | rfl | cases h
noncomputable def nsts : List Expr → Bool
  | [] => true
  | e :: es => nst e && nsts es
noncomputable def nsts1 : List Expr → Bool
  | [] => false
  | e :: es => nst e && nsts es
theorem nsts_hpl {args : List Expr} (h : nsts args = true) : ∀ env pos, (backTo pos (starEach args env)).any (·.1) = false := by
  intro env pos
  induction args with
  | nil => rfl
  | cons e es ih =>
    rw [nsts, Bool.and_eq_true] at h
    rw [nst_each h.1]
    exact ih h.2
theorem nsts_hle2 {args : List Expr} (h : nsts1 args = true) : ∀ env, ∃ e' t, starEach args env = (false, e') :: t := by
  intro env
  cases args with
  | nil => cases h
  | cons e es =>
    rw [nsts1, Bool.and_eq_true] at h
    exact ⟨_, _, nst_each h.1 env⟩
theorem nsts_of {args : List Expr} (h : nsts1 args = true) : nsts args = true := by
  cases args with
  | nil => cases h
  | cons e es => exact h
theorem nsts_hlen {args : List Expr} (h : nsts args = true) : ∀ env, starEach args env = [] ∨ ∃ e' t, starEach args env = (false, e') :: t := by
  intro env
  cases args with
  | nil => exact .inl rfl
  | cons e es => exact .inr (nsts_hle2 (args := e :: es) h env)
noncomputable def nComp (e : Expr) : Bool := !(Nat.beq (kdE e) 2)
theorem nComp_sw {v : Expr} {t : Option Expr} {l : Nat} (h : nComp v = true) : ∀ env, swapsWith v t l env = pure false := by
  intro env
  cases v <;> first | rfl | cases h
noncomputable def nCall0 (e : Expr) : Bool := !(Nat.beq (kdE e) 4)
theorem nCall0_ab {o : Expr} {x : Str} (h : nCall0 o = true) : ∀ env m, attributeBase o x env m = m := by
  intro env m
  cases o <;> first | rfl | cases h
noncomputable def nSet (e : Expr) : Bool := !(Nat.beq (kdE e) 3)
theorem nSet_f {e : Expr} (h : nSet e = true) : ∀ env x, foldedSetIterable e env x = pure x := by
  intro env x
  cases e <;> first | rfl | cases h
noncomputable def nTest (e : Expr) : Bool := !(Nat.beq (kdE e) 5)
theorem nTest_p {e : Expr} (h : nTest e = true) : ∀ env, isTrue e env (eval e env) = (do let v ← eval e env; standAt e.pos; holding [v] (truthy v)) := by
  intro env
  cases e <;> first | rfl | cases h
theorem nsts_all {args : List Expr} {pos : Pos} (h : nsts args = true) : ∀ env, (backTo pos (starEach args env)).all (!·.1) = true := by
  intro env
  induction args with
  | nil => rfl
  | cons e es ih =>
    rw [nsts, Bool.and_eq_true] at h
    rw [nst_each h.1]
    exact ih h.2
noncomputable def mOk (o : Expr) (apos pos : Pos) (args : List Expr) : Bool := nCall0 o && (nsts args && (Nat.blt args.length 30 && (apos.endLine == pos.line)))
theorem hc_of {o : Expr} {x : Str} {apos pos : Pos} {args : List Expr} (h : mOk o apos pos args = true) : ∀ env, ∃ pl, eval (.Call (.Attribute o x apos) args [] pos) env = (do
      let ov ← eval o env
      standAt apos.atName
      let (f, first) ← holding [ov] (getMethod ov x pl)
      callWith pos f first (backTo pos (starEach args env)) (backToKw pos (keywordEach [] env))) := by
  intro env
  simp only [mOk, Bool.and_eq_true] at h
  obtain ⟨h1, h2, h3, h4⟩ := h
  have e : eval (.Call (.Attribute o x apos) args [] pos) env = (do
      let ov ← attributeBase o x env (eval o env)
      standAt apos.atName
      methodCall o x apos pos env ov (args.length + ([] : List Keyword).length) (backTo pos (starEach args env)) (backToKw pos (keywordEach [] env))) := rfl
  have f : methodCallForm (args.length + ([] : List Keyword).length) (backTo pos (starEach args env)) (backToKw pos (keywordEach [] env)) = true := by
    unfold methodCallForm
    rw [nsts_all h2]
    exact decide_eq_true (Nat.blt_eq.mp h3)
  have g : methodCallPos true o env apos pos = pure pos := by
    unfold methodCallPos
    rw [h4]; rfl
  rw [nCall0_ab h1] at e
  refine ⟨(do return (← importBound o env).getD true), e.trans ?_⟩
  simp only [methodCall, f, g, calleeOf, if_true]
  rfl
theorem mOk_n {o : Expr} {apos pos : Pos} {args : List Expr} (h : mOk o apos pos args = true) : nsts args = true := by
  simp only [mOk, Bool.and_eq_true] at h; exact h.2.1
theorem not_t {b : Bool} (h : (!b) = true) : b = false := by
  cases b with
  | false => rfl
  | true => cases h
/-! chains, several steps at once -/
section
variable {x : Str} {k : NameKind} {v : AV} {a b c d : Str × NameKind} {p q r s : Option AV} {ns : List (Str × NameKind)} {vs vs' : List (Option AV)}
theorem ng1 : NGet x k v (a :: (x, k) :: ns) (p :: some v :: vs) := .there .here
theorem ng2 : NGet x k v (a :: b :: (x, k) :: ns) (p :: q :: some v :: vs) := .there ng1
theorem ng3 : NGet x k v (a :: b :: c :: (x, k) :: ns) (p :: q :: r :: some v :: vs) := .there ng2
theorem ng4 (h : NGet x k v ns vs) : NGet x k v (a :: b :: c :: d :: ns) (p :: q :: r :: s :: vs) := .there (.there (.there (.there h)))
theorem np1 : NPut x v (a :: (x, .local) :: ns) (p :: q :: vs) (p :: some v :: vs) := .there .here
theorem np2 : NPut x v (a :: b :: (x, .local) :: ns) (p :: q :: r :: vs) (p :: q :: some v :: vs) := .there np1
theorem np3 : NPut x v (a :: b :: c :: (x, .local) :: ns) (p :: q :: r :: s :: vs) (p :: q :: r :: some v :: vs) := .there np2
theorem np4 (h : NPut x v ns vs vs') : NPut x v (a :: b :: c :: d :: ns) (p :: q :: r :: s :: vs) (p :: q :: r :: s :: vs') := .there (.there (.there (.there h)))
theorem na1 : NAt x k (a :: (x, k) :: ns) := .there .here
theorem na2 : NAt x k (a :: b :: (x, k) :: ns) := .there na1
theorem na3 : NAt x k (a :: b :: c :: (x, k) :: ns) := .there na2
theorem na4 (h : NAt x k ns) : NAt x k (a :: b :: c :: d :: ns) := .there (.there (.there (.there h)))
end
section
variable {x : Str} {v : AV} {a b c d : Str} {p q r s : Option AV} {ns : List Str} {vs vs' : List (Option AV)}
theorem rg1 : RGet x v (a :: x :: ns) (p :: some v :: vs) := .there .here
theorem rg2 : RGet x v (a :: b :: x :: ns) (p :: q :: some v :: vs) := .there rg1
theorem rg3 : RGet x v (a :: b :: c :: x :: ns) (p :: q :: r :: some v :: vs) := .there rg2
theorem rg4 (h : RGet x v ns vs) : RGet x v (a :: b :: c :: d :: ns) (p :: q :: r :: s :: vs) := .there (.there (.there (.there h)))
theorem rp1 : RPut x v (a :: x :: ns) (p :: q :: vs) (p :: some v :: vs) := .there .here
theorem rp2 : RPut x v (a :: b :: x :: ns) (p :: q :: r :: vs) (p :: q :: some v :: vs) := .there rp1
theorem rp3 : RPut x v (a :: b :: c :: x :: ns) (p :: q :: r :: s :: vs) (p :: q :: r :: some v :: vs) := .there rp2
theorem rp4 (h : RPut x v ns vs vs') : RPut x v (a :: b :: c :: d :: ns) (p :: q :: r :: s :: vs) (p :: q :: r :: s :: vs') := .there (.there (.there (.there h)))
end
end Mine

end

section
set_option Elab.async false
set_option linter.all false
set_option maxRecDepth 100000
set_option compiler.extract_closed false
namespace Mine
/-! ## the rules with named continuations: a name is copied cheaply, a function is not -/
section
variable (S : Sta) (E : ES) (n : Nat) (o : Value → Value → Sem Value) (e : Expr) (es : List Expr) (b c : List Stmt) (x : Str) (f : Addr) (Q : AV → AH → Prop) (QB : Bool → AH → Prop) (QL : List AV → AH → Prop)
  (QN : List (Option AV) → AH → Prop) (QX : AFl → List (Option AV) → AH → Prop) (F : List (Option AV)) (H : AH)
@[reducible] noncomputable def BinB (a b : AV) (H : AH) : Prop := OW S o n a b Q H
@[reducible] noncomputable def BinA (a : AV) (H : AH) : Prop := EW S E n e (BinB S n o Q a) F H
@[reducible] noncomputable def TruK (v : AV) (H : AH) : Prop := ∃ c, tru v = some c ∧ QB c H
@[reducible] noncomputable def NotK (v : AV) (H : AH) : Prop := ∃ b, tru v = some b ∧ Q (.bool (!b)) H
@[reducible] noncomputable def BNotK (b : Bool) (H : AH) : Prop := QB (!b) H
@[reducible] noncomputable def IfE (e' : Expr) (c : Bool) (H : AH) : Prop := (c = true → EW S E n e Q F H) ∧ (c = false → EW S E n e' Q F H)
@[reducible] noncomputable def IfS (v : Bool) (H : AH) : Prop := (v = true → SW S E n b QN QX F H) ∧ (v = false → SW S E n c QN QX F H)
@[reducible] noncomputable def CallK (g : Value) (vs : List AV) (H : AH) : Prop := CW S g n vs Q H
@[reducible] noncomputable def CallB (g : Value) (vs : List AV) (H : AH) : Prop := CB S g n vs Q H
@[reducible] noncomputable def MBB (g : Value) (v : AV) (vs : List AV) (H : AH) : Prop := CB S g n (v :: vs) Q H
@[reducible] noncomputable def MBK (T : String) (g : Value) (v : AV) (H : AH) : Prop := ATy H v T ∧ EWs S E n es (MBB S n Q g v) F H
@[reducible] noncomputable def SubB (a b : AV) (H : AH) : Prop := GW S n a b Q H
@[reducible] noncomputable def SubA (a : AV) (H : AH) : Prop := EW S E n e (SubB S n Q a) F H
@[reducible] noncomputable def EConsB (v : AV) (vs : List AV) (H : AH) : Prop := QL (v :: vs) H
@[reducible] noncomputable def EConsA (v : AV) (H : AH) : Prop := EWs S E n es (EConsB QL v) F H
@[reducible] noncomputable def AsnK (v : AV) (H : AH) : Prop := ∃ F', NPut x v E.sc.names F F' ∧ QN F' H
@[reducible] noncomputable def AsA (v : AV) (H : AH) : Prop := EW S E n e (AsB S x QN F v) F H
@[reducible] noncomputable def SbC (c a b : AV) (H : AH) : Prop := PW S n a b c (QN F) H
@[reducible] noncomputable def SbB (c a : AV) (H : AH) : Prop := EW S E n e (SbC S n QN F c a) F H
@[reducible] noncomputable def SbA (e' : Expr) (c : AV) (H : AH) : Prop := EW S E n e (SbB S E n e' QN F c) F H
@[reducible] noncomputable def ExprK (_ : AV) (H : AH) : Prop := QN F H
@[reducible] noncomputable def RetK (v : AV) (H : AH) : Prop := QX (.ret v) F H
@[reducible] noncomputable def ForK (v : AV) (H : AH) : Prop := ∃ xs K, IW S v xs K H ∧ ForW S E n e b K QN QX xs F H
@[reducible] noncomputable def FrK (o : AO) : Prop := ∀ a, H a = none → Q (.ref a) (H.upd a o)
@[reducible] noncomputable def ListK (t : Nat) (vs : List AV) (H : AH) : Prop := vs.length ≤ 1000 ∧ FrK Q H (.list t vs)
@[reducible] noncomputable def TupK (vs : List AV) (H : AH) : Prop := vs.length ≤ 1000 ∧ FrK Q H (.tuple vs)
@[reducible] noncomputable def SlC (a b c : AV) (H : AH) : Prop := FrK Q H (.slc a b c)
@[reducible] noncomputable def SlB (k : Option Expr) (a b : AV) (H : AH) : Prop := OEW S E n k (SlC Q a b) F H
@[reducible] noncomputable def SlA (hi k : Option Expr) (a : AV) (H : AH) : Prop := OEW S E n hi (SlB S E n Q F k a) F H
@[reducible] noncomputable def UnpK (v : AV) (H : AH) : Prop := ∃ vs, SeqAt H v vs ∧ es.length = vs.length ∧ TWs S E n es vs QN F H
@[reducible] noncomputable def SwpB (names : List Str) (vs : List AV) (H : AH) : Prop := ∃ F', PutsR names vs E.sc.names F F' ∧ QN F' H
@[reducible] noncomputable def SwpK (names : List Str) (v : AV) (H : AH) : Prop := ∃ vs, SeqAt H v vs ∧ names.length = vs.length ∧ SwpB E QN F names vs H
@[reducible] noncomputable def AndB (p : Pos) (b : Bool) (H : AH) : Prop := (b = true → BW S E n (.BoolOp .And es p) QB F H) ∧ (b = false → QB false H)
@[reducible] noncomputable def OrB (p : Pos) (b : Bool) (H : AH) : Prop := (b = true → QB true H) ∧ (b = false → BW S E n (.BoolOp .Or es p) QB F H)
@[reducible] noncomputable def RetN : List (Option AV) → AH → Prop := fun _ H₁ => ∃ H₂, Sub H₂ H₁ ∧ Q .none H₂
@[reducible] noncomputable def RetX : AFl → List (Option AV) → AH → Prop := fun fl _ H₁ => match fl with | .ret v => ∃ H₂, Sub H₂ H₁ ∧ Q v H₂ | _ => False
@[reducible] noncomputable def LoopN (K : AH → Prop) (J : List (Option AV) → AH → Prop) : List (Option AV) → AH → Prop := fun F H => K H ∧ J F H
@[reducible] noncomputable def LoopX (K : AH → Prop) (J : List (Option AV) → AH → Prop) : AFl → List (Option AV) → AH → Prop := fun fl F H => match fl with | .brk => QN F H | .cont => K H ∧ J F H | .ret v => QX (.ret v) F H
@[reducible] noncomputable def LtJ (J : Nat → List (Option AV) → AH → Prop) (k : Nat) : List (Option AV) → AH → Prop := fun F H => ∃ m, m < k ∧ J m F H
@[reducible] noncomputable def WhX (J : Nat → List (Option AV) → AH → Prop) (k : Nat) : AFl → List (Option AV) → AH → Prop := fun fl F H => match fl with | .brk => QN F H | .cont => ∃ m, m < k ∧ J m F H | .ret v => QX (.ret v) F H
@[reducible] noncomputable def WhT (J : Nat → List (Option AV) → AH → Prop) (k : Nat) (v : Bool) (H : AH) : Prop := (v = true → SW S E n b (LtJ J k) (WhX QN QX J k) F H) ∧ (v = false → QN F H)
@[reducible] noncomputable def CellK (a : Addr) (v : AV) (H : AH) : Prop := ∃ v₀, H a = some (.cell v₀) ∧ QN F (H.upd a (.cell v))
end
variable {S : Sta} {E : ES} {n : Nat} {F F' : List (Option AV)} {H H' : AH} {Q : AV → AH → Prop} {QN : List (Option AV) → AH → Prop} {QX : AFl → List (Option AV) → AH → Prop} {QB : Bool → AH → Prop}
theorem kw_bin {l r : Expr} {op : Operator} {pos : Pos} (h : EW S E n l (BinA S E n (binaryOp op) r Q F) F H) : EW S E n (.BinOp l op r pos) Q F H := ew_bin h
theorem kw_cmp {l r : Expr} {op : CmpOp} {pos : Pos} (h : EW S E n l (BinA S E n (compareOp op) r Q F) F H) (hm : (!behindInMarks op r) = true := by walk_at "bt") : EW S E n (.Compare l [op] [r] pos) Q F H := ew_cmp h (not_t hm)
theorem kbw_cmp {l r : Expr} {op : CmpOp} {pos : Pos} (h : EW S E n l (BinA S E n (compareOp op) r (TruK QB) F) F H) (hm : (!behindInMarks op r) = true := by walk_at "bt") : BW S E n (.Compare l [op] [r] pos) QB F H := bw_cmp h (not_t hm)
theorem kbw_not {x : Expr} {pos : Pos} (h : BW S E n x (BNotK QB) F H) : BW S E n (.UnaryOp .Not x pos) QB F H := bw_not h
theorem kw_not {x : Expr} {pos : Pos} (h : EW S E n x (NotK Q) F H) : EW S E n (.UnaryOp .Not x pos) Q F H := ew_not h
theorem kw_ifexp {t b o : Expr} {pos : Pos} (h : BW S E n t (IfE S E n b Q F o) F H) : EW S E n (.IfExp t b o pos) Q F H := ew_ifexp h
theorem kw_if {t : Expr} {b o : List Stmt} {pos : Pos} (h : BW S E n t (IfS S E n b o QN QX F) F H) : XW S E n (.If t b o pos) QN QX F H := xw_if h
theorem kw_attr {o : Expr} {x : Str} {pos : Pos} (h : EW S E n o (AttrK S x Q) F H) (hb : nCall0 o = true := by walk_at "bt") : EW S E n (.Attribute o x pos) Q F H := ew_attr h (nCall0_ab hb)
theorem kw_attrC {f : Expr} {a x : Str} {ap p pos : Pos} {args : List Expr} {kws : List Keyword} (h : EW S E n (.Call (.Attribute f a ap) args kws p) (AttrK S x Q) F H) : EW S E n (.Attribute (.Call (.Attribute f a ap) args kws p) x pos) Q F H := ew_attr h fun _ _ => rfl
theorem kw_call {x : Str} {p pos : Pos} {args : List Expr} {f : Value} (g : NAt x .globalImplicit E.sc.names) (e : nsIn S.K mainGlobals x = some (some f)) (hk : keepIn S.K f = true)
    (hs : nsts args = true) (h : EWs S E n args (CallK S n Q f) F H) :
    EW S E n (.Call (.Name x p) args [] pos) Q F H := ew_call g e hk h (nsts_hpl hs) (nsts_hlen hs)
theorem kw_callB {x : Str} {p pos : Pos} {args : List Expr} {id : String} (g : NAt x .globalImplicit E.sc.names) (e : nsIn S.K mainGlobals x = some none) (hv : bootBuiltins x = some (.builtin id)) (hn : x ≠ "__name__")
    (hs : nsts1 args = true) (h : EWs S E n args (CallB S n Q (.builtin id)) F H) :
    EW S E n (.Call (.Name x p) args [] pos) Q F H := ew_callB g e hv hn h (nsts_hpl (nsts_of hs)) (nsts_hle2 hs)
theorem kw_callT {x : Str} {p pos : Pos} {args : List Expr} {id : String} (g : NAt x .globalImplicit E.sc.names) (e : nsIn S.K mainGlobals x = some none) (hv : bootBuiltins x = some (.type id)) (hn : x ≠ "__name__")
    (hs : nsts1 args = true) (h : EWs S E n args (CallB S n Q (.type id)) F H) :
    EW S E n (.Call (.Name x p) args [] pos) Q F H := ew_callT g e hv hn h (nsts_hpl (nsts_of hs)) (nsts_hle2 hs)
theorem kw_meth {o : Expr} {x : Str} {apos pos : Pos} {args : List Expr} (h : EW S E n o (MethK S E n args x Q F) F H) (hs : mOk o apos pos args = true := by walk_at "bt") :
    EW S E n (.Call (.Attribute o x apos) args [] pos) Q F H := ew_meth h (hc_of hs) (nsts_hpl (mOk_n hs)) (nsts_hlen (mOk_n hs))
theorem kw_mB {o : Expr} {x : Str} {apos pos : Pos} {args : List Expr} {T id : String} (bm : BM T x id) (h : EW S E n o (MBK S E n args Q F T (.builtin id)) F H) (hs : mOk o apos pos args = true := by walk_at "bt") :
    EW S E n (.Call (.Attribute o x apos) args [] pos) Q F H := ew_mB bm h (hc_of hs) (nsts_hpl (mOk_n hs)) (nsts_hlen (mOk_n hs))
theorem kw_sub {o i : Expr} {pos : Pos} (h : EW S E n o (SubA S E n i Q F) F H) : EW S E n (.Subscript o i pos) Q F H := ew_sub h
theorem kws_cons {e : Expr} {es : List Expr} {Q : List AV → AH → Prop} (h : EW S E n e (EConsA S E n es Q F) F H) (he : nst e = true := by walk_at "bt") : EWs S E n (e :: es) Q F H := ews_cons h (nst_each he)
theorem kw_cons {st : Stmt} {rest : List Stmt} (h : XW S E n st (SW S E n rest QN QX) QX F H) : SW S E n (st :: rest) QN QX F H := sw_cons h
theorem kw_assign_name {x : Str} {p' pos : Pos} {value : Expr} (h : EW S E n value (AsnK E x QN F) F H) (hs : nComp value = true := by walk_at "bt") : XW S E n (.Assign [.Name x p'] value pos) QN QX F H := xw_assign_name h (nComp_sw hs)
theorem kw_assign_attr {o : Expr} {x : Str} {p' pos : Pos} {value : Expr} (h : EW S E n value (AsA S E n o x QN F) F H) (hs : nComp value = true := by walk_at "bt") : XW S E n (.Assign [.Attribute o x p'] value pos) QN QX F H := xw_assign_attr h (nComp_sw hs)
theorem kw_assign_sub {o i : Expr} {p' pos : Pos} {value : Expr} (h : EW S E n value (SbA S E n o QN F i) F H) (hs : nComp value = true := by walk_at "bt") : XW S E n (.Assign [.Subscript o i p'] value pos) QN QX F H := xw_assign_sub h (nComp_sw hs)
theorem kw_expr {e : Expr} {pos : Pos} (h : EW S E n e (ExprK QN F) F H) (hs : nComp e = true := by walk_at "bt") : XW S E n (.Expr e pos) QN QX F H := xw_expr h (nComp_sw hs)
theorem kw_ret {e : Expr} {pos : Pos} (h : EW S E n e (RetK QX F) F H) : XW S E n (.Return (some e) pos) QN QX F H := xw_ret h
theorem kw_for {target iter : Expr} {body : List Stmt} {pos : Pos} (h : EW S E n iter (ForK S E n target body QN QX F) F H) (hs : nSet iter = true := by walk_at "bt") : XW S E n (.For target iter body [] pos) QN QX F H := xw_for h (nSet_f hs)
theorem kw_list {elts : List Expr} {pos : Pos} (h : EWs S E n elts (ListK Q 0) F H) : EW S E n (.List elts pos) Q F H := ew_list h
theorem kw_listT {elts : List Expr} {pos : Pos} (t : Nat) (h : EWs S E n elts (ListK Q t) F H) : EW S E n (.List elts pos) Q F H := ew_listT t h
theorem kw_tuple {elts : List Expr} {k : Nat} {pos : Pos} (h : EWs S E n elts (TupK Q) F H) : EW S E n (.Tuple elts k pos) Q F H := ew_tuple h
theorem kw_slice {lo hi k : Option Expr} {pos : Pos} (h : OEW S E n lo (SlA S E n Q F hi k) F H) : EW S E n (.Slice lo hi k pos) Q F H := ew_slice h
theorem kw_unpack {ts : List Expr} {k : Nat} {tp pos : Pos} {value : Expr} (h : EW S E n value (UnpK S E n ts QN F) F H) (hn : namesOnly ts = true := by walk_at "bt") (hs : nComp value = true := by walk_at "bt")
    (hw : ∀ env, EnvOk E env.locals env → swappedStores [.Tuple ts k tp] value env = pure none := by walk_at "hpl") : XW S E n (.Assign [.Tuple ts k tp] value pos) QN QX F H := xw_unpack' hn (fun env => nComp_sw (t := some (.Tuple ts k tp)) (l := pos.line) hs env) hw h
theorem kw_swap {elts vals : List Expr} {k k' : Nat} {tp vp pos : Pos} (names : List Str) (h : EW S E n (.Tuple vals k' vp) (SwpK E QN F names) F H)
    (hw : ∀ env, env.scope = E.sc → swappedStores [.Tuple elts k tp] (.Tuple vals k' vp) env = pure (some names)) : XW S E n (.Assign [.Tuple elts k tp] (.Tuple vals k' vp) pos) QN QX F H := xw_swap names h hw
theorem kbw_and {x : Expr} {rest : List Expr} {pos : Pos} (h : BW S E n x (AndB S E n rest QB F pos) F H) : BW S E n (.BoolOp .And (x :: rest) pos) QB F H := bw_and h
theorem kbw_or {x : Expr} {rest : List Expr} {pos : Pos} (h : BW S E n x (OrB S E n rest QB F pos) F H) : BW S E n (.BoolOp .Or (x :: rest) pos) QB F H := bw_or h
theorem kbw_plain {e : Expr} (h : EW S E n e (TruK QB) F H) (hp : nTest e = true := by walk_at "bt") : BW S E n e QB F H := bw_plain h (nTest_p hp)
theorem kws_tcons {t : Expr} {ts : List Expr} {v : AV} {vs : List AV} {Q : List (Option AV) → AH → Prop} (h : TW S E n t v (TWs S E n ts vs Q) F H) : TWs S E n (t :: ts) (v :: vs) Q F H := tws_cons h
theorem kw_assign_cell {x : Str} {p' pos : Pos} {value : Expr} {c : Addr} (g : NAt x .cell E.sc.names) (hc : E.cl.lookup x = some c) (h : EW S E n value (CellK QN F c) F H) : XW S E n (.Assign [.Name x p'] value pos) QN QX F H := xw_assign_cell g hc h
theorem kw_while {test : Expr} {body : List Stmt} {pos : Pos} (J : Nat → List (Option AV) → AH → Prop) (k : Nat)
    (turn : ∀ k F H, J k F H → BW S E n test (WhT S E n body QN QX F J k) F H) (h0 : J k F H) : XW S E n (.While test body [] pos) QN QX F H := xw_while J k turn h0
theorem TW.mono {t : Expr} {v : AV} {Q Q' : List (Option AV) → AH → Prop} (h : TW S E n t v Q F H) (k : ∀ F H, Q F H → Q' F H) : TW S E n t v Q' F H :=
  fun A env L stk s u rm ev hu st => wpAny_mono (h A env L stk s u rm ev hu st) (fun _ s' ⟨F', H', st', q⟩ => ⟨F', H', st', k _ _ q⟩) fun _ _ x => x
theorem for_ind {target : Expr} {body : List Stmt} {K : AH → Prop} (J : List AV → List (Option AV) → AH → Prop)
    (step : ∀ v rest F H, J (v :: rest) F H → TW S E n target v (fun F H => SW S E n body (fun F H => K H ∧ J rest F H) (fun fl F H => match fl with | .brk => QN F H | .cont => K H ∧ J rest F H | .ret v => QX (.ret v) F H) F H) F H)
    (fin : ∀ F H, J [] F H → QN F H) : ∀ xs F H, J xs F H → ForW S E n target body K QN QX xs F H
  | [], F, H, j => fin F H j
  | v :: rest, F, H, j => (step v rest F H j).mono fun F H h => h.mono (fun F H ⟨a, b⟩ => ⟨a, for_ind J step fin rest F H b⟩) fun fl F H q => by
      cases fl with
      | brk => exact q
      | cont => exact ⟨q.1, for_ind J step fin rest F H q.2⟩
      | ret v => exact q
theorem kfor_ind {target : Expr} {body : List Stmt} {K : AH → Prop} (J : List AV → List (Option AV) → AH → Prop)
    (step : ∀ v rest F H, J (v :: rest) F H → TW S E n target v (SW S E n body (LoopN K (J rest)) (LoopX QN QX K (J rest))) F H)
    (fin : ∀ F H, J [] F H → QN F H) : ∀ xs F H, J xs F H → ForW S E n target body K QN QX xs F H := for_ind J step fin
theorem NGet.cas {x y : Str} {k k' : NameKind} {v : AV} {u : Option AV} {ns : List (Str × NameKind)} {vs : List (Option AV)} {P : Prop} (g : NGet x k v ((y, k') :: ns) (u :: vs)) (h : y = x → k' = k → u = some v → P) (h2 : NGet x k v ns vs → P) : P := by
  cases g with
  | here => exact h rfl rfl rfl
  | there g => exact h2 g
theorem NGet.nill {x : Str} {k : NameKind} {v : AV} {vs : List (Option AV)} {P : Prop} (g : NGet x k v [] vs) : P := by cases g
theorem sw_cut {st : Stmt} {rest : List Stmt} (M : List (Option AV) → AH → Prop) (h : XW S E n st M QX F H) (k : ∀ F H, M F H → SW S E n rest QN QX F H) : SW S E n (st :: rest) QN QX F H := sw_cons (XW.mono h k fun _ _ _ x => x)
@[reducible] noncomputable def WhU (S : Sta) (E : ES) (n : Nat) (b : List Stmt) (QN QL : List (Option AV) → AH → Prop) (QXL : AFl → List (Option AV) → AH → Prop) (F : List (Option AV)) (v : Bool) (H : AH) : Prop := (v = true → SW S E n b QL QXL F H) ∧ (v = false → QN F H)
/-- loops whose ends are names in the turn -/
theorem jw_while {test : Expr} {body : List Stmt} {pos : Pos} (J : Nat → List (Option AV) → AH → Prop) (k : Nat)
    (turn : ∀ (k : Nat) (QL : List (Option AV) → AH → Prop) (QXL : AFl → List (Option AV) → AH → Prop), (∀ F H, LtJ J k F H → QL F H) → (∀ fl F H, WhX QN QX J k fl F H → QXL fl F H) → ∀ F H, J k F H → BW S E n test (WhU S E n body QN QL QXL F) F H) (h0 : J k F H) : XW S E n (.While test body [] pos) QN QX F H :=
  kw_while J k (fun k F H j => turn k (LtJ J k) (WhX QN QX J k) (fun _ _ h => h) (fun _ _ _ h => h) F H j) h0
theorem jfor {target : Expr} {body : List Stmt} {K : AH → Prop} (J : List AV → List (Option AV) → AH → Prop)
    (step : ∀ (v : AV) (rest : List AV) (QL : List (Option AV) → AH → Prop) (QXL : AFl → List (Option AV) → AH → Prop), (∀ F H, LoopN K (J rest) F H → QL F H) → (∀ fl F H, LoopX QN QX K (J rest) fl F H → QXL fl F H) → ∀ F H, J (v :: rest) F H → TW S E n target v (SW S E n body QL QXL) F H)
    (fin : ∀ F H, J [] F H → QN F H) (xs : List AV) (F : List (Option AV)) (H : AH) (h : J xs F H) : ForW S E n target body K QN QX xs F H :=
  kfor_ind J (fun v rest F H j => step v rest (LoopN K (J rest)) (LoopX QN QX K (J rest)) (fun _ _ h => h) (fun _ _ _ h => h) F H j) fin xs F H h
theorem kw_fn {f : Addr} {st : Stmt} {qual : Str} {dV pm : Value} {code : Addr} {args : List AV} {ds : List Value} (F₀ : List (Option AV)) {name params body decs rt tps scope tsc bind pos}
  (ho : S.K.lookup f = some (fobj st qual dV pm code)) (hcd : codeIn S.K (.ref code) qual = true) (hb : FnB S.K st qual dV pm code args.length ds)
  (hst : st = .FunctionDef name params body decs rt tps scope tsc bind pos) (hF : start (args ++ ds.map ab) scope.names = F₀)
  (h : SW S ⟨scope, []⟩ n body (RetN Q) (RetX Q) F₀ H) : CW S (.ref f) (n + 1) args Q H := cw_fn' F₀ ho hcd hb hst hF h
theorem kw_fnC {f : Addr} {st : Stmt} {qual : Str} {dV pm : Value} {code : Addr} {args : List AV} (F₀ : List (Option AV)) (cv : Str → AV)
    {name : Str} {params : Arguments} {body : List Stmt} {decs : List Expr} {rt : Option Expr} {tps : List TypeParam} {scope : Scope} {tsc : Option Scope} {bind : Str} {pos : Pos} (binds : List Value → List (Str × Value))
    (ho : S.K.lookup f = some (fobj st qual dV pm code)) (hcd : codeIn S.K (.ref code) qual = true)
    (hst : st = .FunctionDef name params body decs rt tps scope tsc bind pos)
    (hok : scOk scope = true) (hco : scope.isCoroutine = false) (hgen : scope.isGenerator = false)
    (hb : ∀ vals : List Value, vals.map ab = args → bindArgs (fnOf name qual params body scope dV .none .none pm none (.ref code) .none) ⟨vals, []⟩ = pure (binds vals))
    (hkind : ∀ vals : List Value, vals.map ab = args → ∀ L, ∀ x ∈ binds vals, scope.names.lookup x.1 = some .local ∨ (scope.names.lookup x.1 = some .cell ∧ ((cellsFrom L scope.names []).lookup x.1).isSome = true))
    (hF : ∀ vals : List Value, vals.map ab = args → ∀ x v, NGet x .local v scope.names F₀ → ∃ v', bindL (fun n => scope.names.lookup n) (binds vals) (fun _ => none) x = some v' ∧ ab v' = v)
    (hcv : ∀ vals : List Value, vals.map ab = args → ∀ x, match bindC (fun n => scope.names.lookup n) (binds vals) (fun _ => none) x with | some v => ab v = cv x | none => cv x = .other .none)
    (hlk : ∀ L, ∀ p ∈ cellsFrom L scope.names [], (cellsFrom L scope.names []).lookup p.1 = some p.2)
    (h : ∀ cs L, cs = cellsFrom (L + 1) scope.names [] → (∀ p ∈ cs, H p.2 = none) → (cs.Pairwise fun x y => x.2 ≠ y.2) → SW S ⟨scope, cs⟩ n body (RetN Q) (RetX Q) F₀ (cellsH H cv cs)) :
    CW S (.ref f) (n + 1) args Q H := cw_fnC F₀ cv binds ho hcd hst hok hco hgen hb hkind hF hcv hlk h
/-! steps through the named continuations -/
theorem kx_at {x : Str} {a C dx : Addr} {k : Nat} {ns : List Str} {vals : List (Option AV)} {w : AV} (h1 : H a = some (.inst C dx)) (h2 : H dx = some (.rcd k ns vals)) (h3 : clsB S.K C ns = true) (h4 : RGet x w ns vals) (h5 : w.plain = true) (q : Q w H) : AttrK S x Q (.ref a) H := ⟨_, _, _, _, _, _, _, rfl, h1, h2, h3, h4, h5, q⟩
theorem kx_sat {x : Str} {v : AV} {a C dx : Addr} {k : Nat} {ns : List Str} {vals vals' : List (Option AV)} (h1 : H a = some (.inst C dx)) (h2 : H dx = some (.rcd k ns vals)) (h3 : clsB S.K C ns = true) (h4 : RPut x v ns vals vals') (q : QN F (H.upd dx (.rcd k ns vals'))) : AsB S x QN F v (.ref a) H := ⟨_, _, _, _, _, _, _, rfl, h1, h2, h3, h4, q⟩
theorem kx_m {x : Str} {es : List Expr} {a C dx : Addr} {k : Nat} {ns : List Str} {vals : List (Option AV)} {f : Addr} (h1 : H a = some (.inst C dx)) (h2 : H dx = some (.rcd k ns vals)) (h3 : clsB S.K C ns = true) (h4 : mthB S.K C x f ns = true) (q : EWs S E n es (MethB S n f Q a) F H) : MethK S E n es x Q F (.ref a) H := ⟨_, _, _, _, _, _, _, rfl, h1, h2, h3, h4, q⟩
theorem kx_np {x : Str} {v : AV} (h : NPut x v E.sc.names F F') (q : QN F' H) : AsnK E x QN F v H := ⟨_, h, q⟩
theorem kx_tb {b : Bool} (q : QB b H) : TruK QB (.bool b) H := ⟨_, rfl, q⟩
theorem kx_tn (q : QB false H) : TruK QB .none H := ⟨_, rfl, q⟩
theorem kx_ntb {b : Bool} (q : Q (.bool (!b)) H) : NotK Q (.bool b) H := ⟨_, rfl, q⟩
theorem kx_ntn (q : Q (.bool (!false)) H) : NotK Q .none H := ⟨_, rfl, q⟩
theorem kx_up {ts : List Expr} {t : Addr} {vs : List AV} (h : H t = some (.tuple vs)) (hl : ts.length = vs.length) (q : TWs S E n ts vs QN F H) : UnpK S E n ts QN F (.ref t) H := ⟨_, ⟨_, rfl, .inl h⟩, hl, q⟩
theorem kx_swp {names : List Str} {t : Addr} {vs : List AV} (h : H t = some (.tuple vs)) (hl : names.length = vs.length) (q : SwpB E QN F names vs H) : SwpK E QN F names (.ref t) H := ⟨_, ⟨_, rfl, .inl h⟩, hl, q⟩
theorem kx_list {t : Nat} {vs : List AV} (h : FrK Q H (.list t vs)) (hl : Nat.ble vs.length 1000 = true := by walk_at "bt") : ListK Q t vs H := ⟨Nat.le_of_ble_eq_true hl, h⟩
theorem kx_tup {vs : List AV} (h : FrK Q H (.tuple vs)) (hl : Nat.ble vs.length 1000 = true := by walk_at "bt") : TupK Q vs H := ⟨Nat.le_of_ble_eq_true hl, h⟩
end Mine

end

set_option maxHeartbeats 4000000
set_option compiler.extract_closed false
namespace Mine
set_option hygiene false

local macro_rules | `(tactic| walk_at "mth") => `(tactic| with_reducible first | apply m_SyntaxTable_modify_all | apply m_SyntaxTable_own | apply m_SyntaxTable_at | apply m_SyntaxTable_kind_of | apply m_GapText_size | apply m_GapText_code | apply m_GapText_codes | apply m_GapText_move_gap | apply m_GapText_widen_gap | apply m_GapText_insert | apply m_GapText_delete | apply m_Markers_numbers | apply m_Markers_inserted | apply m_Markers_replaced | apply m_Buffer_begin | apply m_Buffer_end | apply m_Buffer_size | apply m_Buffer_code_at | apply m_Buffer_codes | apply m_Buffer_goto | apply m_Buffer_touch)
local macro_rules | `(tactic| walk_at "nf") => `(tactic| with_reducible first | apply n_downcase | apply n_upcase | apply n_is_upper | apply n_is_lower | apply n_upcased | apply n_downcased | apply n_initials_upcased | apply n_key_of | apply n_define | apply n_forget | apply n_own_entry | apply n_tables_from | apply n_entry_of | apply n_is_word_sign | apply n_many_words | apply n_has_upper | apply n_has_lower | apply n_first_upcased | apply n_written | apply n_expansion_of | apply n_unexpanded | apply n_need_writable | apply n_reached | apply n_tell_ahead | apply n_tell_behind | apply n_text_out | apply n_text_in | apply n_hung_out | apply n_hung_in | apply n_put_in | apply n_insert_at | apply n_replace | apply n_syntax_at | apply n_is_of | apply n_skip_forward | apply n_skip_backward | apply n_read_syntax | apply n_forward_by | apply n_forward_word | apply n_word_before | apply n_expand_abbrev | apply n_unexpand_abbrev | apply n_expand_region | apply n_law_draw | apply n_law_codes | apply n_law_tables | apply n_law_due | apply n_law_word | apply n_law_put | apply n_law_all_put | apply n_law_held | apply n_sorted_flags | apply n_law_lettered | apply n_Abbrev | apply n_AbbrevTable | apply n_Syntax | apply n_SyntaxTable | apply n_Expansion | apply n_GapText | apply n_Markers | apply n_Buffer)
local macro_rules | `(tactic| walk_at "pf") => `(tactic| kernel_rfl)
local macro_rules | `(tactic| walk_at "nb") => `(tactic| with_reducible first | apply n_len | apply n_ord | apply n_chr | apply n_min | apply n_max | apply n_abs | apply n_sorted | apply n_all | apply n_str | apply n_range | apply n_list | apply n_int)
local macro_rules | `(tactic| walk_at "vb") => `(tactic| with_reducible first | exact v_len | exact v_ord | exact v_chr | exact v_min | exact v_max | exact v_abs | exact v_sorted | exact v_all)
local macro_rules | `(tactic| walk_at "vt") => `(tactic| with_reducible first | exact v_str | exact v_range | exact v_list | exact v_int)
local macro_rules | `(tactic| walk_at "hb") => `(tactic| with_reducible first | exact h_len | exact h_ord | exact h_chr | exact h_min | exact h_max | exact h_abs | exact h_sorted | exact h_all | exact h_str | exact h_range | exact h_list | exact h_int)
local macro_rules | `(tactic| walk_at "gs") => `(tactic| with_reducible first | apply n_WHITESPACE | apply n_WORD | apply n_PUNCTUATION | apply n_INHERITS | apply n_KINDS | apply n_FLAGS)

local macro_rules | `(tactic| walk_at "bt") => `(tactic| with_unfolding_all exact Eq.refl true)
local macro_rules | `(tactic| walk_at "r0") => `(tactic| with_unfolding_all rfl)
local macro_rules | `(tactic| walk_at "r1") => `(tactic| (intro _; walk_at "r0"))
local macro_rules | `(tactic| walk_at "le1") => `(tactic| with_unfolding_all exact Nat.le_of_ble_eq_true rfl)
local macro_rules | `(tactic| walk_at "hpl") => `(tactic| (intro _; walk_at "r1"))
local macro_rules | `(tactic| walk_at "ng") => `(tactic| with_reducible first | exact NGet.here | exact ng1 | exact ng2 | exact ng3 | (apply ng4; walk_at "ng"))
local macro_rules | `(tactic| walk_at "na") => `(tactic| with_reducible first | exact NAt.here | exact na1 | exact na2 | exact na3 | (apply na4; walk_at "na"))
local macro_rules | `(tactic| walk_at "np") => `(tactic| with_reducible first | exact NPut.here | exact np1 | exact np2 | exact np3 | (apply np4; walk_at "np"))
local macro_rules | `(tactic| walk_at "rg") => `(tactic| with_reducible first | exact RGet.here | exact rg1 | exact rg2 | exact rg3 | (apply rg4; walk_at "rg"))
local macro_rules | `(tactic| walk_at "rp") => `(tactic| with_reducible first | exact RPut.here | exact rp1 | exact rp2 | exact rp3 | (apply rp4; walk_at "rp"))
local macro_rules | `(tactic| walk_at "cl") => `(tactic| with_reducible first | apply cl_Buffer | apply cl_GapText | apply cl_SyntaxTable | apply cl_Syntax | apply cl_AbbrevTable | apply cl_Abbrev | apply cl_Expansion | apply cl_Markers)
local macro_rules | `(tactic| walk_at "hk") => `(tactic| with_reducible first | assumption | exact AH.upd_self _ _ _ | (apply AH.upd_old; assumption; walk_at "hk") | (apply upd_by; walk_at "hk"; walk_at "hk"; with_unfolding_all exact Nat.ne_of_beq_eq_false rfl))
local macro_rules | `(tactic| walk_at "sub") => `(tactic| with_reducible first | exact Sub.refl _ | assumption | (refine Sub.upd ?_ (by assumption); walk_at "sub") | (refine Sub.updN ?_ (by assumption); walk_at "sub"))
local macro_rules | `(tactic| walk_at "mw") => `(tactic| with_reducible first
  | (guard_target =~ SW _ _ _ _ _ _ _ _; first | refine kw_cons ?_ | refine sw_nil ?_)
  | (guard_target =~ EW _ _ _ _ _ _ _; first | (apply ew_name; walk_at "ng") | refine ew_int ?_ | refine kw_attr ?_ | refine kw_attrC ?_ | refine kw_bin ?_ | refine ew_str ?_ | refine ew_none ?_ | refine ew_bool ?_ | refine kw_cmp ?_ | refine kw_sub ?_ | refine kw_slice ?_ | (apply ew_globS; walk_at "na"; walk_at "gs") | (apply ew_globI; walk_at "na"; apply n_MOST_PARENTS) | (guard_target =~ EW _ _ _ (.Call (.Name _ _) _ _ _) _ _ _; first | (apply kw_callB; walk_at "na"; walk_at "nb"; walk_at "vb"; walk_at "hb"; walk_at "bt") | (apply kw_callT; walk_at "na"; walk_at "nb"; walk_at "vt"; walk_at "hb"; walk_at "bt") | (apply kw_call; walk_at "na"; walk_at "nf"; walk_at "pf"; walk_at "bt")) | (guard_target =~ EW _ _ _ (.Call (.Attribute _ _ _) _ _ _) _ _ _; first | refine kw_mB bm_append ?_ | refine kw_mB bm_extend ?_ | refine kw_mB bm_get ?_ | refine kw_mB bm_join ?_ | refine kw_mB bm_lower ?_ | refine kw_mB bm_upper ?_ | ((fail_if_success (refine gPop ?_)); refine kw_meth ?_)) | refine kw_ifexp ?_ | refine kw_not ?_ | refine ew_and ?_ | refine ew_or ?_ | refine ew_neg ?_ | refine kw_list ?_ | refine kw_tuple ?_)
  | (guard_target =~ OW _ _ _ _ _ _ _; first | refine ow_add ?_ | refine ow_sub ?_ | refine ow_lt ?_ | refine ow_le ?_ | refine ow_gt ?_ | refine ow_ge ?_ | refine ow_eq ?_ | refine ow_ne ?_ | refine ow_isR ?_ | refine ow_isnotR ?_ | refine ow_isN ?_ | refine ow_isnotN ?_ | refine ow_eqsT ?_ | refine ow_eqsF (by decide +kernel) ?_ | refine ow_nes ?_ | refine ow_neb ?_)
  | (guard_target =~ XW _ _ _ _ _ _ _ _; first | refine kw_assign_name ?_ | refine kw_ret ?_ | refine kw_if ?_ | refine kw_assign_attr ?_ | refine kw_expr ?_ | refine xw_ret_none ?_ | refine kw_assign_sub ?_ | refine kw_unpack ?_ | refine xw_pass ?_ | refine kw_for ?_)
  | (guard_target =~ EWs _ _ _ _ _ _ _; first | refine kws_cons ?_ | refine ews_nil ?_)
  | (guard_target =~ BW _ _ _ _ _ _ _; first | refine kbw_cmp ?_ | focus (refine bw_cmp2 ?_ ?_; rotate_left; walk_at "r0") | refine kbw_and ?_ | refine bw_and_nil ?_ | refine kbw_or ?_ | refine bw_or_nil ?_ | refine kbw_not ?_ | refine kbw_plain ?_)
  | (apply kx_at; walk_at "hk"; walk_at "hk"; walk_at "cl"; walk_at "rg"; walk_at "bt")
  | (apply kx_np; walk_at "np") | refine if_T ?_ | refine if_F ?_ | refine if_nT ?_ | refine if_nF ?_ | refine kx_tb ?_ | refine kx_tn ?_ | refine kx_ntb ?_ | refine kx_ntn ?_ | refine ex_tb ?_ | refine ex_tn ?_
  | (apply kx_m; walk_at "hk"; walk_at "hk"; walk_at "cl"; walk_at "mth")
  | (apply kx_up; walk_at "hk"; walk_at "r0") | (apply kx_swp; walk_at "hk"; walk_at "r0") | refine kws_tcons ?_ | refine tws_nil ?_ | (apply tw_name; walk_at "np") | refine kx_list ?_ | refine kx_tup ?_ | refine ex_int ?_ | refine aty_s ?_ | (apply aty_l; walk_at "hk") | (apply aty_d; walk_at "hk") | (apply aty_i; walk_at "hk") | refine oew_s ?_ | refine oew_n ?_
  | (apply kx_sat; walk_at "hk"; walk_at "hk"; walk_at "cl"; walk_at "rp")
  | intro _ _)
local macro_rules | `(tactic| walk_at "sp") => `(tactic| with_reducible refine and_sp ?_ ?_ <;> intro _)
local macro_rules | `(tactic| walk_at "go") => `(tactic| repeat' walk_at "mw")
local macro_rules | `(tactic| walk_at "all") => `(tactic| repeat' (first | walk_at "mw" | walk_at "sp"))
local macro_rules | `(tactic| walk_at "end") => `(tactic| (apply ex_fn; walk_at "sub"))
local macro_rules | `(tactic| walk_at "ari") => `(tactic| (simp only [decide_eq_true_eq, decide_eq_false_iff_not, bne_iff_ne, beq_iff_eq, ne_eq, bne_eq_false_iff_eq, beq_eq_false_iff_ne, Bool.not_eq_true', Bool.not_eq_false'] at * <;> omega))
local macro_rules | `(tactic| walk_at "nn") => `(tactic| with_reducible first | assumption | exact upd_none (by assumption) | exact upd_none (upd_none (by assumption)) | exact upd_none (upd_none (upd_none (by assumption))) | exact upd_none (upd_none (upd_none (upd_none (by assumption)))) | exact upd_none (upd_none (upd_none (upd_none (upd_none (by assumption))))) | exact upd_none (upd_none (upd_none (upd_none (upd_none (upd_none (by assumption)))))))
local macro_rules | `(tactic| walk_at "enf") => `(tactic| (apply ex_fr; walk_at "sub"))
local macro_rules | `(tactic| walk_at "mv") => `(tactic| with_reducible first | exact Mv.refl _ | assumption | (apply Mv.fr; walk_at "mv"; assumption) | (apply Mv.ch; walk_at "mv"; walk_at "hk"; walk_at "r0"))

section
variable {S : Sta} {E : ES} {n : Nat} {F F' : List (Option AV)} {H H' : AH} {Q : AV → AH → Prop} {QN : List (Option AV) → AH → Prop} {QX : AFl → List (Option AV) → AH → Prop}
noncomputable def dnN (c : Nat) : Nat := if 65 ≤ c ∧ c ≤ 90 then c + 32 else if 192 ≤ c ∧ c ≤ 222 ∧ c ≠ 215 then c + 32 else c
noncomputable def upN (c : Nat) : Nat := if 97 ≤ c ∧ c ≤ 122 then c - 32 else if 224 ≤ c ∧ c ≤ 254 ∧ c ≠ 247 then c - 32 else c
theorem cw_downcase {c : Nat} (h : Q (.int (dnN c : Nat)) H) : CW S (.ref 28) (n + 1) [.int c] Q H := by
  refine kw_fn [some _] (k_downcase _) (c_downcase _) (b_downcase _) rfl rfl ?_
  walk_at "all"
  all_goals walk_at "end"
  all_goals (refine q_eq (P := fun x => Q x H) (congrArg AV.int ?_) h; unfold dnN; split <;> try split)
  all_goals walk_at "ari"
theorem cw_upcase {c : Nat} (h : Q (.int (upN c : Nat)) H) : CW S (.ref 35) (n + 1) [.int c] Q H := by
  refine kw_fn [some _] (k_upcase _) (c_upcase _) (b_upcase _) rfl rfl ?_
  walk_at "all"
  all_goals walk_at "end"
  all_goals (refine q_eq (P := fun x => Q x H) (congrArg AV.int ?_) h; unfold upN; split <;> try split)
  all_goals walk_at "ari"
theorem cw_is_upper {c : Nat} (h : Q (.bool (dnN c != c)) H) : CW S (.ref 42) (n + 2) [.int c] Q H := by
  refine kw_fn [some _, none] (k_is_upper _) (c_is_upper _) (b_is_upper _) rfl rfl ?_
  walk_at "all"
  refine cw_downcase ?_
  walk_at "all"
  walk_at "end"
  refine q_eq (P := fun x => Q x H) (congrArg AV.bool ?_) h
  rw [Bool.eq_iff_iff]; walk_at "ari"
theorem cw_is_lower {c : Nat} (h : Q (.bool (upN c != c)) H) : CW S (.ref 49) (n + 2) [.int c] Q H := by
  refine kw_fn [some _, none] (k_is_lower _) (c_is_lower _) (b_is_lower _) rfl rfl ?_
  walk_at "all"
  refine cw_upcase ?_
  walk_at "all"
  walk_at "end"
  refine q_eq (P := fun x => Q x H) (congrArg AV.bool ?_) h
  rw [Bool.eq_iff_iff]; walk_at "ari"
theorem fm_ic (g : Nat → Nat) (f : AV → Option AV) (hf : ∀ c : Nat, f (.int c) = some (.int (g c : Nat))) (T : List Nat) : (ic T).filterMap f = ic (T.map g) := by
  induction T with
  | nil => rfl
  | cons c T ih => simp only [ic, List.map_cons, List.filterMap_cons, hf] at ih ⊢; rw [ih]
noncomputable def fInt (g : Nat → Nat) : AV → Option AV
  | .int i => some (.int (g i.toNat : Nat))
  | _ => none
theorem cw_upcased {l : Addr} {t : Nat} {T : List Nat} (hl : H l = some (.list t (ic T))) (hs : T.length ≤ 1000) (h : ∀ a, H a = none → Q (.ref a) (H.upd a (.list 0 (ic (T.map upN))))) : CW S (.ref 54) (n + 2) [.ref l] Q H := by
  refine kw_fn [some _] (k_upcased _) (c_upcased _) (b_upcased _) rfl rfl ?_
  iterate 2 walk_at "mw"
  refine ew_comp1 [] [(".0", .local), ("code", .local), ("upcase", .globalImplicit)] (by kernel_rfl) (fun u => [none, u, none]) rfl (fun _ _ => .there .here) (fInt upN) (by intro _ _; rfl) (by kernel_rfl) (by kernel_rfl) (by kernel_rfl) (by kernel_rfl) ?_
  iterate 1 walk_at "mw"
  refine ⟨_, _, ?_, iw_list hl, ?_, fun d hd => ?_⟩
  · rw [ic_len]; omega
  · intro v hv
    obtain ⟨c, hc, rfl⟩ := ic_mem hv
    refine ifs0 ?_
    walk_at "all"
    refine cw_upcase ?_
    exact ⟨rfl, rfl⟩
  · walk_at "end"
    rw [fm_ic upN _ (fun c => rfl)]
    exact h d hd
theorem cw_downcased {l : Addr} {t : Nat} {T : List Nat} (hl : H l = some (.list t (ic T))) (hs : T.length ≤ 1000) (h : ∀ a, H a = none → Q (.ref a) (H.upd a (.list 0 (ic (T.map dnN))))) : CW S (.ref 59) (n + 2) [.ref l] Q H := by
  refine kw_fn [some _] (k_downcased _) (c_downcased _) (b_downcased _) rfl rfl ?_
  iterate 2 walk_at "mw"
  refine ew_comp1 [] [(".0", .local), ("code", .local), ("downcase", .globalImplicit)] (by kernel_rfl) (fun u => [none, u, none]) rfl (fun _ _ => .there .here) (fInt dnN) (by intro _ _; rfl) (by kernel_rfl) (by kernel_rfl) (by kernel_rfl) (by kernel_rfl) ?_
  iterate 1 walk_at "mw"
  refine ⟨_, _, ?_, iw_list hl, ?_, fun d hd => ?_⟩
  · rw [ic_len]; omega
  · intro v hv
    obtain ⟨c, hc, rfl⟩ := ic_mem hv
    refine ifs0 ?_
    walk_at "all"
    refine cw_downcase ?_
    exact ⟨rfl, rfl⟩
  · walk_at "end"
    rw [fm_ic dnN _ (fun c => rfl)]
    exact h d hd
end

section
variable {S : Sta} {E : ES} {n : Nat} {F F' : List (Option AV)} {H H' : AH} {Q : AV → AH → Prop} {QN : List (Option AV) → AH → Prop} {QX : AFl → List (Option AV) → AH → Prop}
noncomputable def wcs : List Nat := [97, 98, 65, 66, 120, 121, 122, 88, 89, 90]
noncomputable def isW (c : Nat) : Bool := wcs.contains c
structure SynR (H : AH) (a dx r sy sx : Addr) (kvs : List (Int × AV)) (fl : Str) : Prop where
  h1 : H a = some (.inst 462 dx)
  h2 : H dx = some (.rcd 6 at_SyntaxTable [some .none, some (.ref r)])
  h3 : H r = some (.idict 6 kvs)
  h4 : ∀ c : Nat, vat kvs (c : Int) = if isW c then some (.ref sy) else none
  h5 : H sy = some (.inst 381 sx)
  h6 : H sx = some (.rcd 5 at_Syntax [some (.str "w"), some .none, some (.str fl)])
inductive SynT (H : AH) (a : Addr) : Prop
  | mk (dx r sy sx : Addr) (kvs : List (Int × AV)) (fl : Str) (h : SynR H a dx r sy sx kvs fl)
inductive KindOf (H : AH) (s : Addr) (k : Str) : Prop
  | mk (x : Addr) (m f : Option AV) (a1 : H s = some (.inst 381 x)) (a2 : H x = some (.rcd 5 at_Syntax [some (.str k), m, f]))
theorem cw_own {a dx r sy sx : Addr} {kvs : List (Int × AV)} {fl : Str} {c : Nat} (hS : SynR H a dx r sy sx kvs fl) (h : Q (if isW c then .ref sy else .none) H) : CW S (.ref 438) (n + 1) [.ref a, .int c] Q H := by
  obtain ⟨h1, h2, h3, h4, h5, h6⟩ := hS
  refine kw_fn [some _, some _, none, none] (k_SyntaxTable_own _) (c_SyntaxTable_own _) (b_SyntaxTable_own _) rfl rfl ?_
  walk_at "all"
  refine cb_getI h3 ?_
  rw [h4]
  cases hw : isW c
  · rw [hw] at h
    simp only [Bool.false_eq_true, if_false, Option.getD_none] at h ⊢
    walk_at "all"
    walk_at "end"
    exact h
  · rw [hw] at h
    simp only [if_true, Option.getD_some] at h ⊢
    walk_at "all"
    walk_at "end"
    exact h
theorem cw_Syntax {k : Str} {m f : AV} (h : ∀ x dx, H x = none → H dx = none → x ≠ dx → Q (.ref x) (((H.upd dx (.rcd 5 at_Syntax [some (.str k), some m, some f]))).upd x (.inst 381 dx))) : CW S (.ref 381) (n + 2) [.str k, m, f] Q H := by
  refine cw_cls (mk_Syntax _) (i_Syntax _) (f_Syntax _) 5 at_Syntax nd_Syntax (by decide) fun x dx hx hd hne => ?_
  have e1 : ((H.upd dx (.rcd 5 at_Syntax [none, none, none])).upd x (.inst 381 dx)) x = some (.inst 381 dx) := AH.upd_self _ _ _
  refine kw_fn [some _, some _, some _, some _] (k_Syntax_init _) (c_Syntax_init _) (b_Syntax_init _) rfl rfl ?_
  have e2 : ((H.upd dx (.rcd 5 at_Syntax [none, none, none])).upd x (.inst 381 dx)) dx = some (.rcd 5 at_Syntax [none, none, none]) := by rw [AH.upd_ne (Ne.symm hne)]; exact AH.upd_self _ _ _
  show SW _ _ _ _ _ _ _ ((H.upd dx (.rcd 5 at_Syntax [none, none, none])).upd x (.inst 381 dx))
  walk_at "all"
  refine ⟨_, ?_, rfl, h x dx hx hd hne⟩
  intro b o hb
  by_cases h1 : b = x
  · subst h1
    rw [AH.upd_self] at hb; cases hb
    simp [AH.upd, hne]
  · rw [AH.upd_ne h1] at hb
    by_cases h2 : b = dx
    · subst h2; rw [AH.upd_self] at hb ⊢; exact hb
    · simp [AH.upd, h1, h2] at hb ⊢; exact hb
theorem cw_at {a dx r sy sx : Addr} {kvs : List (Int × AV)} {fl : Str} {c : Nat} (hS : SynR H a dx r sy sx kvs fl) (hc : c < 128) (h : ∀ H' s, Sub H H' → KindOf H' s (if isW c then "w" else ".") → Q (.ref s) H') : CW S (.ref 445) (n + 3) [.ref a, .int c] Q H := by
  have hS' := hS
  obtain ⟨h1, h2, h3, h4, h5, h6⟩ := hS
  refine kw_fn [some _, some _, none, none, none, none, none] (k_SyntaxTable_at _) (c_SyntaxTable_at _) (b_SyntaxTable_at _) rfl rfl ?_
  iterate 5 walk_at "mw"
  refine kw_while (fun k F H' => H' = H ∧ ((k = 1 ∧ F = [some (.ref a), some (.int c), some (.ref a), none, none, none, none]) ∨ (k = 0 ∧ isW c = false ∧ F = [some (.ref a), some (.int c), some .none, some .none, none, none, none]))) 1 ?_ ⟨rfl, .inl ⟨rfl, rfl⟩⟩
  rintro k F H' ⟨rfl, ⟨rfl, rfl⟩ | ⟨rfl, hw, rfl⟩⟩
  · walk_at "all"
    refine cw_own hS' ?_
    cases hw : isW c
    · rw [hw] at h
      simp only [Bool.false_eq_true, if_false] at h ⊢
      walk_at "all"
      exact ⟨0, by decide, rfl, .inr ⟨rfl, trivial, rfl⟩⟩
    · rw [hw] at h
      simp only [if_true] at h ⊢
      walk_at "all"
      walk_at "end"
      exact h _ _ (Sub.refl _) ⟨_, _, _, h5, h6⟩
  · have e : (decide ((127 : Int) < (c : Nat))) = false := by simp; omega
    walk_at "go"
    refine if_f e ?_
    walk_at "all"
    refine cw_Syntax fun x dx hx hd hne => ?_
    rw [hw] at h
    simp only [Bool.false_eq_true, if_false] at h
    have hk : KindOf ((H'.upd dx (.rcd 5 at_Syntax [some (.str "."), some .none, some (.str "")])).upd x (.inst 381 dx)) x "." := ⟨dx, _, _, AH.upd_self _ _ _, by rw [AH.upd_ne (Ne.symm hne)]; exact AH.upd_self _ _ _⟩
    walk_at "all"
    exact ⟨_, Sub.refl _, h _ _ (Sub.upd (Sub.upd (Sub.refl _) hd) (by rw [AH.upd_ne hne]; exact hx)) hk⟩
theorem cw_kind_of {a : Addr} {c : Nat} (hS : SynT H a) (hc : c < 128) (h : Q (.str (if isW c then "w" else ".")) H) : CW S (.ref 452) (n + 4) [.ref a, .int c] Q H := by
  obtain ⟨dx, r, sy, sx, kvs, fl, hS⟩ := hS
  have hS' := hS
  obtain ⟨h1, h2, h3, h4, h5, h6⟩ := hS
  refine kw_fn [some _, some _] (k_SyntaxTable_kind_of _) (c_SyntaxTable_kind_of _) (b_SyntaxTable_kind_of _) rfl rfl ?_
  walk_at "go"
  refine cw_at hS' hc fun H' s hs ⟨x, m, f, k1, k2⟩ => ?_
  walk_at "all"
  exact ⟨_, hs, h⟩
end

section
variable {S : Sta} {E : ES} {n : Nat} {F F' : List (Option AV)} {H H' : AH} {Q : AV → AH → Prop} {QN : List (Option AV) → AH → Prop} {QX : AFl → List (Option AV) → AH → Prop}
structure BufR (H : AH) (b dx g gx cl mk mx mr ls : Addr) (nu na ma li ct sv : AV) (ti : Int) (A : List Nat) (G : List AV) (B : List Nat) (pt : Int) : Prop where
  b1 : H b = some (.inst 827 dx)
  b2 : H dx = some (.rcd 1 at_Buffer [some nu, some na, some (.ref g), some (.ref mk), some (.int pt), some (.int 1), some (.int ((A.length + B.length : Nat) + 1)), some ma, some li, some (.bool false), some (.int ti), some ct, some sv, some (.ref ls), some .none, some .none, some .none, some .none, some .none, some .none])
  b3 : H g = some (.inst 616 gx)
  b4 : H gx = some (.rcd 11 at_GapText [some (.int 8), some (.ref cl), some (.int (A.length : Nat)), some (.int (A.length + G.length : Nat))])
  b5 : H cl = some (.list 1 (ic A ++ G ++ ic B))
  b6 : H mk = some (.inst 686 mx)
  b7 : H mx = some (.rcd 7 at_Markers [some (.ref mr)])
  b8 : H mr = some (.idict 7 [])
  b9 : H ls = some (.list 0 [])
  sz : A.length + G.length + B.length ≤ 5000
variable {b dx g gx cl mk mx mr ls : Addr} {nu na ma li ct sv : AV} {ti : Int} {A : List Nat} {G : List AV} {B : List Nat} {pt : Int}
theorem ic_get {T : List Nat} {i : Nat} {c : Nat} (h : T[i]? = some c) : (ic T)[i]? = some (.int (c : Nat)) := by simp [ic, h]
theorem cw_code {x : Int} {i c : Nat} (hB : BufR H b dx g gx cl mk mx mr ls nu na ma li ct sv ti A G B pt) (e : x = (i : Nat)) (hc : (A ++ B)[i]? = some c) (h : Q (.int (c : Nat)) H) : CW S (.ref 557) (n + 1) [.ref g, .int x] Q H := by
  obtain ⟨b1, b2, b3, b4, b5, b6, b7, b8, b9, sz⟩ := hB
  have hi : i < A.length + B.length := by
    have := (List.getElem?_eq_some_iff.mp hc).1; simpa using this
  subst e
  refine kw_fn [some _, some _] (k_GapText_code _) (c_GapText_code _) (b_GapText_code _) rfl rfl ?_
  walk_at "all"
  · refine gw_list b5 (by omega) (by omega) (x := .int (c : Nat)) ?_ ?_
    · have h1 : i < A.length := by walk_at "ari"
      rw [List.getElem?_append_left (by simp [ic]; omega), List.getElem?_append_left (by simp [ic]; omega)]
      rw [List.getElem?_append_left h1] at hc
      exact ic_get hc
    · walk_at "end"
      exact h
  · have h1 : ¬ i < A.length := by walk_at "ari"
    refine gw_list b5 (by omega) (by omega) (x := .int (c : Nat)) ?_ ?_
    · rw [List.getElem?_append_right (by simp [ic]; omega)]
      rw [List.getElem?_append_right (by omega)] at hc
      refine Eq.trans (congrArg (fun j => (ic B)[j]?) ?_) (ic_get hc)
      simp [ic]; omega
    · walk_at "end"
      exact h
theorem cw_code_at {x : Int} {i c : Nat} (hB : BufR H b dx g gx cl mk mx mr ls nu na ma li ct sv ti A G B pt) (e : x = (i : Nat) + 1) (hc : (A ++ B)[i]? = some c) (h : Q (.int (c : Nat)) H) : CW S (.ref 782) (n + 2) [.ref b, .int x] Q H := by
  have hB' := hB
  obtain ⟨b1, b2, b3, b4, b5, b6, b7, b8, b9, sz⟩ := hB
  have hi : i < A.length + B.length := by
    have := (List.getElem?_eq_some_iff.mp hc).1; simpa using this
  subst e
  refine kw_fn [some _, some _] (k_Buffer_code_at _) (c_Buffer_code_at _) (b_Buffer_code_at _) rfl rfl ?_
  walk_at "go"
  refine if_f (by simp; omega) ?_
  walk_at "go"
  refine if_f (by simp; omega) ?_
  walk_at "go"
  refine cw_code hB' (i := i) (by omega) hc ?_
  walk_at "end"
  exact h
theorem cw_size (hB : BufR H b dx g gx cl mk mx mr ls nu na ma li ct sv ti A G B pt) (h : Q (.int (A.length + B.length : Nat)) H) : CW S (.ref 550) (n + 1) [.ref g] Q H := by
  obtain ⟨b1, b2, b3, b4, b5, b6, b7, b8, b9, sz⟩ := hB
  refine kw_fn [some _, none] (k_GapText_size _) (c_GapText_size _) (b_GapText_size _) rfl rfl ?_
  walk_at "go"
  refine cb_len_list b5 (by simp [ic]; omega) ?_
  walk_at "go"
  walk_at "end"
  refine q_eq (P := fun x => Q x H) (congrArg AV.int ?_) h
  simp [ic]; omega
theorem cw_bsize (hB : BufR H b dx g gx cl mk mx mr ls nu na ma li ct sv ti A G B pt) (h : Q (.int (A.length + B.length : Nat)) H) : CW S (.ref 775) (n + 2) [.ref b] Q H := by
  have hB' := hB
  obtain ⟨b1, b2, b3, b4, b5, b6, b7, b8, b9, sz⟩ := hB
  refine kw_fn [some _] (k_Buffer_size _) (c_Buffer_size _) (b_Buffer_size _) rfl rfl ?_
  walk_at "go"
  refine cw_size hB' ?_
  walk_at "end"
  exact h
theorem cw_begin (hB : BufR H b dx g gx cl mk mx mr ls nu na ma li ct sv ti A G B pt) (h : Q (.int 1) H) : CW S (.ref 761) (n + 1) [.ref b] Q H := by
  obtain ⟨b1, b2, b3, b4, b5, b6, b7, b8, b9, sz⟩ := hB
  refine kw_fn [some _] (k_Buffer_begin _) (c_Buffer_begin _) (b_Buffer_begin _) rfl rfl ?_
  walk_at "go"
  walk_at "end"
  exact h
theorem cw_end (hB : BufR H b dx g gx cl mk mx mr ls nu na ma li ct sv ti A G B pt) (h : Q (.int ((A.length + B.length : Nat) + 1)) H) : CW S (.ref 768) (n + 1) [.ref b] Q H := by
  obtain ⟨b1, b2, b3, b4, b5, b6, b7, b8, b9, sz⟩ := hB
  refine kw_fn [some _] (k_Buffer_end _) (c_Buffer_end _) (b_Buffer_end _) rfl rfl ?_
  walk_at "go"
  walk_at "end"
  exact h
end

section
variable {S : Sta} {E : ES} {n : Nat} {F F' : List (Option AV)} {H H' : AH} {Q : AV → AH → Prop} {QN : List (Option AV) → AH → Prop} {QX : AFl → List (Option AV) → AH → Prop}
structure GapR (H : AH) (g gx cl : Addr) (A : List Nat) (G : List AV) (B : List Nat) : Prop where
  b3 : H g = some (.inst 616 gx)
  b4 : H gx = some (.rcd 11 at_GapText [some (.int 8), some (.ref cl), some (.int (A.length : Nat)), some (.int (A.length + G.length : Nat))])
  b5 : H cl = some (.list 1 (ic A ++ G ++ ic B))
  sz : A.length + G.length + B.length ≤ 5000
theorem q_e {α : Sort _} {P : α → Prop} {x y : α} (e : x = y) (h : P y) : P x := e ▸ h
variable {b dx g gx cl mk mx mr ls : Addr} {nu na ma li ct sv : AV} {ti : Int} {A : List Nat} {G : List AV} {B : List Nat} {pt : Int}
theorem ic_app (A B : List Nat) : ic (A ++ B) = ic A ++ ic B := by simp [ic]
theorem ic_take (A : List Nat) (k : Nat) : ic (A.take k) = (ic A).take k := by simp [ic, List.map_take]
theorem ic_drop (A : List Nat) (k : Nat) : ic (A.drop k) = (ic A).drop k := by simp [ic, List.map_drop]
noncomputable def cutN (i j : Nat) (T : List Nat) : List Nat := (T.take j).drop i
theorem cutN_ic (i j : Nat) (T : List Nat) : ic (cutN i j T) = ((ic T).take j).drop i := by rw [cutN, ic_drop, ic_take]
theorem cut_hi {α : Type} (X G Y : List α) (i j : Nat) (h : X.length ≤ i) : (((X ++ G ++ Y).take (j + G.length)).drop (i + G.length)) = ((X ++ Y).take j).drop i := by
  have e1 : (X ++ G ++ Y).drop (i + G.length) = Y.drop (i - X.length) := by
    rw [List.drop_append (l₁ := X ++ G), List.drop_eq_nil_of_le (by rw [List.length_append]; exact Nat.add_le_add_right h _), List.length_append, Nat.add_sub_add_right, List.nil_append]
  have e2 : (X ++ Y).drop i = Y.drop (i - X.length) := by rw [List.drop_append, List.drop_eq_nil_of_le h, List.nil_append]
  rw [List.drop_take, List.drop_take, Nat.add_sub_add_right, e1, e2]
theorem toN (i G A : Nat) : (((i : Int) + (((A + G : Nat) : Int) - (A : Int))).toNat) = i + G := by
  rw [Int.natCast_add, Int.add_comm (A : Int), Int.add_sub_cancel]; exact Int.toNat_natCast _
theorem cut_mid {α : Type} (X G Y : List α) (i j : Nat) (h1 : i ≤ X.length) (h2 : X.length ≤ j) : ((X ++ G ++ Y).take X.length).drop i ++ ((X ++ G ++ Y).take (j + G.length)).drop (X.length + G.length) = ((X ++ Y).take j).drop i := by
  have e1 : (X ++ G ++ Y).take X.length = X := by rw [List.append_assoc, List.take_left]
  have e2 : ((X ++ G ++ Y).take (j + G.length)).drop (X.length + G.length) = Y.take (j - X.length) := by
    rw [List.drop_take, ← List.length_append, List.drop_left, List.length_append, Nat.add_sub_add_right]
  have e3 : (X ++ Y).take j = X ++ Y.take (j - X.length) := by rw [List.take_append, List.take_of_length_le h2]
  rw [e1, e2, e3, List.drop_append_of_le_length h1]
theorem cut_len {α : Type} (lo hi : AV) (xs : List α) : (cut lo hi xs).length ≤ xs.length := by
  rw [cut_eq, List.length_drop, List.length_take]; exact Nat.le_trans (Nat.sub_le _ _) (Nat.min_le_right _ _)
theorem cw_codes {x y : Int} {i j : Nat} (hB : GapR H g gx cl A G B) (ex : x = (i : Nat)) (ey : y = (j : Nat)) (hij : i ≤ j) (hj : j ≤ A.length + B.length)
    (h : ∀ a, H a = none → Q (.ref a) (H.upd a (.list 0 (ic (cutN i j (A ++ B)))))) : CW S (.ref 564) (n + 1) [.ref g, .int x, .int y] Q H := by
  obtain ⟨b3, b4, b5, sz⟩ := hB
  subst ex ey
  have hsz : (ic A ++ G ++ ic B).length ≤ 100000 := by simp [ic]; omega
  refine kw_fn [some _, some _, some _, none] (k_GapText_codes _) (c_GapText_codes _) (b_GapText_codes _) rfl rfl ?_
  walk_at "all"
  · have hh : j ≤ A.length := by walk_at "ari"
    refine gw_cut (AH.upd_self _ _ _) (by walk_at "hk") (by simp [nn]) (by simp [nn]) hsz fun a2 ha2 => ?_
    refine ex_fr (H := H) (by walk_at "sub") ?_
    refine q_e (P := fun o => Q (.ref a2) (H.upd a2 (.list 0 o))) ?_ (h a2 (by walk_at "nn"))
    rw [cutN_ic, cut_eq, ic_app]
    simp only [loN, hiN, Int.toNat_natCast]
    rw [List.append_assoc, List.take_append_of_le_length (by simp [ic]; omega), List.take_append_of_le_length (by simp [ic]; omega)]
  · have hh : A.length ≤ i := by walk_at "ari"
    refine gw_cut (AH.upd_self _ _ _) (by walk_at "hk") (by simp [nn]; omega) (by simp [nn]; omega) hsz fun a2 ha2 => ?_
    refine ex_fr (H := H) (by walk_at "sub") ?_
    refine q_e (P := fun o => Q (.ref a2) (H.upd a2 (.list 0 o))) ?_ (h a2 (by walk_at "nn"))
    rw [cutN_ic, cut_eq, ic_app]
    simp only [loN, hiN]
    rw [toN, toN]
    exact cut_hi _ _ _ _ _ (by rw [ic_len]; exact hh)
  · have h1 : ¬ j ≤ A.length := by walk_at "ari"
    have h2 : ¬ A.length ≤ i := by walk_at "ari"
    refine gw_cut (AH.upd_self _ _ _) (by walk_at "hk") (by simp [nn]) (by simp [nn]) hsz fun a2 ha2 => ?_
    walk_at "all"
    refine gw_cut (AH.upd_self _ _ _) (by walk_at "hk") (by simp [nn]; omega) (by simp [nn]; omega) hsz fun a3 ha3 => ?_
    refine ow_addl (by walk_at "hk") (by walk_at "hk") ?_ fun a4 ha4 => ?_
    · exact Nat.le_trans (Nat.add_le_add (Nat.le_trans (cut_len _ _ _) hsz) (Nat.le_trans (cut_len _ _ _) hsz)) (by decide)
    · refine ex_fr (H := H) (by walk_at "sub") ?_
      refine q_e (P := fun o => Q (.ref a4) (H.upd a4 (.list 0 o))) ?_ (h a4 (by walk_at "nn"))
      rw [cutN_ic, cut_eq, cut_eq, ic_app]
      simp only [loN, hiN, Int.toNat_natCast]
      rw [toN]
      have z := cut_mid (ic A) G (ic B) i j (by rw [ic_len]; omega) (by rw [ic_len]; omega)
      rw [ic_len] at z
      exact z
end

section
variable {S : Sta} {E : ES} {n : Nat} {F F' : List (Option AV)} {H H' : AH} {Q : AV → AH → Prop} {QN : List (Option AV) → AH → Prop} {QX : AFl → List (Option AV) → AH → Prop}
variable {b dx g gx cl mk mx mr ls : Addr} {nu na ma li ct sv : AV} {ti : Int} {A : List Nat} {G : List AV} {B : List Nat} {pt : Int}
theorem cw_bcodes {x y : Int} {i j : Nat} (hB : BufR H b dx g gx cl mk mx mr ls nu na ma li ct sv ti A G B pt) (ex : x = (i : Nat) + 1) (ey : y = (j : Nat) + 1) (hij : i ≤ j) (hj : j ≤ A.length + B.length)
    (h : ∀ a, H a = none → Q (.ref a) (H.upd a (.list 0 (ic (cutN i j (A ++ B)))))) : CW S (.ref 789) (n + 2) [.ref b, .int x, .int y] Q H := by
  have hB' := hB
  obtain ⟨b1, b2, b3, b4, b5, b6, b7, b8, b9, sz⟩ := hB
  subst ex ey
  refine kw_fn [some _, some _, some _] (k_Buffer_codes _) (c_Buffer_codes _) (b_Buffer_codes _) rfl rfl ?_
  walk_at "go"
  refine cw_codes ⟨b3, b4, b5, sz⟩ (i := i) (j := j) (by omega) (by omega) hij hj fun a ha => ?_
  exact ⟨_, Sub.refl _, h a ha⟩
noncomputable def wAt (T : List Nat) (i : Nat) : Bool := match T[i]? with
  | some c => isW c
  | none => false
theorem wAt_some {T : List Nat} {i c : Nat} (h : T[i]? = some c) : wAt T i = isW c := by simp [wAt, h]
noncomputable def fw (p : Nat → Bool) : Nat → Nat → Nat
  | 0, i => i
  | k + 1, i => if p i then fw p k (i + 1) else i
noncomputable def bk (p : Nat → Bool) : Nat → Nat
  | 0 => 0
  | i + 1 => if p i then bk p i else i + 1
theorem fw_stop (p : Nat → Bool) (k i : Nat) (h : p i = false) : fw p k i = i := by cases k <;> simp [fw, h]
theorem fw_go (p : Nat → Bool) (m i : Nat) (h : p i = true) (hi : i < m) : fw p (m - (i + 1)) (i + 1) = fw p (m - i) i := by
  obtain ⟨k, e⟩ : ∃ k, m - i = k + 1 := ⟨m - i - 1, by omega⟩
  rw [e, show m - (i + 1) = k by omega]; simp [fw, h]
theorem bk_stop (p : Nat → Bool) (i : Nat) (h : p i = false) : bk p (i + 1) = i + 1 := by simp [bk, h]
theorem bk_go (p : Nat → Bool) (i : Nat) (h : p i = true) : bk p i = bk p (i + 1) := by simp [bk, h]
theorem cw_syntax_at {a : Addr} {x : Int} {i : Nat} (hB : BufR H b dx g gx cl mk mx mr ls nu na ma li ct sv ti A G B pt) (hS : SynT H a) (hT : ∀ c ∈ A ++ B, c < 128) (hi : i < (A ++ B).length) (e : x = (i : Nat) + 1)
    (h : ∀ H' s, Sub H H' → KindOf H' s (if wAt (A ++ B) i then "w" else ".") → Q (.ref s) H') : CW S (.ref 312) (n + 4) [.ref b, .ref a, .int x] Q H := by
  have hB' := hB
  obtain ⟨b1, b2, b3, b4, b5, b6, b7, b8, b9, sz⟩ := hB
  obtain ⟨dx', r, sy, sx, kvs, fl, hS⟩ := hS
  have hS' := hS
  obtain ⟨h1, h2, h3, h4, h5, h6⟩ := hS
  have hc : (A ++ B)[i]? = some ((A ++ B)[i]'hi) := List.getElem?_eq_getElem hi
  refine kw_fn [some _, some _, some _, none] (k_syntax_at _) (c_syntax_at _) (b_syntax_at _) rfl rfl ?_
  walk_at "go"
  refine cw_code_at hB' e hc ?_
  walk_at "go"
  refine if_f (by simp) ?_
  walk_at "go"
  refine cw_at hS' (hT _ (List.getElem_mem hi)) fun H' s hs hk => ?_
  rw [wAt_some hc] at h
  exact ⟨_, Sub.refl _, h _ _ hs hk⟩
theorem occ_ww : (Builtin.Str.occurrences "w" "w" 0 ("w" : Str).length 1).isEmpty = false := by decide +kernel
theorem occ_wd : (Builtin.Str.occurrences "w" "." 0 ("w" : Str).length 1).isEmpty = true := by decide +kernel
theorem ow_insE {x y : Str} {c : Bool} (e : (Builtin.Str.occurrences x y 0 x.length 1).isEmpty = c) (h : Q (.bool (!c)) H) : OW S (compareOp .In) n (.str y) (.str x) Q H := ow_ins (by rw [e]; exact h)
theorem cw_is_of {a : Addr} {x : Int} {i : Nat} {neg : Bool} (hB : BufR H b dx g gx cl mk mx mr ls nu na ma li ct sv ti A G B pt) (hS : SynT H a) (hT : ∀ c ∈ A ++ B, c < 128) (hi : i < (A ++ B).length) (e : x = (i : Nat) + 1)
    (h : Q (.bool (wAt (A ++ B) i != neg)) H) : CW S (.ref 320) (n + 5) [.ref b, .ref a, .int x, .str "w", .bool neg] Q H := by
  refine kw_fn [some _, some _, some _, some _, some _, none, none] (k_is_of _) (c_is_of _) (b_is_of5 _) rfl rfl ?_
  walk_at "go"
  refine cw_syntax_at hB hS hT hi e fun H' s hs ⟨x, m, f, k1, k2⟩ => ?_
  walk_at "go"
  cases hw : wAt (A ++ B) i
  · rw [hw] at h k2
    simp only [Bool.false_eq_true, if_false] at k2
    walk_at "go"
    refine ow_insE occ_wd ?_
    walk_at "go"
    exact ⟨_, hs, h⟩
  · rw [hw] at h k2
    simp only [if_true] at k2
    walk_at "go"
    refine ow_insE occ_ww ?_
    walk_at "go"
    exact ⟨_, hs, h⟩
theorem skf {args : List AV} {ds : List Value} {a : Addr} {neg : Bool} {i : Nat} (hb : FnB S.K (tp 46) "skip_forward" (.ref 321) (vs "emacs.skips" 615) 327 args.length ds)
    (hA : args ++ ds.map ab = [.ref b, .ref a, .int ((i : Nat) + 1), .int (((A.length + B.length : Nat) : Int) + 1), .str "w", .bool neg]) (hi : i ≤ (A ++ B).length) (hB : BufR H b dx g gx cl mk mx mr ls nu na ma li ct sv ti A G B pt) (hS : SynT H a) (hT : ∀ c ∈ A ++ B, c < 128)
    (h : Q (.int ((fw (fun k => wAt (A ++ B) k != neg) ((A ++ B).length - i) i : Nat) + 1)) H) : CW S (.ref 328) (n + 7) args Q H := by
  have hl : (A ++ B).length = A.length + B.length := List.length_append
  refine kw_fn [some (.ref b), some (.ref a), some (.int ((i : Nat) + 1)), some (.int (((A.length + B.length : Nat) : Int) + 1)), some (.str "w"), some (.bool neg), none] (k_skip_forward _) (c_skip_forward _) hb rfl (by rw [hA]; rfl) ?_
  walk_at "mw"
  refine jw_while (fun k F H' => H' = H ∧ ∃ j : Nat, k + j = (A ++ B).length ∧ fw (fun k => wAt (A ++ B) k != neg) ((A ++ B).length - j) j = fw (fun k => wAt (A ++ B) k != neg) ((A ++ B).length - i) i ∧
      F = [some (.ref b), some (.ref a), some (.int ((j : Nat) + 1)), some (.int (((A.length + B.length : Nat) : Int) + 1)), some (.str "w"), some (.bool neg), none]) ((A ++ B).length - i) ?_ ⟨rfl, i, Nat.sub_add_cancel hi, rfl, rfl⟩
  intro k QL QXL hN hX F H' hj0
  refine gG fun GG kG => ?_
  obtain ⟨rfl, j, hk, hf, rfl⟩ := hj0
  refine kG ?_
  clear kG GG
  walk_at "go"
  by_cases hlt : j < (A ++ B).length
  · refine if_t (decide_eq_true (by rw [← hl]; exact Int.add_lt_add_right (Int.ofNat_lt.mpr hlt) 1)) ?_
    walk_at "go"
    refine cw_is_of hB hS hT (i := j) hlt rfl ?_
    cases hp : (wAt (A ++ B) j != neg)
    · walk_at "go"
      walk_at "end"
      rw [← hf, fw_stop _ _ _ hp] at h; exact h
    · walk_at "go"
      exact hN _ _ ⟨(A ++ B).length - (j + 1), by omega, rfl, j + 1, Nat.sub_add_cancel hlt, by rw [← hf, fw_go _ _ _ hp hlt], rfl⟩
  · refine if_f (decide_eq_false fun q => hlt (by rw [← hl] at q; exact Int.ofNat_lt.mp (Int.lt_of_add_lt_add_right q))) ?_
    walk_at "go"
    walk_at "end"
    rw [← hf, Nat.sub_eq_zero_of_le (Nat.le_of_not_lt hlt)] at h; exact h
theorem cw_skip_forward6 {a : Addr} {x y : Int} {neg : Bool} {i : Nat} (hi : i ≤ (A ++ B).length) (e : x = (i : Nat) + 1) (el : y = ((A.length + B.length : Nat) : Int) + 1) (hB : BufR H b dx g gx cl mk mx mr ls nu na ma li ct sv ti A G B pt) (hS : SynT H a) (hT : ∀ c ∈ A ++ B, c < 128)
    (h : Q (.int ((fw (fun k => wAt (A ++ B) k != neg) ((A ++ B).length - i) i : Nat) + 1)) H) : CW S (.ref 328) (n + 7) [.ref b, .ref a, .int x, .int y, .str "w", .bool neg] Q H := by
  subst e el
  exact skf (b_skip_forward6 _) rfl hi hB hS hT h
theorem cw_skip_forward5 {a : Addr} {x y : Int} {i : Nat} (hi : i ≤ (A ++ B).length) (e : x = (i : Nat) + 1) (el : y = ((A.length + B.length : Nat) : Int) + 1) (hB : BufR H b dx g gx cl mk mx mr ls nu na ma li ct sv ti A G B pt) (hS : SynT H a) (hT : ∀ c ∈ A ++ B, c < 128)
    (h : Q (.int ((fw (fun k => wAt (A ++ B) k != false) ((A ++ B).length - i) i : Nat) + 1)) H) : CW S (.ref 328) (n + 7) [.ref b, .ref a, .int x, .int y, .str "w"] Q H := by
  subst e el
  exact skf (neg := false) (b_skip_forward5 _) rfl hi hB hS hT h
theorem skb {args : List AV} {ds : List Value} {a : Addr} {neg : Bool} {i : Nat} (hb : FnB S.K (tp 47) "skip_backward" (.ref 329) (vs "emacs.skips" 615) 335 args.length ds)
    (hA : args ++ ds.map ab = [.ref b, .ref a, .int ((i : Nat) + 1), .int 1, .str "w", .bool neg]) (hi : i ≤ (A ++ B).length) (hB : BufR H b dx g gx cl mk mx mr ls nu na ma li ct sv ti A G B pt) (hS : SynT H a) (hT : ∀ c ∈ A ++ B, c < 128)
    (h : Q (.int ((bk (fun k => wAt (A ++ B) k != neg) i : Nat) + 1)) H) : CW S (.ref 336) (n + 7) args Q H := by
  refine kw_fn [some (.ref b), some (.ref a), some (.int ((i : Nat) + 1)), some (.int 1), some (.str "w"), some (.bool neg), none] (k_skip_backward _) (c_skip_backward _) hb rfl (by rw [hA]; rfl) ?_
  walk_at "mw"
  refine jw_while (fun k F H' => H' = H ∧ k ≤ (A ++ B).length ∧ bk (fun k => wAt (A ++ B) k != neg) k = bk (fun k => wAt (A ++ B) k != neg) i ∧
      F = [some (.ref b), some (.ref a), some (.int ((k : Nat) + 1)), some (.int 1), some (.str "w"), some (.bool neg), none]) i ?_ ⟨rfl, hi, rfl, rfl⟩
  intro k QL QXL hN hX F H' hj0
  refine gG fun GG kG => ?_
  obtain ⟨rfl, hj, hf, rfl⟩ := hj0
  refine kG ?_
  clear kG GG
  walk_at "go"
  cases k with
  | zero =>
    refine if_f (by simp) ?_
    walk_at "go"
    walk_at "end"
    rw [← hf] at h; exact h
  | succ j =>
    refine if_t (decide_eq_true (Int.add_lt_add_right (Int.ofNat_lt.mpr (Nat.succ_pos j)) 1)) ?_
    walk_at "go"
    refine cw_is_of hB hS hT (i := j) hj (Int.add_sub_cancel _ _) ?_
    cases hp : (wAt (A ++ B) j != neg)
    · walk_at "go"
      walk_at "end"
      rw [← hf, bk_stop _ _ hp] at h; exact h
    · walk_at "go"
      exact hN _ _ ⟨j, Nat.lt_succ_self _, rfl, Nat.le_of_succ_le hj, by rw [← hf, bk_go _ _ hp], by simp⟩
theorem cw_skip_backward6 {a : Addr} {x y : Int} {neg : Bool} {i : Nat} (hi : i ≤ (A ++ B).length) (e : x = (i : Nat) + 1) (el : y = 1) (hB : BufR H b dx g gx cl mk mx mr ls nu na ma li ct sv ti A G B pt) (hS : SynT H a) (hT : ∀ c ∈ A ++ B, c < 128)
    (h : Q (.int ((bk (fun k => wAt (A ++ B) k != neg) i : Nat) + 1)) H) : CW S (.ref 336) (n + 7) [.ref b, .ref a, .int x, .int y, .str "w", .bool neg] Q H := by
  subst e el
  exact skb (b_skip_backward6 _) rfl hi hB hS hT h
theorem cw_skip_backward5 {a : Addr} {x y : Int} {i : Nat} (hi : i ≤ (A ++ B).length) (e : x = (i : Nat) + 1) (el : y = 1) (hB : BufR H b dx g gx cl mk mx mr ls nu na ma li ct sv ti A G B pt) (hS : SynT H a) (hT : ∀ c ∈ A ++ B, c < 128)
    (h : Q (.int ((bk (fun k => wAt (A ++ B) k != false) i : Nat) + 1)) H) : CW S (.ref 336) (n + 7) [.ref b, .ref a, .int x, .int y, .str "w"] Q H := by
  subst e el
  exact skb (neg := false) (b_skip_backward5 _) rfl hi hB hS hT h
end

section
variable {S : Sta} {E : ES} {n : Nat} {F F' : List (Option AV)} {H H' : AH} {Q : AV → AH → Prop} {QN : List (Option AV) → AH → Prop} {QX : AFl → List (Option AV) → AH → Prop}
variable {b dx g gx cl mk mx mr ls : Addr} {nu na ma li ct sv : AV} {ti : Int} {A : List Nat} {G : List AV} {B : List Nat} {pt : Int}
theorem fw_ge (p : Nat → Bool) : ∀ k i, i ≤ fw p k i ∧ fw p k i ≤ i + k
  | 0, i => by simp [fw]
  | k + 1, i => by
    have ⟨a, b⟩ := fw_ge p k (i + 1)
    unfold fw; split <;> omega
theorem bk_le (p : Nat → Bool) : ∀ i, bk p i ≤ i
  | 0 => by simp [bk]
  | i + 1 => by
    have a := bk_le p i
    unfold bk; split <;> omega
noncomputable def fwdW (T : List Nat) (i : Nat) : Nat × Bool :=
  if T.length ≤ fw (fun k => wAt T k != true) (T.length - i) i then (T.length, false) else (fw (fun k => wAt T k != false) (T.length - fw (fun k => wAt T k != true) (T.length - i) i) (fw (fun k => wAt T k != true) (T.length - i) i), true)
noncomputable def bwdW (T : List Nat) (i : Nat) : Nat × Bool :=
  if bk (fun k => wAt T k != true) i = 0 then (0, false) else (bk (fun k => wAt T k != false) (bk (fun k => wAt T k != true) i), true)
theorem cw_forward_by_f {a : Addr} {x : Int} {i : Nat} (hB : BufR H b dx g gx cl mk mx mr ls nu na ma li ct sv ti A G B pt) (hS : SynT H a) (hT : ∀ c ∈ A ++ B, c < 128) (hi : i ≤ (A ++ B).length) (e : x = (i : Nat) + 1)
    (h : ∀ t, H t = none → Q (.ref t) (H.upd t (.tuple [.int (((fwdW (A ++ B) i).1 : Nat) + 1), .bool (fwdW (A ++ B) i).2]))) : CW S (.ref 473) (n + 8) [.ref b, .ref a, .int x, .int 1, .str "w"] Q H := by
  have hB' := hB
  obtain ⟨b1, b2, b3, b4, b5, b6, b7, b8, b9, sz⟩ := hB
  subst e
  have hl : (A ++ B).length = A.length + B.length := by simp
  have g1 := fw_ge (fun k => wAt (A ++ B) k != true) ((A ++ B).length - i) i
  generalize hs : fw (fun k => wAt (A ++ B) k != true) ((A ++ B).length - i) i = s at *
  refine kw_fn [some _, some _, some _, some _, some _, none, none, none, none] (k_forward_by _) (c_forward_by _) (b_forward_by _) rfl rfl ?_
  walk_at "mw"
  by_cases hlt : (A ++ B).length ≤ s
  · have hf : fwdW (A ++ B) i = ((A ++ B).length, false) := by unfold fwdW; rw [hs, if_pos hlt]
    rw [hf] at h
    refine kw_while (fun k F H' => H' = H ∧ F = [some (.ref b), some (.ref a), some (.int ((i : Nat) + 1)), some (.int 1), some (.str "w"), none, none, none, none]) 1 ?_ ⟨rfl, rfl⟩
    rintro k F H' ⟨rfl, rfl⟩
    walk_at "go"
    refine if_t (by simp) ?_
    walk_at "go"
    refine cw_end hB' ?_
    walk_at "go"
    refine cw_skip_forward6 hi rfl rfl hB' hS hT ?_
    rw [hs]
    walk_at "go"
    refine cw_end hB' ?_
    walk_at "go"
    refine if_t (by simp; omega) ?_
    walk_at "go"
    refine cw_end hB' ?_
    walk_at "go"
    rename_i t ht
    rw [hl] at h
    exact ⟨_, Sub.refl _, h _ ht⟩
  · have hf : fwdW (A ++ B) i = (fw (fun k => wAt (A ++ B) k != false) ((A ++ B).length - s) s, true) := by unfold fwdW; rw [hs, if_neg hlt]
    rw [hf] at h
    refine kw_while (fun k F H' => H' = H ∧ ((k = 1 ∧ F = [some (.ref b), some (.ref a), some (.int ((i : Nat) + 1)), some (.int 1), some (.str "w"), none, none, none, none]) ∨
      (k = 0 ∧ F = [some (.ref b), some (.ref a), some (.int ((fw (fun k => wAt (A ++ B) k != false) ((A ++ B).length - s) s : Nat) + 1)), some (.int (1 - 1)), some (.str "w"), some (.int ((s : Nat) + 1)), none, none, none]))) 1 ?_ ⟨rfl, .inl ⟨rfl, rfl⟩⟩
    rintro k F H' ⟨rfl, ⟨rfl, rfl⟩ | ⟨rfl, rfl⟩⟩
    · walk_at "go"
      refine if_t (by simp) ?_
      walk_at "go"
      refine cw_end hB' ?_
      walk_at "go"
      refine cw_skip_forward6 hi rfl rfl hB' hS hT ?_
      rw [hs]
      walk_at "go"
      refine cw_end hB' ?_
      walk_at "go"
      refine if_f (by simp; omega) ?_
      walk_at "go"
      refine cw_end hB' ?_
      walk_at "go"
      refine cw_skip_forward5 (i := s) (by omega) rfl rfl hB' hS hT ?_
      walk_at "go"
      exact ⟨0, by decide, rfl, .inr ⟨rfl, rfl⟩⟩
    · walk_at "go"
      refine if_f (by simp) ?_
      walk_at "mw"
      refine kw_while (fun k F H'' => H'' = H' ∧ F = [some (.ref b), some (.ref a), some (.int ((fw (fun k => wAt (A ++ B) k != false) ((A ++ B).length - s) s : Nat) + 1)), some (.int (1 - 1)), some (.str "w"), some (.int ((s : Nat) + 1)), none, none, none]) 1 ?_ ⟨rfl, rfl⟩
      rintro k F H'' ⟨rfl, rfl⟩
      walk_at "go"
      refine if_f (by simp) ?_
      walk_at "go"
      rename_i t ht
      exact ⟨_, Sub.refl _, h _ ht⟩
theorem cw_forward_by_b {a : Addr} {x : Int} {i : Nat} (hB : BufR H b dx g gx cl mk mx mr ls nu na ma li ct sv ti A G B pt) (hS : SynT H a) (hT : ∀ c ∈ A ++ B, c < 128) (hi : i ≤ (A ++ B).length) (e : x = (i : Nat) + 1)
    (h : ∀ t, H t = none → Q (.ref t) (H.upd t (.tuple [.int (((bwdW (A ++ B) i).1 : Nat) + 1), .bool (bwdW (A ++ B) i).2]))) : CW S (.ref 473) (n + 8) [.ref b, .ref a, .int x, .int (-1), .str "w"] Q H := by
  have hB' := hB
  obtain ⟨b1, b2, b3, b4, b5, b6, b7, b8, b9, sz⟩ := hB
  subst e
  have hl : (A ++ B).length = A.length + B.length := by simp
  have g1 := bk_le (fun k => wAt (A ++ B) k != true) i
  generalize hs : bk (fun k => wAt (A ++ B) k != true) i = s at *
  refine kw_fn [some _, some _, some _, some _, some _, none, none, none, none] (k_forward_by _) (c_forward_by _) (b_forward_by _) rfl rfl ?_
  walk_at "mw"
  refine kw_while (fun k F H' => H' = H ∧ F = [some (.ref b), some (.ref a), some (.int ((i : Nat) + 1)), some (.int (-1)), some (.str "w"), none, none, none, none]) 1 ?_ ⟨rfl, rfl⟩
  rintro k F H' ⟨rfl, rfl⟩
  walk_at "go"
  refine if_f (by simp) ?_
  walk_at "mw"
  by_cases hlt : s = 0
  · have hf : bwdW (A ++ B) i = (0, false) := by unfold bwdW; rw [hs, if_pos hlt]
    rw [hf] at h
    refine kw_while (fun k F H'' => H'' = H' ∧ F = [some (.ref b), some (.ref a), some (.int ((i : Nat) + 1)), some (.int (-1)), some (.str "w"), none, none, none, none]) 1 ?_ ⟨rfl, rfl⟩
    rintro k F H'' ⟨rfl, rfl⟩
    walk_at "go"
    refine if_t (by simp) ?_
    walk_at "go"
    refine cw_begin hB' ?_
    walk_at "go"
    refine cw_skip_backward6 hi rfl rfl hB' hS hT ?_
    rw [hs]
    walk_at "go"
    refine cw_begin hB' ?_
    walk_at "go"
    refine if_t (by simp; omega) ?_
    walk_at "go"
    refine cw_begin hB' ?_
    walk_at "go"
    rename_i t ht
    exact ⟨_, Sub.refl _, h _ ht⟩
  · have hf : bwdW (A ++ B) i = (bk (fun k => wAt (A ++ B) k != false) s, true) := by unfold bwdW; rw [hs, if_neg hlt]
    rw [hf] at h
    refine kw_while (fun k F H'' => H'' = H' ∧ ((k = 1 ∧ F = [some (.ref b), some (.ref a), some (.int ((i : Nat) + 1)), some (.int (-1)), some (.str "w"), none, none, none, none]) ∨
      (k = 0 ∧ F = [some (.ref b), some (.ref a), some (.int ((bk (fun k => wAt (A ++ B) k != false) s : Nat) + 1)), some (.int (-1 + 1)), some (.str "w"), none, some (.int ((s : Nat) + 1)), none, none]))) 1 ?_ ⟨rfl, .inl ⟨rfl, rfl⟩⟩
    rintro k F H'' ⟨rfl, ⟨rfl, rfl⟩ | ⟨rfl, rfl⟩⟩
    · walk_at "go"
      refine if_t (by simp) ?_
      walk_at "go"
      refine cw_begin hB' ?_
      walk_at "go"
      refine cw_skip_backward6 hi rfl rfl hB' hS hT ?_
      rw [hs]
      walk_at "go"
      refine cw_begin hB' ?_
      walk_at "go"
      refine if_f (by simp; omega) ?_
      walk_at "go"
      refine cw_begin hB' ?_
      walk_at "go"
      refine cw_skip_backward5 (i := s) (by omega) rfl rfl hB' hS hT ?_
      walk_at "go"
      exact ⟨0, by decide, rfl, .inr ⟨rfl, rfl⟩⟩
    · walk_at "go"
      refine if_f (by simp) ?_
      walk_at "go"
      rename_i t ht
      exact ⟨_, Sub.refl _, h _ ht⟩
theorem cw_forward_word_f {a : Addr} {x : Int} {i : Nat} (hB : BufR H b dx g gx cl mk mx mr ls nu na ma li ct sv ti A G B pt) (hS : SynT H a) (hT : ∀ c ∈ A ++ B, c < 128) (hi : i ≤ (A ++ B).length) (e : x = (i : Nat) + 1)
    (h : ∀ t, H t = none → Q (.ref t) (H.upd t (.tuple [.int (((fwdW (A ++ B) i).1 : Nat) + 1), .bool (fwdW (A ++ B) i).2]))) : CW S (.ref 480) (n + 9) [.ref b, .ref a, .int x, .int 1] Q H := by
  refine kw_fn [some _, some _, some _, some _, none, none] (k_forward_word _) (c_forward_word _) (b_forward_word _) rfl rfl ?_
  walk_at "go"
  refine cw_forward_by_f hB hS hT hi e fun t ht => ?_
  exact ⟨_, Sub.refl _, h _ ht⟩
theorem cw_forward_word_b {a : Addr} {x : Int} {i : Nat} (hB : BufR H b dx g gx cl mk mx mr ls nu na ma li ct sv ti A G B pt) (hS : SynT H a) (hT : ∀ c ∈ A ++ B, c < 128) (hi : i ≤ (A ++ B).length) (e : x = (i : Nat) + 1)
    (h : ∀ t, H t = none → Q (.ref t) (H.upd t (.tuple [.int (((bwdW (A ++ B) i).1 : Nat) + 1), .bool (bwdW (A ++ B) i).2]))) : CW S (.ref 480) (n + 9) [.ref b, .ref a, .int x, .int (-1)] Q H := by
  refine kw_fn [some _, some _, some _, some _, none, none] (k_forward_word _) (c_forward_word _) (b_forward_word _) rfl rfl ?_
  walk_at "go"
  refine cw_forward_by_b hB hS hT hi e fun t ht => ?_
  exact ⟨_, Sub.refl _, h _ ht⟩
end

section
variable {S : Sta} {E : ES} {n : Nat} {F F' : List (Option AV)} {H H' : AH} {Q : AV → AH → Prop} {QN : List (Option AV) → AH → Prop} {QX : AFl → List (Option AV) → AH → Prop}
variable {g gx cl : Addr} {A : List Nat} {G : List AV} {B : List Nat}
theorem some_list {H : AH} {a : Addr} {t : Nat} {xs ys : List AV} (h : H a = some (.list t xs)) (e : xs = ys) : H a = some (.list t ys) := e ▸ h
theorem some_rcd {H : AH} {a : Addr} {t : Nat} {ns : List Str} {xs ys : List (Option AV)} (h : H a = some (.rcd t ns xs)) (e : xs = ys) : H a = some (.rcd t ns ys) := e ▸ h
theorem drop_ic (A : List Nat) (k : Nat) : (ic A).drop k = ic (A.drop k) := (ic_drop A k).symm
theorem take_ic (A : List Nat) (k : Nat) : (ic A).take k = ic (A.take k) := (ic_take A k).symm
theorem cut_A {i : Nat} (hi : i ≤ A.length) : cut (.int i) (.int (A.length : Nat)) (ic A ++ G ++ ic B) = ic (A.drop i) := by
  rw [cut_eq, ic_drop]
  simp only [loN, hiN, Int.toNat_natCast]
  rw [List.append_assoc, List.take_append_of_le_length (by simp [ic]), List.take_of_length_le (by simp [ic])]
theorem cut_B {k : Nat} {j : Int} (hk : j = (A.length + G.length + k : Nat)) : cut (.int (A.length + G.length : Nat)) (.int j) (ic A ++ G ++ ic B) = ic (B.take k) := by
  subst hk
  rw [cut_eq, ic_take]
  simp only [loN, hiN, Int.toNat_natCast]
  rw [List.take_append, List.take_of_length_le (by simp [ic_len]), List.drop_append, List.drop_eq_nil_of_le (by simp [ic_len])]
  simp [ic]
theorem putIn_gen (X R C : List AV) {i j : Nat} (h : i ≤ j) : putIn (X.length + i) (X.length + j) (X ++ R) C = X ++ (R.take i ++ (C ++ R.drop j)) := by
  simp only [putIn]
  rw [Nat.max_eq_right (Nat.add_le_add_left h _), List.take_length_add_append, List.drop_length_add_append]
  simp only [List.append_assoc]
theorem put_A (A1 A2 : List AV) (G B : List AV) : putIn (A1.length + G.length) (A1.length + A2.length + G.length) (A1 ++ A2 ++ G ++ B) A2 = A1 ++ (A2 ++ G).take G.length ++ (A2 ++ B) := by
  have e : A1 ++ A2 ++ G ++ B = A1 ++ ((A2 ++ G) ++ B) := by simp only [List.append_assoc]
  rw [e, Nat.add_assoc, putIn_gen _ _ _ (Nat.le_add_left _ _), List.take_append_of_le_length (by rw [List.length_append]; exact Nat.le_add_left _ _), List.drop_left' (List.length_append), List.append_assoc A1]
theorem putIn_gen0 (X R C : List AV) (j : Nat) : putIn X.length (X.length + j) (X ++ R) C = X ++ (C ++ R.drop j) :=
  putIn_gen X R C (Nat.zero_le j)
theorem put_B (A G B1 B2 : List AV) : putIn A.length (A.length + B1.length) (A ++ G ++ (B1 ++ B2)) B1 = A ++ B1 ++ (G ++ B1).drop B1.length ++ B2 := by
  rw [List.append_assoc A G, putIn_gen0, ← List.append_assoc G, List.drop_append_of_le_length (by rw [List.length_append]; exact Nat.le_add_left _ _), List.append_assoc A, List.append_assoc A, List.append_assoc B1]
theorem cw_move_gap {x : Int} {i : Nat} (hG : GapR H g gx cl A G B) (e : x = (i : Nat)) (hi : i ≤ A.length + B.length)
    (h : ∀ H' G', Mv pG H H' → G'.length = G.length → GapR H' g gx cl ((A ++ B).take i) G' ((A ++ B).drop i) → Q .none H') : CW S (.ref 571) (n + 1) [.ref g, .int x] Q H := by
  obtain ⟨b3, b4, b5, sz⟩ := hG
  subst e
  refine kw_fn [some _, some _, none, none] (k_GapText_move_gap _) (c_GapText_move_gap _) (b_GapText_move_gap _) rfl rfl ?_
  walk_at "all"
  · have hh : i < A.length := by walk_at "ari"
    have hmin : min i (A.length + B.length) = i := Nat.min_eq_left hi
    obtain ⟨d, hd⟩ : ∃ d, A.length = i + d := ⟨A.length - i, (Nat.add_sub_cancel' (Nat.le_of_lt hh)).symm⟩
    have hdl : A.length - i = d := by rw [hd, Nat.add_sub_cancel_left]
    have hmin2 : min i A.length = i := Nat.min_eq_left (Nat.le_of_lt hh)
    have htn : ((A.length : Int) + (G.length : Int)).toNat = A.length + G.length := Int.toNat_natCast _
    have hsb : A.length + B.length - i = d + B.length := by rw [hd, Nat.add_assoc, Nat.add_sub_cancel_left]
    refine gw_cut (AH.upd_self _ _ _) (by walk_at "hk") (by simp [nn]) (by simp [nn]) (by simp [ic]; omega) fun a2 ha2 => ?_
    rw [cut_A (by omega)] at *
    walk_at "go"
    refine cb_len_list (by walk_at "hk") (by simp [cut_eq, ic, hdl]; omega) ?_
    walk_at "go"
    refine pw_cut (by walk_at "hk") (by walk_at "hk") (by walk_at "hk") (by simp [ic]; omega) (by omega) (by simp [ic]; omega) ?_
    walk_at "go"
    refine cb_len_list (by walk_at "hk") (by simp [cut_eq, ic, hdl]; omega) ?_
    walk_at "go"
    refine ⟨_, Sub.refl _, h _ ((ic (A.drop i) ++ G).take G.length) (by walk_at "mv") (by simp) ⟨by walk_at "hk", some_rcd (by walk_at "hk") ?_, some_list (by walk_at "hk") ?_, ?_⟩⟩
    · simp [ic, hmin, hmin2, htn, hdl, hsb]; omega
    · have z := put_A (ic (A.take i)) (ic (A.drop i)) G (ic B)
      have e1 : ic A = ic (A.take i) ++ ic (A.drop i) := by rw [← ic_app, List.take_append_drop]
      rw [← e1] at z
      rw [show (A ++ B).take i = A.take i by rw [List.take_append_of_le_length (by omega)], show (A ++ B).drop i = A.drop i ++ B by rw [List.drop_append_of_le_length (by omega)], ic_app, ← z]
      congr 1 <;> simp [ic, hmin, hmin2, htn, hdl, hsb] <;> omega
    · simp [hmin, hmin2, hdl, hsb]; omega
  · have hh : A.length ≤ i := by walk_at "ari"
    obtain ⟨k, rfl⟩ : ∃ k, i = A.length + k := ⟨i - A.length, (Nat.add_sub_cancel' hh).symm⟩
    have hk : k ≤ B.length := Nat.le_of_add_le_add_left hi
    have hmin : min k B.length = k := Nat.min_eq_left hk
    obtain ⟨d, hd⟩ : ∃ d, B.length = k + d := ⟨B.length - k, (Nat.add_sub_cancel' hk).symm⟩
    have hdl : B.length - k = d := by rw [hd, Nat.add_sub_cancel_left]
    refine gw_cut (AH.upd_self _ _ _) (by walk_at "hk") (by simp [nn]; omega) (by simp [nn]; omega) (by simp [ic]; omega) fun a2 ha2 => ?_
    rw [cut_B (k := k) (by omega)] at *
    walk_at "go"
    refine cb_len_list (by walk_at "hk") (by simp [cut_eq, ic, hdl, hmin]; omega) ?_
    walk_at "go"
    refine pw_cut (by walk_at "hk") (by walk_at "hk") (by walk_at "hk") (by omega) (by omega) (by simp [ic]; omega) ?_
    walk_at "go"
    refine cb_len_list (by walk_at "hk") (by simp [cut_eq, ic, hdl, hmin]; omega) ?_
    walk_at "go"
    refine ⟨_, Sub.refl _, h _ ((G ++ ic (B.take k)).drop (B.take k).length) (by walk_at "mv") (by simp [ic_len]) ⟨by walk_at "hk", some_rcd (by walk_at "hk") ?_, some_list (by walk_at "hk") ?_, ?_⟩⟩
    · simp [ic, hmin, hdl]; omega
    · have z := put_B (ic A) G (ic (B.take k)) (ic (B.drop k))
      have e1 : ic B = ic (B.take k) ++ ic (B.drop k) := by rw [← ic_app, List.take_append_drop]
      rw [← e1] at z
      rw [show (A ++ B).take (A.length + k) = A ++ B.take k by rw [List.take_append, List.take_of_length_le (by omega)]; simp, show (A ++ B).drop (A.length + k) = B.drop k by simp [List.drop_append], ic_app, show (B.take k).length = (ic (B.take k)).length by rw [ic_len], ← z]
      congr 1 <;> simp [ic, hmin, hdl] <;> omega
    · simp [ic_len, hmin, hdl]; omega
end

section
variable {S : Sta} {E : ES} {n : Nat} {F F' : List (Option AV)} {H H' : AH} {Q : AV → AH → Prop} {QN : List (Option AV) → AH → Prop} {QX : AFl → List (Option AV) → AH → Prop}
variable {g gx cl : Addr} {A : List Nat} {G : List AV} {B : List Nat}
theorem putIn_ins (X Y Z : List AV) (k : Nat) (hk : k = X.length) : putIn k k (X ++ Y) Z = X ++ Z ++ Y := by
  subst hk; simp [putIn]
theorem putIn_over (X Y Z C : List AV) (k m : Nat) (hk : k = X.length) (hm : m = k + C.length) (hY : C.length ≤ Y.length) : putIn k m (X ++ Y ++ Z) C = X ++ C ++ Y.drop C.length ++ Z := by
  subst hk hm
  rw [List.append_assoc X Y, putIn_gen0, List.drop_append_of_le_length hY, List.append_assoc X, List.append_assoc X, List.append_assoc C]
theorem cw_widen_gap {x : Int} {w : Nat} (hG : GapR H g gx cl A G B) (e : x = (w : Nat)) (hw : A.length + B.length + w + 8 ≤ 5000)
    (h : ∀ H' G', Mv pG H H' → w ≤ G'.length → GapR H' g gx cl A G' B → Q .none H') : CW S (.ref 578) (n + 1) [.ref g, .int x] Q H := by
  obtain ⟨b3, b4, b5, sz⟩ := hG
  subst e
  refine kw_fn [some _, some _, none] (k_GapText_widen_gap _) (c_GapText_widen_gap _) (b_GapText_widen_gap _) rfl rfl ?_
  walk_at "all"
  · have hh : G.length < w := by walk_at "ari"
    obtain ⟨d, rfl⟩ : ∃ d, w = G.length + d := ⟨w - G.length, by omega⟩
    refine ow_mull (AH.upd_self _ _ _) (by omega) (by omega) (by omega) fun a2 ha2 => ?_
    walk_at "go"
    refine pw_cut (by walk_at "hk") (by walk_at "hk") (by walk_at "hk") (by omega) (by omega) (by simp [ic]; omega) ?_
    walk_at "go"
    refine ⟨_, Sub.refl _, h _ (G ++ List.replicate (d + 8) (.int 0)) (by walk_at "mv") (by simp) ⟨by walk_at "hk", some_rcd (by walk_at "hk") ?_, some_list (by walk_at "hk") ?_, ?_⟩⟩
    · simp; omega
    · rw [putIn_ins _ _ _ _ (by simp [ic]; omega), ← List.append_assoc]
      congr 3; omega
    · simp; omega
  · refine ⟨_, Sub.refl _, ?_⟩
    exact h _ G (Mv.refl _) (by walk_at "ari") ⟨b3, b4, b5, sz⟩
theorem cw_ginsert {c : Addr} {C : List Nat} {x : Int} {i : Nat} (hG : GapR H g gx cl A G B) (hc : H c = some (.list 0 (ic C))) (e : x = (i : Nat)) (hi : i ≤ A.length + B.length) (hw : A.length + B.length + C.length + 8 ≤ 5000)
    (h : ∀ H' G', Mv pG H H' → GapR H' g gx cl ((A ++ B).take i ++ C) G' ((A ++ B).drop i) → Q .none H') : CW S (.ref 585) (n + 2) [.ref g, .int x, .ref c] Q H := by
  have hG' := hG
  obtain ⟨b3, b4, b5, sz⟩ := hG
  subst e
  refine kw_fn [some _, some _, some _, none] (k_GapText_insert _) (c_GapText_insert _) (b_GapText_insert _) rfl rfl ?_
  walk_at "go"
  refine cb_len_list hc (by simp [ic]; omega) ?_
  walk_at "go"
  refine cw_widen_gap hG' (w := C.length) (by simp [ic]) hw fun H1 G1 m1 hw1 hG1 => ?_
  have hc1 := m1 _ _ hc rfl
  obtain ⟨d3, d4, d5, dz⟩ := hG1
  walk_at "go"
  refine cw_move_gap ⟨d3, d4, d5, dz⟩ rfl hi fun H2 G2 m2 hw2 hG2 => ?_
  have hc2 := m2 _ _ hc1 rfl
  obtain ⟨e3, e4, e5, ez⟩ := hG2
  walk_at "go"
  refine cb_len_list (by walk_at "hk") (by simp [ic]; omega) ?_
  walk_at "go"
  refine pw_cut (by walk_at "hk") (by walk_at "hk") (by walk_at "hk") (by omega) (by omega) (by simp [ic] at ez ⊢; omega) ?_
  walk_at "go"
  refine cb_len_list (by walk_at "hk") (by simp [ic]; omega) ?_
  walk_at "go"
  have hm : Mv pG H H2 := m1.trans m2
  refine ⟨_, Sub.refl _, h _ (G2.drop C.length) (by walk_at "mv") ⟨by walk_at "hk", some_rcd (by walk_at "hk") ?_, some_list (by walk_at "hk") ?_, ?_⟩⟩
  · simp [ic_len] at ez ⊢; omega
  · rw [putIn_over _ _ _ _ _ _ (by simp [ic]; omega) (by simp [ic]; omega) (by simp [ic]; omega), ic_app, ic_len]
  · simp [ic_len] at ez ⊢; omega
theorem cw_gdelete {x y : Int} {i j : Nat} (hG : GapR H g gx cl A G B) (ex : x = (i : Nat)) (ey : y = (j : Nat)) (hij : i ≤ j) (hj : j ≤ A.length + B.length)
    (h : ∀ H' G' r, Mv pG H H' → GapR H' g gx cl ((A ++ B).take i) G' ((A ++ B).drop j) → Q (.ref r) H') : CW S (.ref 592) (n + 2) [.ref g, .int x, .int y] Q H := by
  subst ex ey
  have hmi : min i (A.length + B.length) = i := Nat.min_eq_left (Nat.le_trans hij hj)
  have hmj : min j (A.length + B.length) = j := Nat.min_eq_left hj
  obtain ⟨k, hk⟩ : ∃ k, j = i + k := ⟨j - i, (Nat.add_sub_cancel' hij).symm⟩
  obtain ⟨q, hq⟩ : ∃ q, A.length + B.length = j + q := ⟨_, (Nat.add_sub_cancel' hj).symm⟩
  have hji : j - i = k := by rw [hk, Nat.add_sub_cancel_left]
  have hNj : A.length + B.length - j = q := by rw [hq, Nat.add_sub_cancel_left]
  have hNi : A.length + B.length - i = k + q := by rw [hq, hk, Nat.add_assoc, Nat.add_sub_cancel_left]
  have hkk : min k (k + q) = k := Nat.min_eq_left (Nat.le_add_right _ _)
  refine kw_fn [some _, some _, some _, none] (k_GapText_delete _) (c_GapText_delete _) (b_GapText_delete _) rfl rfl ?_
  have hG' := hG
  obtain ⟨b3, b4, b5, sz⟩ := hG
  walk_at "go"
  refine cw_codes hG' rfl rfl hij hj fun r hr => ?_
  walk_at "all"
  · have hh : j < A.length := by walk_at "ari"
    refine cw_move_gap (A := A) (G := G) (B := B) ⟨by walk_at "hk", by walk_at "hk", by walk_at "hk", sz⟩ rfl hj fun H2 G2 m2 hw2 hG2 => ?_
    obtain ⟨e3, e4, e5, ez⟩ := hG2
    walk_at "all"
    · exfalso; simp only [List.length_take, List.length_append, hmj] at *; walk_at "ari"
    · have hm : Mv pG H H2 := (Mv.fr (Mv.refl _) hr).trans m2
      refine ⟨_, Sub.refl _, h _ (ic (cutN i j (A ++ B)) ++ G2) r (by walk_at "mv") ⟨by walk_at "hk", some_rcd (by walk_at "hk") ?_, some_list (by walk_at "hk") ?_, ?_⟩⟩
      · simp [ic_len, cutN, hmi, hmj, hji, hNj] at ez ⊢; omega
      · have z : (A ++ B).take j = (A ++ B).take i ++ cutN i j (A ++ B) := by
          refine (List.take_append_drop i ((A ++ B).take j)).symm.trans ?_
          rw [List.take_take, Nat.min_eq_left hij]; rfl
        rw [z, ic_app]; simp
      · simp [ic_len, cutN, hmi, hmj, hji, hNj] at ez ⊢; omega
  · have hh : A.length < i := by walk_at "ari"
    refine cw_move_gap (A := A) (G := G) (B := B) ⟨by walk_at "hk", by walk_at "hk", by walk_at "hk", sz⟩ rfl (by omega) fun H2 G2 m2 hw2 hG2 => ?_
    obtain ⟨e3, e4, e5, ez⟩ := hG2
    walk_at "go"
    have hm : Mv pG H H2 := (Mv.fr (Mv.refl _) hr).trans m2
    refine ⟨_, Sub.refl _, h _ (G2 ++ ic (((A ++ B).drop i).take (j - i))) r (by walk_at "mv") ⟨by walk_at "hk", some_rcd (by walk_at "hk") ?_, some_list (by walk_at "hk") ?_, ?_⟩⟩
    · simp [ic_len, hmi, hji, hNi, hNj, hkk] at ez ⊢; omega
    · have z : (A ++ B).drop i = ((A ++ B).drop i).take (j - i) ++ (A ++ B).drop j := by
        conv => lhs; rw [← List.take_append_drop (j - i) ((A ++ B).drop i)]
        rw [List.drop_drop, show i + (j - i) = j by omega]
      conv => lhs; rw [z]
      rw [ic_app]; simp
    · simp [ic_len, hmi, hji, hNi, hNj, hkk] at ez ⊢; omega
  · have hh : i ≤ A.length := by walk_at "ari"
    have hh2 : A.length ≤ j := by walk_at "ari"
    obtain ⟨p, hp⟩ : ∃ p, A.length = i + p := ⟨_, (Nat.add_sub_cancel' hh).symm⟩
    obtain ⟨u, hu⟩ : ∃ u, j = A.length + u := ⟨_, (Nat.add_sub_cancel' hh2).symm⟩
    have hAi : A.length - i = p := by rw [hp, Nat.add_sub_cancel_left]
    have hjA : j - A.length = u := by rw [hu, Nat.add_sub_cancel_left]
    have huB : min u B.length = u := Nat.min_eq_left (by omega)
    have hm : Mv pG H (H.upd r (.list 0 (ic (cutN i j (A ++ B))))) := Mv.fr (Mv.refl _) hr
    refine ⟨_, Sub.refl _, h _ (ic (A.drop i) ++ G ++ ic (B.take (j - A.length))) r (by walk_at "mv") ⟨by walk_at "hk", some_rcd (by walk_at "hk") ?_, some_list (by walk_at "hk") ?_, ?_⟩⟩
    · simp [ic_len, hmi, hAi, hjA, huB, hNj]; omega
    · rw [List.take_append_of_le_length hh, List.drop_append, List.drop_eq_nil_of_le hh2]
      have z1 : ic A = ic (A.take i) ++ ic (A.drop i) := by rw [← ic_app, List.take_append_drop]
      have z2 : ic B = ic (B.take (j - A.length)) ++ ic (B.drop (j - A.length)) := by rw [← ic_app, List.take_append_drop]
      conv => lhs; rw [z1, z2]
      simp
    · simp [ic_len, hmi, hAi, hjA, huB, hNj]; omega
end

section
variable {S : Sta} {E : ES} {n : Nat} {F F' : List (Option AV)} {H H' : AH} {Q : AV → AH → Prop} {QN : List (Option AV) → AH → Prop} {QX : AFl → List (Option AV) → AH → Prop}
structure BufZ (H : AH) (b dx g gx cl mk mx mr ls : Addr) (nu na ma li ct sv : AV) (ti : Int) (A : List Nat) (G : List AV) (B : List Nat) (pt zv : Int) : Prop where
  b1 : H b = some (.inst 827 dx)
  b2 : H dx = some (.rcd 1 at_Buffer [some nu, some na, some (.ref g), some (.ref mk), some (.int pt), some (.int 1), some (.int zv), some ma, some li, some (.bool false), some (.int ti), some ct, some sv, some (.ref ls), some .none, some .none, some .none, some .none, some .none, some .none])
  b3 : H g = some (.inst 616 gx)
  b4 : H gx = some (.rcd 11 at_GapText [some (.int 8), some (.ref cl), some (.int (A.length : Nat)), some (.int (A.length + G.length : Nat))])
  b5 : H cl = some (.list 1 (ic A ++ G ++ ic B))
  b6 : H mk = some (.inst 686 mx)
  b7 : H mx = some (.rcd 7 at_Markers [some (.ref mr)])
  b8 : H mr = some (.idict 7 [])
  b9 : H ls = some (.list 0 [])
  sz : A.length + G.length + B.length ≤ 5000
inductive BufS (H : AH) (b : Addr) (T : List Nat) (pt zv : Int) : Prop
  | mk (dx g gx cl mk mx mr ls : Addr) (nu na ma li ct sv : AV) (ti : Int) (A : List Nat) (G : List AV) (B : List Nat) (z : BufZ H b dx g gx cl mk mx mr ls nu na ma li ct sv ti A G B pt zv) (e : T = A ++ B ∧ (ct.plain = true ∧ sv.plain = true ∧ nu.plain = true ∧ na.plain = true))
variable {b : Addr} {T : List Nat} {pt zv : Int}
theorem BufS.sub (h : BufS H b T pt zv) (m : Sub H H') : BufS H' b T pt zv := by
  obtain ⟨dx, g, gx, cl, mk, mx, mr, ls, nu, na, ma, li, ct, sv, ti, A, G, B, ⟨b1, b2, b3, b4, b5, b6, b7, b8, b9, sz⟩, e⟩ := h
  exact ⟨dx, g, gx, cl, mk, mx, mr, ls, nu, na, ma, li, ct, sv, ti, A, G, B, ⟨m _ _ b1, m _ _ b2, m _ _ b3, m _ _ b4, m _ _ b5, m _ _ b6, m _ _ b7, m _ _ b8, m _ _ b9, sz⟩, e⟩
theorem cw_need_writable (hB : BufS H b T pt zv) (h : Q .none H) : CW S (.ref 227) (n + 1) [.ref b] Q H := by
  obtain ⟨dx, g, gx, cl, mk, mx, mr, ls, nu, na, ma, li, ct, sv, ti, A, G, B, ⟨b1, b2, b3, b4, b5, b6, b7, b8, b9, sz⟩, e, pls⟩ := hB
  refine kw_fn [some _, none] (k_need_writable _) (c_need_writable _) (b_need_writable _) rfl rfl ?_
  walk_at "go"
  exact ⟨_, Sub.refl _, h⟩
theorem cw_reached {x y : Int} (hB : BufS H b T pt zv) (h1 : 1 ≤ x) (h2 : x ≤ y) (h3 : y ≤ zv) (h : ∀ t, H t = none → Q (.ref t) (H.upd t (.tuple [.int x, .int y]))) : CW S (.ref 234) (n + 1) [.ref b, .int x, .int y] Q H := by
  obtain ⟨dx, g, gx, cl, mk, mx, mr, ls, nu, na, ma, li, ct, sv, ti, A, G, B, ⟨b1, b2, b3, b4, b5, b6, b7, b8, b9, sz⟩, e, pls⟩ := hB
  refine kw_fn [some _, some _, some _, none, none, none, none, none] (k_reached _) (c_reached _) (b_reached _) rfl rfl ?_
  walk_at "mw"
  refine kw_swap ["low", "high"] ?_ (by intro env h; cases env; subst h; rfl)
  walk_at "go"
  refine cb_min ?_
  walk_at "go"
  refine cb_max ?_
  walk_at "go"
  rename_i t1 ht1
  refine ⟨[some (.ref b), some (.int x), some (.int y), some (.int (min x y)), some (.int (max x y)), none, none, none], ⟨_, ⟨_, rfl, by walk_at "np"⟩, by walk_at "np"⟩, ?_⟩
  rw [Int.min_eq_left h2, Int.max_eq_right h2]
  refine SW.forget (H := H) ?_ (by walk_at "sub")
  walk_at "go"
  refine if_f (by simp; omega) ?_
  walk_at "go"
  refine if_f (by simp; omega) ?_
  walk_at "go"
  rename_i t ht
  exact ⟨_, Sub.refl _, h _ ht⟩
theorem cw_tell_ahead {x y : AV} (hB : BufS H b T pt zv) (h : Q .none H) : CW S (.ref 241) (n + 1) [.ref b, x, y] Q H := by
  obtain ⟨dx, g, gx, cl, mk, mx, mr, ls, nu, na, ma, li, ct, sv, ti, A, G, B, ⟨b1, b2, b3, b4, b5, b6, b7, b8, b9, sz⟩, e, pls⟩ := hB
  refine kw_fn [some _, some _, some _, none, none] (k_tell_ahead _) (c_tell_ahead _) (b_tell_ahead _) rfl rfl ?_
  walk_at "go"
  refine cb_list b9 (by simp) fun a ha => ?_
  refine ⟨_, _, iw_list (AH.upd_self _ _ _), ?_⟩
  show SW _ _ _ _ _ _ _ _
  walk_at "go"
  exact ⟨_, (Sub.refl _).upd ha, h⟩
theorem cw_touch (hB : BufS H b T pt zv) (h : ∀ H', Mv pB H H' → BufS H' b T pt zv → Q .none H') : CW S (.ref 824) (n + 1) [.ref b, .bool true] Q H := by
  obtain ⟨dx, g, gx, cl, mk, mx, mr, ls, nu, na, ma, li, ct, sv, ti, A, G, B, ⟨b1, b2, b3, b4, b5, b6, b7, b8, b9, sz⟩, e, pls⟩ := hB
  refine kw_fn [some _, some _] (k_Buffer_touch _) (c_Buffer_touch _) (b_Buffer_touch _) rfl rfl ?_
  walk_at "go"
  refine ⟨_, Sub.refl _, h _ (by walk_at "mv") ⟨dx, g, gx, cl, mk, mx, mr, ls, _, _, _, _, _, _, _, A, G, B, ⟨by walk_at "hk", by walk_at "hk", by walk_at "hk", by walk_at "hk", by walk_at "hk", by walk_at "hk", by walk_at "hk", by walk_at "hk", by walk_at "hk", sz⟩, e, ?_⟩⟩
  exact ⟨rfl, pls.2⟩
theorem cw_tell_behind {x y z : AV} (hB : BufS H b T pt zv) (h : ∀ H', Mv pB H H' → BufS H' b T pt zv → Q .none H') : CW S (.ref 248) (n + 2) [.ref b, x, y, z] Q H := by
  have hB' := hB
  obtain ⟨dx, g, gx, cl, mk, mx, mr, ls, nu, na, ma, li, ct, sv, ti, A, G, B, ⟨b1, b2, b3, b4, b5, b6, b7, b8, b9, sz⟩, e, pls⟩ := hB
  refine kw_fn [some _, some _, some _, some _, none, none] (k_tell_behind _) (c_tell_behind _) (b_tell_behind _) rfl rfl ?_
  walk_at "go"
  refine cw_touch hB' fun H1 m1 hB1 => ?_
  have hB1' := hB1
  obtain ⟨dx, g, gx, cl, mk, mx, mr, ls, nu, na, ma, li, ct, sv, ti, A, G, B, ⟨b1, b2, b3, b4, b5, b6, b7, b8, b9, sz⟩, e, pls⟩ := hB1
  walk_at "go"
  refine cb_list b9 (by simp) fun a ha => ?_
  refine ⟨_, _, iw_list (AH.upd_self _ _ _), ?_⟩
  show SW _ _ _ _ _ _ _ _
  walk_at "go"
  exact ⟨_, (Sub.refl _).upd ha, h _ m1 hB1'⟩
theorem cw_hung_out {x y : AV} (hB : BufS H b T pt zv) (h : Q .none H) : CW S (.ref 269) (n + 1) [.ref b, x, y] Q H := by
  obtain ⟨dx, g, gx, cl, mk, mx, mr, ls, nu, na, ma, li, ct, sv, ti, A, G, B, ⟨b1, b2, b3, b4, b5, b6, b7, b8, b9, sz⟩, e, pls⟩ := hB
  refine kw_fn [some _, some _, some _] (k_hung_out _) (c_hung_out _) (b_hung_out _) rfl rfl ?_
  walk_at "go"
  exact ⟨_, Sub.refl _, h⟩
theorem cw_hung_in {x y z : AV} (hB : BufS H b T pt zv) (h : Q .none H) : CW S (.ref 276) (n + 1) [.ref b, x, y, z] Q H := by
  obtain ⟨dx, g, gx, cl, mk, mx, mr, ls, nu, na, ma, li, ct, sv, ti, A, G, B, ⟨b1, b2, b3, b4, b5, b6, b7, b8, b9, sz⟩, e, pls⟩ := hB
  refine kw_fn [some _, some _, some _, some _] (k_hung_in _) (c_hung_in _) (b_hung_in _) rfl rfl ?_
  walk_at "go"
  exact ⟨_, Sub.refl _, h⟩
theorem cw_numbers {mk mx mr : Addr} (b6 : H mk = some (.inst 686 mx)) (b7 : H mx = some (.rcd 7 at_Markers [some (.ref mr)])) (b8 : H mr = some (.idict 7 [])) (h : ∀ r, H r = none → Q (.ref r) (H.upd r (.list 0 []))) : CW S (.ref 641) (n + 1) [.ref mk] Q H := by
  refine kw_fn [some _, none] (k_Markers_numbers _) (c_Markers_numbers _) (b_Markers_numbers _) rfl rfl ?_
  walk_at "go"
  refine cb_sorted0 b8 fun r hr => ?_
  exact ⟨_, Sub.refl _, h r hr⟩
theorem cw_inserted {mk mx mr : Addr} {x y z : AV} (b6 : H mk = some (.inst 686 mx)) (b7 : H mx = some (.rcd 7 at_Markers [some (.ref mr)])) (b8 : H mr = some (.idict 7 [])) (h : Q .none H) : CW S (.ref 669) (n + 2) [.ref mk, x, y, z] Q H := by
  refine kw_fn [some _, some _, some _, some _, none, none] (k_Markers_inserted _) (c_Markers_inserted _) (b_Markers_inserted _) rfl rfl ?_
  walk_at "go"
  refine cw_numbers b6 b7 b8 fun a ha => ?_
  refine ⟨_, _, iw_list (AH.upd_self _ _ _), ?_⟩
  show SW _ _ _ _ _ _ _ _
  walk_at "go"
  exact ⟨_, (Sub.refl _).upd ha, h⟩
theorem cw_replaced {mk mx mr : Addr} {x y z : AV} (b6 : H mk = some (.inst 686 mx)) (b7 : H mx = some (.rcd 7 at_Markers [some (.ref mr)])) (b8 : H mr = some (.idict 7 [])) (h : Q .none H) : CW S (.ref 683) (n + 2) [.ref mk, x, y, z] Q H := by
  refine kw_fn [some _, some _, some _, some _, none, none] (k_Markers_replaced _) (c_Markers_replaced _) (b_Markers_replaced _) rfl rfl ?_
  walk_at "go"
  refine cw_numbers b6 b7 b8 fun a ha => ?_
  refine ⟨_, _, iw_list (AH.upd_self _ _ _), ?_⟩
  show SW _ _ _ _ _ _ _ _
  walk_at "go"
  exact ⟨_, (Sub.refl _).upd ha, h⟩
end

section
variable {S : Sta} {E : ES} {n : Nat} {F F' : List (Option AV)} {H H' : AH} {Q : AV → AH → Prop} {QN : List (Option AV) → AH → Prop} {QX : AFl → List (Option AV) → AH → Prop}
variable {b : Addr} {T : List Nat} {pt zv : Int}
theorem cw_text_out {x y : Int} {i j : Nat} (hB : BufS H b T pt zv) (ex : x = (i : Nat) + 1) (ey : y = (j : Nat) + 1) (hij : i ≤ j) (hj : j ≤ T.length)
    (h : ∀ H' r pt', Mv pB H H' → BufS H' b (T.take i ++ T.drop j) pt' (zv - (y - x)) → Q (.ref r) H') : CW S (.ref 255) (n + 3) [.ref b, .int x, .int y] Q H := by
  obtain ⟨dx, g, gx, cl, mk, mx, mr, ls, nu, na, ma, li, ct, sv, ti, A, G, B, ⟨b1, b2, b3, b4, b5, b6, b7, b8, b9, sz⟩, e, pls⟩ := hB
  subst e
  refine kw_fn [some _, some _, some _, none, none] (k_text_out _) (c_text_out _) (b_text_out _) rfl rfl ?_
  walk_at "go"
  refine cw_gdelete ⟨b3, b4, b5, sz⟩ (i := i) (j := j) (by omega) (by omega) hij (by simpa using hj) fun H1 G1 r m1 hG1 => ?_
  obtain ⟨d3, d4, d5, dz⟩ := hG1
  replace b1 := m1 _ _ b1 rfl
  replace b2 := m1 _ _ b2 rfl
  replace b6 := m1 _ _ b6 rfl
  replace b7 := m1 _ _ b7 rfl
  replace b8 := m1 _ _ b8 rfl
  replace b9 := m1 _ _ b9 rfl
  have hm := pGB m1
  clear b3 b4 b5
  walk_at "all"
  · refine cb_max ?_
    walk_at "go"
    refine ⟨_, Sub.refl _, h _ r _ (by walk_at "mv") ⟨dx, g, gx, cl, mk, mx, mr, ls, _, _, _, _, _, _, _, _, G1, _, ⟨by walk_at "hk", by walk_at "hk", by walk_at "hk", by walk_at "hk", by walk_at "hk", by walk_at "hk", by walk_at "hk", by walk_at "hk", by walk_at "hk", dz⟩, rfl, pls⟩⟩
  · refine ⟨_, Sub.refl _, h _ r _ (by walk_at "mv") ⟨dx, g, gx, cl, mk, mx, mr, ls, _, _, _, _, _, _, _, _, G1, _, ⟨by walk_at "hk", by walk_at "hk", by walk_at "hk", by walk_at "hk", by walk_at "hk", by walk_at "hk", by walk_at "hk", by walk_at "hk", by walk_at "hk", dz⟩, rfl, pls⟩⟩
theorem cw_text_in {c : Addr} {C : List Nat} {x : Int} {i : Nat} (hB : BufS H b T pt zv) (hc : H c = some (.list 0 (ic C))) (ex : x = (i : Nat) + 1) (hi : i ≤ T.length) (hw : T.length + C.length + 8 ≤ 5000)
    (h : ∀ H' pt', Mv pB H H' → BufS H' b (T.take i ++ C ++ T.drop i) pt' (zv + (C.length : Nat)) → Q .none H') : CW S (.ref 262) (n + 3) [.ref b, .int x, .ref c] Q H := by
  obtain ⟨dx, g, gx, cl, mk, mx, mr, ls, nu, na, ma, li, ct, sv, ti, A, G, B, ⟨b1, b2, b3, b4, b5, b6, b7, b8, b9, sz⟩, e, pls⟩ := hB
  subst e
  refine kw_fn [some _, some _, some _, none] (k_text_in _) (c_text_in _) (b_text_in _) rfl rfl ?_
  walk_at "go"
  refine cw_ginsert ⟨b3, b4, b5, sz⟩ hc (i := i) (by omega) (by simpa using hi) (by simpa using hw) fun H1 G1 m1 hG1 => ?_
  obtain ⟨d3, d4, d5, dz⟩ := hG1
  replace b1 := m1 _ _ b1 rfl
  replace b2 := m1 _ _ b2 rfl
  replace b6 := m1 _ _ b6 rfl
  replace b7 := m1 _ _ b7 rfl
  replace b8 := m1 _ _ b8 rfl
  replace b9 := m1 _ _ b9 rfl
  replace hc := m1 _ _ hc rfl
  have hm := pGB m1
  clear b3 b4 b5
  have hcl : C.length < 2 ^ 60 := by omega
  walk_at "go"
  refine cb_len_list hc (by rw [ic_len]; exact hcl) ?_
  walk_at "all"
  · refine cb_len_list (by walk_at "hk") (by rw [ic_len]; exact hcl) ?_
    walk_at "go"
    rw [ic_len]
    refine ⟨_, Sub.refl _, h _ _ (by walk_at "mv") ⟨dx, g, gx, cl, mk, mx, mr, ls, _, _, _, _, _, _, _, _, G1, _, ⟨by walk_at "hk", by walk_at "hk", by walk_at "hk", by walk_at "hk", by walk_at "hk", by walk_at "hk", by walk_at "hk", by walk_at "hk", by walk_at "hk", dz⟩, rfl, pls⟩⟩
  · rw [ic_len]
    refine ⟨_, Sub.refl _, h _ _ (by walk_at "mv") ⟨dx, g, gx, cl, mk, mx, mr, ls, _, _, _, _, _, _, _, _, G1, _, ⟨by walk_at "hk", by walk_at "hk", by walk_at "hk", by walk_at "hk", by walk_at "hk", by walk_at "hk", by walk_at "hk", by walk_at "hk", by walk_at "hk", dz⟩, rfl, pls⟩⟩
theorem SW.go {st : List Stmt} {F : List (Option AV)} {H : AH} {P : AH → Prop} (p : P H) (h : ∀ H, P H → SW S E n st QN QX F H) : SW S E n st QN QX F H := h H p
theorem cw_put_in {c : Addr} {C : List Nat} {x : Int} {i : Nat} (hB : BufS H b T pt zv) (hc : H c = some (.list 0 (ic C))) (ex : x = (i : Nat) + 1) (hi : i ≤ T.length) (hzv : zv = (T.length : Nat) + 1) (hw : T.length + C.length + 8 ≤ 5000)
    (h : ∀ H' pt', Mv pB H H' → BufS H' b (T.take i ++ C ++ T.drop i) pt' (zv + (C.length : Nat)) → Q .none H') : CW S (.ref 283) (n + 4) [.ref b, .int x, .ref c, .bool false, .bool false] Q H := by
  have hcl : C.length < 2 ^ 60 := by omega
  refine kw_fn [some _, some _, some _, some _, some _, none, none, none, none, none, none, none] (k_put_in _) (c_put_in _) (b_put_in _) rfl rfl ?_
  walk_at "go"
  refine cw_need_writable hB ?_
  walk_at "go"
  refine cw_reached hB (by omega) (by omega) (by omega) fun t ht => ?_
  refine SW.forget (H := H) ?_ (by walk_at "sub")
  walk_at "go"
  refine cb_len_list hc (by rw [ic_len]; exact hcl) ?_
  rw [ic_len]
  walk_at "all"
  · rename_i h0
    have hC : C = [] := by simpa using h0
    subst hC
    refine ⟨_, Sub.refl _, h H pt (Mv.refl _) ?_⟩
    simpa using hB
  · refine cw_tell_ahead hB ?_
    walk_at "go"
    refine cw_text_in hB hc ex hi hw fun H1 pt1 m1 hB1 => ?_
    replace hc := m1 _ _ hc rfl
    have hB1' := hB1
    obtain ⟨dx, g, gx, cl, mk, mx, mr, ls, nu, na, ma, li, ct, sv, ti, A, G, B, ⟨b1, b2, b3, b4, b5, b6, b7, b8, b9, sz⟩, e, pls⟩ := hB1
    walk_at "go"
    refine cb_len_list hc (by rw [ic_len]; exact hcl) ?_
    walk_at "go"
    refine cw_inserted b6 b7 b8 ?_
    walk_at "go"
    refine cb_len_list hc (by rw [ic_len]; exact hcl) ?_
    walk_at "go"
    refine cw_hung_in hB1' ?_
    walk_at "go"
    refine cb_len_list hc (by rw [ic_len]; exact hcl) ?_
    walk_at "go"
    refine cw_tell_behind hB1' fun H2 m2 hB2 => ?_
    walk_at "go"
    exact ⟨_, Sub.refl _, h _ _ (m1.trans m2) hB2⟩
theorem cw_insert_at {c : Addr} {C : List Nat} {x : Int} {i : Nat} (hB : BufS H b T pt zv) (hc : H c = some (.list 0 (ic C))) (ex : x = (i : Nat) + 1) (hi : i ≤ T.length) (hzv : zv = (T.length : Nat) + 1) (hw : T.length + C.length + 8 ≤ 5000)
    (h : ∀ H' pt', Mv pB H H' → BufS H' b (T.take i ++ C ++ T.drop i) pt' (zv + (C.length : Nat)) → Q .none H') : CW S (.ref 291) (n + 5) [.ref b, .int x, .ref c] Q H := by
  refine kw_fn [some _, some _, some _, some _, none] (k_insert_at _) (c_insert_at _) (b_insert_at3 _) rfl rfl ?_
  walk_at "go"
  refine cw_put_in hB hc ex hi hzv hw fun H' pt' m hB' => ?_
  walk_at "go"
  exact ⟨_, Sub.refl _, h _ _ m hB'⟩
theorem cw_replace {c : Addr} {C : List Nat} {x y : Int} {i j : Nat} (hB : BufS H b T pt zv) (hc : H c = some (.list 0 (ic C))) (ex : x = (i : Nat) + 1) (ey : y = (j : Nat) + 1) (hij : i < j) (hj : j ≤ T.length) (hC : C ≠ []) (hzv : zv = (T.length : Nat) + 1) (hw : T.length + C.length + 8 ≤ 5000)
    (h : ∀ H' v pt', Mv pB H H' → BufS H' b (T.take i ++ C ++ T.drop j) pt' (zv - (y - x) + (C.length : Nat)) → Q v H') : CW S (.ref 305) (n + 4) [.ref b, .int x, .int y, .ref c] Q H := by
  have hcl : C.length < 2 ^ 60 := by omega
  have hC0 : 0 < C.length := List.length_pos_iff.mpr hC
  refine kw_fn [some _, some _, some _, some _, none, none, none, none, none, none, none, none, none, none, none, none, none, none, none] (k_replace _) (c_replace _) (b_replace _) rfl rfl ?_
  walk_at "go"
  refine cw_need_writable hB ?_
  walk_at "go"
  refine cw_reached hB (by omega) (by omega) (by omega) fun t ht => ?_
  walk_at "mw"
  walk_at "mw"
  walk_at "mw"
  walk_at "mw"
  walk_at "mw"
  walk_at "mw"
  refine SW.forget (H := H) ?_ (by walk_at "sub")
  walk_at "go"
  refine if_f (by simp; omega) ?_
  walk_at "go"
  refine cb_len_list hc (by rw [ic_len]; exact hcl) ?_
  rw [ic_len]
  walk_at "go"
  refine if_f (by simp; omega) ?_
  have hB0 := hB
  obtain ⟨dx, g, gx, cl, mk, mx, mr, ls, nu, na, ma, li, ct, sv, ti, A, G, B, ⟨b1, b2, b3, b4, b5, b6, b7, b8, b9, sz⟩, e, pls⟩ := hB
  walk_at "go"
  refine cw_tell_ahead hB0 ?_
  walk_at "go"
  refine cw_text_out hB0 ex ey (by omega) hj fun H1 r pt1 m1 hB1 => ?_
  replace hc := m1 _ _ hc rfl
  walk_at "go"
  refine cw_text_in hB1 hc ex (by simp; omega) (by simp; omega) fun H2 pt2 m2 hB2 => ?_
  replace hc := m2 _ _ hc rfl
  clear b1 b2 b3 b4 b5 b6 b7 b8 b9
  have e2 : List.take i (List.take i T ++ List.drop j T) ++ C ++ List.drop i (List.take i T ++ List.drop j T) = T.take i ++ C ++ T.drop j := by
    rw [List.take_append_of_le_length (by simp; omega), List.drop_append_of_le_length (by simp; omega)]
    simp [List.take_take, List.drop_take]
  rw [e2] at hB2
  have hm : Mv pB H H2 := m1.trans m2
  have hB2' := hB2
  obtain ⟨dx, g, gx, cl, mk, mx, mr, ls, nu, na, ma, li, ct, sv, ti, A, G, B, ⟨b1, b2, b3, b4, b5, b6, b7, b8, b9, sz⟩, e, pls⟩ := hB2
  walk_at "all"
  all_goals refine cb_len_list (by walk_at "hk") (by rw [ic_len]; exact hcl) ?_
  · walk_at "go"
    refine cb_len_list (by walk_at "hk") (by rw [ic_len]; exact hcl) ?_
    walk_at "go"
    refine cw_replaced (by walk_at "hk") (by walk_at "hk") (by walk_at "hk") ?_
    have hB3 : BufS (H2.upd dx (.rcd 1 at_Buffer [some nu, some na, some (.ref g), some (.ref mk), some (.int (pt + ((ic C).length : Nat) - (y - x))), some (.int 1), some (.int (zv - (y - x) + (C.length : Nat))), some ma, some li, some (.bool false), some (.int ti), some ct, some sv, some (.ref ls), some .none, some .none, some .none, some .none, some .none, some .none])) b (T.take i ++ C ++ T.drop j) (pt + ((ic C).length : Nat) - (y - x)) (zv - (y - x) + (C.length : Nat)) := ⟨dx, g, gx, cl, mk, mx, mr, ls, _, _, _, _, _, _, _, A, G, B, ⟨by walk_at "hk", by walk_at "hk", by walk_at "hk", by walk_at "hk", by walk_at "hk", by walk_at "hk", by walk_at "hk", by walk_at "hk", by walk_at "hk", sz⟩, e, pls⟩
    have hm3 : Mv pB H (H2.upd dx (.rcd 1 at_Buffer [some nu, some na, some (.ref g), some (.ref mk), some (.int (pt + ((ic C).length : Nat) - (y - x))), some (.int 1), some (.int (zv - (y - x) + (C.length : Nat))), some ma, some li, some (.bool false), some (.int ti), some ct, some sv, some (.ref ls), some .none, some .none, some .none, some .none, some .none, some .none])) := by walk_at "mv"
    walk_at "go"
    refine cw_hung_out hB3 ?_
    walk_at "go"
    refine cb_len_list (by walk_at "hk") (by rw [ic_len]; exact hcl) ?_
    walk_at "go"
    refine cw_hung_in hB3 ?_
    walk_at "go"
    refine cb_len_list (by walk_at "hk") (by rw [ic_len]; exact hcl) ?_
    walk_at "go"
    refine cw_tell_behind hB3 fun H4 m4 hB4 => ?_
    walk_at "go"
    exact ⟨_, Sub.refl _, h _ _ _ (hm3.trans m4) hB4⟩
  · walk_at "go"
    refine cw_replaced (by walk_at "hk") (by walk_at "hk") (by walk_at "hk") ?_
    have hB3 : BufS H2 b (T.take i ++ C ++ T.drop j) pt2 (zv - (y - x) + (C.length : Nat)) := ⟨dx, g, gx, cl, mk, mx, mr, ls, _, _, _, _, _, _, _, A, G, B, ⟨by walk_at "hk", by walk_at "hk", by walk_at "hk", by walk_at "hk", by walk_at "hk", by walk_at "hk", by walk_at "hk", by walk_at "hk", by walk_at "hk", sz⟩, e, pls⟩
    have hm3 : Mv pB H H2 := by walk_at "mv"
    walk_at "go"
    refine cw_hung_out hB3 ?_
    walk_at "go"
    refine cb_len_list (by walk_at "hk") (by rw [ic_len]; exact hcl) ?_
    walk_at "go"
    refine cw_hung_in hB3 ?_
    walk_at "go"
    refine cb_len_list (by walk_at "hk") (by rw [ic_len]; exact hcl) ?_
    walk_at "go"
    refine cw_tell_behind hB3 fun H4 m4 hB4 => ?_
    walk_at "go"
    exact ⟨_, Sub.refl _, h _ _ _ (hm3.trans m4) hB4⟩
end

section
variable {S : Sta} {E : ES} {n : Nat} {F F' : List (Option AV)} {H H' : AH} {Q : AV → AH → Prop} {QN : List (Option AV) → AH → Prop} {QX : AFl → List (Option AV) → AH → Prop}
theorem SynR.sub {a dx r sy sx : Addr} {kvs : List (Int × AV)} {fl : Str} (h : SynR H a dx r sy sx kvs fl) (m : Sub H H') : SynR H' a dx r sy sx kvs fl := ⟨m _ _ h.h1, m _ _ h.h2, m _ _ h.h3, h.h4, m _ _ h.h5, m _ _ h.h6⟩
theorem SynT.sub {a : Addr} (h : SynT H a) (m : Sub H H') : SynT H' a := by obtain ⟨dx, r, sy, sx, kvs, fl, h⟩ := h; exact ⟨dx, r, sy, sx, kvs, fl, h.sub m⟩
noncomputable def keyS (T : List Nat) : Str := Txt.join "," (T.map fun (c : Nat) => Str.ofString (toString (c : Int)))
noncomputable def Sm (T : List Nat) : Prop := T.length ≤ 1000 ∧ ∀ c ∈ T, c < 128
theorem dig_len : ∀ c < 128, (Str.ofString (toString ((c : Nat) : Int))).length ≤ 3 := by decide +kernel
noncomputable def fStr : AV → Option AV
  | .int i => some (.str (Str.ofString (toString i)))
  | _ => none
theorem fm_str (T : List Nat) : (ic T).filterMap fStr = (T.map fun (c : Nat) => Str.ofString (toString (c : Int))).map AV.str := by
  induction T with
  | nil => rfl
  | cons c T ih => simp only [ic, List.map_cons, List.filterMap_cons, fStr] at ih ⊢; rw [ih]
theorem cw_key_of {l : Addr} {T : List Nat} (hl : H l = some (.list 0 (ic T))) (hs : Sm T) (h : Q (.str (keyS T)) H) : CW S (.ref 113) (n + 1) [.ref l] Q H := by
  refine kw_fn [some _] (k_key_of _) (c_key_of _) (b_key_of _) rfl rfl ?_
  walk_at "go"
  refine ew_comp1 [] [(".0", .local), ("code", .local), ("str", .globalImplicit)] (by kernel_rfl) (fun u => [none, u, none]) rfl (fun _ _ => .there .here) fStr (by intro _ _; rfl) (by kernel_rfl) (by kernel_rfl) (by kernel_rfl) (by kernel_rfl) ?_
  iterate 1 walk_at "mw"
  refine ⟨_, _, ?_, iw_list hl, ?_, fun d hd => ?_⟩
  · rw [ic_len]; have := hs.1; omega
  · intro v hv
    obtain ⟨c, hc, rfl⟩ := ic_mem hv
    refine ifs0 ?_
    walk_at "go"
    refine cb_str (by have := hs.2 c hc; omega) ?_
    exact ⟨rfl, rfl⟩
  · walk_at "go"
    rw [fm_str]
    refine cb_join (AH.upd_self _ _ _) ?_ ?_
    · have h3 : ∀ (L : List Nat), (∀ c ∈ L, c < 128) → ((L.map fun (c : Nat) => Str.ofString (toString (c : Int))).map (·.length)).sum ≤ 3 * L.length := by
        intro L
        induction L with
        | nil => simp
        | cons c L ih =>
          intro hL
          have a := dig_len c (hL c (.head _))
          have b := ih fun c hc => hL c (.tail _ hc)
          simp only [List.map_cons, List.sum_cons, List.length_cons] at b ⊢
          omega
      have := h3 T hs.2
      have h1 := hs.1
      have e1 : (Str.ofString ",").length = 1 := by decide +kernel
      rw [e1, List.length_map]; omega
    · exact ⟨_, (Sub.refl _).upd hd, h⟩
noncomputable def fFil (p : Nat → Bool) : AV → Option AV
  | .int i => if p i.toNat then some (.int i) else none
  | _ => none
theorem fm_fil (p : Nat → Bool) (T : List Nat) : (ic T).filterMap (fFil p) = ic (T.filter p) := by
  induction T with
  | nil => rfl
  | cons c T ih =>
    simp only [ic, List.map_cons, List.filterMap_cons, fFil, Int.toNat_natCast, List.filter_cons] at ih ⊢
    by_cases hp : p c = true <;> simp [hp, ih]
theorem filter_any (p : Nat → Bool) (T : List Nat) : decide ((0 : Int) < ((ic (T.filter p)).length : Nat)) = T.any p := by
  rw [ic_len, Bool.eq_iff_iff]
  simp only [decide_eq_true_eq, List.any_eq_true]
  rw [show ((0 : Int) < ((T.filter p).length : Nat)) ↔ 0 < (T.filter p).length by omega, List.length_pos_iff_exists_mem]
  simp
theorem cw_has_upper {l : Addr} {T : List Nat} (hl : H l = some (.list 0 (ic T))) (hs : T.length ≤ 1000) (h : Q (.bool (T.any fun c => dnN c != c)) H) : CW S (.ref 167) (n + 3) [.ref l] Q H := by
  refine kw_fn [some _, none] (k_has_upper _) (c_has_upper _) (b_has_upper _) rfl rfl ?_
  walk_at "go"
  refine ew_comp1 [] [(".0", .local), ("code", .local), ("is_upper", .globalImplicit)] (by kernel_rfl) (fun u => [none, u, none]) rfl (fun _ _ => .there .here) (fFil fun c => dnN c != c) (by intro _ _; rfl) (by kernel_rfl) (by kernel_rfl) (by kernel_rfl) (by kernel_rfl) ?_
  iterate 1 walk_at "mw"
  refine ⟨_, _, ?_, iw_list hl, ?_, fun d hd => ?_⟩
  · rw [ic_len]; omega
  · intro v hv
    obtain ⟨c, hc, rfl⟩ := ic_mem hv
    refine ifs1 ?_
    walk_at "go"
    refine cw_is_upper ?_
    walk_at "all"
    · exact ⟨by simp only [fFil, Int.toNat_natCast]; rw [if_pos (by assumption)], rfl⟩
    · exact ⟨by simp only [fFil, Int.toNat_natCast]; rw [if_neg (by simp_all)], rfl⟩
  · walk_at "go"
    rw [fm_fil]
    refine cb_len_list (AH.upd_self _ _ _) (by rw [ic_len]; have := List.length_filter_le (fun c => dnN c != c) T; omega) ?_
    walk_at "go"
    rw [filter_any]
    exact ⟨_, (Sub.refl _).upd hd, h⟩
theorem cw_has_lower {l : Addr} {T : List Nat} (hl : H l = some (.list 0 (ic T))) (hs : T.length ≤ 1000) (h : Q (.bool (T.any fun c => upN c != c)) H) : CW S (.ref 172) (n + 3) [.ref l] Q H := by
  refine kw_fn [some _, none] (k_has_lower _) (c_has_lower _) (b_has_lower _) rfl rfl ?_
  walk_at "go"
  refine ew_comp1 [] [(".0", .local), ("code", .local), ("is_lower", .globalImplicit)] (by kernel_rfl) (fun u => [none, u, none]) rfl (fun _ _ => .there .here) (fFil fun c => upN c != c) (by intro _ _; rfl) (by kernel_rfl) (by kernel_rfl) (by kernel_rfl) (by kernel_rfl) ?_
  iterate 1 walk_at "mw"
  refine ⟨_, _, ?_, iw_list hl, ?_, fun d hd => ?_⟩
  · rw [ic_len]; omega
  · intro v hv
    obtain ⟨c, hc, rfl⟩ := ic_mem hv
    refine ifs1 ?_
    walk_at "go"
    refine cw_is_lower ?_
    walk_at "all"
    · exact ⟨by simp only [fFil, Int.toNat_natCast]; rw [if_pos (by assumption)], rfl⟩
    · exact ⟨by simp only [fFil, Int.toNat_natCast]; rw [if_neg (by simp_all)], rfl⟩
  · walk_at "go"
    rw [fm_fil]
    refine cb_len_list (AH.upd_self _ _ _) (by rw [ic_len]; have := List.length_filter_le (fun c => upN c != c) T; omega) ?_
    walk_at "go"
    rw [filter_any]
    exact ⟨_, (Sub.refl _).upd hd, h⟩
theorem cw_is_word_sign {a : Addr} {c : Nat} (hS : SynT H a) (hc : c < 128) (h : Q (.bool (isW c)) H) : CW S (.ref 155) (n + 5) [.int c, .ref a] Q H := by
  have hS' := hS
  obtain ⟨dx', r, sy, sx, kvs, fl, ⟨h1, h2, h3, h4, h5, h6⟩⟩ := hS
  refine kw_fn [some _, some _] (k_is_word_sign _) (c_is_word_sign _) (b_is_word_sign _) rfl rfl ?_
  walk_at "go"
  refine cw_kind_of hS' hc ?_
  cases hw : isW c
  · rw [hw] at h
    simp only [Bool.false_eq_true, if_false]
    walk_at "go"
    exact ⟨_, Sub.refl _, h⟩
  · rw [hw] at h
    simp only [if_true]
    walk_at "go"
    exact ⟨_, Sub.refl _, h⟩
end

section
variable {S : Sta} {E : ES} {n : Nat} {F F' : List (Option AV)} {H H' : AH} {Q : AV → AH → Prop} {QN : List (Option AV) → AH → Prop} {QX : AFl → List (Option AV) → AH → Prop}
noncomputable def mwN : List Nat → Bool → Nat
  | [], _ => 0
  | c :: r, w => (if isW c && !w then 1 else 0) + mwN r (isW c)
noncomputable def fUp : List Nat → List Nat
  | [] => []
  | c :: r => if isW c then upN c :: r else c :: fUp r
noncomputable def iUp : List Nat → Bool → List Nat
  | [], _ => []
  | c :: r, w => (if w then c else upN c) :: iUp r (isW c)
theorem iw_list' {l : Addr} {t : Nat} {xs : List AV} (hl : H l = some (.list t xs)) : IW S (.ref l) xs (fun H => H l = some (.list t xs)) H := iw_list hl
theorem cw_many_words {l a : Addr} {T : List Nat} (hl : H l = some (.list 0 (ic T))) (hs : Sm T) (hS : SynT H a) (h : Q (.int (mwN T false : Nat)) H) : CW S (.ref 162) (n + 6) [.ref l, .ref a] Q H := by
  refine kw_fn [some _, some _, none, none, none, none] (k_many_words _) (c_many_words _) (b_many_words _) rfl rfl ?_
  walk_at "go"
  refine ⟨_, _, iw_list hl, jfor (fun xs F H' => H' = H ∧ ∃ R m w u, xs = ic R ∧ (∀ c ∈ R, c < 128) ∧ mwN T false = m + mwN R w ∧ F = [some (.ref l), some (.ref a), some (.int (m : Nat)), some (.bool w), u, none]) ?_ ?_ _ _ _ ⟨rfl, T, 0, false, none, rfl, hs.2, by simp, rfl⟩⟩
  · intro v rest QL QXL hN hX F H' hj
    refine gG fun GG kG => ?_
    obtain ⟨rfl, R, m, w, u, hR, hc, hm, rfl⟩ := hj
    refine kG ?_
    clear kG GG
    cases R with
    | nil => cases hR
    | cons c R =>
      simp only [ic, List.map_cons, List.cons.injEq] at hR
      obtain ⟨rfl, rfl⟩ := hR
      have hcc := hc c (.head _)
      have hc' : ∀ c ∈ R, c < 128 := fun x hx => hc x (.tail _ hx)
      walk_at "go"
      refine cw_is_word_sign hS hcc ?_
      cases hw : isW c <;> cases w
      all_goals walk_at "go"
      all_goals refine cw_is_word_sign hS hcc ?_
      all_goals rw [hw]
      all_goals walk_at "go"
      all_goals refine hN _ _ ⟨hl, rfl, R, _, _, _, rfl, hc', ?_, rfl⟩
      all_goals simp only [mwN, hw] at hm
      all_goals simpa [Nat.add_assoc] using hm
  · intro F H' hj
    refine gG fun GG kG => ?_
    obtain ⟨rfl, R, m, w, u, hR, hc, hm, rfl⟩ := hj
    refine kG ?_
    clear kG GG
    cases R with
    | cons c R => cases hR
    | nil =>
      walk_at "go"
      simp only [mwN, Nat.add_zero] at hm
      rw [hm] at h
      exact ⟨_, Sub.refl _, h⟩
theorem upto_drop {k i : Nat} (hi : i < k) : (upto k).drop i = .int (i : Int) :: (upto k).drop (i + 1) := by
  rw [← List.getElem_cons_drop (by simp [upto]; exact hi)]
  congr 1
  simp [upto]
theorem fUp_none : ∀ {T : List Nat}, (∀ c ∈ T, isW c = false) → fUp T = T
  | [], _ => rfl
  | c :: r, h => by simp [fUp, h c (.head _), fUp_none fun x hx => h x (.tail _ hx)]
theorem fUp_at : ∀ {T : List Nat} {i : Nat} {c : Nat}, (∀ j x, j < i → T[j]? = some x → isW x = false) → T[i]? = some c → isW c = true → fUp T = T.take i ++ [upN c] ++ T.drop (i + 1)
  | [], i, c, _, h, _ => by simp at h
  | x :: r, 0, c, _, h, hw => by simp at h; subst h; simp [fUp, hw]
  | x :: r, i + 1, c, h1, h, hw => by
    have hx : isW x = false := h1 0 x (by omega) rfl
    simp [fUp, hx, fUp_at (T := r) (i := i) (fun j y hj hy => h1 (j + 1) y (by omega) (by simpa using hy)) (by simpa using h) hw]
theorem cw_first_upcased {l a : Addr} {T : List Nat} (hl : H l = some (.list 0 (ic T))) (hs : Sm T) (hS : SynT H a)
    (h : ∀ H' r, Sub H H' → H' r = some (.list 0 (ic (fUp T))) → Q (.ref r) H') : CW S (.ref 179) (n + 6) [.ref l, .ref a] Q H := by
  have hsz := hs.1
  have hTl : (ic T).length ≤ 1000 := by rw [ic_len]; exact hsz
  refine kw_fn [some _, some _, none, none, none, none, none] (k_first_upcased _) (c_first_upcased _) (b_first_upcased _) rfl rfl ?_
  walk_at "go"
  refine cb_len_list hl (by rw [ic_len]; omega) ?_
  rw [ic_len]
  walk_at "go"
  refine cb_range (by omega) fun r hr => ?_
  have hl1 : (H.upd r (.rng T.length)) l = some (.list 0 (ic T)) := AH.upd_old hr hl
  have hS1 : SynT (H.upd r (.rng T.length)) a := hS.sub ((Sub.refl _).upd hr)
  refine ⟨_, _, iw_rng (AH.upd_self _ _ _), jfor (fun xs F H' => H' = H.upd r (.rng T.length) ∧ ∃ i u, i ≤ T.length ∧ xs = (upto T.length).drop i ∧ (∀ j x, j < i → T[j]? = some x → isW x = false) ∧ F = [some (.ref l), some (.ref a), u, none, none, none, none]) ?_ ?_ _ _ _ ⟨rfl, 0, none, by omega, rfl, by omega, rfl⟩⟩
  · intro v rest QL QXL hN hX F H' hj
    refine gG fun GG kG => ?_
    obtain ⟨rfl, i, u, hi, hx, hj, rfl⟩ := hj
    refine kG ?_
    clear kG GG
    by_cases hlt : i < T.length
    · rw [upto_drop hlt] at hx
      simp only [List.cons.injEq] at hx
      obtain ⟨rfl, rfl⟩ := hx
      have hc : T[i]? = some (T[i]'hlt) := List.getElem?_eq_getElem hlt
      have hcl : T[i]'hlt < 128 := hs.2 _ (List.getElem_mem hlt)
      walk_at "go"
      refine gw_list hl1 (by omega) (by omega) (x := .int ((T[i]'hlt : Nat) : Int)) (by rw [Int.toNat_natCast]; exact ic_get hc) ?_
      walk_at "go"
      refine cw_is_word_sign hS1 hcl ?_
      cases hw : isW (T[i]'hlt)
      · walk_at "go"
        refine hN _ _ ⟨trivial, rfl, i + 1, _, hlt, rfl, ?_, rfl⟩
        intro j x hj' hx
        by_cases e : j = i
        · subst e; rw [hc] at hx; cases hx; exact hw
        · exact hj j x (by omega) hx
      · walk_at "go"
        refine gw_cut (AH.upd_self _ _ _) (by walk_at "hk") (by simp [nn]) (by simp [nn]) (by simp [ic]; omega) fun a2 ha2 => ?_
        walk_at "go"
        refine gw_cut (AH.upd_self _ _ _) (by walk_at "hk") (by simp [nn]) (by simp [nn]; omega) (by simp [ic]; omega) fun a3 ha3 => ?_
        walk_at "go"
        refine cw_upcased (T := [T[i]'hlt]) (some_list (AH.upd_self _ _ _) ?_) (by simp) fun a4 ha4 => ?_
        · rw [cut_eq]
          simp only [loN, hiN, Int.toNat_natCast]
          rw [show ((i : Int) + 1).toNat = i + 1 by omega, ← ic_take, ← ic_drop]
          congr 1
          rw [List.drop_take, show i + 1 - i = 1 by omega, List.drop_eq_getElem_cons hlt]; rfl
        · refine ow_addl (by walk_at "hk") (by walk_at "hk") ?_ fun a5 ha5 => ?_
          · exact Nat.le_trans (Nat.add_le_add (Nat.le_trans (cut_len _ _ _) hTl) (show _ ≤ 1 from Nat.le_refl 1)) (by decide)
          · walk_at "go"
            refine gw_cut (AH.upd_self _ _ _) (by walk_at "hk") (by simp [nn]; omega) (by simp [nn]) (by simp [ic]; omega) fun a6 ha6 => ?_
            refine ow_addl (by walk_at "hk") (by walk_at "hk") ?_ fun a7 ha7 => ?_
            · exact Nat.le_trans (Nat.add_le_add (by rw [List.length_append]; exact Nat.add_le_add (Nat.le_trans (cut_len _ _ _) hTl) (show _ ≤ 1 from Nat.le_refl 1)) (Nat.le_trans (cut_len _ _ _) hTl)) (by decide)
            · refine hX (.ret _) _ _ ⟨_, Sub.refl _, h _ a7 (by walk_at "sub") (some_list (AH.upd_self _ _ _) ?_)⟩
              rw [fUp_at hj hc hw, cut_eq, cut_eq]
              simp only [loN, hiN, Int.toNat_natCast]
              rw [show ((i : Int) + 1).toNat = i + 1 by omega, ic_app, ic_app, ic_take, ic_drop, List.take_of_length_le (l := ic T) (Nat.le_refl _)]
              simp [ic]
    · have : (upto T.length).drop i = [] := List.drop_eq_nil_of_le (by simp [upto]; omega)
      rw [this] at hx; cases hx
  · intro F H' hj
    refine gG fun GG kG => ?_
    obtain ⟨rfl, i, u, hi, hx, hj, rfl⟩ := hj
    refine kG ?_
    clear kG GG
    have hi' : i = T.length := by
      have := congrArg List.length hx
      simp [upto] at this; omega
    walk_at "go"
    refine ⟨_, Sub.refl _, h _ l (by walk_at "sub") ?_⟩
    rw [fUp_none fun c hc => ?_]; exact hl1
    obtain ⟨j, hj', e⟩ := List.mem_iff_getElem.mp hc
    exact hj j c (by omega) (by rw [List.getElem?_eq_getElem hj', e])
theorem cw_initials_upcased {l a : Addr} {T : List Nat} (hl : H l = some (.list 0 (ic T))) (hs : Sm T) (hS : SynT H a)
    (h : ∀ H' r, Sub H H' → H' r = some (.list 0 (ic (iUp T false))) → Q (.ref r) H') : CW S (.ref 66) (n + 6) [.ref l, .ref a] Q H := by
  have hsz := hs.1
  refine kw_fn [some _, some _, none, none, none, none] (k_initials_upcased _) (c_initials_upcased _) (b_initials_upcased _) rfl rfl ?_
  walk_at "mw"
  refine kw_swap ["found", "is_inside"] ?_ (by intro env h; cases env; subst h; rfl)
  walk_at "go"
  rename_i f hf t1 ht1
  refine ⟨[some (.ref l), some (.ref a), some (.ref f), some (.bool false), none, none], ⟨_, ⟨_, rfl, by walk_at "np"⟩, by walk_at "np"⟩, ?_⟩
  refine SW.forget (H := H.upd f (.list 0 [])) ?_ (by walk_at "sub")
  have hlf : ∀ o, (H.upd f o) l = some (.list 0 (ic T)) := fun o => AH.upd_old hf hl
  have hSf : ∀ o, SynT (H.upd f o) a := fun o => hS.sub ((Sub.refl _).upd hf)
  refine gG fun GG kG => ?_
  obtain ⟨sdx, sr, ssy, ssx, skvs, sfl, ⟨g1, g2, g3, g4, g5, g6⟩⟩ := hS
  refine kG ?_
  clear kG GG
  walk_at "mw"
  walk_at "mw"
  walk_at "mw"
  refine ⟨_, _, iw_list (hlf _), jfor (fun xs F H' => ∃ R D w u, xs = ic R ∧ H' = H.upd f (.list 0 (ic D)) ∧ D.length + R.length = T.length ∧ (∀ c ∈ R, c < 128) ∧ iUp T false = D ++ iUp R w ∧ F = [some (.ref l), some (.ref a), some (.ref f), some (.bool w), u, none]) ?_ ?_ _ _ _ ⟨T, [], false, none, rfl, rfl, by simp, hs.2, by simp, rfl⟩⟩
  · intro v rest QL QXL hN hX F H' hj
    refine gG fun GG kG => ?_
    obtain ⟨R, D, w, u, hR, rfl, hlen, hc, hm, rfl⟩ := hj
    refine kG ?_
    clear kG GG
    cases R with
    | nil => cases hR
    | cons c R =>
      simp only [ic, List.map_cons, List.cons.injEq] at hR
      obtain ⟨rfl, rfl⟩ := hR
      have hcc := hc c (.head _)
      have hc' : ∀ c ∈ R, c < 128 := fun x hx => hc x (.tail _ hx)
      simp only [List.length_cons] at hlen
      cases w
      · walk_at "go"
        refine cw_upcase ?_
        walk_at "go"
        refine cb_append (AH.upd_self _ _ _) (by rw [ic_len]; omega) ?_
        rw [upd_upd]
        walk_at "go"
        refine cw_kind_of (hSf _) hcc ?_
        cases hw : isW c
        all_goals simp only [if_true, if_false, Bool.false_eq_true]
        all_goals walk_at "go"
        all_goals refine hN _ _ ⟨hlf _, R, D ++ [upN c], _, _, rfl, by simp [ic], by simp; omega, hc', by rw [hm]; simp [iUp, hw], rfl⟩
      · walk_at "go"
        refine cb_append (AH.upd_self _ _ _) (by rw [ic_len]; omega) ?_
        rw [upd_upd]
        walk_at "go"
        refine cw_kind_of (hSf _) hcc ?_
        cases hw : isW c
        all_goals simp only [if_true, if_false, Bool.false_eq_true]
        all_goals walk_at "go"
        all_goals refine hN _ _ ⟨hlf _, R, D ++ [c], _, _, rfl, by simp [ic], by simp; omega, hc', by rw [hm]; simp [iUp, hw], rfl⟩
  · intro F H' hj
    refine gG fun GG kG => ?_
    obtain ⟨R, D, w, u, hR, rfl, hlen, hc, hm, rfl⟩ := hj
    refine kG ?_
    clear kG GG
    cases R with
    | cons c R => cases hR
    | nil =>
      walk_at "go"
      simp only [iUp, List.append_nil] at hm
      refine ⟨_, Sub.refl _, h _ f ((Sub.refl _).upd hf) ?_⟩
      rw [hm]; exact AH.upd_self _ _ _
end

section
variable {S : Sta} {E : ES} {n : Nat} {F F' : List (Option AV)} {H H' : AH} {Q : AV → AH → Prop} {QN : List (Option AV) → AH → Prop} {QX : AFl → List (Option AV) → AH → Prop}
noncomputable def dg (c : Nat) : List Nat := (Str.ofString (toString (c : Int))).cps.toList
theorem dg_no : ∀ c < 128, (dg c).all (· != 44) = true := by decide +kernel
theorem dg_ne : ∀ c < 128, (dg c).isEmpty = false := by decide +kernel
theorem dg_inv : ∀ c < 128, (dg c).foldl (fun a x => a * 10 + (x - 48)) 0 = c := by decide +kernel
noncomputable def keyL : List Nat → List Nat
  | [] => []
  | [c] => dg c
  | c :: d :: r => dg c ++ 44 :: keyL (d :: r)
theorem keyS_L : ∀ T : List Nat, (keyS T).cps.toList = keyL T
  | [] => by simp [keyS, Txt.join, StrLaws.glued_eq_join, Str.join, keyL, Str.empty]
  | [c] => by simp [keyS, Txt.join, StrLaws.glued_eq_join, Str.join, keyL, dg]
  | c :: d :: r => by
    have ih := keyS_L (d :: r)
    simp only [keyS, Txt.join, StrLaws.glued_eq_join, List.map_cons] at ih ⊢
    rw [PyProof.Rows.join_cons_cons]
    show ((_ : Array Nat) ++ _ ++ _).toList = _
    rw [Array.toList_append, Array.toList_append, ih]
    have : (Str.ofString ",").cps.toList = [44] := by decide +kernel
    rw [this]
    simp [keyL, dg]
theorem split44 : ∀ {u v s t : List Nat}, u.all (· != 44) = true → v.all (· != 44) = true → u ++ 44 :: s = v ++ 44 :: t → u = v ∧ s = t
  | [], [], s, t, _, _, h => by simpa using h
  | [], b :: v, s, t, _, hv, h => by simp at h hv; exact absurd h.1.symm hv.1
  | a :: u, [], s, t, hu, _, h => by simp at h hu; exact absurd h.1 hu.1
  | a :: u, b :: v, s, t, hu, hv, h => by
    simp only [List.all_cons, Bool.and_eq_true] at hu hv
    simp only [List.cons_append, List.cons.injEq] at h
    obtain ⟨e, f⟩ := split44 hu.2 hv.2 h.2
    exact ⟨by rw [h.1, e], f⟩
theorem no_split {u v t : List Nat} (hu : u.all (· != 44) = true) (h : u = v ++ 44 :: t) : False := by
  subst h; simp at hu
theorem keyL_inj : ∀ {a b : List Nat}, (∀ c ∈ a, c < 128) → (∀ c ∈ b, c < 128) → keyL a = keyL b → a = b
  | [], [], _, _, _ => rfl
  | [], [d], _, hb, h => by have := dg_ne d (hb d (.head _)); rw [keyL, keyL] at h; rw [← h] at this; cases this
  | [], d :: e :: r, _, hb, h => by simp [keyL] at h
  | [c], [], ha, _, h => by have := dg_ne c (ha c (.head _)); rw [keyL, keyL] at h; rw [h] at this; cases this
  | c :: d :: r, [], _, _, h => by simp [keyL] at h
  | [c], [d], ha, hb, h => by
    have h1 := dg_inv c (ha c (.head _)); have h2 := dg_inv d (hb d (.head _))
    simp only [keyL] at h; rw [h] at h1; rw [h1] at h2; rw [h2]
  | [c], d :: e :: r, ha, hb, h => by simp only [keyL] at h; exact (no_split (dg_no c (ha c (.head _))) h).elim
  | c :: d :: r, [e], ha, hb, h => by simp only [keyL] at h; exact (no_split (dg_no e (hb e (.head _))) h.symm).elim
  | c :: d :: r, e :: f :: q, ha, hb, h => by
    simp only [keyL] at h
    obtain ⟨h1, h2⟩ := split44 (dg_no c (ha c (.head _))) (dg_no e (hb e (.head _))) h
    have i1 := dg_inv c (ha c (.head _)); have i2 := dg_inv e (hb e (.head _))
    rw [h1] at i1; rw [i1] at i2
    rw [i2, keyL_inj (fun x hx => ha x (.tail _ hx)) (fun x hx => hb x (.tail _ hx)) h2]
theorem keyS_inj {a b : List Nat} (ha : ∀ c ∈ a, c < 128) (hb : ∀ c ∈ b, c < 128) (h : keyS a = keyS b) : a = b :=
  keyL_inj ha hb (by rw [← keyS_L, ← keyS_L, h])
theorem dn_lt {c : Nat} (h : c < 128) : dnN c < 128 := by unfold dnN; split <;> (try split) <;> omega
theorem Sm.dn {T : List Nat} (h : Sm T) : Sm (T.map dnN) := ⟨by simpa using h.1, fun c hc => by obtain ⟨d, hd, rfl⟩ := List.mem_map.mp hc; exact dn_lt (h.2 d hd)⟩
noncomputable abbrev En := List Nat × List Nat × Bool
inductive EntR (H : AH) (r : Addr) (en : En) : Prop
  | mk (x w c : Addr) (u : Int) (a1 : H r = some (.inst 83 x)) (a2 : H x = some (.rcd 3 at_Abbrev [some (.ref w), some (.ref c), some (.bool en.2.2), some (.int u)])) (a3 : 0 ≤ u) (a4 : H w = some (.list 0 (ic en.1))) (a5 : H c = some (.list 0 (ic en.2.1)))
inductive EntsR (H : AH) : List (Str × AV) → List En → Prop
  | nil : EntsR H [] []
  | cons {r en kvs es} : EntR H r en → EntsR H kvs es → EntsR H ((keyS en.1, .ref r) :: kvs) (en :: es)
inductive TabR (H : AH) (tb : Addr) (nm : Str) (pl : Addr) (es : List En) : Prop
  | mk (tx e : Addr) (kvs : List (Str × AV)) (a1 : H tb = some (.inst 104 tx)) (a2 : H tx = some (.rcd 4 at_AbbrevTable [some (.str nm), some (.ref pl), some (.ref e), some (.bool false)])) (a3 : H e = some (.sdict 2 kvs)) (a4 : EntsR H kvs es)
theorem EntR.mv {P : Nat → Bool} {r : Addr} {en : En} (h : EntR H r en) (m : Mv P H H') (h5 : P 5 = false) (h36 : P 36 = false) (h1 : P 1 = false) : EntR H' r en := by
  obtain ⟨x, w, c, u, a1, a2, a3, a4, a5⟩ := h
  exact ⟨x, w, c, u, m _ _ a1 h5, m _ _ a2 h36, a3, m _ _ a4 h1, m _ _ a5 h1⟩
theorem EntsR.mv {P : Nat → Bool} {kvs : List (Str × AV)} {es : List En} (h : EntsR H kvs es) (m : Mv P H H') (h5 : P 5 = false) (h36 : P 36 = false) (h1 : P 1 = false) : EntsR H' kvs es := by
  induction h with
  | nil => exact .nil
  | cons a _ ih => exact .cons (a.mv m h5 h36 h1) ih
noncomputable def findE (es : List En) (w : List Nat) : Option En := es.find? (fun e => e.1 == w)
noncomputable def ownE (es : List En) (w : List Nat) : Option En := match findE es w with
  | some e => some e
  | none => match findE es (w.map dnN) with
    | some e => if e.2.2 then none else some e
    | none => none
noncomputable def OkE (es : List En) : Prop := ∀ e ∈ es, ∀ c ∈ e.1, c < 128
theorem ents_vat {kvs : List (Str × AV)} {es : List En} {w : List Nat} (h : EntsR H kvs es) (ho : OkE es) (hw : ∀ c ∈ w, c < 128) :
    (findE es w = none ∧ vat kvs (keyS w) = none) ∨ ∃ en r, findE es w = some en ∧ vat kvs (keyS w) = some (.ref r) ∧ EntR H r en := by
  induction h with
  | nil => exact .inl ⟨rfl, rfl⟩
  | cons a _ ih =>
    rename_i r en kvs es _
    by_cases e : en.1 = w
    · refine .inr ⟨en, r, ?_, ?_, a⟩
      · simp [findE, e]
      · simp [vat, e]
    · have hk : keyS en.1 ≠ keyS w := fun h => e (keyS_inj (ho en (.head _)) hw h)
      have e' : (en.1 == w) = false := by simpa using e
      have := ih fun x hx => ho x (.tail _ hx)
      simpa [findE, vat, e', hk] using this
theorem cw_own_entry {tb pl wl : Addr} {nm : Str} {es : List En} {w : List Nat} (hT : TabR H tb nm pl es) (ho : OkE es) (hl : H wl = some (.list 0 (ic w))) (hs : Sm w)
    (h0 : ownE es w = none → Q .none H) (h1 : ∀ en r, ownE es w = some en → EntR H r en → Q (.ref r) H) : CW S (.ref 134) (n + 3) [.ref tb, .ref wl] Q H := by
  obtain ⟨tx, e, kvs, t1, t2, t3, t4⟩ := hT
  refine kw_fn [some _, some _, none, none, none] (k_own_entry _) (c_own_entry _) (b_own_entry _) rfl rfl ?_
  walk_at "go"
  refine cw_key_of hl hs ?_
  walk_at "go"
  refine cb_get t3 ?_
  rcases ents_vat t4 ho hs.2 with ⟨f1, f2⟩ | ⟨en, r, f1, f2, f3⟩
  · rw [f2]
    simp only [Option.getD_none]
    walk_at "go"
    refine cw_downcased hl hs.1 fun d hd => ?_
    walk_at "go"
    refine cw_key_of (AH.upd_self _ _ _) hs.dn ?_
    walk_at "go"
    refine cb_get (by walk_at "hk") ?_
    rcases ents_vat t4 ho hs.dn.2 with ⟨g1, g2⟩ | ⟨en, r, g1, g2, g3⟩
    · rw [g2]
      simp only [Option.getD_none]
      walk_at "go"
      exact ⟨_, (Sub.refl _).upd hd, h0 (by simp [ownE, f1, g1])⟩
    · rw [g2]
      simp only [Option.getD_some]
      have g3' := g3
      obtain ⟨x, w', c', u, a1, a2, a3, a4, a5⟩ := g3
      walk_at "go"
      cases hx : en.2.2
      · rw [hx] at a2
        walk_at "go"
        exact ⟨_, (Sub.refl _).upd hd, h1 en r (by simp [ownE, f1, g1, hx]) g3'⟩
      · rw [hx] at a2
        walk_at "go"
        exact ⟨_, (Sub.refl _).upd hd, h0 (by simp [ownE, f1, g1, hx])⟩
  · rw [f2]
    simp only [Option.getD_some]
    walk_at "go"
    exact ⟨_, Sub.refl _, h1 en r (by simp [ownE, f1]) f3⟩
end

section
variable {S : Sta} {E : ES} {n : Nat} {F F' : List (Option AV)} {H H' : AH} {Q : AV → AH → Prop} {QN : List (Option AV) → AH → Prop} {QX : AFl → List (Option AV) → AH → Prop}
inductive Tabs (H : AH) (tb : Addr) (es1 es2 : List En) : Prop
  | mk (pl1 t2 pl2 : Addr) (a1 : TabR H tb "own" pl1 es1) (a2 : TabR H t2 "other" pl2 es2) (a3 : H pl1 = some (.list 0 [.ref t2])) (a4 : H pl2 = some (.list 0 []))
theorem cw_tables_from {tb pl1 t2 pl2 : Addr} {es1 es2 : List En} (hT1 : TabR H tb "own" pl1 es1) (hT2 : TabR H t2 "other" pl2 es2) (hp1 : H pl1 = some (.list 0 [.ref t2])) (hp2 : H pl2 = some (.list 0 []))
    (h : ∀ H' f, Sub H H' → H' f = some (.list 21 [.ref tb, .ref t2]) → Q (.ref f) H') : CW S (.ref 141) (n + 1) [.ref tb] Q H := by
  obtain ⟨tx, e, kvs, a1, a2, a3, a4⟩ := hT1
  obtain ⟨tx2, e2, kvs2, c1, c2, c3, c4⟩ := hT2
  refine kw_fn [some _, none, none, none, none, none, none] (k_tables_from _) (c_tables_from _) (b_tables_from _) rfl rfl ?_
  walk_at "mw"
  walk_at "mw"
  refine kw_listT 21 ?_
  walk_at "mw"
  walk_at "mw"
  intro f hf
  walk_at "mw"
  walk_at "mw"
  walk_at "mw"
  refine kw_listT 22 ?_
  walk_at "mw"
  walk_at "mw"
  intro nm hnm
  walk_at "mw"
  walk_at "mw"
  walk_at "mw"
  refine kw_listT 23 ?_
  walk_at "mw"
  walk_at "mw"
  walk_at "mw"
  walk_at "mw"
  intro wt hwt
  walk_at "mw"
  walk_at "mw"
  have hnm0 : H nm = none := upd_none hnm
  have hwt0 : H wt = none := upd_none (upd_none hwt)
  refine jw_while (fun k F H' => Sub H H' ∧ ((k = 2 ∧ H' f = some (.list 21 []) ∧ H' nm = some (.list 22 []) ∧ H' wt = some (.list 23 [.ref tb]) ∧ F = [some (.ref tb), some (.ref f), some (.ref nm), some (.ref wt), none, none, none]) ∨
    (k = 1 ∧ H' f = some (.list 21 [.ref tb]) ∧ H' nm = some (.list 22 [.str "own"]) ∧ H' wt = some (.list 23 [.ref t2]) ∧ ∃ u, F = [some (.ref tb), some (.ref f), some (.ref nm), some (.ref wt), u, none, none]) ∨
    (k = 0 ∧ H' f = some (.list 21 [.ref tb, .ref t2]) ∧ H' nm = some (.list 22 [.str "own", .str "other"]) ∧ H' wt = some (.list 23 []) ∧ ∃ u, F = [some (.ref tb), some (.ref f), some (.ref nm), some (.ref wt), u, none, none]))) 2 ?_ ⟨by walk_at "sub", .inl ⟨rfl, by walk_at "hk", by walk_at "hk", by walk_at "hk", rfl⟩⟩
  intro k QL QXL hN hX F H' hj
  refine gG fun GG kG => ?_
  rcases hj with ⟨m, ⟨rfl, f1, f2, f3, rfl⟩ | ⟨rfl, f1, f2, f3, u, rfl⟩ | ⟨rfl, f1, f2, f3, u, rfl⟩⟩
  · refine kG ?_
    clear kG GG
    replace a1 := m _ _ a1
    replace a2 := m _ _ a2
    replace hp1 := m _ _ hp1
    walk_at "go"
    refine cb_len_list f3 (by simp) ?_
    walk_at "go"
    refine if_t (by simp) ?_
    walk_at "go"
    refine cb_len_list f1 (by simp) ?_
    walk_at "go"
    refine if_t (by simp) ?_
    walk_at "go"
    refine kw_mB bm_pop ?_
    walk_at "go"
    refine cb_pop (xs := []) f3 (by simp) ?_
    walk_at "go"
    refine ow_notinl (ss := []) (t := 22) (by apply some_list; walk_at "hk"; rfl) ?_
    walk_at "go"
    refine if_t (by simp) ?_
    walk_at "go"
    refine cb_append (by walk_at "hk") (by simp) ?_
    walk_at "go"
    refine cb_append (by walk_at "hk") (by simp) ?_
    walk_at "go"
    refine gw_rev (AH.upd_self _ _ _) (by walk_at "hk") (by simp) fun r hr => ?_
    walk_at "go"
    refine cb_extend (l := wt) (t := 23) (xs := []) (by walk_at "hk") (AH.upd_self _ _ _) (by simp) ?_
    walk_at "go"
    exact hN _ _ ⟨1, by decide, by walk_at "sub", .inr (.inl ⟨rfl, by apply some_list; walk_at "hk"; rfl, by apply some_list; walk_at "hk"; rfl, by apply some_list; walk_at "hk"; rfl, _, rfl⟩)⟩
  · refine kG ?_
    clear kG GG
    replace c1 := m _ _ c1
    replace c2 := m _ _ c2
    replace hp2 := m _ _ hp2
    walk_at "go"
    refine cb_len_list f3 (by simp) ?_
    walk_at "go"
    refine if_t (by simp) ?_
    walk_at "go"
    refine cb_len_list f1 (by simp) ?_
    walk_at "go"
    refine if_t (by simp) ?_
    walk_at "go"
    refine kw_mB bm_pop ?_
    walk_at "go"
    refine cb_pop (xs := []) f3 (by simp) ?_
    walk_at "go"
    refine ow_notinl (ss := ["own"]) (t := 22) (by apply some_list; walk_at "hk"; rfl) ?_
    walk_at "go"
    refine if_t (by decide +kernel) ?_
    walk_at "go"
    refine cb_append (by walk_at "hk") (by simp) ?_
    walk_at "go"
    refine cb_append (by walk_at "hk") (by simp) ?_
    walk_at "go"
    refine gw_rev (AH.upd_self _ _ _) (by walk_at "hk") (by simp) fun r hr => ?_
    walk_at "go"
    refine cb_extend (l := wt) (t := 23) (xs := []) (by walk_at "hk") (AH.upd_self _ _ _) (by simp) ?_
    walk_at "go"
    exact hN _ _ ⟨0, by decide, by walk_at "sub", .inr (.inr ⟨rfl, by apply some_list; walk_at "hk"; rfl, by apply some_list; walk_at "hk"; rfl, by apply some_list; walk_at "hk"; rfl, _, rfl⟩)⟩
  · refine kG ?_
    clear kG GG
    walk_at "go"
    refine cb_len_list f3 (by simp) ?_
    walk_at "go"
    refine if_f (by simp) ?_
    walk_at "go"
    exact ⟨_, Sub.refl _, h _ _ m f1⟩
noncomputable def entE (es1 es2 : List En) (w : List Nat) : Option En := match ownE es1 w with
  | some e => some e
  | none => ownE es2 w
theorem EntR.sub {r : Addr} {en : En} (h : EntR H r en) (m : Sub H H') : EntR H' r en := h.mv (P := fun _ => false) (Mv.ofSub m) rfl rfl rfl
theorem EntsR.sub {kvs : List (Str × AV)} {es : List En} (h : EntsR H kvs es) (m : Sub H H') : EntsR H' kvs es := h.mv (P := fun _ => false) (Mv.ofSub m) rfl rfl rfl
theorem TabR.sub {tb pl : Addr} {nm : Str} {es : List En} (h : TabR H tb nm pl es) (m : Sub H H') : TabR H' tb nm pl es := by
  obtain ⟨tx, e, kvs, a1, a2, a3, a4⟩ := h
  exact ⟨tx, e, kvs, m _ _ a1, m _ _ a2, m _ _ a3, a4.sub m⟩
theorem cw_entry_of {tb wl : Addr} {es1 es2 : List En} {w : List Nat} (hT : Tabs H tb es1 es2) (ho1 : OkE es1) (ho2 : OkE es2) (hl : H wl = some (.list 0 (ic w))) (hs : Sm w)
    (h0 : entE es1 es2 w = none → Q .none H) (h1 : ∀ H' en r, entE es1 es2 w = some en → Sub H H' → EntR H' r en → Q (.ref r) H') : CW S (.ref 148) (n + 4) [.ref tb, .ref wl] Q H := by
  obtain ⟨pl1, t2, pl2, hT1, hT2, hp1, hp2⟩ := hT
  refine kw_fn [some _, some _, none, none, none, none] (k_entry_of _) (c_entry_of _) (b_entry_of _) rfl rfl ?_
  walk_at "go"
  refine cw_tables_from hT1 hT2 hp1 hp2 fun H1 f m hf => ?_
  refine ⟨_, _, iw_list hf, ?_⟩
  show TW _ _ _ _ _ _ _ _
  walk_at "go"
  refine cw_own_entry (hT1.sub m) ho1 (m _ _ hl) hs (fun e0 => ?_) fun en r e0 hr => ?_
  · walk_at "go"
    refine ⟨hf, ?_⟩
    show TW _ _ _ _ _ _ _ _
    walk_at "go"
    refine cw_own_entry (hT2.sub m) ho2 (m _ _ hl) hs (fun e1 => ?_) fun en r e1 hr => ?_
    · walk_at "go"
      refine ⟨hf, ?_⟩
      show SW _ _ _ _ _ _ _ _
      walk_at "go"
      exact ⟨H, m, h0 (by simp [entE, e0, e1])⟩
    · walk_at "go"
      exact ⟨H1, Sub.refl _, h1 H1 en r (by simp [entE, e0, e1]) m hr⟩
  · walk_at "go"
    exact ⟨H1, Sub.refl _, h1 H1 en r (by simp [entE, e0]) m hr⟩
end

section
variable {S : Sta} {E : ES} {n : Nat} {F F' : List (Option AV)} {H H' : AH} {Q : AV → AH → Prop} {QN : List (Option AV) → AH → Prop} {QX : AFl → List (Option AV) → AH → Prop}
theorem Sub.none {H H' : AH} {a : Addr} (m : Sub H H') (h : H' a = Option.none) : H a = Option.none := by
  cases q : H a with
  | none => rfl
  | some o => rw [m _ _ q] at h; cases h
theorem AH.upd_old' {H : AH} {a b : Addr} {o o1 o2 : AO} (hb : H b = some o1) (ha : H a = some o2) (hne : ∀ k1 k2, k1 = kd o1 → k2 = kd o2 → k1 ≠ k2) : (H.upd a o) b = some o1 := upd_by hb ha (hne _ _ rfl rfl)
theorem cw_Abbrev {w c : AV} {ex : Bool} (h : ∀ H' x dx, Sub H H' → H' x = some (.inst 83 dx) → H' dx = some (.rcd 3 at_Abbrev [some w, some c, some (.bool ex), some (.int 0)]) → Q (.ref x) H') : CW S (.ref 83) (n + 2) [w, c, .bool ex] Q H := by
  refine cw_cls (mk_Abbrev _) (i_Abbrev _) (f_Abbrev _) 3 at_Abbrev nd_Abbrev (by decide) fun x dx hx hd hne => ?_
  have e1 : ((H.upd dx (.rcd 3 at_Abbrev (List.replicate (at_Abbrev).length none))).upd x (.inst 83 dx)) x = some (.inst 83 dx) := AH.upd_self _ _ _
  have e2 : ((H.upd dx (.rcd 3 at_Abbrev (List.replicate (at_Abbrev).length none))).upd x (.inst 83 dx)) dx = some (.rcd 3 at_Abbrev (List.replicate (at_Abbrev).length none)) := by rw [AH.upd_ne (Ne.symm hne)]; exact AH.upd_self _ _ _
  have m0 : Sub H ((H.upd dx (.rcd 3 at_Abbrev (List.replicate (at_Abbrev).length none))).upd x (.inst 83 dx)) := Sub.updN (Sub.updN (Sub.refl _) hd) hx
  generalize ((H.upd dx (.rcd 3 at_Abbrev (List.replicate (at_Abbrev).length none))).upd x (.inst 83 dx)) = H0 at *
  simp only [List.length_cons, List.length_nil, List.replicate] at e2
  refine kw_fn [some _, some _, some _, some _] (k_Abbrev_init _) (c_Abbrev_init _) (b_Abbrev_init _) rfl rfl ?_
  walk_at "go"
  exact ⟨_, Sub.refl _, rfl, h _ x dx (by walk_at "sub") (by walk_at "hk") (by walk_at "hk")⟩
theorem cw_Expansion {w c p : AV} (h : ∀ H' x dx, Sub H H' → H' x = some (.inst 497 dx) → H' dx = some (.rcd 8 at_Expansion [some p, some w, some c]) → Q (.ref x) H') : CW S (.ref 497) (n + 2) [p, w, c] Q H := by
  refine cw_cls (mk_Expansion _) (i_Expansion _) (f_Expansion _) 8 at_Expansion nd_Expansion (by decide) fun x dx hx hd hne => ?_
  have e1 : ((H.upd dx (.rcd 8 at_Expansion (List.replicate (at_Expansion).length none))).upd x (.inst 497 dx)) x = some (.inst 497 dx) := AH.upd_self _ _ _
  have e2 : ((H.upd dx (.rcd 8 at_Expansion (List.replicate (at_Expansion).length none))).upd x (.inst 497 dx)) dx = some (.rcd 8 at_Expansion (List.replicate (at_Expansion).length none)) := by rw [AH.upd_ne (Ne.symm hne)]; exact AH.upd_self _ _ _
  have m0 : Sub H ((H.upd dx (.rcd 8 at_Expansion (List.replicate (at_Expansion).length none))).upd x (.inst 497 dx)) := Sub.updN (Sub.updN (Sub.refl _) hd) hx
  generalize ((H.upd dx (.rcd 8 at_Expansion (List.replicate (at_Expansion).length none))).upd x (.inst 497 dx)) = H0 at *
  simp only [List.length_cons, List.length_nil, List.replicate] at e2
  refine kw_fn [some _, some _, some _, some _] (k_Expansion_init _) (c_Expansion_init _) (b_Expansion_init _) rfl rfl ?_
  walk_at "go"
  exact ⟨_, Sub.refl _, rfl, h _ x dx (by walk_at "sub") (by walk_at "hk") (by walk_at "hk")⟩
theorem cw_AbbrevTable {nm pl : AV} (h : ∀ H' x dx e, Sub H H' → H e = none → H' x = some (.inst 104 dx) → H' dx = some (.rcd 4 at_AbbrevTable [some nm, some pl, some (.ref e), some (.bool false)]) → H' e = some (.sdict 2 []) → Q (.ref x) H') : CW S (.ref 104) (n + 2) [nm, pl] Q H := by
  refine cw_cls (mk_AbbrevTable _) (i_AbbrevTable _) (f_AbbrevTable _) 4 at_AbbrevTable nd_AbbrevTable (by decide) fun x dx hx hd hne => ?_
  have e1 : ((H.upd dx (.rcd 4 at_AbbrevTable (List.replicate (at_AbbrevTable).length none))).upd x (.inst 104 dx)) x = some (.inst 104 dx) := AH.upd_self _ _ _
  have e2 : ((H.upd dx (.rcd 4 at_AbbrevTable (List.replicate (at_AbbrevTable).length none))).upd x (.inst 104 dx)) dx = some (.rcd 4 at_AbbrevTable (List.replicate (at_AbbrevTable).length none)) := by rw [AH.upd_ne (Ne.symm hne)]; exact AH.upd_self _ _ _
  have m0 : Sub H ((H.upd dx (.rcd 4 at_AbbrevTable (List.replicate (at_AbbrevTable).length none))).upd x (.inst 104 dx)) := Sub.updN (Sub.updN (Sub.refl _) hd) hx
  generalize ((H.upd dx (.rcd 4 at_AbbrevTable (List.replicate (at_AbbrevTable).length none))).upd x (.inst 104 dx)) = H0 at *
  simp only [List.length_cons, List.length_nil, List.replicate] at e2
  refine kw_fn [some _, some _, some _] (k_AbbrevTable_init _) (c_AbbrevTable_init _) (b_AbbrevTable_init _) rfl rfl ?_
  walk_at "go"
  refine ew_dictS 2 fun e he => ?_
  walk_at "go"
  exact ⟨_, Sub.refl _, rfl, h _ x dx e (by walk_at "sub") (Sub.none (by walk_at "sub") he) (by walk_at "hk") (by walk_at "hk") (by walk_at "hk")⟩
theorem cw_SyntaxTable  (h : ∀ H' x dx e, Sub H H' → H' x = some (.inst 462 dx) → H' dx = some (.rcd 6 at_SyntaxTable [some .none, some (.ref e)]) → H' e = some (.idict 6 []) → Q (.ref x) H') : CW S (.ref 462) (n + 2) [] Q H := by
  refine cw_cls (mk_SyntaxTable _) (i_SyntaxTable _) (f_SyntaxTable _) 6 at_SyntaxTable nd_SyntaxTable (by decide) fun x dx hx hd hne => ?_
  have e1 : ((H.upd dx (.rcd 6 at_SyntaxTable (List.replicate (at_SyntaxTable).length none))).upd x (.inst 462 dx)) x = some (.inst 462 dx) := AH.upd_self _ _ _
  have e2 : ((H.upd dx (.rcd 6 at_SyntaxTable (List.replicate (at_SyntaxTable).length none))).upd x (.inst 462 dx)) dx = some (.rcd 6 at_SyntaxTable (List.replicate (at_SyntaxTable).length none)) := by rw [AH.upd_ne (Ne.symm hne)]; exact AH.upd_self _ _ _
  have m0 : Sub H ((H.upd dx (.rcd 6 at_SyntaxTable (List.replicate (at_SyntaxTable).length none))).upd x (.inst 462 dx)) := Sub.updN (Sub.updN (Sub.refl _) hd) hx
  generalize ((H.upd dx (.rcd 6 at_SyntaxTable (List.replicate (at_SyntaxTable).length none))).upd x (.inst 462 dx)) = H0 at *
  simp only [List.length_cons, List.length_nil, List.replicate] at e2
  refine kw_fn [some _, some _] (k_SyntaxTable_init _) (c_SyntaxTable_init _) (b_SyntaxTable_init1 _) rfl rfl ?_
  walk_at "go"
  refine ew_dictI 6 fun e he => ?_
  walk_at "go"
  exact ⟨_, Sub.refl _, rfl, h _ x dx e (by walk_at "sub") (by walk_at "hk") (by apply some_rcd; walk_at "hk"; rfl) (by walk_at "hk")⟩
theorem cw_Markers  (h : ∀ H' x dx e, Sub H H' → H' x = some (.inst 686 dx) → H' dx = some (.rcd 7 at_Markers [some (.ref e)]) → H' e = some (.idict 7 []) → Q (.ref x) H') : CW S (.ref 686) (n + 2) [] Q H := by
  refine cw_cls (mk_Markers _) (i_Markers _) (f_Markers _) 7 at_Markers nd_Markers (by decide) fun x dx hx hd hne => ?_
  have e1 : ((H.upd dx (.rcd 7 at_Markers (List.replicate (at_Markers).length none))).upd x (.inst 686 dx)) x = some (.inst 686 dx) := AH.upd_self _ _ _
  have e2 : ((H.upd dx (.rcd 7 at_Markers (List.replicate (at_Markers).length none))).upd x (.inst 686 dx)) dx = some (.rcd 7 at_Markers (List.replicate (at_Markers).length none)) := by rw [AH.upd_ne (Ne.symm hne)]; exact AH.upd_self _ _ _
  have m0 : Sub H ((H.upd dx (.rcd 7 at_Markers (List.replicate (at_Markers).length none))).upd x (.inst 686 dx)) := Sub.updN (Sub.updN (Sub.refl _) hd) hx
  generalize ((H.upd dx (.rcd 7 at_Markers (List.replicate (at_Markers).length none))).upd x (.inst 686 dx)) = H0 at *
  simp only [List.length_cons, List.length_nil, List.replicate] at e2
  refine kw_fn [some _] (k_Markers_init _) (c_Markers_init _) (b_Markers_init _) rfl rfl ?_
  walk_at "go"
  refine ew_dictI 7 fun e he => ?_
  walk_at "go"
  exact ⟨_, Sub.refl _, rfl, h _ x dx e (by walk_at "sub") (by walk_at "hk") (by walk_at "hk") (by walk_at "hk")⟩
theorem cw_GapText {c : Addr} (hc : H c = some (.list 0 [])) (h : ∀ H' x dx cl, Sub H H' → H' x = some (.inst 616 dx) → H' dx = some (.rcd 11 at_GapText [some (.int 8), some (.ref cl), some (.int 0), some (.int 8)]) → H' cl = some (.list 1 (List.replicate 8 (.int 0))) → Q (.ref x) H') : CW S (.ref 616) (n + 2) [.ref c, .int 8] Q H := by
  refine cw_cls (mk_GapText _) (i_GapText _) (f_GapText _) 11 at_GapText nd_GapText (by decide) fun x dx hx hd hne => ?_
  have e1 : ((H.upd dx (.rcd 11 at_GapText (List.replicate (at_GapText).length none))).upd x (.inst 616 dx)) x = some (.inst 616 dx) := AH.upd_self _ _ _
  have e2 : ((H.upd dx (.rcd 11 at_GapText (List.replicate (at_GapText).length none))).upd x (.inst 616 dx)) dx = some (.rcd 11 at_GapText (List.replicate (at_GapText).length none)) := by rw [AH.upd_ne (Ne.symm hne)]; exact AH.upd_self _ _ _
  have m0 : Sub H ((H.upd dx (.rcd 11 at_GapText (List.replicate (at_GapText).length none))).upd x (.inst 616 dx)) := Sub.updN (Sub.updN (Sub.refl _) hd) hx
  generalize ((H.upd dx (.rcd 11 at_GapText (List.replicate (at_GapText).length none))).upd x (.inst 616 dx)) = H0 at *
  simp only [List.length_cons, List.length_nil, List.replicate] at e2
  refine kw_fn [some _, some _, some _, none, none] (k_GapText_init _) (c_GapText_init _) (b_GapText_init _) rfl rfl ?_
  walk_at "mw"
  walk_at "mw"
  walk_at "mw"
  walk_at "mw"
  walk_at "mw"
  walk_at "mw"
  walk_at "mw"
  refine EW.ret ?_
  walk_at "go"
  replace hc := m0 _ _ hc
  refine cb_list (t := 0) (xs := []) (by walk_at "hk") (by simp) fun a ha => ?_
  walk_at "go"
  refine ow_mull (AH.upd_self _ _ _) (by simp) (by simp) (by simp) fun a2 ha2 => ?_
  refine ow_addl (by walk_at "hk") (by walk_at "hk") (by simp) fun a3 ha3 => ?_
  refine ⟨_, ret_upd (o := .list 1 _) rfl, ?_⟩
  walk_at "go"
  refine cb_len_list (t := 0) (xs := []) (by walk_at "hk") (by simp) ?_
  walk_at "go"
  refine cb_len_list (t := 0) (xs := []) (by walk_at "hk") (by simp) ?_
  walk_at "go"
  exact ⟨_, Sub.refl _, rfl, h _ x dx a3 (by walk_at "sub") (by walk_at "hk") (by apply some_rcd; walk_at "hk"; rfl) (by apply some_list; walk_at "hk"; rfl)⟩
theorem cw_Buffer {nu na : AV} (h : ∀ H' x dx g gx cl mk mx mr ls, Sub H H' → H' x = some (.inst 827 dx) → H' dx = some (.rcd 1 at_Buffer [some nu, some na, some (.ref g), some (.ref mk), some (.int 1), some (.int 1), some (.int 1), some .none, some (.bool true), some (.bool false), some (.int 1), some (.int 1), some (.int 1), some (.ref ls), some .none, some .none, some .none, some .none, some .none, some .none]) → H' g = some (.inst 616 gx) → H' gx = some (.rcd 11 at_GapText [some (.int 8), some (.ref cl), some (.int 0), some (.int 8)]) → H' cl = some (.list 1 (List.replicate 8 (.int 0))) → H' mk = some (.inst 686 mx) → H' mx = some (.rcd 7 at_Markers [some (.ref mr)]) → H' mr = some (.idict 7 []) → H' ls = some (.list 0 []) → Q (.ref x) H') : CW S (.ref 827) (n + 4) [nu, na] Q H := by
  refine cw_cls (mk_Buffer _) (i_Buffer _) (f_Buffer _) 1 at_Buffer nd_Buffer (by decide) fun x dx hx hd hne => ?_
  have e1 : ((H.upd dx (.rcd 1 at_Buffer (List.replicate (at_Buffer).length none))).upd x (.inst 827 dx)) x = some (.inst 827 dx) := AH.upd_self _ _ _
  have e2 : ((H.upd dx (.rcd 1 at_Buffer (List.replicate (at_Buffer).length none))).upd x (.inst 827 dx)) dx = some (.rcd 1 at_Buffer (List.replicate (at_Buffer).length none)) := by rw [AH.upd_ne (Ne.symm hne)]; exact AH.upd_self _ _ _
  have m0 : Sub H ((H.upd dx (.rcd 1 at_Buffer (List.replicate (at_Buffer).length none))).upd x (.inst 827 dx)) := Sub.updN (Sub.updN (Sub.refl _) hd) hx
  generalize ((H.upd dx (.rcd 1 at_Buffer (List.replicate (at_Buffer).length none))).upd x (.inst 827 dx)) = H0 at *
  simp only [List.length_cons, List.length_nil, List.replicate] at e2
  refine kw_fn [some _, some _, some _, some _, none, none] (k_Buffer_init _) (c_Buffer_init _) (b_Buffer_init3 _) rfl rfl ?_
  walk_at "go"
  rename_i l0 hl0
  refine cw_GapText (AH.upd_self _ _ _) fun H1 g gx cl m1 g1 g2 g3 => ?_
  have m2 : Sub H H1 := Sub.trans (by walk_at "sub") m1
  replace e1 := m1 x (.inst 827 dx) (by walk_at "hk")
  replace e2 := m1 dx (.rcd 1 at_Buffer [some nu, some na, none, none, none, none, none, none, none, none, none, none, none, none, none, none, none, none, none, none]) (by walk_at "hk")
  clear m1 m0
  walk_at "go"
  refine cw_Markers fun H2 mk mx mr m3 k1 k2 k3 => ?_
  have f1 := m3 _ _ (AH.upd_old' e1 e2 (by with_unfolding_all exact fun _ _ a b => a ▸ b ▸ Nat.ne_of_beq_eq_false rfl))
  have f2 := m3 _ _ (AH.upd_self _ _ _)
  have f3 := m3 _ _ (AH.upd_old' g1 e2 (by with_unfolding_all exact fun _ _ a b => a ▸ b ▸ Nat.ne_of_beq_eq_false rfl))
  have f4 := m3 _ _ (AH.upd_old' g2 e2 (by with_unfolding_all exact fun _ _ a b => a ▸ b ▸ Nat.ne_of_beq_eq_false rfl))
  have f5 := m3 _ _ (AH.upd_old' g3 e2 (by with_unfolding_all exact fun _ _ a b => a ▸ b ▸ Nat.ne_of_beq_eq_false rfl))
  have m4 : Sub H H2 := Sub.trans (Sub.updN m2 hd) m3
  walk_at "go"
  exact ⟨_, Sub.refl _, rfl, h _ x dx _ _ _ _ _ _ _ (by walk_at "sub") (by walk_at "hk") (by walk_at "hk") (by walk_at "hk") (by walk_at "hk") (by walk_at "hk") (by walk_at "hk") (by walk_at "hk") (by walk_at "hk") (by walk_at "hk")⟩
end

section
variable {S : Sta} {E : ES} {n : Nat} {F F' : List (Option AV)} {H H' : AH} {Q : AV → AH → Prop} {QN : List (Option AV) → AH → Prop} {QX : AFl → List (Option AV) → AH → Prop}
noncomputable def wrN (cs : List Nat) (ex : Bool) (w : List Nat) : List Nat :=
  if ex || !(w.any fun c => dnN c != c) then cs else if w.any fun c => upN c != c then fUp cs else if 1 < mwN cs false then iUp cs false else cs.map upN
theorem cw_written {tb r wl a pl : Addr} {nm : Str} {es : List En} {en : En} {w : List Nat} (hT : TabR H tb nm pl es) (hE : EntR H r en) (hl : H wl = some (.list 0 (ic w))) (hs : Sm w) (hc : Sm en.2.1) (hS : SynT H a)
    (h : ∀ H' v, Sub H H' → H' v = some (.list 0 (ic (wrN en.2.1 en.2.2 w))) → Q (.ref v) H') : CW S (.ref 186) (n + 7) [.ref tb, .ref r, .ref wl, .ref a] Q H := by
  obtain ⟨tx, e, kvs, t1, t2, t3, t4⟩ := hT
  obtain ⟨x, w', c', u, a1, a2, a3, a4, a5⟩ := hE
  refine kw_fn [some _, some _, some _, some _, none, none, none, none, none, none, none] (k_written _) (c_written _) (b_written _) rfl rfl ?_
  walk_at "go"
  cases hx : en.2.2
  · rw [hx] at a2 h
    walk_at "go"
    refine cw_has_upper hl hs.1 ?_
    cases hu : (w.any fun c => dnN c != c)
    · walk_at "go"
      exact ⟨_, Sub.refl _, h _ c' (Sub.refl _) (by simpa [wrN, hu] using a5)⟩
    · walk_at "go"
      refine cw_has_lower hl hs.1 ?_
      cases hlo : (w.any fun c => upN c != c)
      · walk_at "go"
        refine cw_many_words a5 hc hS ?_
        walk_at "go"
        by_cases hm : 1 < mwN en.2.1 false
        · refine if_t (by simp; omega) ?_
          walk_at "go"
          refine cw_initials_upcased a5 hc hS fun H' v m hv => ?_
          exact ⟨_, Sub.refl _, h _ v m (by rw [hv]; simp only [wrN, hu, hlo]; simp [hm])⟩
        · refine if_f (by simp; omega) ?_
          walk_at "go"
          refine cw_upcased a5 hc.1 fun v hv => ?_
          refine ⟨_, Sub.refl _, h _ v ((Sub.refl _).upd hv) ?_⟩
          rw [AH.upd_self]; simp only [wrN, hu, hlo]; simp [hm]
      · walk_at "go"
        refine cw_first_upcased a5 hc hS fun H' v m hv => ?_
        exact ⟨_, Sub.refl _, h _ v m (by rw [hv]; simp [wrN, hu, hlo])⟩
  · rw [hx] at a2 h
    walk_at "go"
    exact ⟨_, Sub.refl _, h _ c' (Sub.refl _) (by simpa [wrN] using a5)⟩
/-- all but the buffer's parts stays; entries keep what they say -/
noncomputable def Rl (H H' : AH) : Prop := Mv pX H H' ∧ ∀ r en, EntR H r en → EntR H' r en
theorem Rl.refl (H : AH) : Rl H H := ⟨Mv.refl _, fun _ _ h => h⟩
theorem Rl.trans {H₁ H₂ H₃ : AH} (a : Rl H₁ H₂) (b : Rl H₂ H₃) : Rl H₁ H₃ := ⟨a.1.trans b.1, fun r en h => b.2 r en (a.2 r en h)⟩
theorem Rl.ofSub (m : Sub H H') : Rl H H' := ⟨Mv.ofSub m, fun _ _ h => h.sub m⟩
theorem Rl.ofB (m : Mv pB H H') : Rl H H' := ⟨pBX m, fun _ _ h => h.mv m rfl rfl rfl⟩
theorem Rl.ents {kvs : List (Str × AV)} {es : List En} (m : Rl H H') (h : EntsR H kvs es) : EntsR H' kvs es := by
  induction h with
  | nil => exact .nil
  | cons a _ ih => exact .cons (m.2 _ _ a) ih
theorem Rl.tab {tb pl : Addr} {nm : Str} {es : List En} (m : Rl H H') (h : TabR H tb nm pl es) : TabR H' tb nm pl es := by
  obtain ⟨tx, e, kvs, a1, a2, a3, a4⟩ := h
  exact ⟨tx, e, kvs, m.1 _ _ a1 rfl, m.1 _ _ a2 rfl, m.1 _ _ a3 rfl, m.ents a4⟩
theorem Rl.tabs {tb : Addr} {es1 es2 : List En} (m : Rl H H') (h : Tabs H tb es1 es2) : Tabs H' tb es1 es2 := by
  obtain ⟨pl1, t2, pl2, hT1, hT2, hp1, hp2⟩ := h
  exact ⟨pl1, t2, pl2, m.tab hT1, m.tab hT2, m.1 _ _ hp1 rfl, m.1 _ _ hp2 rfl⟩
theorem Rl.syn {a : Addr} (m : Rl H H') (h : SynT H a) : SynT H' a := by
  obtain ⟨dx, r, sy, sx, kvs, fl, ⟨h1, h2, h3, h4, h5, h6⟩⟩ := h
  exact ⟨dx, r, sy, sx, kvs, fl, ⟨m.1 _ _ h1 rfl, m.1 _ _ h2 rfl, m.1 _ _ h3 rfl, h4, m.1 _ _ h5 rfl, m.1 _ _ h6 rfl⟩⟩
theorem Rl.lst {l : Addr} {xs : List AV} (m : Rl H H') (h : H l = some (.list 0 xs)) : H' l = some (.list 0 xs) := m.1 _ _ h rfl
theorem Rl.used {x w c : Addr} {ex : Bool} {u u' : Int} (hx : H x = some (.rcd 3 at_Abbrev [some (.ref w), some (.ref c), some (.bool ex), some (.int u)])) (hu : 0 ≤ u') :
    Rl H (H.upd x (.rcd 3 at_Abbrev [some (.ref w), some (.ref c), some (.bool ex), some (.int u')])) := by
  refine ⟨Mv.ch (Mv.refl _) hx rfl, fun r en h => ?_⟩
  obtain ⟨x', w', c', v, a1, a2, a3, a4, a5⟩ := h
  by_cases e : x' = x
  · subst e
    rw [hx] at a2
    simp only [Option.some.injEq, AO.rcd.injEq, List.cons.injEq, AV.ref.injEq, AV.bool.injEq, AV.int.injEq, true_and, and_true] at a2
    obtain ⟨rfl, rfl, rfl, rfl⟩ := a2
    exact ⟨x', w, c, u', by walk_at "hk", by walk_at "hk", hu, by walk_at "hk", by walk_at "hk"⟩
  · exact ⟨x', w', c', v, by walk_at "hk", by rw [AH.upd_ne e]; exact a2, a3, by walk_at "hk", by walk_at "hk"⟩
theorem BufS.mvU {b : Addr} {T : List Nat} {pt zv : Int} {x w c : Addr} {ex : Bool} {u u' : Int} (h : BufS H b T pt zv) (hx : H x = some (.rcd 3 at_Abbrev [some (.ref w), some (.ref c), some (.bool ex), some (.int u)])) : BufS (H.upd x (.rcd 3 at_Abbrev [some (.ref w), some (.ref c), some (.bool ex), some (.int u')])) b T pt zv := by
  obtain ⟨dx, g, gx, cl, mk, mx, mr, ls, nu, na, ma, li, ct, sv, ti, A, G, B, ⟨b1, b2, b3, b4, b5, b6, b7, b8, b9, sz⟩, e, pls⟩ := h
  exact ⟨dx, g, gx, cl, mk, mx, mr, ls, nu, na, ma, li, ct, sv, ti, A, G, B, ⟨by walk_at "hk", by walk_at "hk", by walk_at "hk", by walk_at "hk", by walk_at "hk", by walk_at "hk", by walk_at "hk", by walk_at "hk", by walk_at "hk", sz⟩, e, pls⟩
/-- what the entries may hold -/
noncomputable def OkC (es : List En) : Prop := ∀ e ∈ es, Sm e.2.1
theorem findE_mem {es : List En} {w : List Nat} {en : En} (h : findE es w = some en) : en ∈ es := List.mem_of_find?_eq_some h
theorem ownE_mem {es : List En} {w : List Nat} {en : En} (h : ownE es w = some en) : en ∈ es := by
  unfold ownE at h
  split at h
  · cases h; rename_i h; exact findE_mem h
  · split at h
    · split at h
      · cases h
      · cases h; rename_i h _; exact findE_mem h
    · cases h
theorem entE_mem {es1 es2 : List En} {w : List Nat} {en : En} (h : entE es1 es2 w = some en) : en ∈ es1 ∨ en ∈ es2 := by
  unfold entE at h
  split at h
  · cases h; rename_i h; exact .inl (ownE_mem h)
  · exact .inr (ownE_mem h)
theorem cw_expansion_of {tb wl a b : Addr} {T : List Nat} {pt zv : Int} {es1 es2 : List En} {en : En} {w : List Nat} (hT : Tabs H tb es1 es2) (ho1 : OkE es1) (ho2 : OkE es2) (hc1 : OkC es1) (hc2 : OkC es2) (hl : H wl = some (.list 0 (ic w))) (hs : Sm w) (hS : SynT H a) (hw : w ≠ []) (he : entE es1 es2 w = some en)
    (hB : BufS H b T pt zv) (h : ∀ H' v, Rl H H' → BufS H' b T pt zv → H' v = some (.list 0 (ic (wrN en.2.1 en.2.2 w))) → Q (.ref v) H') : CW S (.ref 193) (n + 8) [.ref tb, .ref wl, .ref a] Q H := by
  have hwl : 0 < w.length := List.length_pos_iff.mpr hw
  have hs1 := hs.1
  refine kw_fn [some _, some _, some _, none, none, none, none] (k_expansion_of _) (c_expansion_of _) (b_expansion_of _) rfl rfl ?_
  walk_at "go"
  refine cw_entry_of hT ho1 ho2 hl hs (fun e0 => by rw [he] at e0; cases e0) fun H1 en' r e1 m hr => ?_
  rw [he] at e1; cases e1
  have hl1 := m _ _ hl
  have hr' := hr
  obtain ⟨x, w', c', u, a1, a2, a3, a4, a5⟩ := hr
  walk_at "go"
  refine cb_len_list hl1 (by rw [ic_len]; omega) ?_
  rw [ic_len]
  walk_at "go"
  refine if_f (by simp; omega) ?_
  walk_at "go"
  have r1 : Rl H1 (H1.upd x (.rcd 3 at_Abbrev [some (.ref w'), some (.ref c'), some (.bool en.2.2), some (.int (u + 1))])) := Rl.used a2 (by omega)
  have r0 := (Rl.ofSub m).trans r1
  obtain ⟨pl1, t2, pl2, hT1, hT2, hp1, hp2⟩ := hT
  refine cw_written (r0.tab hT1) (r1.2 _ _ hr') (r0.lst hl) hs ?_ (r0.syn hS) fun H2 v m2 hv => ?_
  · rcases entE_mem he with q | q
    · exact hc1 _ q
    · exact hc2 _ q
  · exact ⟨_, Sub.refl _, h _ v (r0.trans (Rl.ofSub m2)) (((hB.sub m).mvU a2).sub m2) hv⟩
theorem cw_unexpanded {tb wl b : Addr} {T : List Nat} {pt zv : Int} {es1 es2 : List En} {w : List Nat} (hT : Tabs H tb es1 es2) (ho1 : OkE es1) (ho2 : OkE es2) (hl : H wl = some (.list 0 (ic w))) (hs : Sm w)
    (hB : BufS H b T pt zv) (h : ∀ H', Rl H H' → BufS H' b T pt zv → Q (.ref wl) H') : CW S (.ref 200) (n + 5) [.ref tb, .ref wl] Q H := by
  refine kw_fn [some _, some _, none, none] (k_unexpanded _) (c_unexpanded _) (b_unexpanded _) rfl rfl ?_
  walk_at "go"
  refine cw_entry_of hT ho1 ho2 hl hs (fun e0 => ?_) fun H1 en' r e1 m hr => ?_
  · walk_at "go"
    exact ⟨_, Sub.refl _, h _ (Rl.refl _) hB⟩
  · obtain ⟨x, w', c', u, a1, a2, a3, a4, a5⟩ := hr
    walk_at "all"
    · rename_i hu
      have hu' : 0 < u := by simpa using hu
      exact ⟨_, Sub.refl _, h _ ((Rl.ofSub m).trans (Rl.used a2 (by omega))) ((hB.sub m).mvU a2)⟩
    · exact ⟨_, Sub.refl _, h _ (Rl.ofSub m) (hB.sub m)⟩
end

section
variable {S : Sta} {E : ES} {n : Nat} {F F' : List (Option AV)} {H H' : AH} {Q : AV → AH → Prop} {QN : List (Option AV) → AH → Prop} {QX : AFl → List (Option AV) → AH → Prop}
variable {b : Addr} {T : List Nat} {pt zv : Int}
inductive BufX (H : AH) (b : Addr) (T : List Nat) (pt : Int) : Prop
  | mk (dx g gx cl mk mx mr ls : Addr) (nu na ma li ct sv : AV) (ti : Int) (A : List Nat) (G : List AV) (B : List Nat) (z : BufR H b dx g gx cl mk mx mr ls nu na ma li ct sv ti A G B pt) (e : T = A ++ B)
inductive BufY (H : AH) (b : Addr) (T : List Nat) (pt : Int) : Prop
  | mk (dx g gx cl mk mx mr ls : Addr) (nu na ma li ct sv : AV) (ti : Int) (A : List Nat) (G : List AV) (B : List Nat) (z : BufR H b dx g gx cl mk mx mr ls nu na ma li ct sv ti A G B pt) (e : T = A ++ B) (pls : ct.plain = true ∧ sv.plain = true ∧ nu.plain = true ∧ na.plain = true)
theorem BufS.toR (h : BufS H b T pt ((T.length : Nat) + 1)) : BufX H b T pt := by
  obtain ⟨dx, g, gx, cl, mk, mx, mr, ls, nu, na, ma, li, ct, sv, ti, A, G, B, ⟨b1, b2, b3, b4, b5, b6, b7, b8, b9, sz⟩, e, pls⟩ := h
  subst e
  refine ⟨dx, g, gx, cl, mk, mx, mr, ls, nu, na, ma, li, ct, sv, ti, A, G, B, ⟨b1, ?_, b3, b4, b5, b6, b7, b8, b9, sz⟩, rfl⟩
  rw [b2]; simp
noncomputable def wordB (T : List Nat) (p : Nat) : Nat × Nat := if (bwdW T p).2 then ((bwdW T p).1, min (fwdW T (bwdW T p).1).1 p) else (p, p)
theorem bwdW_le (T : List Nat) (p : Nat) : (bwdW T p).1 ≤ p := by
  have h1 := bk_le (fun k => wAt T k != true) p
  have h2 := bk_le (fun k => wAt T k != false) (bk (fun k => wAt T k != true) p)
  unfold bwdW; split <;> dsimp only <;> omega
theorem fwdW_b (T : List Nat) (i : Nat) (hi : i ≤ T.length) : i ≤ (fwdW T i).1 ∧ (fwdW T i).1 ≤ T.length := by
  have h1 := fw_ge (fun k => wAt T k != true) (T.length - i) i
  have h2 := fw_ge (fun k => wAt T k != false) (T.length - fw (fun k => wAt T k != true) (T.length - i) i) (fw (fun k => wAt T k != true) (T.length - i) i)
  unfold fwdW; split <;> dsimp only <;> omega
theorem wordB_b (T : List Nat) (p : Nat) (hp : p ≤ T.length) : (wordB T p).1 ≤ (wordB T p).2 ∧ (wordB T p).2 ≤ p := by
  have h1 := bwdW_le T p
  have h2 := fwdW_b T (bwdW T p).1 (by omega)
  unfold wordB; split <;> dsimp only <;> omega
theorem cw_word_before {a : Addr} {p : Nat} (hB : BufS H b T ((p : Nat) + 1) ((T.length : Nat) + 1)) (hS : SynT H a) (hT : ∀ c ∈ T, c < 128) (hp : p ≤ T.length)
    (h : ∀ t, H t = none → Q (.ref t) (H.upd t (.tuple [.int (((wordB T p).1 : Nat) + 1), .int (((wordB T p).2 : Nat) + 1)]))) : CW S (.ref 508) (n + 10) [.ref b, .ref a] Q H := by
  obtain ⟨dx, g, gx, cl, mk, mx, mr, ls, nu, na, ma, li, ct, sv, ti, A, G, B, hR, rfl⟩ := hB.toR
  have hR' := hR
  obtain ⟨b1, b2, b3, b4, b5, b6, b7, b8, b9, sz⟩ := hR
  refine kw_fn [some _, some _, none, none, none, none, none, none] (k_word_before _) (c_word_before _) (b_word_before _) rfl rfl ?_
  walk_at "go"
  refine cw_forward_word_b hR' hS hT hp rfl fun t ht => ?_
  walk_at "mw"
  walk_at "mw"
  walk_at "mw"
  walk_at "mw"
  walk_at "mw"
  walk_at "mw"
  refine SW.forget (H := H) ?_ (by walk_at "sub")
  have hbl := bwdW_le (A ++ B) p
  cases hb : (bwdW (A ++ B) p).2
  · walk_at "go"
    rename_i t2 ht2
    have hw : wordB (A ++ B) p = (p, p) := by simp [wordB, hb]
    rw [hw] at h
    exact ⟨_, Sub.refl _, h _ ht2⟩
  · walk_at "go"
    refine cw_forward_word_f hR' hS hT (i := (bwdW (A ++ B) p).1) (by omega) rfl fun t3 ht3 => ?_
    walk_at "mw"
    walk_at "mw"
    walk_at "mw"
    walk_at "mw"
    walk_at "mw"
    walk_at "mw"
    refine SW.forget (H := H) ?_ (by walk_at "sub")
    walk_at "go"
    refine cb_min ?_
    walk_at "go"
    rename_i t2 ht2
    have hw : wordB (A ++ B) p = ((bwdW (A ++ B) p).1, min (fwdW (A ++ B) (bwdW (A ++ B) p).1).1 p) := by simp [wordB, hb]
    rw [hw] at h
    have e1 : min (((fwdW (A ++ B) (bwdW (A ++ B) p).1).1 : Int) + 1) ((p : Int) + 1) = ((min (fwdW (A ++ B) (bwdW (A ++ B) p).1).1 p : Nat) : Int) + 1 := by omega
    rw [e1]
    exact ⟨_, Sub.refl _, h _ ht2⟩
noncomputable def OkN (es : List En) : Prop := ∀ e ∈ es, Sm e.2.1 ∧ e.2.1 ≠ [] ∧ e.2.1.length ≤ 4
theorem OkN.c {es : List En} (h : OkN es) : OkC es := fun e he => (h e he).1
theorem fUp_len : ∀ T, (fUp T).length = T.length
  | [] => rfl
  | c :: r => by unfold fUp; split <;> simp [fUp_len r]
theorem iUp_len : ∀ T w, (iUp T w).length = T.length
  | [], _ => rfl
  | c :: r, w => by simp [iUp, iUp_len r]
theorem wrN_len (cs : List Nat) (ex : Bool) (w : List Nat) : (wrN cs ex w).length = cs.length := by
  unfold wrN; split
  · rfl
  · split
    · exact fUp_len _
    · split
      · exact iUp_len _ _
      · simp
theorem up_lt {c : Nat} (h : c < 128) : upN c < 128 := by unfold upN; split <;> (try split) <;> omega
theorem fUp_lt : ∀ {T : List Nat}, (∀ c ∈ T, c < 128) → ∀ c ∈ fUp T, c < 128
  | [], _, c, hc => by simp [fUp] at hc
  | x :: r, h, c, hc => by
    unfold fUp at hc; split at hc
    · rcases List.mem_cons.mp hc with rfl | hc
      · exact up_lt (h x (.head _))
      · exact h c (.tail _ hc)
    · rcases List.mem_cons.mp hc with rfl | hc
      · exact h _ (.head _)
      · exact fUp_lt (fun y hy => h y (.tail _ hy)) c hc
theorem iUp_lt : ∀ {T : List Nat} {w : Bool}, (∀ c ∈ T, c < 128) → ∀ c ∈ iUp T w, c < 128
  | [], _, _, c, hc => by simp [iUp] at hc
  | x :: r, w, h, c, hc => by
    unfold iUp at hc
    rcases List.mem_cons.mp hc with rfl | hc
    · split
      · exact h x (.head _)
      · exact up_lt (h x (.head _))
    · exact iUp_lt (fun y hy => h y (.tail _ hy)) c hc
theorem wrN_lt {cs : List Nat} {ex : Bool} {w : List Nat} (h : ∀ c ∈ cs, c < 128) : ∀ c ∈ wrN cs ex w, c < 128 := by
  unfold wrN; split
  · exact h
  · split
    · exact fUp_lt h
    · split
      · exact iUp_lt h
      · intro c hc; obtain ⟨d, hd, rfl⟩ := List.mem_map.mp hc; exact up_lt (h d hd)
/-- what is due at point p: from, to, and what comes in place -/
noncomputable def dueE (es1 es2 : List En) (T : List Nat) (p : Nat) : Option (Nat × Nat × List Nat) :=
  if cutN (wordB T p).1 (wordB T p).2 T = [] then none else match entE es1 es2 (cutN (wordB T p).1 (wordB T p).2 T) with
    | none => none
    | some en => some ((wordB T p).1, (wordB T p).2, wrN en.2.1 en.2.2 (cutN (wordB T p).1 (wordB T p).2 T))
noncomputable def putT (T : List Nat) (d : Nat × Nat × List Nat) : List Nat := T.take d.1 ++ d.2.2 ++ T.drop d.2.1
theorem cutN_len (i j : Nat) (T : List Nat) (hj : j ≤ T.length) : (cutN i j T).length = j - i := by simp [cutN]; omega
theorem cw_expand_abbrev {tb a : Addr} {p : Nat} {es1 es2 : List En} (hB : BufS H b T ((p : Nat) + 1) ((T.length : Nat) + 1)) (hS : SynT H a) (hT : ∀ c ∈ T, c < 128) (hp : p ≤ T.length) (hlen : T.length ≤ 1000)
    (hTb : Tabs H tb es1 es2) (ho1 : OkE es1) (ho2 : OkE es2) (hc1 : OkN es1) (hc2 : OkN es2)
    (h0 : dueE es1 es2 T p = none → ∀ H', Rl H H' → BufS H' b T ((p : Nat) + 1) ((T.length : Nat) + 1) → Q .none H')
    (h1 : ∀ H' v ex wl cl d, dueE es1 es2 T p = some d → Rl H H' → BufS H' b (putT T d) (((d.1 + d.2.2.length : Nat) : Int) + 1) (((putT T d).length : Nat) + 1) → H' v = some (.inst 497 ex) → H' ex = some (.rcd 8 at_Expansion [some (.int ((d.1 : Nat) + 1)), some (.ref wl), some (.ref cl)]) →
      H' wl = some (.list 0 (ic (cutN d.1 d.2.1 T))) → H' cl = some (.list 0 (ic d.2.2)) → Q (.ref v) H') : CW S (.ref 515) (n + 11) [.ref b, .ref tb, .ref a] Q H := by
  have hwb := wordB_b T p hp
  obtain ⟨s, e⟩ : ∃ q, q = wordB T p := ⟨_, rfl⟩
  have hSm : Sm (cutN (wordB T p).1 (wordB T p).2 T) := ⟨by rw [cutN_len _ _ _ (by omega)]; omega, fun c hc => hT c (List.mem_of_mem_take (List.mem_of_mem_drop hc))⟩
  have hcl := cutN_len (wordB T p).1 (wordB T p).2 T (by omega)
  refine kw_fn [some _, some _, some _, none, none, none, none, none, none, none, none, none, none] (k_expand_abbrev _) (c_expand_abbrev _) (b_expand_abbrev _) rfl rfl ?_
  walk_at "go"
  refine cw_word_before hB hS hT hp fun t ht => ?_
  walk_at "mw"
  walk_at "mw"
  walk_at "mw"
  walk_at "mw"
  walk_at "mw"
  walk_at "mw"
  refine SW.forget (H := H) ?_ (by walk_at "sub")
  obtain ⟨dx, g, gx, cl, mk, mx, mr, ls, nu, na, ma, li, ct, sv, ti, A, G, B, hR, eAB⟩ := hB.toR
  have hR' := hR
  obtain ⟨b1, b2, b3, b4, b5, b6, b7, b8, b9, sz⟩ := hR
  walk_at "go"
  refine cw_bcodes hR' (i := (wordB T p).1) (j := (wordB T p).2) rfl rfl hwb.1 (by rw [← List.length_append, ← eAB]; omega) fun wl hwl => ?_
  rw [← eAB]
  clear b1 b2 b3 b4 b5 b6 b7 b8 b9 hR'
  have hm : Sub H (H.upd wl (.list 0 (ic (cutN (wordB T p).1 (wordB T p).2 T)))) := (Sub.refl _).upd hwl
  have hl : (H.upd wl (.list 0 (ic (cutN (wordB T p).1 (wordB T p).2 T)))) wl = some (.list 0 (ic (cutN (wordB T p).1 (wordB T p).2 T))) := AH.upd_self _ _ _
  generalize H.upd wl (.list 0 (ic (cutN (wordB T p).1 (wordB T p).2 T))) = H0 at *
  have hB0 := hB.sub hm
  have hS0 := hS.sub hm
  have hT0 := (Rl.ofSub hm).tabs hTb
  walk_at "go"
  refine cb_len_list hl (by rw [ic_len]; omega) ?_
  rw [ic_len, hcl]
  walk_at "go"
  by_cases hse : (wordB T p).1 = (wordB T p).2
  · refine if_t (by simp; omega) ?_
    walk_at "go"
    exact ⟨_, Sub.refl _, h0 (by unfold dueE; rw [if_pos (List.length_eq_zero_iff.mp (by omega))]) _ (Rl.ofSub hm) hB0⟩
  · refine if_f (by simp; omega) ?_
    have hne : cutN (wordB T p).1 (wordB T p).2 T ≠ [] := fun q => by rw [q] at hcl; simp at hcl; omega
    walk_at "go"
    refine cw_entry_of hT0 ho1 ho2 hl hSm (fun e0 => ?_) fun H1 en r e1 m hr => ?_
    · walk_at "go"
      exact ⟨_, Sub.refl _, h0 (by unfold dueE; rw [if_neg hne, e0]) _ (Rl.ofSub hm) hB0⟩
    · have hd : dueE es1 es2 T p = some ((wordB T p).1, (wordB T p).2, wrN en.2.1 en.2.2 (cutN (wordB T p).1 (wordB T p).2 T)) := by unfold dueE; rw [if_neg hne, e1]
      have hen : Sm en.2.1 ∧ en.2.1 ≠ [] ∧ en.2.1.length ≤ 4 := by
        rcases entE_mem e1 with q | q
        · exact hc1 _ q
        · exact hc2 _ q
      have hC := wrN_len en.2.1 en.2.2 (cutN (wordB T p).1 (wordB T p).2 T)
      walk_at "go"
      refine cw_expansion_of ((Rl.ofSub m).tabs hT0) ho1 ho2 hc1.c hc2.c (m _ _ hl) hSm (hS0.sub m) hne e1 (hB0.sub m) fun H2 v r2 hB2 hv => ?_
      generalize wrN en.2.1 en.2.2 (cutN (wordB T p).1 (wordB T p).2 T) = C at *
      have hl2 := r2.lst (m _ _ hl)
      have hC0 : 0 < en.2.1.length := List.length_pos_iff.mpr hen.2.1
      walk_at "go"
      refine cw_replace hB2 hv (i := (wordB T p).1) (j := (wordB T p).2) rfl rfl (by omega) (by omega) (fun q => by subst q; simp at hC; omega) rfl (by omega) fun H3 v3 pt3 m3 hB3 => ?_
      have r3 := Rl.ofB m3
      have hl3 := r3.lst hl2
      have hv3 := r3.lst hv
      have hzv : ((T.length : Nat) : Int) + 1 - (((wordB T p).2 : Int) + 1 - (((wordB T p).1 : Int) + 1)) + (C.length : Nat) = (((T.take (wordB T p).1 ++ C ++ T.drop (wordB T p).2).length : Nat) : Int) + 1 := by simp; omega
      rw [hzv] at hB3
      obtain ⟨dx, g, gx, cl, mk, mx, mr, ls, nu, na, ma, li, ct, sv, ti, A, G, B, ⟨b1, b2, b3, b4, b5, b6, b7, b8, b9, sz⟩, e, pls⟩ := hB3
      walk_at "go"
      refine cb_len_list hv3 (by rw [ic_len]; omega) ?_
      rw [ic_len]
      walk_at "go"
      refine cw_Expansion fun H4 x ex m4 x1 x2 => ?_
      have m3' : ∀ o, Mv pB H2 (H3.upd dx o) := fun o => Mv.ch m3 b2 rfl
      refine ⟨_, Sub.refl _, h1 _ x ex wl v _ hd ((Rl.ofSub hm).trans ((Rl.ofSub m).trans (r2.trans ((Rl.ofB (m3' _)).trans (Rl.ofSub m4))))) (BufS.sub ?_ m4) x1 x2 (m4 _ _ (by walk_at "hk")) (m4 _ _ (by walk_at "hk"))⟩
      refine ⟨dx, g, gx, cl, mk, mx, mr, ls, nu, na, ma, li, ct, sv, ti, A, G, B, ⟨by walk_at "hk", ?_, by walk_at "hk", by walk_at "hk", by walk_at "hk", by walk_at "hk", by walk_at "hk", by walk_at "hk", by walk_at "hk", sz⟩, e, pls⟩
      apply some_rcd
      walk_at "hk"
      simp only [putT]
      congr 5
      simp; omega
end

section
variable {S : Sta} {E : ES} {n : Nat} {F F' : List (Option AV)} {H H' : AH} {Q : AV → AH → Prop} {QN : List (Option AV) → AH → Prop} {QX : AFl → List (Option AV) → AH → Prop}
variable {b : Addr} {T : List Nat} {pt zv : Int}
theorem cut_put (s : Nat) (C : List Nat) (X Y : List Nat) (h : X.length = s) : cutN s (s + C.length) (X ++ C ++ Y) = C := by
  subst h
  rw [cutN, List.take_append_of_le_length (by simp), List.take_of_length_le (by simp)]
  simp
theorem put_back (X C Y w : List Nat) (s : Nat) (h : X.length = s) : (X ++ C ++ Y).take s ++ w ++ (X ++ C ++ Y).drop (s + C.length) = X ++ w ++ Y := by
  subst h
  have h1 : (X ++ C ++ Y).take X.length = X := by rw [List.append_assoc]; simp
  have h2 : (X ++ C ++ Y).drop (X.length + C.length) = Y := by rw [← List.length_append]; simp
  rw [h1, h2]
theorem take_cut_drop (s e : Nat) (T : List Nat) (h : s ≤ e) : T.take s ++ cutN s e T ++ T.drop e = T := by
  have : T.take s ++ cutN s e T = T.take e := by
    rw [cutN]
    conv => rhs; rw [← List.take_append_drop s (T.take e), List.take_take, Nat.min_eq_left h]
  rw [this, List.take_append_drop]
theorem cw_unexpand_abbrev {tb v ex wl cl : Addr} {d : Nat × Nat × List Nat} {es1 es2 : List En} (hB : BufS H b (putT T d) pt (((putT T d).length : Nat) + 1)) (hT : Tabs H tb es1 es2) (ho1 : OkE es1) (ho2 : OkE es2)
    (hd1 : d.1 < d.2.1) (hd2 : d.2.1 ≤ T.length) (hC : d.2.2 ≠ []) (hC4 : d.2.2.length ≤ 4) (hlen : T.length ≤ 1000) (hch : ∀ c ∈ T, c < 128)
    (x1 : H v = some (.inst 497 ex)) (x2 : H ex = some (.rcd 8 at_Expansion [some (.int ((d.1 : Nat) + 1)), some (.ref wl), some (.ref cl)])) (x3 : H wl = some (.list 0 (ic (cutN d.1 d.2.1 T)))) (x4 : H cl = some (.list 0 (ic d.2.2)))
    (h : ∀ H', Rl H H' → BufS H' b T (((d.1 + (d.2.1 - d.1) : Nat) : Int) + 1) ((T.length : Nat) + 1) → Q (.bool true) H') : CW S (.ref 522) (n + 6) [.ref b, .ref tb, .ref v] Q H := by
  obtain ⟨s, e, C⟩ := d
  simp only at hd1 hd2 hC hC4 x2 x3 x4 h hB
  obtain ⟨w, hw⟩ : ∃ w, e = s + w := ⟨e - s, (Nat.add_sub_cancel' (Nat.le_of_lt hd1)).symm⟩
  obtain ⟨r, hr⟩ : ∃ r, T.length = e + r := ⟨_, (Nat.add_sub_cancel' hd2).symm⟩
  have hes : e - s = w := by rw [hw, Nat.add_sub_cancel_left]
  have hTe : T.length - e = r := by rw [hr, Nat.add_sub_cancel_left]
  have hwl : (cutN s e T).length = w := by rw [cutN_len s e T hd2, hes]
  have htl : (T.take s).length = s := by rw [List.length_take, Nat.min_eq_left (Nat.le_trans (Nat.le_of_lt hd1) hd2)]
  have hpl : (putT T (s, e, C)).length = s + C.length + r := by
    show (T.take s ++ C ++ T.drop e).length = _
    rw [List.length_append, List.length_append, htl, List.length_drop, hTe]
  simp only [hes] at h
  have hC0 : 0 < C.length := List.length_pos_iff.mpr hC
  have hSm : Sm (cutN s e T) := ⟨by omega, fun c hc => hch c (List.mem_of_mem_take (List.mem_of_mem_drop hc))⟩
  refine kw_fn [some _, some _, some _, none, none, none, none] (k_unexpand_abbrev _) (c_unexpand_abbrev _) (b_unexpand_abbrev _) rfl rfl ?_
  walk_at "go"
  refine cb_len_list x4 (by rw [ic_len]; omega) ?_
  rw [ic_len]
  refine gG fun GG kG => ?_
  obtain ⟨dx, g, gx, clx, mk, mx, mr, ls, nu, na, ma, li, ct, sv, ti, A, G, B, hR, eAB⟩ := hB.toR
  have hR' := hR
  obtain ⟨b1, b2, b3, b4, b5, b6, b7, b8, b9, sz⟩ := hR
  refine kG ?_
  clear kG GG
  have hAB : A.length + B.length = s + C.length + r := by rw [← hpl, eAB, List.length_append]
  walk_at "go"
  refine if_f (by simp; omega) ?_
  walk_at "go"
  refine if_f (by simp; omega) ?_
  walk_at "go"
  refine cw_bcodes hR' (i := s) (j := s + C.length) (by omega) (by omega) (by omega) (by omega) fun r hr => ?_
  rw [← eAB, show cutN s (s + C.length) (putT T (s, e, C)) = C from cut_put s C _ _ htl]
  walk_at "go"
  refine ow_nel (AH.upd_self _ _ _) (by walk_at "hk") (by simp [ic, AV.flat]) ?_
  walk_at "mw"
  walk_at "mw"
  walk_at "mw"
  walk_at "mw"
  refine SW.forget (H := H) ?_ (by walk_at "sub")
  walk_at "go"
  refine cw_unexpanded hT ho1 ho2 x3 hSm hB fun H1 r1 hB1 => ?_
  have y1 := r1.1 _ _ x1 rfl
  have y2 := r1.1 _ _ x2 rfl
  have y3 := r1.lst x3
  have y4 := r1.lst x4
  clear b1 b2 b3 b4 b5 b6 b7 b8 b9 hR'
  walk_at "go"
  refine cw_replace hB1 y3 (i := s) (j := s + C.length) (by omega) (by omega) (by omega) (by rw [hpl]; omega) (fun q => by rw [q] at hwl; simp at hwl; omega) rfl (by rw [hpl]; omega) fun H2 v2 pt2 m2 hB2 => ?_
  have z1 := m2 _ _ y1 rfl
  have z2 := m2 _ _ y2 rfl
  have z3 := m2 _ _ y3 rfl
  rw [show (putT T (s, e, C)).take s ++ cutN s e T ++ (putT T (s, e, C)).drop (s + C.length) = T from (put_back _ C _ _ s htl).trans (take_cut_drop s e T (by omega))] at hB2
  have hzv : (((putT T (s, e, C)).length : Nat) : Int) + 1 - (((s : Nat) : Int) + 1 + (C.length : Nat) - (((s : Nat) : Int) + 1)) + ((cutN s e T).length : Nat) = ((T.length : Nat) : Int) + 1 := by rw [hpl, hwl]; omega
  rw [hzv] at hB2
  refine gG fun GG kG => ?_
  obtain ⟨dx, g, gx, clx, mk, mx, mr, ls, nu, na, ma, li, ct, sv, ti, A, G, B, ⟨b1, b2, b3, b4, b5, b6, b7, b8, b9, sz⟩, e', pls⟩ := hB2
  refine kG ?_
  clear kG GG
  walk_at "go"
  refine cb_len_list z3 (by rw [ic_len]; omega) ?_
  rw [ic_len, hwl]
  walk_at "go"
  have m3' : ∀ o, Mv pB H1 (H2.upd dx o) := fun o => Mv.ch m2 b2 rfl
  refine ⟨_, Sub.refl _, h _ (r1.trans (Rl.ofB (m3' _))) ⟨dx, g, gx, clx, mk, mx, mr, ls, nu, na, ma, li, ct, sv, ti, A, G, B, ⟨by walk_at "hk", ?_, by walk_at "hk", by walk_at "hk", by walk_at "hk", by walk_at "hk", by walk_at "hk", by walk_at "hk", by walk_at "hk", sz⟩, e', pls⟩⟩
  apply some_rcd
  walk_at "hk"
  congr 5
  simp; omega
inductive RegR (es1 es2 : List En) (bnd : Nat) : List Nat → Nat → Nat → List Nat → Nat → Prop
  | stop1 {T p m} : ¬ (p + bnd < T.length) → RegR es1 es2 bnd T p m T m
  | stop2 {T p m} : p + bnd < T.length → ((fwdW T p).2 = false ∨ T.length < (fwdW T p).1 + bnd ∨ (fwdW T p).1 ≤ p) → RegR es1 es2 bnd T p m T m
  | skip {T p m T' m'} : p + bnd < T.length → (fwdW T p).2 = true → (fwdW T p).1 + bnd ≤ T.length → p < (fwdW T p).1 → dueE es1 es2 T (fwdW T p).1 = none → RegR es1 es2 bnd T (fwdW T p).1 m T' m' → RegR es1 es2 bnd T p m T' m'
  | put {T p m T' m' d} : p + bnd < T.length → (fwdW T p).2 = true → (fwdW T p).1 + bnd ≤ T.length → p < (fwdW T p).1 → dueE es1 es2 T (fwdW T p).1 = some d → d.2.1 = (fwdW T p).1 → d.1 < d.2.1 → d.2.2.length ≤ 4 → (∀ c ∈ d.2.2, c < 128) →
      RegR es1 es2 bnd (putT T d) (d.1 + d.2.2.length) (m + 1) T' m' → RegR es1 es2 bnd T p m T' m'
theorem RegR.inv {es1 es2 : List En} {bnd : Nat} {T : List Nat} {p m : Nat} {Tf : List Nat} {mf : Nat} (h : RegR es1 es2 bnd T p m Tf mf) :
    (¬ (p + bnd < T.length) ∧ T = Tf ∧ m = mf) ∨ (p + bnd < T.length ∧ ((fwdW T p).2 = false ∨ T.length < (fwdW T p).1 + bnd ∨ (fwdW T p).1 ≤ p) ∧ T = Tf ∧ m = mf) ∨
    (p + bnd < T.length ∧ (fwdW T p).2 = true ∧ (fwdW T p).1 + bnd ≤ T.length ∧ p < (fwdW T p).1 ∧ dueE es1 es2 T (fwdW T p).1 = none ∧ RegR es1 es2 bnd T (fwdW T p).1 m Tf mf) ∨
    (∃ d, p + bnd < T.length ∧ (fwdW T p).2 = true ∧ (fwdW T p).1 + bnd ≤ T.length ∧ p < (fwdW T p).1 ∧ dueE es1 es2 T (fwdW T p).1 = some d ∧ d.2.1 = (fwdW T p).1 ∧ d.1 < d.2.1 ∧ d.2.2.length ≤ 4 ∧ (∀ c ∈ d.2.2, c < 128) ∧ RegR es1 es2 bnd (putT T d) (d.1 + d.2.2.length) (m + 1) Tf mf) := by
  cases h with
  | stop1 a => exact .inl ⟨a, rfl, rfl⟩
  | stop2 a b => exact .inr (.inl ⟨a, b, rfl, rfl⟩)
  | skip a b c d e f => exact .inr (.inr (.inl ⟨a, b, c, d, e, f⟩))
  | put a b c d e f g h i j => exact .inr (.inr (.inr ⟨_, a, b, c, d, e, f, g, h, i, j⟩))
theorem setBuf {b dx g gx cl mk mx mr ls : Addr} {nu na ma li ct sv : AV} {ti : Int} {A : List Nat} {G : List AV} {B : List Nat} {pt x : Int} (h : BufZ H b dx g gx cl mk mx mr ls nu na ma li ct sv ti A G B pt zv) (e : T = A ++ B) (pls : ct.plain = true ∧ sv.plain = true ∧ nu.plain = true ∧ na.plain = true) :
    BufS (H.upd dx (.rcd 1 at_Buffer [some nu, some na, some (.ref g), some (.ref mk), some (.int x), some (.int 1), some (.int zv), some ma, some li, some (.bool false), some (.int ti), some ct, some sv, some (.ref ls), some .none, some .none, some .none, some .none, some .none, some .none])) b T x zv := by
  obtain ⟨b1, b2, b3, b4, b5, b6, b7, b8, b9, sz⟩ := h
  exact ⟨dx, g, gx, cl, mk, mx, mr, ls, nu, na, ma, li, ct, sv, ti, A, G, B, ⟨by walk_at "hk", by walk_at "hk", by walk_at "hk", by walk_at "hk", by walk_at "hk", by walk_at "hk", by walk_at "hk", by walk_at "hk", by walk_at "hk", sz⟩, e, pls⟩
theorem BufS.toR2 (h : BufS H b T pt ((T.length : Nat) + 1)) : BufY H b T pt := by
  obtain ⟨dx, g, gx, cl, mk, mx, mr, ls, nu, na, ma, li, ct, sv, ti, A, G, B, ⟨b1, b2, b3, b4, b5, b6, b7, b8, b9, sz⟩, e, pls⟩ := h
  subst e
  refine ⟨dx, g, gx, cl, mk, mx, mr, ls, nu, na, ma, li, ct, sv, ti, A, G, B, ⟨b1, ?_, b3, b4, b5, b6, b7, b8, b9, sz⟩, rfl, pls⟩
  rw [b2]; simp
theorem putT_len2 (T : List Nat) (d : Nat × Nat × List Nat) (h1 : d.1 ≤ d.2.1) (h2 : d.2.1 ≤ T.length) : (putT T d).length + d.2.1 = d.1 + d.2.2.length + T.length := by
  show (T.take d.1 ++ d.2.2 ++ T.drop d.2.1).length + _ = _
  rw [List.length_append, List.length_append, List.length_take, Nat.min_eq_left (Nat.le_trans h1 h2), List.length_drop, Nat.add_assoc, Nat.sub_add_cancel h2]
theorem putT_len (T : List Nat) (d : Nat × Nat × List Nat) (h1 : d.1 ≤ d.2.1) (h2 : d.2.1 ≤ T.length) : (putT T d).length = d.1 + d.2.2.length + (T.length - d.2.1) := by
  rw [← Nat.add_sub_cancel (n := (putT T d).length) (m := d.2.1), putT_len2 T d h1 h2, Nat.add_sub_assoc h2]
theorem putT_lt {T : List Nat} {d : Nat × Nat × List Nat} (h : ∀ c ∈ T, c < 128) (hd : ∀ c ∈ d.2.2, c < 128) : ∀ c ∈ putT T d, c < 128 := by
  intro c hc
  simp only [putT, List.mem_append] at hc
  rcases hc with (hc | hc) | hc
  · exact h c (List.mem_of_mem_take hc)
  · exact hd c hc
  · exact h c (List.mem_of_mem_drop hc)
inductive J18 (H : AH) (b tb a : Addr) (i e bn : Nat) (T : List Nat) (es1 es2 : List En) (Tf : List Nat) (mf k : Nat) (H' : AH) : List (Option AV) → Prop
  | mk (T' : List Nat) (p m : Nat) (u1 u2 : Option AV) (hk : k + p = T'.length) (hsz : 4 * T'.length ≤ 1000 + 3 * p) (hch : ∀ c ∈ T', c < 128) (hr : Rl H H') (hB : BufS H' b T' ((p : Nat) + 1) ((T'.length : Nat) + 1)) (hR : RegR es1 es2 bn T' p m Tf mf) :
    J18 H b tb a i e bn T es1 es2 Tf mf k H' [some (.ref b), some (.ref tb), some (.ref a), some (.int ((i : Nat) + 1)), some (.int ((e : Nat) + 1)), some (.int (((T.length : Nat) : Int) + 1 - ((e : Nat) + 1))), some (.int (m : Nat)), u1, u2, none, none]
theorem cw_expand_region {tb a : Addr} {x y : Int} {i e : Nat} {es1 es2 : List En} {Tf : List Nat} {mf : Nat} (hB : BufS H b T pt ((T.length : Nat) + 1)) (hS : SynT H a) (hT : ∀ c ∈ T, c < 128) (ex : x = (i : Nat) + 1) (ey : y = (e : Nat) + 1) (hi : i ≤ T.length) (he : e ≤ T.length) (hlen : T.length + 3 * T.length ≤ 1000)
    (hTb : Tabs H tb es1 es2) (ho1 : OkE es1) (ho2 : OkE es2) (hc1 : OkN es1) (hc2 : OkN es2) (hR : RegR es1 es2 (T.length - e) T i 0 Tf mf)
    (h : ∀ H' pt', Rl H H' → BufS H' b Tf pt' ((Tf.length : Nat) + 1) → Q (.int (mf : Nat)) H') : CW S (.ref 529) (n + 12) [.ref b, .ref tb, .ref a, .int x, .int y] Q H := by
  subst ex ey
  have hbn : e + (T.length - e) = T.length := Nat.add_sub_cancel' he
  generalize T.length - e = bn at hR hbn
  refine kw_fn [some _, some _, some _, some _, some _, none, none, none, none, none, none] (k_expand_region _) (c_expand_region _) (b_expand_region _) rfl rfl ?_
  have hB0 := hB
  refine gG fun GG kG => ?_
  obtain ⟨dx, g, gx, clx, mk, mx, mr, ls, nu, na, ma, li, ct, sv, ti, A, G, B, hz, e', pls⟩ := hB
  have b1 := hz.b1
  have b2 := hz.b2
  refine kG ?_
  clear kG GG
  walk_at "go"
  have m0 : ∀ o, Mv pB H (H.upd dx o) := fun o => Mv.ch (Mv.refl _) b2 rfl
  refine jw_while (fun k F H' => J18 H b tb a i e bn T es1 es2 Tf mf k H' F) (T.length - i) ?_ (.mk T i 0 _ _ (Nat.sub_add_cancel hi) (by omega) hT (Rl.ofB (m0 _)) (setBuf hz e' pls) hR)
  · intro k QL QXL hN hX F H' hj
    clear b1 b2 hz e' pls hR m0 hB0
    refine gG fun GG kG => ?_
    obtain ⟨T', p, m, u1, u2, hk, hsz, hch, hr, hB, hR⟩ := hj
    have hp : p ≤ T'.length := by omega
    have hS' := hr.syn hS
    have hB' := hB
    have hB3 := hB
    obtain ⟨dx', g', gx', clx', mk', mx', mr', ls', nu', na', ma', li', ct', sv', ti', A', G', B', hRR, eAB, pls⟩ := hB.toR2
    have b1 := hRR.b1
    have b2 := hRR.b2
    have hAB : A'.length + B'.length = T'.length := by rw [eAB]; simp
    rw [hAB] at b2
    have hf := fwdW_b T' p hp
    have m1 : ∀ o, Mv pB H' (H'.upd dx' o) := fun o => Mv.ch (Mv.refl _) b2 rfl
    have r1 := fun o => hr.trans (Rl.ofB (m1 o))
    have hB2 : ∀ x, BufS (H'.upd dx' (.rcd 1 at_Buffer [some nu', some na', some (.ref g'), some (.ref mk'), some (.int x), some (.int 1), some (.int ((T'.length : Nat) + 1)), some ma', some li', some (.bool false), some (.int ti'), some ct', some sv', some (.ref ls'), some .none, some .none, some .none, some .none, some .none, some .none])) b T' x ((T'.length : Nat) + 1) :=
      fun x => setBuf (pt := (p : Nat) + 1) ⟨b1, b2, hRR.b3, hRR.b4, hRR.b5, hRR.b6, hRR.b7, hRR.b8, hRR.b9, hRR.sz⟩ eAB pls
    refine kG ?_
    clear kG GG
    walk_at "go"
    by_cases hlt : p + bn < T'.length
    · refine if_t (by simp; omega) ?_
      walk_at "go"
      refine cw_forward_word_f hRR hS' (by rw [← eAB]; exact hch) (i := p) (by rw [← eAB]; exact hp) rfl fun t ht => ?_
      rw [← eAB]
      walk_at "mw"
      walk_at "mw"
      walk_at "mw"
      walk_at "mw"
      walk_at "mw"
      walk_at "mw"
      refine SW.forget (H := H') ?_ (by walk_at "sub")
      refine gG fun GG kG => ?_
      rcases hR.inv with ⟨q, _, _⟩ | ⟨_, hs, rfl, rfl⟩ | ⟨_, h1, h2, h3, h4, h5⟩ | ⟨d, _, h1, h2, h3, h4, h5, h6, h7, h8, h9⟩
      · exact absurd hlt q
      · refine kG ?_
        clear kG GG
        cases hb : (fwdW T' p).2
        · walk_at "go"
          exact hX (.ret _) _ _ ⟨_, Sub.refl _, h _ _ hr hB'⟩
        · walk_at "go"
          by_cases h1 : T'.length < (fwdW T' p).1 + bn
          · refine if_t (by simp; omega) ?_
            walk_at "go"
            exact hX (.ret _) _ _ ⟨_, Sub.refl _, h _ _ hr hB'⟩
          · refine if_f (by simp; omega) ?_
            have h2 : (fwdW T' p).1 ≤ p := by
              rcases hs with h | h | h
              · rw [hb] at h; cases h
              · exact absurd h h1
              · exact h
            walk_at "go"
            refine if_t (by simp; omega) ?_
            walk_at "go"
            exact hX (.ret _) _ _ ⟨_, Sub.refl _, h _ _ hr hB'⟩
      · refine kG ?_
        clear kG GG
        rw [h1]
        walk_at "go"
        refine if_f (by simp; omega) ?_
        walk_at "go"
        refine if_f (by simp; omega) ?_
        walk_at "go"
        refine cw_expand_abbrev (hB2 _) ((r1 _).syn hS) hch (by omega) (by omega) ((r1 _).tabs hTb) ho1 ho2 hc1 hc2 (fun _ H3 r3 hB3 => ?_) (fun _ _ _ _ _ _ q => by rw [h4] at q; cases q)
        walk_at "go"
        exact hN _ _ ⟨T'.length - (fwdW T' p).1, by omega, .mk T' _ m _ _ (Nat.sub_add_cancel (by omega)) (by omega) hch ((r1 _).trans r3) hB3 h5⟩
      · refine kG ?_
        clear kG GG
        rw [h1]
        walk_at "go"
        refine if_f (by simp; omega) ?_
        walk_at "go"
        refine if_f (by simp; omega) ?_
        walk_at "go"
        refine cw_expand_abbrev (hB2 _) ((r1 _).syn hS) hch (by omega) (by omega) ((r1 _).tabs hTb) ho1 ho2 hc1 hc2 (fun q => by rw [h4] at q; cases q) (fun H3 v ex wl cl d' q r3 hB3 x1 x2 x3 x4 => ?_)
        rw [h4] at q; cases q
        have hpl := putT_len2 T' d (by omega) (by omega)
        walk_at "go"
        exact hN _ _ ⟨T'.length - (fwdW T' p).1, by omega, .mk (putT T' d) _ (m + 1) _ _ (by omega) (by omega) (putT_lt hch h8) ((r1 _).trans r3) hB3 h9⟩
    · refine if_f (by simp; omega) ?_
      refine gG fun GG kG => ?_
      rcases hR.inv with ⟨q, rfl, rfl⟩ | ⟨q, _⟩ | ⟨q, _⟩ | ⟨_, q, _⟩
      · refine kG ?_
        clear kG GG
        walk_at "go"
        exact ⟨_, Sub.refl _, h _ _ hr hB'⟩
      · exact absurd q hlt
      · exact absurd q hlt
      · exact absurd q hlt
end

section
variable {S : Sta} {E : ES} {n : Nat} {F F' : List (Option AV)} {H H' : AH} {Q : AV → AH → Prop} {QN : List (Option AV) → AH → Prop} {QX : AFl → List (Option AV) → AH → Prop}
theorem wout_none {K V : Type} [DecidableEq K] (kvs : List (K × V)) (k : K) (h : vat kvs k = none) : wout kvs k = kvs := by
  unfold wout
  rw [List.filter_eq_self]
  intro p hp
  simp only [decide_eq_true_eq]
  intro e
  have : (vat kvs k).isSome = true := by rw [vat_isSome, List.any_eq_true]; exact ⟨p, hp, by simpa using e⟩
  rw [h] at this; cases this
theorem cw_forget {tb wl tx pl e : Addr} {nm : Str} {kvs : List (Str × AV)} {w : List Nat} (t1 : H tb = some (.inst 104 tx)) (t2 : H tx = some (.rcd 4 at_AbbrevTable [some (.str nm), some (.ref pl), some (.ref e), some (.bool false)])) (t3 : H e = some (.sdict 2 kvs)) (hsz : kvs.length ≤ 1000)
    (hl : H wl = some (.list 0 (ic w))) (hs : Sm w) (h : Q .none (H.upd e (.sdict 2 (wout (wout kvs (keyS w)) (keyS (w.map dnN)))))) : CW S (.ref 127) (n + 3) [.ref tb, .ref wl] Q H := by
  refine kw_fn [some _, some _, none, none, none] (k_forget _) (c_forget _) (b_forget _) rfl rfl ?_
  walk_at "go"
  refine cw_key_of hl hs ?_
  walk_at "go"
  refine cw_downcased hl hs.1 fun d hd => ?_
  walk_at "go"
  refine cw_key_of (AH.upd_self _ _ _) hs.dn ?_
  walk_at "go"
  rename_i t ht
  have m1 : Sub H ((H.upd d (.list 0 (ic (w.map dnN)))).upd t (.tuple [.str (keyS w), .str (keyS (w.map dnN))])) := by walk_at "sub"
  have htp : ((H.upd d (.list 0 (ic (w.map dnN)))).upd t (.tuple [.str (keyS w), .str (keyS (w.map dnN))])) t = some (.tuple [.str (keyS w), .str (keyS (w.map dnN))]) := AH.upd_self _ _ _
  generalize ((H.upd d (.list 0 (ic (w.map dnN)))).upd t (.tuple [.str (keyS w), .str (keyS (w.map dnN))])) = H1 at *
  have t1' := m1 _ _ t1
  have t2' := m1 _ _ t2
  have t3' := m1 _ _ t3
  refine ⟨_, _, iw_tuple htp, kfor_ind (fun xs F H' => ∃ kv u, H' = H1.upd e (.sdict 2 kv) ∧ kv.length ≤ 1000 ∧ F = [some (.ref tb), some (.ref wl), u, none, none] ∧
    ((xs = [.str (keyS w), .str (keyS (w.map dnN))] ∧ kv = kvs) ∨ (xs = [.str (keyS (w.map dnN))] ∧ kv = wout kvs (keyS w)) ∨ (xs = [] ∧ kv = wout (wout kvs (keyS w)) (keyS (w.map dnN))))) ?_ ?_ _ _ _ ⟨kvs, none, (upd_id t3').symm, hsz, rfl, .inl ⟨rfl, rfl⟩⟩⟩
  · rintro v rest F H' ⟨kv, u, rfl, hk, rfl, hx⟩
    have key : ∀ k, v = AV.str k → (∀ F : List (Option AV), (∃ u, F = [some (AV.ref tb), some (.ref wl), u, none, none]) → ∃ kv' u', H1.upd e (.sdict 2 (wout kv k)) = H1.upd e (.sdict 2 kv') ∧ kv'.length ≤ 1000 ∧ F = [some (.ref tb), some (.ref wl), u', none, none] ∧
        ((rest = [.str (keyS w), .str (keyS (w.map dnN))] ∧ kv' = kvs) ∨ (rest = [.str (keyS (w.map dnN))] ∧ kv' = wout kvs (keyS w)) ∨ (rest = [] ∧ kv' = wout (wout kvs (keyS w)) (keyS (w.map dnN))))) := by
      intro k hv F hF
      obtain ⟨u', rfl⟩ := hF
      have hle : (wout kv k).length ≤ 1000 := Nat.le_trans (List.length_filter_le _ _) hk
      rcases hx with ⟨hx, rfl⟩ | ⟨hx, rfl⟩ | ⟨hx, rfl⟩
      · simp only [List.cons.injEq] at hx
        obtain ⟨e1, e2⟩ := hx
        rw [hv] at e1; cases e1
        exact ⟨_, _, rfl, hle, rfl, .inr (.inl ⟨e2, rfl⟩)⟩
      · simp only [List.cons.injEq] at hx
        obtain ⟨e1, e2⟩ := hx
        rw [hv] at e1; cases e1
        exact ⟨_, _, rfl, hle, rfl, .inr (.inr ⟨e2, rfl⟩)⟩
      · cases hx
    obtain ⟨k, rfl⟩ : ∃ k, v = .str k := by
      rcases hx with ⟨hx, _⟩ | ⟨hx, _⟩ | ⟨hx, _⟩
      · cases hx; exact ⟨_, rfl⟩
      · cases hx; exact ⟨_, rfl⟩
      · cases hx
    replace key := key k rfl
    walk_at "go"
    refine ow_ind (AH.upd_self _ _ _) ?_
    cases hv : vat kv k with
    | none =>
      walk_at "go"
      refine if_f rfl ?_
      walk_at "go"
      rw [wout_none _ _ hv] at key
      exact ⟨by walk_at "hk", key _ ⟨_, rfl⟩⟩
    | some x =>
      walk_at "go"
      refine if_t rfl ?_
      walk_at "go"
      refine kw_mB bm_dpop ?_
      walk_at "go"
      refine cb_dpop (AH.upd_self _ _ _) hv (by omega) ?_
      rw [upd_upd]
      walk_at "go"
      exact ⟨by walk_at "hk", key _ ⟨_, rfl⟩⟩
  · rintro F H' ⟨kv, u, rfl, hk, rfl, ⟨hx, _⟩ | ⟨hx, _⟩ | ⟨_, rfl⟩⟩
    · cases hx
    · cases hx
    · walk_at "go"
      exact ⟨_, m1.both, h⟩
theorem sto_len {K V : Type} [DecidableEq K] (kvs : List (K × V)) (k : K) (v : V) : (sto kvs k v).length ≤ kvs.length + 1 := by unfold sto; split <;> simp
noncomputable def ownW (w : List Nat) (ex : Bool) : List Nat := if ex then w else w.map dnN
theorem ownW_sm {w : List Nat} {ex : Bool} (h : Sm w) : Sm (ownW w ex) := by unfold ownW; split; exact h; exact h.dn
theorem cw_define {tb wl cl tx pl e : Addr} {nm : Str} {kvs : List (Str × AV)} {w cs : List Nat} {ex : Bool} (t1 : H tb = some (.inst 104 tx)) (t2 : H tx = some (.rcd 4 at_AbbrevTable [some (.str nm), some (.ref pl), some (.ref e), some (.bool false)])) (t3 : H e = some (.sdict 2 kvs)) (hsz : kvs.length ≤ 1000)
    (hl : H wl = some (.list 0 (ic w))) (hs : Sm w) (hc : H cl = some (.list 0 (ic cs)))
    (h : ∀ H' r, (∀ a o, H a = some o → a ≠ e → H' a = some o) → H' e = some (.sdict 2 (sto (wout (wout kvs (keyS w)) (keyS (w.map dnN))) (keyS (ownW w ex)) (.ref r))) → EntR H' r (ownW w ex, cs, ex) → Q .none H') : CW S (.ref 120) (n + 4) [.ref tb, .ref wl, .ref cl, .bool ex] Q H := by
  refine kw_fn [some _, some _, some _, some _, none, none, none, none, none] (k_define _) (c_define _) (b_define _) rfl rfl ?_
  have hk2 : (wout (wout kvs (keyS w)) (keyS (w.map dnN))).length ≤ 1000 := Nat.le_trans (List.length_filter_le _ _) (Nat.le_trans (List.length_filter_le _ _) hsz)
  cases ex
  · walk_at "go"
    refine cw_downcased hl hs.1 fun d hd => ?_
    walk_at "go"
    refine cw_forget (by walk_at "hk") (by walk_at "hk") (by walk_at "hk") hsz (by walk_at "hk") hs ?_
    walk_at "go"
    refine cw_Abbrev fun H1 x dx m x1 x2 => ?_
    have s1 := m _ _ (AH.upd_self _ _ _)
    have s2 := m tb (.inst 104 tx) (by walk_at "hk")
    have s3 := m tx _ (show _ = some (AO.rcd 4 at_AbbrevTable [some (.str nm), some (.ref pl), some (.ref e), some (.bool false)]) from by walk_at "hk")
    have s4 := m d (.list 0 (ic (w.map dnN))) (by walk_at "hk")
    have s5 := m cl (.list 0 (ic cs)) (by walk_at "hk")
    walk_at "go"
    refine cw_key_of s4 hs.dn ?_
    refine pw_sdict s1 (by omega) ?_
    walk_at "go"
    refine ⟨_, Sub.refl _, h _ x (fun a o ha hne => ?_) (AH.upd_self _ _ _) ⟨dx, d, cl, 0, by walk_at "hk", by apply some_rcd; walk_at "hk"; rfl, by omega, by apply some_list; walk_at "hk"; rfl, by walk_at "hk"⟩⟩
    rw [AH.upd_ne hne]
    exact m _ _ (by rw [AH.upd_ne hne]; exact AH.upd_old hd ha)
  · walk_at "go"
    refine cw_forget (by walk_at "hk") (by walk_at "hk") (by walk_at "hk") hsz (by walk_at "hk") hs ?_
    walk_at "go"
    refine cw_Abbrev fun H1 x dx m x1 x2 => ?_
    have s1 := m _ _ (AH.upd_self _ _ _)
    have s2 := m tb (.inst 104 tx) (by walk_at "hk")
    have s3 := m tx _ (show _ = some (AO.rcd 4 at_AbbrevTable [some (.str nm), some (.ref pl), some (.ref e), some (.bool false)]) from by walk_at "hk")
    have s4 := m wl (.list 0 (ic w)) (by walk_at "hk")
    have s5 := m cl (.list 0 (ic cs)) (by walk_at "hk")
    walk_at "go"
    refine cw_key_of s4 hs ?_
    refine pw_sdict s1 (by omega) ?_
    walk_at "go"
    refine ⟨_, Sub.refl _, h _ x (fun a o ha hne => ?_) (AH.upd_self _ _ _) ⟨dx, wl, cl, 0, by walk_at "hk", by apply some_rcd; walk_at "hk"; rfl, by omega, by apply some_list; walk_at "hk"; rfl, by walk_at "hk"⟩⟩
    rw [AH.upd_ne hne]
    exact m _ _ (by rw [AH.upd_ne hne]; exact ha)
end

section
variable {S : Sta} {E : ES} {n : Nat} {F F' : List (Option AV)} {H H' : AH} {Q : AV → AH → Prop} {QN : List (Option AV) → AH → Prop} {QX : AFl → List (Option AV) → AH → Prop}
variable {b : Addr} {T : List Nat} {pt zv : Int}
noncomputable def st (T : List Nat) : Str := ⟨T.toArray⟩
theorem st_len (T : List Nat) : (st T).length = T.length := by simp [st, Str.length]
theorem signs_st (T : List Nat) : signs (st T) = T.map fun c => .str ⟨#[c]⟩ := by simp [signs, st]
noncomputable def fOrd : AV → Option AV
  | .str x => (x.cps[0]?).map fun (c : Nat) => .int (c : Int)
  | _ => none
theorem fm_ord (T : List Nat) : (signs (st T)).filterMap fOrd = ic T := by
  rw [signs_st]
  induction T with
  | nil => rfl
  | cons c T ih => simp only [List.map_cons, List.filterMap_cons, ic] at ih ⊢; simp [fOrd, ih]
theorem cw_law_codes {x : Str} (hx : x = st T) (hs : T.length ≤ 1000) (h : ∀ a, H a = none → Q (.ref a) (H.upd a (.list 0 (ic T)))) : CW S (.ref 841) (n + 1) [.str x] Q H := by
  subst hx
  refine kw_fn [some _] (k_law_codes _) (c_law_codes _) (b_law_codes _) rfl rfl ?_
  walk_at "go"
  refine ew_comp1 [] [(".0", .local), ("letter", .local), ("ord", .globalImplicit)] (by kernel_rfl) (fun u => [none, u, none]) rfl (fun _ _ => .there .here) fOrd (by intro _ _; rfl) (by kernel_rfl) (by kernel_rfl) (by kernel_rfl) (by kernel_rfl) ?_
  iterate 1 walk_at "mw"
  refine ⟨_, _, ?_, iw_str, ?_, fun d hd => ?_⟩
  · rw [signs_st, List.length_map]; omega
  · intro v hv
    rw [signs_st] at hv
    obtain ⟨c, hc, rfl⟩ := List.mem_map.mp hv
    refine ifs0 ?_
    walk_at "go"
    refine cb_ord ?_
    exact ⟨rfl, rfl⟩
  · rw [fm_ord]
    exact ⟨_, Sub.refl _, h d hd⟩
noncomputable def fChr : AV → Option AV
  | .int i => some (.str ⟨#[i.toNat]⟩)
  | _ => none
theorem fm_chr (T : List Nat) : (ic T).filterMap fChr = (T.map fun c => (⟨#[c]⟩ : Str)).map AV.str := by
  induction T with
  | nil => rfl
  | cons c T ih => simp only [ic, List.map_cons, List.filterMap_cons, fChr, Int.toNat_natCast] at ih ⊢; rw [ih]
theorem join1 : ∀ T : List Nat, Txt.join (Str.ofString "") (T.map fun c => (⟨#[c]⟩ : Str)) = st T
  | [] => by simp [Txt.join, StrLaws.glued_eq_join, Str.join, st, Str.empty]
  | [c] => by simp [Txt.join, StrLaws.glued_eq_join, Str.join, st]
  | c :: d :: r => by
    have ih := join1 (d :: r)
    simp only [Txt.join, StrLaws.glued_eq_join, List.map_cons] at ih ⊢
    rw [PyProof.Rows.join_cons_cons, ih]
    have : (Str.ofString "") = ⟨#[]⟩ := by decide +kernel
    rw [this]
    show (⟨(#[c] ++ #[]) ++ (st (d :: r)).cps⟩ : Str) = _
    simp [st]
theorem cw_law_held (hB : BufS H b T pt ((T.length : Nat) + 1)) (hT : ∀ c ∈ T, c < 128) (hs : T.length ≤ 1000) (h : Q (.str (st T)) H) : CW S (.ref 886) (n + 4) [.ref b] Q H := by
  obtain ⟨dx, g, gx, cl, mk, mx, mr, ls, nu, na, ma, li, ct, sv, ti, A, G, B, hR, rfl⟩ := hB.toR
  have hR' := hR
  obtain ⟨b1, b2, b3, b4, b5, b6, b7, b8, b9, sz⟩ := hR
  refine kw_fn [some _] (k_law_held _) (c_law_held _) (b_law_held _) rfl rfl ?_
  walk_at "go"
  refine ew_comp1 [] [(".0", .local), ("code", .local), ("chr", .globalImplicit)] (by kernel_rfl) (fun u => [none, u, none]) rfl (fun _ _ => .there .here) fChr (by intro _ _; rfl) (by kernel_rfl) (by kernel_rfl) (by kernel_rfl) (by kernel_rfl) ?_
  walk_at "go"
  refine cw_bsize hR' ?_
  walk_at "go"
  refine cw_bcodes hR' (i := 0) (j := A.length + B.length) (by simp) (by simp) (by omega) (by omega) fun r hr => ?_
  have e0 : cutN 0 (A.length + B.length) (A ++ B) = A ++ B := by simp [cutN, List.take_of_length_le]
  rw [e0]
  refine ⟨_, _, ?_, iw_list (AH.upd_self _ _ _), ?_, fun d hd => ?_⟩
  · rw [ic_len]; omega
  · intro v hv
    obtain ⟨c, hc, rfl⟩ := ic_mem hv
    have := hT c hc
    refine ifs0 ?_
    walk_at "go"
    refine cb_chr (by omega) (by omega) ?_
    exact ⟨rfl, rfl⟩
  · walk_at "go"
    rw [fm_chr]
    refine cb_join (AH.upd_self _ _ _) ?_ ?_
    · have h1 : ((((A ++ B).map fun c => (⟨#[c]⟩ : Str)).map (·.length))).sum = (A ++ B).length := by
        generalize A ++ B = L
        induction L with
        | nil => rfl
        | cons c L ih => simp only [List.map_cons, List.sum_cons, ih, List.length_cons]; simp [Str.length]; omega
      have h2 : (Str.ofString "").length = 0 := by decide +kernel
      rw [h1, h2]; omega
    · rw [join1]
      exact ⟨_, by walk_at "sub", h⟩
theorem cw_goto {x : Int} {p : Nat} (hB : BufS H b T pt ((T.length : Nat) + 1)) (hx : x = (p : Nat) + 1) (hp : p ≤ T.length) (h : ∀ H' v, Mv pB H H' → BufS H' b T ((p : Nat) + 1) ((T.length : Nat) + 1) → Q v H') : CW S (.ref 796) (n + 1) [.ref b, .int x] Q H := by
  subst hx
  obtain ⟨dx, g, gx, cl, mk, mx, mr, ls, nu, na, ma, li, ct, sv, ti, A, G, B, ⟨b1, b2, b3, b4, b5, b6, b7, b8, b9, sz⟩, e, pls⟩ := hB
  refine kw_fn [some _, some _, none, none] (k_Buffer_goto _) (c_Buffer_goto _) (b_Buffer_goto _) rfl rfl ?_
  walk_at "go"
  refine cb_max ?_
  walk_at "go"
  refine cb_min ?_
  walk_at "go"
  refine ⟨_, Sub.refl _, h _ _ (by walk_at "mv") ⟨dx, g, gx, cl, mk, mx, mr, ls, nu, na, ma, li, ct, sv, ti, A, G, B, ⟨by walk_at "hk", ?_, by walk_at "hk", by walk_at "hk", by walk_at "hk", by walk_at "hk", by walk_at "hk", by walk_at "hk", by walk_at "hk", sz⟩, e, pls⟩⟩
  apply some_rcd
  walk_at "hk"
  congr 5
  simp; omega
noncomputable def pD (k : Nat) : Bool := k == 41
inductive DeckS (H : AH) (d : Addr) (m : Nat) : Prop
  | mk (c : Addr) (k : Int) (L : List Int) (a1 : H d = some (.list 4 [.ref c, .int k])) (a2 : H c = some (.list 0 (L.map AV.int))) (a3 : L.length ≤ 64 ∧ 0 ≤ k ∧ k + m ≤ 10000)
theorem mod_nat {a : Int} {m : Nat} (hm : 0 < m) : ∃ v : Nat, v < m ∧ a.fmod (m : Int) = (v : Int) := by
  have h0 := Int.fmod_nonneg_of_pos a (show (0 : Int) < m by omega)
  have h1 := Int.fmod_lt_of_pos a (show (0 : Int) < m by omega)
  exact ⟨(a.fmod m).toNat, by omega, by omega⟩
theorem cw_law_draw {d : Addr} {many m : Nat} (hm : 0 < many) (hD : DeckS H d (m + 1)) (h : ∀ H' (v : Nat), v < many → Mv pD H H' → DeckS H' d m → Q (.int (v : Nat)) H') : CW S (.ref 836) (n + 1) [.ref d, .int (many : Nat)] Q H := by
  obtain ⟨c, k, L, d1, d2, d3, d4, d5⟩ := hD
  refine kw_fn [some _, some _, none] (k_law_draw _) (c_law_draw _) (b_law_draw _) rfl rfl ?_
  have gd : ∀ {k : Int} {H : AH}, H d = some (.list 4 [.ref c, .int k]) → H d = some (.list 4 [.ref c, .int k]) := fun h => h
  walk_at "go"
  refine gw_list d1 (by omega) (by omega) rfl ?_
  walk_at "go"
  refine pw_list d1 (by omega) (by omega) (by simp) ?_
  have m1 : Mv pD H (H.upd d (.list 4 [.ref c, .int (k + 1)])) := Mv.ch (Mv.refl _) d1 rfl
  have e1 : (H.upd d (.list 4 [.ref c, .int (k + 1)])) d = some (.list 4 [.ref c, .int (k + 1)]) := AH.upd_self _ _ _
  have e2 : (H.upd d (.list 4 [.ref c, .int (k + 1)])) c = some (.list 0 (L.map AV.int)) := by walk_at "hk"
  show SW _ _ _ _ _ _ _ (H.upd d (.list 4 [.ref c, .int (k + 1)]))
  have hD' : DeckS (H.upd d (.list 4 [.ref c, .int (k + 1)])) d m := ⟨c, k + 1, L, e1, e2, d3, by omega, by omega⟩
  generalize H.upd d (.list 4 [.ref c, .int (k + 1)]) = H1 at *
  walk_at "go"
  refine gw_list e1 (by omega) (by omega) rfl ?_
  walk_at "go"
  refine gw_list e1 (by omega) (by omega) rfl ?_
  walk_at "go"
  refine cb_len_list e2 (by simp; omega) ?_
  walk_at "go"
  by_cases hle : k + 1 ≤ (L.length : Nat)
  · refine if_t (by simp; omega) ?_
    walk_at "go"
    refine gw_list e1 (by omega) (by omega) rfl ?_
    walk_at "go"
    refine gw_list e1 (by omega) (by omega) rfl ?_
    walk_at "go"
    have hlt : (k + 1 - 1).toNat < L.length := by omega
    refine gw_list e2 (by omega) (by omega) (x := .int (L[(k + 1 - 1).toNat]'hlt)) (by simp) ?_
    walk_at "go"
    refine ow_mod (by omega) ?_
    obtain ⟨v, hv, e⟩ := mod_nat (a := L[(k + 1 - 1).toNat]'hlt) hm
    rw [e]
    exact ⟨_, Sub.refl _, h _ v hv m1 hD'⟩
  · refine if_f (by simp; omega) ?_
    walk_at "go"
    refine gw_list e1 (by omega) (by omega) rfl ?_
    walk_at "go"
    refine gw_list e1 (by omega) (by omega) rfl ?_
    refine ow_mul ?_ ?_
    · exact IntMulOk.of_left (intBits_le_64 (by omega) (by omega))
    walk_at "go"
    refine ow_mul ?_ ?_
    · exact IntMulOk.of_right (intBits_le_64 (by omega) (by omega))
    walk_at "go"
    refine gw_list e1 (by omega) (by omega) rfl ?_
    refine ow_mul ?_ ?_
    · exact IntMulOk.of_right (intBits_le_64 (by omega) (by omega))
    walk_at "go"
    refine gw_list e1 (by omega) (by omega) rfl ?_
    walk_at "go"
    refine cb_len_list e2 (by simp; omega) ?_
    walk_at "go"
    refine ow_mul ?_ ?_
    · exact IntMulOk.of_left (intBits_le_64 (by omega) (by omega))
    walk_at "go"
    refine ow_fdiv (by omega) (by decide) ?_
    walk_at "go"
    refine ow_mod (by omega) ?_
    obtain ⟨v, hv, e⟩ := mod_nat (a := ((k + 1) * (k + 1) * 31 + 13 * (k + 1) + 7 * ((L.map AV.int).length : Nat)).fdiv 3) hm
    rw [e]
    exact ⟨_, Sub.refl _, h _ v hv m1 hD'⟩
end

section
variable {S : Sta} {E : ES} {n : Nat} {F F' : List (Option AV)} {H H' : AH} {Q : AV → AH → Prop} {QN : List (Option AV) → AH → Prop} {QX : AFl → List (Option AV) → AH → Prop}
theorem bk_spec (f : Nat → Bool) : ∀ i, (∀ k, bk f i ≤ k → k < i → f k = true) ∧ (∀ j, bk f i = j + 1 → f j = false)
  | 0 => ⟨fun k _ h => by omega, fun j h => by simp [bk] at h⟩
  | i + 1 => by
    have ⟨a, b⟩ := bk_spec f i
    unfold bk
    cases hf : f i
    · simp only [Bool.false_eq_true, if_false]
      refine ⟨fun k h1 h2 => by omega, fun j h => ?_⟩
      have : j = i := by omega
      subst this; exact hf
    · simp only [if_true]
      refine ⟨fun k h1 h2 => ?_, b⟩
      by_cases e : k = i
      · subst e; exact hf
      · exact a k h1 (by omega)
theorem fw_eq (f : Nat → Bool) : ∀ (k i j : Nat), i ≤ j → j ≤ i + k → (∀ x, i ≤ x → x < j → f x = true) → (j = i + k ∨ f j = false) → fw f k i = j
  | 0, i, j, h1, h2, _, _ => by simp [fw]; omega
  | k + 1, i, j, h1, h2, h3, h4 => by
    unfold fw
    by_cases e : i = j
    · subst e
      have : f i = false := by rcases h4 with h | h; omega; exact h
      simp [this]
    · have hi := h3 i (Nat.le_refl _) (by omega)
      simp only [hi, if_true]
      exact fw_eq f k (i + 1) j (by omega) (by omega) (fun x a b => h3 x (by omega) b) (by rcases h4 with h | h; exact .inl (by omega); exact .inr h)
theorem fw_spec (f : Nat → Bool) : ∀ k i, (∀ j, i ≤ j → j < fw f k i → f j = true) ∧ (fw f k i < i + k → f (fw f k i) = false)
  | 0, i => ⟨fun j a b => by simp [fw] at b; omega, fun h => by simp [fw] at h⟩
  | k + 1, i => by
    have ⟨a, b⟩ := fw_spec f k (i + 1)
    unfold fw
    cases hf : f i
    · simp only [Bool.false_eq_true, if_false]
      exact ⟨fun j h1 h2 => by omega, fun _ => hf⟩
    · simp only [if_true]
      refine ⟨fun j h1 h2 => ?_, fun h => b (by omega)⟩
      by_cases e : j = i
      · subst e; exact hf
      · exact a j (by omega) h2
noncomputable def lawW (T : List Nat) (p : Nat) : Option (Nat × Nat) :=
  if bk (fun k => wAt T k != false) (bk (fun k => wAt T k != true) p) = bk (fun k => wAt T k != true) p then none else some (bk (fun k => wAt T k != false) (bk (fun k => wAt T k != true) p), bk (fun k => wAt T k != true) p)
theorem wAt_lt {T : List Nat} {i : Nat} (h : wAt T i = true) : i < T.length := by
  unfold wAt at h
  split at h
  · rename_i c hc; exact (List.getElem?_eq_some_iff.mp hc).1
  · cases h
/-- from the start of a word on, the walk ahead ends at the word's end -/
theorem fwdW_in {T : List Nat} {s e : Nat} (hse : s < e) (he : e ≤ T.length) (hw : ∀ k, s ≤ k → k < e → wAt T k = true) (hn : e = T.length ∨ wAt T e = false) : fwdW T s = (e, true) := by
  have h0 : fw (fun k => wAt T k != true) (T.length - s) s = s := fw_eq _ _ _ _ (Nat.le_refl _) (by omega) (fun x a b => by omega) (.inr (by simp [hw s (Nat.le_refl _) hse]))
  have h1 : fw (fun k => wAt T k != false) (T.length - s) s = e := fw_eq _ _ _ _ (by omega) (by omega) (fun x a b => by simp [hw x a b]) (by
    rcases hn with h | h
    · exact .inl (by omega)
    · exact .inr (by simp [h]))
  unfold fwdW
  rw [h0, if_neg (by omega), h1]
theorem lawW_some {T : List Nat} {p s e : Nat} (hp : p ≤ T.length) (h : lawW T p = some (s, e)) : wordB T p = (s, e) ∧ s < e ∧ e ≤ p := by
  unfold lawW at h
  split at h
  · cases h
  · rename_i hne
    simp only [Option.some.injEq, Prod.mk.injEq] at h
    obtain ⟨hs, he⟩ := h
    have e1 := bk_le (fun k => wAt T k != true) p
    have e2 := bk_le (fun k => wAt T k != false) e
    have ⟨a1, a2⟩ := bk_spec (fun k => wAt T k != true) p
    have ⟨b1, b2⟩ := bk_spec (fun k => wAt T k != false) e
    rw [he] at hs hne e1 a1 a2
    rw [hs] at hne b1 b2 e2
    have hse : s < e := by omega
    have hw : ∀ k, s ≤ k → k < e → wAt T k = true := fun k x y => by simpa using b1 k x y
    have hb : bwdW T p = (s, true) := by unfold bwdW; rw [he, if_neg (by omega), hs]
    refine ⟨?_, hse, e1⟩
    unfold wordB
    rw [hb]
    simp only [if_true, Prod.mk.injEq, true_and]
    by_cases hep : e = p
    · have h0 : fw (fun k => wAt T k != true) (T.length - s) s = s := fw_eq _ _ _ _ (Nat.le_refl _) (by omega) (fun x a b => by omega) (.inr (by simp [hw s (Nat.le_refl _) hse]))
      have hb2 := fwdW_b T s (by omega)
      have : e ≤ (fwdW T s).1 := by
        unfold fwdW
        rw [h0, if_neg (by omega)]
        have ⟨c1, c2⟩ := fw_spec (fun k => wAt T k != false) (T.length - s) s
        have c3 := fw_ge (fun k => wAt T k != false) (T.length - s) s
        apply Classical.byContradiction
        intro hlt
        simp only [Nat.not_le] at hlt
        have := c2 (by omega)
        rw [hw _ c3.1 hlt] at this; cases this
      omega
    · have hn : wAt T e = false := by have := a1 e (Nat.le_refl _) (by omega); simpa using this
      rw [fwdW_in hse (by omega) hw (.inr hn)]
      show min e p = e
      omega
theorem lawW_none {T : List Nat} {p : Nat} (hp : p ≤ T.length) (h : lawW T p = none) : cutN (wordB T p).1 (wordB T p).2 T = [] := by
  unfold lawW at h
  split at h
  · rename_i heq
    have ⟨a1, a2⟩ := bk_spec (fun k => wAt T k != true) p
    have hb : bwdW T p = (0, false) := by
      unfold bwdW
      split
      · rfl
      · rename_i hne
        exfalso
        obtain ⟨j, hj⟩ : ∃ j, bk (fun k => wAt T k != true) p = j + 1 := ⟨_, (Nat.succ_pred hne).symm⟩
        have := a2 j hj
        rw [hj] at heq
        have hl := bk_le (fun k => wAt T k != false) j
        have hw : wAt T j = true := by simpa using this
        have z : bk (fun k => wAt T k != false) (j + 1) = bk (fun k => wAt T k != false) j := by simp [bk, hw]
        rw [z] at heq; omega
    unfold wordB
    rw [hb]
    simp [cutN]
  · cases h
theorem occ_w : ∀ c < 128, (Builtin.Str.occurrences (Str.ofString "abABxyzXYZ") ⟨#[c]⟩ 0 (Str.ofString "abABxyzXYZ").length 1).isEmpty = !isW c := by decide +kernel
theorem ow_notinsE {x y : Str} {c : Bool} (e : (Builtin.Str.occurrences x y 0 x.length 1).isEmpty = c) (h : Q (.bool (!!c)) H) : OW S (compareOp .NotIn) n (.str y) (.str x) Q H := ow_notins (by rw [e]; exact h)
theorem st_get {T : List Nat} {i : Nat} (hi : i < T.length) : (st T).cps[i]? = some (T[i]'hi) := by simp [st]
theorem wAt_get {T : List Nat} {i : Nat} (hi : i < T.length) : wAt T i = isW (T[i]'hi) := wAt_some (List.getElem?_eq_getElem hi)
theorem cw_law_word {x : Str} {T : List Nat} {p : Nat} (hx : x = st T) (hT : ∀ c ∈ T, c < 128) (hl : T.length ≤ 1000) (hp : p ≤ T.length) (h0 : lawW T p = none → Q .none H)
    (h1 : ∀ t s e, lawW T p = some (s, e) → H t = none → Q (.ref t) (H.upd t (.tuple [.int (s : Nat), .int (e : Nat)]))) : CW S (.ref 867) (n + 1) [.str x, .int (p : Nat)] Q H := by
  subst hx
  refine kw_fn [some _, some _, none, none] (k_law_word _) (c_law_word _) (b_law_word _) rfl rfl ?_
  iterate 5 walk_at "mw"
  refine kw_while (fun k F H' => H' = H ∧ k ≤ p ∧ bk (fun j => wAt T j != true) k = bk (fun j => wAt T j != true) p ∧ F = [some (.str (st T)), some (.int (p : Nat)), some (.int (k : Nat)), none]) p ?_ ⟨rfl, by omega, rfl, rfl⟩
  rintro k F H' ⟨rfl, hk, hb, rfl⟩
  refine BW.mono (Q := fun b H'' => H'' = H' ∧ b = (decide (0 < k) && !wAt T (k - 1))) ?_ ?_
  · walk_at "go"
    cases k with
    | zero =>
      refine if_f (by simp) ?_
      exact ⟨rfl, rfl⟩
    | succ k =>
      refine if_t (by simp <;> omega) ?_
      have hkl : k < T.length := by omega
      walk_at "go"
      refine gw_str (by omega) (by omega) (c := T[k]'hkl) (by rw [show (((k + 1 : Nat) : Int) - 1).toNat = k by omega]; exact st_get hkl) ?_
      walk_at "go"
      refine ow_notinsE (occ_w _ (hT _ (List.getElem_mem hkl))) ?_
      refine ⟨_, rfl, ?_⟩
      cases hw : isW (T[k]'hkl)
      · refine if_t rfl ?_
        walk_at "go"
        exact ⟨rfl, by simp [wAt_get hkl, hw]⟩
      · refine if_f rfl ?_
        exact ⟨rfl, by simp [wAt_get hkl, hw]⟩
  · rintro bb H'' ⟨rfl, rfl⟩
    by_cases ht : (decide (0 < k) && !wAt T (k - 1)) = true
    · rw [ht]
      refine if_T ?_
      simp only [Bool.and_eq_true, decide_eq_true_eq, Bool.not_eq_true'] at ht
      obtain ⟨j, rfl⟩ : ∃ j, k = j + 1 := ⟨k - 1, by omega⟩
      walk_at "go"
      refine ⟨j, by omega, rfl, by omega, ?_, ?_⟩
      · rw [← hb]; simp [bk, show wAt T j = false from ht.2]
      · simp
    · rw [show (decide (0 < k) && !wAt T (k - 1)) = false by simpa using ht]
      refine if_F ?_
      have hke : bk (fun j => wAt T j != true) p = k := by
        rw [← hb]
        cases k with
        | zero => rfl
        | succ j =>
          have : wAt T j = true := by simpa using ht
          simp [bk, this]
      iterate 5 walk_at "mw"
      refine kw_while (fun k' F H3 => H3 = H'' ∧ k' ≤ k ∧ bk (fun j => wAt T j != false) k' = bk (fun j => wAt T j != false) k ∧ F = [some (.str (st T)), some (.int (p : Nat)), some (.int (k : Nat)), some (.int (k' : Nat))]) k ?_ ⟨rfl, by omega, rfl, rfl⟩
      rintro k' F H3 ⟨rfl, hk', hb', rfl⟩
      refine BW.mono (Q := fun b H4 => H4 = H3 ∧ b = (decide (0 < k') && wAt T (k' - 1))) ?_ ?_
      · walk_at "go"
        cases k' with
        | zero =>
          refine if_f (by simp) ?_
          exact ⟨rfl, rfl⟩
        | succ k' =>
          refine if_t (by simp <;> omega) ?_
          have hkl : k' < T.length := by omega
          walk_at "go"
          refine gw_str (by omega) (by omega) (c := T[k']'hkl) (by rw [show (((k' + 1 : Nat) : Int) - 1).toNat = k' by omega]; exact st_get hkl) ?_
          walk_at "go"
          refine ow_insE (occ_w _ (hT _ (List.getElem_mem hkl))) ?_
          refine ⟨_, rfl, ?_⟩
          cases hw : isW (T[k']'hkl)
          · refine if_f rfl ?_
            exact ⟨rfl, by simp [wAt_get hkl, hw]⟩
          · refine if_t rfl ?_
            walk_at "go"
            exact ⟨rfl, by simp [wAt_get hkl, hw]⟩
      · rintro bb H4 ⟨rfl, rfl⟩
        by_cases ht' : (decide (0 < k') && wAt T (k' - 1)) = true
        · rw [ht']
          refine if_T ?_
          simp only [Bool.and_eq_true, decide_eq_true_eq] at ht'
          obtain ⟨j, rfl⟩ : ∃ j, k' = j + 1 := ⟨k' - 1, by omega⟩
          walk_at "go"
          refine ⟨j, by omega, rfl, by omega, ?_, ?_⟩
          · rw [← hb']; simp [bk, show wAt T j = true from ht'.2]
          · simp
        · rw [show (decide (0 < k') && wAt T (k' - 1)) = false by simpa using ht']
          refine if_F ?_
          have hke' : bk (fun j => wAt T j != false) k = k' := by
            rw [← hb']
            cases k' with
            | zero => rfl
            | succ j =>
              have : wAt T j = false := by simpa using ht'
              simp [bk, this]
          walk_at "go"
          by_cases hse : k' = k
          · refine if_t (by simp <;> omega) ?_
            walk_at "go"
            exact ⟨_, Sub.refl _, h0 (by unfold lawW; rw [hke, hke', if_pos hse])⟩
          · refine if_f (by simp <;> omega) ?_
            walk_at "go"
            rename_i t ht
            exact ⟨_, Sub.refl _, h1 t k' k (by unfold lawW; rw [hke, hke', if_neg hse]) ht⟩
end

section
variable {S : Sta} {E : ES} {n : Nat} {F F' : List (Option AV)} {H H' : AH} {Q : AV → AH → Prop} {QN : List (Option AV) → AH → Prop} {QX : AFl → List (Option AV) → AH → Prop}
theorem k_sf (P : Params) : (Kf P).lookup 390 = some (fobj (tp 56) "sorted_flags" .none (vs "emacs.syntax" 653) 389) := by kernel_rfl
theorem c_sf (P : Params) : codeIn (Kf P) (.ref 389) "sorted_flags" = true := by kernel_rfl
theorem occ0 : ∀ c ∈ (Str.ofString "1234bcnp").cps.toList, (Builtin.Str.occurrences (Str.ofString "") ⟨#[c]⟩ 0 (Str.ofString "").length 1).isEmpty = true := by decide +kernel
theorem mem_signs {x : Str} {v : AV} (h : v ∈ signs x) : ∃ c, c ∈ x.cps.toList ∧ v = .str ⟨#[c]⟩ := by
  obtain ⟨c, h1, h2⟩ := List.mem_map.mp h; exact ⟨c, h1, h2.symm⟩
theorem cw_sorted_flags {x : Str} (hx : x = Str.ofString "") (h : Q (.str (Str.ofString "")) H) : CW S (.ref 390) (n + 1) [.str x] Q H := by
  subst hx
  refine kw_fnC [none, none] (fun y => if y = "text" then .str (Str.ofString "") else .other .none) (fun vals => [("text", vals.headD .none)]) (k_sf _) (c_sf _) rfl (by kernel_rfl) rfl rfl ?_ ?_ ?_ ?_ ?_ ?_
  · intro vals hv; obtain ⟨u, rfl, hu⟩ := map1 hv; kernel_rfl
  · intro vals hv L x hx; obtain ⟨u, rfl, hu⟩ := map1 hv
    simp only [List.mem_singleton] at hx; subst hx
    exact .inr ⟨by kernel_rfl, by simp [cellsFrom]⟩
  · intro vals hv x v g; exact g.cas (fun _ q _ => by cases q) fun g => g.cas (fun _ q _ => by cases q) fun g => g.nill
  · intro vals hv x; obtain ⟨u, rfl, hu⟩ := map1 hv
    have e : bindC (fun n => List.lookup n [(("text" : Str), NameKind.cell), ("FLAGS", .globalImplicit)]) [("text", u)] (fun _ => none) x = if x = "text" then some u else none := by
      have : List.lookup ("text" : Str) [(("text" : Str), NameKind.cell), ("FLAGS", .globalImplicit)] = some .cell := by simp
      simp [bindC, this]
    show match bindC (fun n => List.lookup n [(("text" : Str), NameKind.cell), ("FLAGS", .globalImplicit)]) [("text", u)] (fun _ => none) x with | some v => ab v = _ | none => _
    rw [e]
    by_cases hx : x = "text"
    · simp [hx, hu]
    · simp [hx]
  · intro L p hp; simp [cellsFrom] at hp; subst hp; simp [cellsFrom]
  · rintro cs L rfl hf hp
    have hf := hf ("text", L + 1) (by simp [cellsFrom])
    show SW S ⟨_, [("text", L + 1)]⟩ n _ _ _ [none, none] (H.upd (L + 1) (.cell (if ("text" : Str) = "text" then .str (Str.ofString "") else .other .none)))
    rw [if_pos rfl]
    generalize L + 1 = c at *
    walk_at "go"
    refine ew_comp1 [("text", c)] [(".0", .local), ("flag", .local), ("text", .cell)] (by rfl) (fun u => [none, u, none]) rfl (fun _ _ => .there .here) (fun _ => none) (by intro env ev; have e := ev.cl; cases env; simp only at e; subst e; rfl) (by kernel_rfl) (by kernel_rfl) (by kernel_rfl) (by kernel_rfl) ?_
    walk_at "go"
    refine ⟨_, _, ?_, iw_str, ?_, fun d hd => ?_⟩
    · simp only [signs, List.length_map]; decide +kernel
    · intro v hv
      obtain ⟨k, hk, rfl⟩ := mem_signs hv
      refine ifs1 ?_
      walk_at "go"
      refine ew_cell (by walk_at "na") (by simp) (AH.upd_self _ _ _) (by simp) ?_
      refine ow_insE (occ0 k hk) ?_
      walk_at "go"
      exact ⟨rfl, rfl⟩
    · walk_at "go"
      refine cb_join (ss := []) (some_list (AH.upd_self _ _ _) (by simp)) (by simp) ?_
      have e : Txt.join (Str.ofString "") [] = Str.ofString "" := by decide +kernel
      rw [e]
      exact ⟨_, by walk_at "sub", h⟩
end

section
variable {S : Sta} {E : ES} {n : Nat} {F F' : List (Option AV)} {H H' : AH} {Q : AV → AH → Prop} {QN : List (Option AV) → AH → Prop} {QX : AFl → List (Option AV) → AH → Prop}
theorem k_lt (P : Params) : (Kf P).lookup 860 = some (fobj (tp 81) "_law_lettered" .none (vs "law_oj0034_01" 1348) 859) := by kernel_rfl
theorem c_lt (P : Params) : codeIn (Kf P) (.ref 859) "_law_lettered" = true := by kernel_rfl
noncomputable def sW (c : Nat) : Bool := [97, 98, 120, 121, 122].contains c
theorem occ_s : ∀ c < 128, (Builtin.Str.occurrences (Str.ofString "abxyz") ⟨#[c]⟩ 0 (Str.ofString "abxyz").length 1).isEmpty = !sW c := by decide +kernel
theorem low1 : ∀ c < 128, Unicode.lowerOf c = [dnN c] := by decide +kernel
theorem upp1 : ∀ c < 128, Unicode.upperOf c = [upN c] := by decide +kernel
theorem flat1 (x : Array Nat) (f : Nat → Nat → List Nat) (g : Nat → Nat) (h : ∀ i (hi : i < x.size), f i x[i] = [g x[i]]) : (x.mapIdx fun i c => (f i c).toArray).flatten.toList = x.toList.map g := by
  have e : (x.mapIdx fun i c => (f i c).toArray) = x.map fun c => #[g c] := by
    apply Array.ext
    · simp
    · intro i h1 h2
      simp only [Array.size_mapIdx] at h1
      simp [h i h1]
  rw [e]
  simp only [Array.toList_flatten, Array.toList_map, List.map_map]
  generalize x.toList = L
  induction L with
  | nil => rfl
  | cons c L ih => simp [ih]
theorem upper_st {T : List Nat} (hT : ∀ c ∈ T, c < 128) : Txt.upper (st T) = st (T.map upN) := by
  have := flat1 T.toArray (fun _ c => Unicode.upperOf c) upN (fun i hi => upp1 _ (hT _ (by simp)))
  refine congrArg Str.mk (Array.toList_inj.mp ?_)
  exact this.trans (by simp)
theorem lower_st {T : List Nat} (hT : ∀ c ∈ T, c < 128) : Txt.lower (st T) = st (T.map dnN) := by
  have := flat1 T.toArray (fun i _ => Unicode.lowerAt T.toArray i) dnN (fun i hi => by
    have hc : T.toArray[i]? = some T.toArray[i] := Array.getElem?_eq_getElem hi
    have h128 := hT T.toArray[i] (by simp)
    simp only [Unicode.lowerAt, hc]
    rw [low1 _ h128]
    have : (T.toArray[i] == 0x3A3) = false := by rw [beq_eq_false_iff_ne]; omega
    simp only [this, Bool.false_and, Bool.false_eq_true, if_false])
  refine congrArg Str.mk (Array.toList_inj.mp ?_)
  exact this.trans (by simp)
theorem st_inj {a b : List Nat} (h : st a = st b) : a = b := by simpa [st] using h
theorem st_eq_map (w : List Nat) (f : Nat → Nat) : (st w == st (w.map f)) = !(w.any fun c => f c != c) := by
  rw [Bool.eq_iff_iff]
  simp only [beq_iff_eq, Bool.not_eq_true', List.any_eq_false, bne_iff_ne, ne_eq, Decidable.not_not]
  constructor
  · intro h
    have := st_inj h
    intro c hc
    obtain ⟨i, hi, rfl⟩ := List.mem_iff_getElem.mp hc
    have e := congrArg (·[i]?) this
    simp [hi] at e
    exact e.symm
  · intro h
    congr 1
    exact (List.map_congr_left (g := id) (fun c hc => h c hc)).trans (by simp) |>.symm
noncomputable def stB (t : List Nat) (i : Nat) : Bool := (match t[i]? with | some c => sW c | none => false) && (i == 0 || !(match t[i - 1]? with | some c => sW c | none => false))
noncomputable def stN (t : List Nat) : List Nat := (List.range t.length).filter (stB t)
noncomputable def capN (t ss : List Nat) : List Nat := (List.range t.length).map fun i => if ss.contains i then upN (t[i]?.getD 0) else t[i]?.getD 0
noncomputable def ltN (t w : List Nat) (ex : Bool) : List Nat :=
  if ex || !(w.any fun c => dnN c != c) then t
  else if !(w.any fun c => upN c != c) then (if (stN t).length < 2 then t.map upN else capN t (stN t)) else capN t ((stN t).take 1)
noncomputable def texts : List (List Nat) := [[120], [120, 121, 32, 122], [40, 120, 46, 121], [97, 98]]
theorem lt_wr : ∀ t ∈ texts, ∀ (w : List Nat) (ex : Bool), ltN t w ex = wrN t ex w := by
  intro t ht w ex
  unfold ltN wrN
  generalize (w.any fun c => dnN c != c) = b1
  generalize (w.any fun c => upN c != c) = b2
  revert t b1 b2 ex
  decide +kernel
end

section
variable {S : Sta} {E : ES} {n : Nat} {F F' : List (Option AV)} {H H' : AH} {Q : AV → AH → Prop} {QN : List (Option AV) → AH → Prop} {QX : AFl → List (Option AV) → AH → Prop}
theorem ow_notinsE2 {x y : Str} {c : Bool} (e : (Builtin.Str.occurrences x y 0 x.length 1).isEmpty = !c) (h : Q (.bool (!c)) H) : OW S (compareOp .NotIn) n (.str y) (.str x) Q H := ow_notins (by rw [e]; simpa using h)
theorem ow_insE2 {x y : Str} {c : Bool} (e : (Builtin.Str.occurrences x y 0 x.length 1).isEmpty = !c) (h : Q (.bool c) H) : OW S (compareOp .In) n (.str y) (.str x) Q H := ow_ins (by rw [e]; simpa using h)
theorem upto_fil (p : Nat → Bool) (k : Nat) : (upto k).filterMap (fFil p) = ((List.range k).filter p).map fun i : Nat => AV.int (i : Int) := by
  have := fm_fil p (List.range k)
  simpa [ic, upto] using this
theorem join1' (T : List Nat) : Txt.join (Str.ofString "") (T.map fun c => (⟨#[c]⟩ : Str)) = st T := join1 T
noncomputable def fCap (t ss : List Nat) : AV → Option AV
  | .int i => some (.str ⟨#[if ss.contains i.toNat then upN (t[i.toNat]?.getD 0) else t[i.toNat]?.getD 0]⟩)
  | _ => none
theorem fm_cap (t ss : List Nat) : (upto t.length).filterMap (fCap t ss) = ((capN t ss).map fun c => (⟨#[c]⟩ : Str)).map AV.str := by
  unfold upto capN
  generalize List.range t.length = L
  induction L with
  | nil => rfl
  | cons i L ih => simp only [List.map_cons, List.filterMap_cons, fCap, Int.toNat_natCast] at ih ⊢; rw [ih]
theorem upper1 {c : Nat} (h : c < 128) : Txt.upper ⟨#[c]⟩ = ⟨#[upN c]⟩ := upper_st (T := [c]) (by simpa using h)
theorem any_int (ss : List Nat) (k : Nat) : ((ss.map fun i : Nat => (i : Int)).any (· == (k : Int))) = ss.contains k := by
  induction ss with
  | nil => rfl
  | cons a l ih => simp only [List.map_cons, List.any_cons, ih, List.contains_cons]; congr 1; rw [Bool.eq_iff_iff]; simp; omega
inductive M24 (H : AH) (Q : AV → AH → Prop) (c d : Addr) (t : List Nat) (F₀ : List (Option AV)) (F : List (Option AV)) (H' : AH) : Prop
  | mk (X : List Nat) (l : Addr) (f1 : H' c = some (.cell (.str (st t)))) (f2 : H' d = some (.cell (.ref l))) (f3 : H' l = some (.list 0 (X.map fun i : Nat => AV.int (i : Int)))) (f4 : Sub H H') (hq : Q (.str (st (capN t X))) H) (hF : F = F₀)
theorem sum1 (L : List Nat) : ((L.map fun c => (⟨#[c]⟩ : Str)).map (·.length)).sum = L.length := by
  induction L with
  | nil => rfl
  | cons c L ih => simp only [List.map_cons, List.sum_cons, ih, List.length_cons]; rw [Nat.add_comm]; rfl
theorem cw_law_lettered {x y : Str} {t w : List Nat} {ex : Bool} (hx : x = st t) (hy : y = st w) (ht : ∀ c ∈ t, c < 128) (hw : ∀ c ∈ w, c < 128) (htl : t.length ≤ 100) (hwl : w.length ≤ 1000)
    (h : Q (.str (st (ltN t w ex))) H) : CW S (.ref 860) (n + 1) [.str x, .str y, .bool ex] Q H := by
  subst hx hy
  refine kw_fnC [none, some (.str (st w)), some (.bool ex), none, none, none] (fun y => if y = "text" then .str (st t) else .other .none) (fun vals => [("text", vals.headD .none), ("word", (vals.drop 1).headD .none), ("is_exact", (vals.drop 2).headD .none)]) (k_lt _) (c_lt _) rfl (by kernel_rfl) rfl rfl ?_ ?_ ?_ ?_ ?_ ?_
  · intro vals hv; obtain ⟨a, b, c, rfl, ha, hb, hc⟩ := map3 hv; kernel_rfl
  · intro vals hv L x hx; obtain ⟨a, b, c, rfl, ha, hb, hc⟩ := map3 hv
    simp only [List.mem_cons, List.not_mem_nil, or_false] at hx
    rcases hx with rfl | rfl | rfl
    · exact .inr ⟨by kernel_rfl, by simp [cellsFrom]⟩
    · exact .inl (by kernel_rfl)
    · exact .inl (by kernel_rfl)
  · intro vals hv x v g; obtain ⟨a, b, c, rfl, ha, hb, hc⟩ := map3 hv
    have e : ∀ z, bindL (fun n => List.lookup n [(("text" : Str), NameKind.cell), ("word", .local), ("is_exact", .local), ("starts", .cell), ("range", .globalImplicit), ("len", .globalImplicit)]) [("text", a), ("word", b), ("is_exact", c)] (fun _ => none) z = if z = "is_exact" then some c else if z = "word" then some b else none := by
      intro z
      have h1 : List.lookup ("text" : Str) [(("text" : Str), NameKind.cell), ("word", .local), ("is_exact", .local), ("starts", .cell), ("range", .globalImplicit), ("len", .globalImplicit)] = some .cell := by kernel_rfl
      have h2 : List.lookup ("word" : Str) [(("text" : Str), NameKind.cell), ("word", .local), ("is_exact", .local), ("starts", .cell), ("range", .globalImplicit), ("len", .globalImplicit)] = some .local := by kernel_rfl
      have h3 : List.lookup ("is_exact" : Str) [(("text" : Str), NameKind.cell), ("word", .local), ("is_exact", .local), ("starts", .cell), ("range", .globalImplicit), ("len", .globalImplicit)] = some .local := by kernel_rfl
      simp [bindL, h1, h2, h3]
    refine g.cas (fun _ q _ => by cases q) fun g => g.cas (fun q1 _ q2 => ?_) fun g => g.cas (fun q1 _ q2 => ?_) fun g => g.cas (fun _ q _ => by cases q) fun g => g.cas (fun _ q _ => by cases q) fun g => g.cas (fun _ q _ => by cases q) fun g => g.nill
    · cases q2; subst q1
      exact ⟨b, (e _).trans (by rw [if_neg (by decide +kernel), if_pos rfl]), hb⟩
    · cases q2; subst q1
      exact ⟨c, (e _).trans (by rw [if_pos rfl]), hc⟩
  · intro vals hv x; obtain ⟨a, b, c, rfl, ha, hb, hc⟩ := map3 hv
    have e : bindC (fun n => List.lookup n [(("text" : Str), NameKind.cell), ("word", .local), ("is_exact", .local), ("starts", .cell), ("range", .globalImplicit), ("len", .globalImplicit)]) [("text", a), ("word", b), ("is_exact", c)] (fun _ => none) x = if x = "text" then some a else none := by
      have h1 : List.lookup ("text" : Str) [(("text" : Str), NameKind.cell), ("word", .local), ("is_exact", .local), ("starts", .cell), ("range", .globalImplicit), ("len", .globalImplicit)] = some .cell := by kernel_rfl
      have h2 : List.lookup ("word" : Str) [(("text" : Str), NameKind.cell), ("word", .local), ("is_exact", .local), ("starts", .cell), ("range", .globalImplicit), ("len", .globalImplicit)] = some .local := by kernel_rfl
      have h3 : List.lookup ("is_exact" : Str) [(("text" : Str), NameKind.cell), ("word", .local), ("is_exact", .local), ("starts", .cell), ("range", .globalImplicit), ("len", .globalImplicit)] = some .local := by kernel_rfl
      simp [bindC, h1, h2, h3]
    show match bindC (fun n => List.lookup n [(("text" : Str), NameKind.cell), ("word", .local), ("is_exact", .local), ("starts", .cell), ("range", .globalImplicit), ("len", .globalImplicit)]) [("text", a), ("word", b), ("is_exact", c)] (fun _ => none) x with | some v => ab v = _ | none => _
    rw [e]
    by_cases hx : x = "text"
    · simp [hx, ha]
    · simp [hx]
  · intro L p hp
    simp [cellsFrom] at hp
    rcases hp with rfl | rfl
    · simp [cellsFrom]
    · kernel_rfl
  · rintro cs L rfl hf hp
    have hf1 := hf ("text", L + 1) (by simp [cellsFrom])
    have hf2 := hf ("starts", L + 2) (by simp [cellsFrom])
    have hd00 : H (L + 2) = none := hf2
    have hst : ¬ (("starts" : Str) = "text") := by decide +kernel
    show SW S ⟨_, [("starts", L + 2), ("text", L + 1)]⟩ n _ _ _ [none, some (.str (st w)), some (.bool ex), none, none, none] ((H.upd (L + 1) (.cell (if ("text" : Str) = "text" then .str (st t) else .other .none))).upd (L + 2) (.cell (if ("starts" : Str) = "text" then .str (st t) else .other .none)))
    rw [if_pos rfl, if_neg hst]
    have hcc : L + 1 ≠ L + 2 := by omega
    generalize L + 1 = c at *
    generalize L + 2 = d at *
    have hlt : ([("starts", d), ("text", c)] : List (Str × Addr)).lookup ("text" : Str) = some c := by
      rw [List.lookup_cons, show (("text" : Str) == "starts") = false by decide +kernel]; simp
    have hls : ([("starts", d), ("text", c)] : List (Str × Addr)).lookup ("starts" : Str) = some d := by simp
    have k1 : ((H.upd c (.cell (.str (st t)))).upd d (.cell (.other .none))) c = some (.cell (.str (st t))) := by rw [AH.upd_ne hcc]; exact AH.upd_self _ _ _
    have k2 : ((H.upd c (.cell (.str (st t)))).upd d (.cell (.other .none))) d = some (.cell (.other .none)) := AH.upd_self _ _ _
    have ks : Sub H ((H.upd c (.cell (.str (st t)))).upd d (.cell (.other .none))) := Sub.updN ((Sub.refl _).upd hf1) hf2
    generalize (H.upd c (.cell (.str (st t)))).upd d (.cell (.other .none)) = H0 at *
    clear hf hp hf1 hf2
    walk_at "mw"
    refine kw_assign_cell (by walk_at "na") hls ?_
    have htl' : (st t).length < 2 ^ 60 := by rw [st_len]; omega
    refine ew_comp1 [("text", c)] [(".0", .local), ("at", .local), ("text", .cell)] (by rfl) (fun u => [none, u, none]) rfl (fun _ _ => .there .here) (fFil (stB t)) (by intro env ev; have e := ev.cl; cases env; simp only at e; subst e; rfl) (by kernel_rfl) (by kernel_rfl) (by kernel_rfl) (by kernel_rfl) ?_
    walk_at "go"
    refine ew_cell (by walk_at "na") hlt k1 (by simp) ?_
    walk_at "go"
    refine cb_len_str htl' ?_
    rw [st_len]
    walk_at "go"
    refine cb_range (by omega) fun r hr => ?_
    refine ⟨_, _, ?_, iw_rng (AH.upd_self _ _ _), ?_, fun dd hdd => ?_⟩
    · simp [upto]; omega
    · intro v hv
      simp only [upto, List.mem_map, List.mem_range] at hv
      obtain ⟨i, hi, rfl⟩ := hv
      have hck : (H0.upd r (.rng t.length)) c = some (.cell (.str (st t))) := AH.upd_old hr k1
      generalize H0.upd r (.rng t.length) = Hr at hck ⊢
      refine ifs1 (BW.mono (Q := fun b H' => H' = Hr ∧ b = stB t i) ?_ ?_)
      · walk_at "go"
        refine ew_cell (by walk_at "na") (by simp) hck (by simp) ?_
        walk_at "go"
        refine gw_str (by omega) (by omega) (c := t[i]'hi) (by rw [Int.toNat_natCast]; exact st_get hi) ?_
        walk_at "go"
        refine ow_insE2 (occ_s _ (ht _ (List.getElem_mem hi))) ?_
        refine ⟨_, rfl, ?_⟩
        cases hs : sW (t[i]'hi)
        · refine if_f rfl ?_
          exact ⟨rfl, by simp [stB, hi, hs]⟩
        · refine if_t rfl ?_
          walk_at "go"
          by_cases h0 : i = 0
          · refine if_t (by simp [h0]) ?_
            walk_at "go"
            exact ⟨rfl, by subst h0; simp [stB, List.getElem?_eq_getElem hi, hs]⟩
          · refine if_f (by simp; omega) ?_
            have hi1 : i - 1 < t.length := by omega
            walk_at "go"
            refine ew_cell (by walk_at "na") (by simp) hck (by simp) ?_
            walk_at "go"
            refine gw_str (by omega) (by omega) (c := t[i - 1]'hi1) (by rw [show ((i : Int) - 1).toNat = i - 1 by omega]; exact st_get hi1) ?_
            walk_at "go"
            refine ow_notinsE2 (occ_s _ (ht _ (List.getElem_mem hi1))) ?_
            refine ⟨_, rfl, ?_⟩
            cases hs1 : sW (t[i - 1]'hi1)
            · refine if_t rfl ?_
              walk_at "go"
              exact ⟨rfl, by simp [stB, hi, hs, hi1, hs1]⟩
            · refine if_f rfl ?_
              walk_at "go"
              exact ⟨rfl, by simp [stB, hi, hs, hi1, hs1, h0]⟩
      · rintro b H' ⟨rfl, rfl⟩
        refine ⟨fun e => ?_, fun e => ⟨by simp only [fFil, Int.toNat_natCast]; rw [if_neg (by simp [e])], rfl⟩⟩
        walk_at "go"
        exact ⟨by simp only [fFil, Int.toNat_natCast]; rw [if_pos e], rfl⟩
    · rw [upto_fil]
      have es : ((List.range t.length).filter (stB t)) = stN t := rfl
      rw [es]
      have hsl : (stN t).length ≤ t.length := by have := List.length_filter_le (stB t) (List.range t.length); simp only [List.length_range] at this; exact this
      have n1 : dd ≠ d := fun q => by rw [q, AH.upd_old hr k2] at hdd; cases hdd
      refine ⟨_, AH.upd_old hdd (AH.upd_old hr k2), ?_⟩
      have f1 : ((((H0.upd r (.rng t.length)).upd dd (.list 0 ((stN t).map fun i : Nat => AV.int (i : Int)))).upd d (.cell (.ref dd)))) c = some (.cell (.str (st t))) := by rw [AH.upd_ne hcc]; exact AH.upd_old hdd (AH.upd_old hr k1)
      have f2 : ((((H0.upd r (.rng t.length)).upd dd (.list 0 ((stN t).map fun i : Nat => AV.int (i : Int)))).upd d (.cell (.ref dd)))) d = some (.cell (.ref dd)) := AH.upd_self _ _ _
      have f3 : ((((H0.upd r (.rng t.length)).upd dd (.list 0 ((stN t).map fun i : Nat => AV.int (i : Int)))).upd d (.cell (.ref dd)))) dd = some (.list 0 ((stN t).map fun i : Nat => AV.int (i : Int))) := by rw [AH.upd_ne n1]; exact AH.upd_self _ _ _
      have f4 : Sub H ((((H0.upd r (.rng t.length)).upd dd (.list 0 ((stN t).map fun i : Nat => AV.int (i : Int)))).upd d (.cell (.ref dd)))) := Sub.updN ((ks.upd hr).upd hdd) hd00
      generalize ((((H0.upd r (.rng t.length)).upd dd (.list 0 ((stN t).map fun i : Nat => AV.int (i : Int)))).upd d (.cell (.ref dd)))) = H2 at *
      clear hdd hr n1 k1 k2 ks
      walk_at "go"
      cases ex
      rotate_left
      · walk_at "go"
        refine ew_cell (by walk_at "na") hlt f1 (by simp) ?_
        exact ⟨_, f4, by simpa [ltN] using h⟩
      walk_at "go"
      have hlw := lower_st hw
      have huw := upper_st hw
      refine cb_lower (by rw [hlw, st_len]; simp; omega) ?_
      rw [hlw]
      refine ow_eqs ?_
      rw [st_eq_map]
      cases hb1 : (w.any fun c => dnN c != c)
      · walk_at "go"
        refine ew_cell (by walk_at "na") hlt f1 (by simp) ?_
        exact ⟨_, f4, by simpa [ltN, hb1] using h⟩
      walk_at "mw"
      walk_at "mw"
      walk_at "mw"
      walk_at "mw"
      walk_at "mw"
      refine sw_cut (fun F H' => M24 H Q c d t [none, some (.str (st w)), some (.bool false), none, none, none] F H') ?_ ?_
      rotate_left
      · intro F H3 hm
        clear f1 f2 f3 f4
        obtain ⟨X, l, f1, f2, f3, f4, hfin, rfl⟩ := hm
        walk_at "go"
        have hlF : ([("starts", d), ("text", c)] : List (Str × Addr)).lookup ("text" : Str) = some c := hlt
        refine ew_comp1 [("text", c), ("starts", d)] [(".0", .local), ("at", .local), ("starts", .cell), ("text", .cell)] (by rfl) (fun u => [none, u, none, none]) rfl (fun _ _ => .there .here) (fCap t X) (by intro env ev; have e := ev.cl; cases env; simp only at e; subst e; rfl) (by kernel_rfl) (by kernel_rfl) (by kernel_rfl) (by kernel_rfl) ?_
        walk_at "go"
        refine ew_cell (by walk_at "na") hlt f1 (by simp) ?_
        walk_at "go"
        refine cb_len_str htl' ?_
        rw [st_len]
        walk_at "go"
        refine cb_range (by omega) fun r hr => ?_
        refine ⟨_, _, ?_, iw_rng (AH.upd_self _ _ _), ?_, fun dd hdd => ?_⟩
        · simp [upto]; omega
        · intro v hv
          simp only [upto, List.mem_map, List.mem_range] at hv
          obtain ⟨i, hi, rfl⟩ := hv
          have g1 := AH.upd_old (o := .rng t.length) hr f1
          have g2 := AH.upd_old (o := .rng t.length) hr f2
          have g3 := AH.upd_old (o := .rng t.length) hr f3
          refine ifs0 ?_
          walk_at "go"
          refine ew_cell (by walk_at "na") (by rw [List.lookup_cons, show (("starts" : Str) == "text") = false by decide +kernel]; simp) g2 (by simp) ?_
          refine ow_inl (ss := X.map fun i : Nat => (i : Int)) (some_list g3 (by rw [List.map_map]; rfl)) ?_
          rw [any_int]
          refine ⟨_, rfl, ?_⟩
          cases hs : X.contains i
          · refine if_f rfl ?_
            walk_at "go"
            refine ew_cell (by walk_at "na") (by simp) g1 (by simp) ?_
            walk_at "go"
            refine gw_str (by omega) (by omega) (c := t[i]'hi) (by rw [Int.toNat_natCast]; exact st_get hi) ?_
            exact ⟨by simp only [fCap, Int.toNat_natCast]; rw [hs]; simp only [List.getElem?_eq_getElem hi]; rfl, rfl⟩
          · refine if_t rfl ?_
            walk_at "go"
            refine ew_cell (by walk_at "na") (by simp) g1 (by simp) ?_
            walk_at "go"
            refine gw_str (by omega) (by omega) (c := t[i]'hi) (by rw [Int.toNat_natCast]; exact st_get hi) ?_
            walk_at "go"
            have hu := upper1 (ht _ (List.getElem_mem hi))
            refine cb_upper (by rw [hu]; simp [Str.length]) ?_
            rw [hu]
            exact ⟨by simp only [fCap, Int.toNat_natCast]; rw [hs]; simp only [List.getElem?_eq_getElem hi]; rfl, rfl⟩
        · walk_at "go"
          rw [fm_cap]
          refine cb_join (AH.upd_self _ _ _) ?_ ?_
          · have e2 : (Str.ofString "").length = 0 := by decide +kernel
            have e3 : (capN t X).length = t.length := by simp [capN]
            rw [sum1, e2, e3]; omega
          · rw [join1]
            exact ⟨_, (f4.upd hr).upd hdd, hfin⟩
      walk_at "go"
      refine cb_upper (by rw [huw, st_len]; simp; omega) ?_
      rw [huw]
      refine ow_eqs ?_
      rw [st_eq_map]
      cases hb2 : (w.any fun c => upN c != c)
      · walk_at "go"
        refine ew_cell (by walk_at "na") hls f2 (by simp) ?_
        walk_at "go"
        refine cb_len_list f3 (by simp; omega) ?_
        walk_at "go"
        by_cases hl2 : (stN t).length < 2
        · refine if_t (by simp; omega) ?_
          walk_at "go"
          refine ew_cell (by walk_at "na") hlt f1 (by simp) ?_
          walk_at "go"
          have hut := upper_st ht
          refine cb_upper (by rw [hut, st_len]; simp; omega) ?_
          rw [hut]
          exact ⟨_, f4, by simpa [ltN, hb1, hb2, hl2] using h⟩
        · refine if_f (by simp; omega) ?_
          walk_at "go"
          exact .mk (stN t) dd f1 f2 f3 f4 (by simpa [ltN, hb1, hb2, hl2] using h) rfl
      · walk_at "mw"
        walk_at "mw"
        walk_at "mw"
        refine kw_assign_cell (by walk_at "na") hls ?_
        walk_at "go"
        refine ew_cell (by walk_at "na") hls f2 (by simp) ?_
        walk_at "go"
        rename_i sl hsl2
        refine gw_cut (AH.upd_self _ _ _) (AH.upd_old hsl2 f3) (by simp [nn]) (by simp [nn]) (by simp; omega) fun s2 hs2 => ?_
        have hfin : Q (.str (st (capN t ((stN t).take 1)))) H := by simpa [ltN, hb1, hb2] using h
        have q2 : ((H2.upd sl (.slc .none (.int 1) .none)).upd s2 (.list 0 (cut .none (.int 1) ((stN t).map fun i : Nat => AV.int (i : Int))))) d = some (.cell (.ref dd)) := by walk_at "hk"
        refine ⟨_, q2, ?_⟩
        have r1 : (((H2.upd sl (.slc .none (.int 1) .none)).upd s2 (.list 0 (cut .none (.int 1) ((stN t).map fun i : Nat => AV.int (i : Int))))).upd d (.cell (.ref s2))) c = some (.cell (.str (st t))) := by rw [AH.upd_ne hcc]; walk_at "hk"
        have r2 : (((H2.upd sl (.slc .none (.int 1) .none)).upd s2 (.list 0 (cut .none (.int 1) ((stN t).map fun i : Nat => AV.int (i : Int))))).upd d (.cell (.ref s2))) d = some (.cell (.ref s2)) := AH.upd_self _ _ _
        have r3 : (((H2.upd sl (.slc .none (.int 1) .none)).upd s2 (.list 0 (cut .none (.int 1) ((stN t).map fun i : Nat => AV.int (i : Int))))).upd d (.cell (.ref s2))) s2 = some (.list 0 (((stN t).take 1).map fun i : Nat => AV.int (i : Int))) := some_list (by walk_at "hk") (by rw [cut_eq]; simp [loN, hiN])
        have r4 : Sub H (((H2.upd sl (.slc .none (.int 1) .none)).upd s2 (.list 0 (cut .none (.int 1) ((stN t).map fun i : Nat => AV.int (i : Int))))).upd d (.cell (.ref s2))) := by
          refine Sub.updN ?_ hd00
          walk_at "sub"
        walk_at "go"
        exact .mk ((stN t).take 1) s2 r1 r2 r3 r4 hfin rfl
end

section
variable {S : Sta} {E : ES} {n : Nat} {F F' : List (Option AV)} {H H' : AH} {Q : AV → AH → Prop} {QN : List (Option AV) → AH → Prop} {QX : AFl → List (Option AV) → AH → Prop}
inductive RowsR (H : AH) : List (Str × AV) → List En → Prop
  | nil : RowsR H [] []
  | cons {tp : Addr} {en : En} {kvs es} : H tp = some (.tuple [.str (st en.2.1), .bool en.2.2]) → RowsR H kvs es → RowsR H ((st en.1, .ref tp) :: kvs) (en :: es)
theorem RowsR.sub {kvs : List (Str × AV)} {es : List En} (h : RowsR H kvs es) (m : Sub H H') : RowsR H' kvs es := by
  induction h with
  | nil => exact .nil
  | cons a _ ih => exact .cons (m _ _ a) ih
theorem RowsR.mv {P : Nat → Bool} {kvs : List (Str × AV)} {es : List En} (h : RowsR H kvs es) (m : Mv P H H') (hp : P 2 = false) : RowsR H' kvs es := by
  induction h with
  | nil => exact .nil
  | cons a _ ih => exact .cons (m _ _ a hp) ih
inductive KnownS (H : AH) (kn : Addr) (es1 es2 : List En) : Prop
  | mk (r1 r2 : Addr) (kv1 kv2 : List (Str × AV)) (a1 : H kn = some (.list 5 [.ref r1, .ref r2])) (a2 : H r1 = some (.sdict 7 kv1)) (a3 : RowsR H kv1 es1) (a4 : H r2 = some (.sdict 7 kv2)) (a5 : RowsR H kv2 es2)
theorem KnownS.mv {P : Nat → Bool} {kn : Addr} {es1 es2 : List En} (h : KnownS H kn es1 es2) (m : Mv P H H') (h1 : P 51 = false) (h2 : P 2 = false) (h3 : P 73 = false) : KnownS H' kn es1 es2 := by
  obtain ⟨r1, r2, kv1, kv2, a, b, c, d, e⟩ := h
  exact ⟨r1, r2, kv1, kv2, m _ _ a h1, m _ _ b h3, c.mv m h2, m _ _ d h3, e.mv m h2⟩
theorem KnownS.sub {kn : Addr} {es1 es2 : List En} (h : KnownS H kn es1 es2) (m : Sub H H') : KnownS H' kn es1 es2 := h.mv (P := fun _ => false) (Mv.ofSub m) rfl rfl rfl
theorem rows_vat {kvs : List (Str × AV)} {es : List En} {w : List Nat} (h : RowsR H kvs es) :
    (findE es w = none ∧ vat kvs (st w) = none) ∨ ∃ en tp, findE es w = some en ∧ vat kvs (st w) = some (.ref tp) ∧ H tp = some (.tuple [.str (st en.2.1), .bool en.2.2]) := by
  induction h with
  | nil => exact .inl ⟨rfl, rfl⟩
  | cons a _ ih =>
    rename_i tp en kvs es _
    by_cases e : en.1 = w
    · refine .inr ⟨en, tp, ?_, ?_, a⟩
      · simp [findE, e]
      · simp [vat, e]
    · have hk : st en.1 ≠ st w := fun h => e (st_inj h)
      have e' : (en.1 == w) = false := by simpa using e
      simpa [findE, vat, e', hk] using ih
noncomputable def OkT (es : List En) : Prop := ∀ e ∈ es, e.2.1 ∈ texts
theorem texts_ok : ∀ t ∈ texts, (∀ c ∈ t, c < 128) ∧ t.length ≤ 4 ∧ t ≠ [] := by decide
theorem OkT.toN {es : List En} (h : OkT es) : OkN es := fun e he => by
  obtain ⟨a, b, c⟩ := texts_ok _ (h e he)
  exact ⟨⟨by omega, a⟩, c, b⟩
theorem cw_law_due {kn : Addr} {x : Str} {w : List Nat} {es1 es2 : List En} (hx : x = st w) (hK : KnownS H kn es1 es2) (ht1 : OkT es1) (ht2 : OkT es2) (hs : Sm w)
    (h0 : entE es1 es2 w = none → Q .none H) (h1 : ∀ en, entE es1 es2 w = some en → Q (.str (st (ltN en.2.1 w en.2.2))) H) : CW S (.ref 855) (n + 2) [.ref kn, .str x] Q H := by
  subst hx
  obtain ⟨r1, r2, kv1, kv2, a1, a2, a3, a4, a5⟩ := hK
  refine kw_fn [some _, some _, none, none, none] (k_law_due _) (c_law_due _) (b_law_due _) rfl rfl ?_
  walk_at "go"
  refine ⟨_, _, iw_list a1, jfor (fun xs F H' => H' = H ∧ (∃ u1 u2, F = [some (.ref kn), some (.str (st w)), u1, u2, none]) ∧ (xs = [.ref r1, .ref r2] ∨ (xs = [.ref r2] ∧ ownE es1 w = none) ∨ (xs = [] ∧ ownE es1 w = none ∧ ownE es2 w = none))) ?_ ?_ _ _ _ ⟨rfl, ⟨none, none, rfl⟩, .inl rfl⟩⟩
  · intro v rest QL QXL hN hX F H' hj
    refine gG fun GG kG => ?_
    obtain ⟨rfl, ⟨u1, u2, rfl⟩, hx⟩ := hj
    refine kG ?_
    clear kG GG
    refine gG fun GG kG => ?_
    obtain ⟨r, kv, es, rfl, b1, b2, b3, hret, hnext⟩ : ∃ r kv es, v = .ref r ∧ H' r = some (.sdict 7 kv) ∧ RowsR H' kv es ∧ OkT es ∧ (∀ en, ownE es w = some en → entE es1 es2 w = some en) ∧
        (ownE es w = none → (rest = [.ref r1, .ref r2] ∨ (rest = [.ref r2] ∧ ownE es1 w = none) ∨ (rest = [] ∧ ownE es1 w = none ∧ ownE es2 w = none))) := by
      rcases hx with hx | ⟨hx, e1⟩ | ⟨hx, _⟩
      · simp only [List.cons.injEq] at hx
        obtain ⟨rfl, rfl⟩ := hx
        exact ⟨r1, kv1, es1, rfl, a2, a3, ht1, fun en e => by simp [entE, e], fun e => .inr (.inl ⟨rfl, e⟩)⟩
      · simp only [List.cons.injEq] at hx
        obtain ⟨rfl, rfl⟩ := hx
        exact ⟨r2, kv2, es2, rfl, a4, a5, ht2, fun en e => by simp [entE, e1, e], fun e => .inr (.inr ⟨rfl, e1, e⟩)⟩
      · cases hx
    refine kG ?_
    clear kG GG hx
    have hlw := lower_st hs.2
    have hll : (Txt.lower (st w)).length ≤ 1000000 := by rw [hlw, st_len]; have := hs.1; simp; omega
    walk_at "go"
    refine cb_get b1 ?_
    rcases rows_vat (w := w) b2 with ⟨f1, f2⟩ | ⟨en, tp, f1, f2, f3⟩
    · rw [f2]
      simp only [Option.getD_none]
      walk_at "go"
      refine cb_lower hll ?_
      rw [hlw]
      walk_at "go"
      refine ow_ind b1 ?_
      rcases rows_vat (w := w.map dnN) b2 with ⟨g1, g2⟩ | ⟨en, tp, g1, g2, g3⟩
      · rw [g2]
        refine ⟨_, rfl, ?_⟩
        refine if_f rfl ?_
        walk_at "go"
        exact hN _ _ ⟨a1, rfl, ⟨_, _, rfl⟩, hnext (by simp [ownE, f1, g1])⟩
      · rw [g2]
        refine ⟨_, rfl, ?_⟩
        refine if_t rfl ?_
        walk_at "go"
        refine cb_lower hll ?_
        rw [hlw]
        refine gw_sdict b1 g2 ?_
        walk_at "go"
        refine gw_tuple (x := .bool en.2.2) g3 (by omega) (by omega) rfl ?_
        have hmem := texts_ok _ (b3 en (findE_mem g1))
        cases hex : en.2.2
        · rw [hex] at g3
          walk_at "go"
          refine cb_lower hll ?_
          rw [hlw]
          refine gw_sdict b1 g2 ?_
          walk_at "go"
          refine gw_tuple (x := .str (st en.2.1)) g3 (by omega) (by omega) rfl ?_
          walk_at "go"
          refine gw_tuple (x := .bool false) g3 (by omega) (by omega) rfl ?_
          walk_at "go"
          refine cw_law_lettered (n := n) rfl rfl hmem.1 hs.2 (by omega) hs.1 ?_
          have := h1 en (hret en (by simp [ownE, f1, g1, hex]))
          rw [hex] at this
          exact hX (.ret _) _ _ ⟨_, Sub.refl _, this⟩
        · walk_at "go"
          exact hN _ _ ⟨a1, rfl, ⟨_, _, rfl⟩, hnext (by simp [ownE, f1, g1, hex])⟩
    · rw [f2]
      simp only [Option.getD_some]
      have hmem := texts_ok _ (b3 en (findE_mem f1))
      walk_at "go"
      refine gw_tuple (x := .str (st en.2.1)) f3 (by omega) (by omega) rfl ?_
      walk_at "go"
      refine gw_tuple (x := .bool en.2.2) f3 (by omega) (by omega) rfl ?_
      walk_at "go"
      refine cw_law_lettered (n := n) rfl rfl hmem.1 hs.2 (by omega) hs.1 ?_
      exact hX (.ret _) _ _ ⟨_, Sub.refl _, h1 en (hret en (by simp [ownE, f1]))⟩
  · rintro F H' ⟨rfl, ⟨u1, u2, rfl⟩, hx | ⟨hx, _⟩ | ⟨_, e1, e2⟩⟩
    · cases hx
    · cases hx
    · walk_at "go"
      exact ⟨_, Sub.refl _, h0 (by simp [entE, e1, e2])⟩
theorem scut_lo (s : Nat) (T : List Nat) : scut .none (.int (s : Nat)) (st T) = st (T.take s) := by
  simp [scut, st, cut_eq, loN, hiN]
theorem scut_hi (e : Nat) (T : List Nat) : scut (.int (e : Nat)) .none (st T) = st (T.drop e) := by
  simp only [scut, st, cut_eq, loN, hiN, Int.toNat_natCast]
  rw [List.take_of_length_le (Nat.le_refl _)]
theorem st_app (a b : List Nat) : st a ++ st b = st (a ++ b) := by
  show Str.mk _ = _
  simp [st]
theorem ow_isS {x : Str} (h : Q (.bool false) H) : OW S (compareOp .Is) n (.str x) .none Q H := ow_is h
theorem scut_st (s e : Nat) (T : List Nat) : scut (.int (s : Nat)) (.int (e : Nat)) (st T) = st (cutN s e T) := by
  simp [scut, st, cut_eq, loN, hiN, cutN]
theorem cw_law_put {kn : Addr} {x : Str} {T : List Nat} {p : Nat} {es1 es2 : List En} (hx : x = st T) (hK : KnownS H kn es1 es2) (ht1 : OkT es1) (ht2 : OkT es2) (hT : ∀ c ∈ T, c < 128) (hl : T.length ≤ 1000) (hp : p ≤ T.length)
    (h0 : dueE es1 es2 T p = none → ∀ t, H t = none → Q (.ref t) (H.upd t (.tuple [.str (st T), .int (p : Nat), .none])))
    (h1 : ∀ H' t a wl cl d, dueE es1 es2 T p = some d → lawW T p = some (d.1, d.2.1) → d.2.2.length ≤ 4 → d.2.2 ≠ [] → (∀ c ∈ d.2.2, c < 128) → Sub H H' → H' t = some (.tuple [.str (st (putT T d)), .int ((d.1 + d.2.2.length : Nat)), .ref a]) → H' a = some (.tuple [.int ((d.1 : Nat) + 1), .ref wl, .ref cl]) →
      H' wl = some (.list 0 (ic (cutN d.1 d.2.1 T))) → H' cl = some (.list 0 (ic d.2.2)) → Q (.ref t) H') : CW S (.ref 874) (n + 3) [.ref kn, .str x, .int (p : Nat)] Q H := by
  subst hx
  refine kw_fn [some _, some _, some _, none, none, none, none, none, none, none] (k_law_put _) (c_law_put _) (b_law_put _) rfl rfl ?_
  walk_at "go"
  refine cw_law_word rfl hT hl hp (fun e0 => ?_) fun t s e e1 ht => ?_
  · have hd : dueE es1 es2 T p = none := by unfold dueE; rw [if_pos (lawW_none hp e0)]
    walk_at "go"
    rename_i t ht
    exact ⟨_, Sub.refl _, h0 hd t ht⟩
  · refine gG fun GG kG => ?_
    obtain ⟨hw, hse, hep⟩ := lawW_some hp e1
    refine kG ?_
    clear kG GG
    have hcl := cutN_len s e T (by omega)
    have hSm : Sm (cutN s e T) := ⟨by omega, fun c hc => hT c (List.mem_of_mem_take (List.mem_of_mem_drop hc))⟩
    have hne : cutN s e T ≠ [] := fun q => by rw [q] at hcl; simp at hcl; omega
    have htt : (H.upd t (.tuple [.int (s : Nat), .int (e : Nat)])) t = some (.tuple [.int (s : Nat), .int (e : Nat)]) := AH.upd_self _ _ _
    have mm : Sub H (H.upd t (.tuple [.int (s : Nat), .int (e : Nat)])) := (Sub.refl _).upd ht
    have hK' := hK.sub mm
    generalize H.upd t (.tuple [.int (s : Nat), .int (e : Nat)]) = H0 at *
    walk_at "go"
    refine gw_tuple (x := .int (s : Nat)) htt (by omega) (by omega) rfl ?_
    walk_at "go"
    refine gw_tuple (x := .int (e : Nat)) htt (by omega) (by omega) rfl ?_
    walk_at "go"
    refine gw_scut (AH.upd_self _ _ _) (by simp [nn]) (by simp [nn]) (by rw [st_len]; omega) ?_
    rw [scut_st]
    rename_i sl hsl
    have m1 : Sub H0 (H0.upd sl (.slc (.int (s : Nat)) (.int (e : Nat)) .none)) := (Sub.refl _).upd hsl
    walk_at "go"
    refine cw_law_due (es1 := es1) (es2 := es2) rfl (hK'.sub m1) ht1 ht2 hSm (fun q => ?_) fun en q => ?_
    · have hd : dueE es1 es2 T p = none := by unfold dueE; rw [hw, if_neg hne]; simp only; rw [q]
      walk_at "go"
      rename_i t2 ht2
      exact ⟨_, Sub.both (mm.trans m1), h0 hd t2 ((mm.trans m1).none ht2)⟩
    · have hmem : en.2.1 ∈ texts := by
        rcases entE_mem q with z | z
        · exact ht1 _ z
        · exact ht2 _ z
      have htx := texts_ok _ hmem
      have hd : dueE es1 es2 T p = some (s, e, ltN en.2.1 (cutN s e T) en.2.2) := by unfold dueE; rw [hw, if_neg hne]; simp only; rw [q]; simp only; rw [lt_wr _ hmem]
      have hC := wrN_len en.2.1 en.2.2 (cutN s e T)
      have hC2 := wrN_lt (ex := en.2.2) (w := cutN s e T) htx.1
      rw [← lt_wr _ hmem] at hC hC2
      have hC0 : 0 < en.2.1.length := List.length_pos_iff.mpr htx.2.2
      generalize ltN en.2.1 (cutN s e T) en.2.2 = C at *
      have hCl : C.length ≤ 4 := by omega
      have hCne : C ≠ [] := fun q => by subst q; simp at hC; omega
      walk_at "go"
      refine ow_isS ?_
      walk_at "go"
      refine gw_tuple (x := .int (s : Nat)) (by walk_at "hk") (by omega) (by omega) rfl ?_
      walk_at "go"
      refine gw_tuple (x := .int (s : Nat)) (by walk_at "hk") (by omega) (by omega) rfl ?_
      walk_at "go"
      refine gw_tuple (x := .int (e : Nat)) (by walk_at "hk") (by omega) (by omega) rfl ?_
      walk_at "go"
      refine gw_scut (AH.upd_self _ _ _) (by simp [nn]) (by simp [nn]) (by rw [st_len]; omega) ?_
      rw [scut_st]
      walk_at "go"
      refine cw_law_codes rfl (by omega) fun wl hwl => ?_
      walk_at "go"
      refine cw_law_codes rfl (by omega) fun cl hcl => ?_
      walk_at "go"
      refine gw_tuple (x := .int (s : Nat)) (by walk_at "hk") (by omega) (by omega) rfl ?_
      walk_at "go"
      refine gw_scut (AH.upd_self _ _ _) (by simp [nn]) (by simp [nn]) (by rw [st_len]; omega) ?_
      rw [scut_lo]
      walk_at "go"
      refine ow_adds (by rw [st_len, st_len]; simp; omega) ?_
      rw [st_app]
      walk_at "go"
      refine gw_tuple (x := .int (e : Nat)) (by walk_at "hk") (by omega) (by omega) rfl ?_
      walk_at "go"
      refine gw_scut (AH.upd_self _ _ _) (by simp [nn]) (by simp [nn]) (by rw [st_len]; omega) ?_
      rw [scut_hi]
      refine ow_adds (by rw [st_len, st_len]; simp; omega) ?_
      rw [st_app]
      walk_at "go"
      refine gw_tuple (x := .int (s : Nat)) (by walk_at "hk") (by omega) (by omega) rfl ?_
      walk_at "go"
      refine cb_len_str (by rw [st_len]; omega) ?_
      rw [st_len]
      walk_at "go"
      refine ⟨_, Sub.refl _, h1 _ _ _ wl cl (s, e, C) hd e1 hCl hCne (hC2) (by walk_at "sub") (AH.upd_self _ _ _) (by walk_at "hk") (by walk_at "hk") (by walk_at "hk")⟩
end

section
variable {S : Sta} {E : ES} {n : Nat} {F F' : List (Option AV)} {H H' : AH} {Q : AV → AH → Prop} {QN : List (Option AV) → AH → Prop} {QX : AFl → List (Option AV) → AH → Prop}
theorem lawW_end {T : List Nat} {q s e : Nat} (hq : 0 < q) (hw : wAt T (q - 1) = true) (h : lawW T q = some (s, e)) : e = q := by
  unfold lawW at h
  split at h
  · cases h
  · simp only [Option.some.injEq, Prod.mk.injEq] at h
    have e1 := bk_le (fun k => wAt T k != true) q
    have ⟨a1, _⟩ := bk_spec (fun k => wAt T k != true) q
    rw [h.2] at e1 a1
    apply Classical.byContradiction
    intro hne
    have := a1 (q - 1) (by omega) (by omega)
    rw [hw] at this; cases this
inductive J26 (H : AH) (kn : Addr) (T₀ : List Nat) (i bn : Nat) (es1 es2 : List En) (k : Nat) (F : List (Option AV)) (H' : AH) : Prop
  | mk (T : List Nat) (p m en : Nat) (u1 u2 u3 : Option AV) (m0 : Sub H H') (hk : k + p = T.length) (hsz : 4 * T.length ≤ 1000 + 3 * p) (hch : ∀ c ∈ T, c < 128) (hen : en + bn = T.length) (hacc : ∀ Tf mf, RegR es1 es2 bn T p m Tf mf → RegR es1 es2 bn T₀ i 0 Tf mf)
      (hF : F = [some (.ref kn), some (.str (st T)), some (.int (i : Nat)), some (.int (en : Nat)), some (.int (p : Nat)), some (.int (m : Nat)), u1, u2, u3, none, none, none])
noncomputable def FwE (b : Bool) (T : List Nat) (j p : Nat) : Prop := fw (fun k => wAt T k != b) (T.length - j) j = fw (fun k => wAt T k != b) (T.length - p) p
inductive K26 (kn : Addr) (T : List Nat) (i en p m q : Nat) (u2 u3 : Option AV) (b : Bool) (k : Nat) (F : List (Option AV)) : Prop
  | mk (j : Nat) (hk : k + j = T.length) (hqj : q ≤ j) (hf : FwE b T j q) (hq : b = true ∨ j = q ∨ wAt T (j - 1) = true) (hF : F = [some (.ref kn), some (.str (st T)), some (.int (i : Nat)), some (.int (en : Nat)), some (.int (p : Nat)), some (.int (m : Nat)), some (.int (j : Nat)), u2, u3, none, none, none])
theorem FwE.go {b : Bool} {T : List Nat} {j p : Nat} (h : FwE b T j p) (hw : wAt T j = !b) (hj : j < T.length) : FwE b T (j + 1) p := by
  unfold FwE at h ⊢
  rw [← h]; exact fw_go _ _ _ (by simp [hw]) hj
theorem FwE.stop {b : Bool} {T : List Nat} {j p : Nat} (h : FwE b T j p) (hw : j < T.length → wAt T j = b) (hj : j ≤ T.length) : fw (fun k => wAt T k != b) (T.length - p) p = j := by
  unfold FwE at h
  rw [← h]
  rcases Nat.lt_or_eq_of_le hj with a | a
  · exact fw_stop _ _ _ (by simp [hw a])
  · rw [a, Nat.sub_self]; rfl
theorem cw_law_all_put {kn : Addr} {x : Str} {T₀ : List Nat} {i e : Nat} {es1 es2 : List En} (hx : x = st T₀) (hK : KnownS H kn es1 es2) (ht1 : OkT es1) (ht2 : OkT es2) (hT : ∀ c ∈ T₀, c < 128) (hl : T₀.length + 3 * T₀.length ≤ 1000) (hi : i ≤ T₀.length) (he : e ≤ T₀.length)
    (h : ∀ H' t Tf mf, Sub H H' → RegR es1 es2 (T₀.length - e) T₀ i 0 Tf mf → (∀ c ∈ Tf, c < 128) → Tf.length ≤ 1000 → H' t = some (.tuple [.str (st Tf), .int (mf : Nat)]) → Q (.ref t) H') : CW S (.ref 881) (n + 4) [.ref kn, .str x, .int (i : Nat), .int (e : Nat)] Q H := by
  subst hx
  have hbn : e + (T₀.length - e) = T₀.length := Nat.add_sub_cancel' he
  generalize T₀.length - e = bn at h hbn
  refine kw_fn [some _, some _, some _, some _, none, none, none, none, none, none, none, none] (k_law_all_put _) (c_law_all_put _) (b_law_all_put _) rfl rfl ?_
  walk_at "mw"
  refine kw_swap ["point", "many"] ?_ (by intro env h; cases env; subst h; rfl)
  walk_at "go"
  rename_i t1 ht1'
  refine ⟨[some (.ref kn), some (.str (st T₀)), some (.int (i : Nat)), some (.int (e : Nat)), some (.int (i : Nat)), some (.int 0), none, none, none, none, none, none], ⟨_, ⟨_, rfl, by walk_at "np"⟩, by walk_at "np"⟩, ?_⟩
  refine SW.forget (H := H) ?_ (by walk_at "sub")
  walk_at "mw"
  refine jw_while (fun k F H' => J26 H kn T₀ i bn es1 es2 k F H') (T₀.length - i) ?_ (.mk T₀ i 0 e _ _ _ (Sub.refl _) (Nat.sub_add_cancel hi) (by omega) hT hbn (fun _ _ h => h) rfl)
  intro k QL QXL hN hX F H' hj
  refine gG fun GG kG => ?_
  obtain ⟨T, p, m, en, u1, u2, u3, m0, hk, hsz, hch, hen, hacc, rfl⟩ := hj
  refine kG ?_
  clear kG GG hT hl hi he hbn
  have hlen : (st T).length < 2 ^ 60 := by rw [st_len]; omega
  walk_at "go"
  refine jw_while (fun k F H'' => H'' = H' ∧ K26 kn T i en p m p u2 u3 true k F) k ?_ ⟨rfl, .mk p hk (Nat.le_refl _) rfl (.inl rfl) rfl⟩
  intro k1 QL1 QXL1 hN1 _ F H'' hj
  refine gG fun GG kG => ?_
  obtain ⟨rfl, j, hk1, hpj, hf, _, rfl⟩ := hj
  refine kG ?_
  clear kG GG
  refine BW.mono (Q := fun b H3 => H3 = H'' ∧ b = (decide (j < T.length) && !wAt T j)) ?_ ?_
  · walk_at "go"
    refine cb_len_str hlen ?_
    rw [st_len]
    walk_at "go"
    by_cases hlt : j < T.length
    · refine if_t (decide_eq_true (Int.ofNat_lt.mpr hlt)) ?_
      walk_at "go"
      refine gw_str (by omega) (by omega) (c := T[j]'hlt) (by rw [Int.toNat_natCast]; exact st_get hlt) ?_
      walk_at "go"
      refine ow_notinsE2 (occ_w _ (hch _ (List.getElem_mem hlt))) ?_
      refine ⟨_, rfl, ?_⟩
      cases hw : isW (T[j]'hlt)
      · refine if_t rfl ?_
        walk_at "go"
        exact ⟨rfl, by simp [wAt_get hlt, hw, hlt]⟩
      · refine if_f rfl ?_
        exact ⟨rfl, by simp [wAt_get hlt, hw]⟩
    · refine if_f (decide_eq_false fun q => hlt (Int.ofNat_lt.mp q)) ?_
      exact ⟨rfl, by simp [hlt]⟩
  rintro bb H3 ⟨rfl, rfl⟩
  by_cases htst : (decide (j < T.length) && !wAt T j) = true
  · rw [htst]
    refine if_T ?_
    simp only [Bool.and_eq_true, decide_eq_true_eq, Bool.not_eq_true'] at htst
    walk_at "go"
    exact hN1 _ _ ⟨T.length - (j + 1), by omega, rfl, .mk (j + 1) (Nat.sub_add_cancel htst.1) (Nat.le_succ_of_le hpj) (hf.go htst.2 htst.1) (.inl rfl) rfl⟩
  rw [show (decide (j < T.length) && !wAt T j) = false by simpa using htst]
  refine if_F ?_
  have hj : j ≤ T.length := by omega
  have hjs := hf.stop (fun hlt => by simpa [hlt] using htst) hj
  clear hN1 hf hk1
  walk_at "go"
  refine cb_len_str hlen ?_
  rw [st_len]
  walk_at "go"
  by_cases hlt : j < T.length
  rotate_left
  · refine if_t (decide_eq_true (congrArg Nat.cast (Nat.le_antisymm hj (Nat.le_of_not_lt hlt)))) ?_
    walk_at "go"
    rename_i t ht
    have hfd : fwdW T p = (T.length, false) := by unfold fwdW; rw [hjs, if_pos (by omega)]
    refine hX (.ret _) _ _ ⟨_, Sub.refl _, h _ t T m (m0.upd ht) (hacc _ _ ?_) hch (by omega) (AH.upd_self _ _ _)⟩
    by_cases hz : p + bn < T.length
    · exact .stop2 hz (.inl (by rw [hfd]))
    · exact .stop1 hz
  refine if_f (decide_eq_false fun q => Nat.ne_of_lt hlt (Int.ofNat_inj.mp q)) ?_
  have hwj : wAt T j = true := by simpa [hlt] using htst
  walk_at "go"
  refine jw_while (fun k F H'' => H'' = H3 ∧ K26 kn T i en p m j u2 u3 false k F) (T.length - j) ?_ ⟨rfl, .mk j (Nat.sub_add_cancel hj) (Nat.le_refl _) rfl (.inr (.inl rfl)) rfl⟩
  intro k2 QL2 QXL2 hN2 _ F H4 hj4
  refine gG fun GG kG => ?_
  obtain ⟨rfl, q, hk2, hjq, hf2, hqw, rfl⟩ := hj4
  refine kG ?_
  clear kG GG
  refine BW.mono (Q := fun b H5 => H5 = H4 ∧ b = (decide (q < T.length) && wAt T q)) ?_ ?_
  · walk_at "go"
    refine cb_len_str hlen ?_
    rw [st_len]
    walk_at "go"
    by_cases hlt : q < T.length
    · refine if_t (decide_eq_true (Int.ofNat_lt.mpr hlt)) ?_
      walk_at "go"
      refine gw_str (by omega) (by omega) (c := T[q]'hlt) (by rw [Int.toNat_natCast]; exact st_get hlt) ?_
      walk_at "go"
      refine ow_insE2 (occ_w _ (hch _ (List.getElem_mem hlt))) ?_
      refine ⟨_, rfl, ?_⟩
      cases hw : isW (T[q]'hlt)
      · refine if_f rfl ?_
        exact ⟨rfl, by simp [wAt_get hlt, hw]⟩
      · refine if_t rfl ?_
        walk_at "go"
        exact ⟨rfl, by simp [wAt_get hlt, hw, hlt]⟩
    · refine if_f (decide_eq_false fun q => hlt (Int.ofNat_lt.mp q)) ?_
      exact ⟨rfl, by simp [hlt]⟩
  rintro bb H5 ⟨rfl, rfl⟩
  by_cases htst2 : (decide (q < T.length) && wAt T q) = true
  · rw [htst2]
    refine if_T ?_
    simp only [Bool.and_eq_true, decide_eq_true_eq] at htst2
    walk_at "go"
    exact hN2 _ _ ⟨T.length - (q + 1), by omega, rfl, .mk (q + 1) (Nat.sub_add_cancel htst2.1) (Nat.le_succ_of_le hjq) (hf2.go htst2.2 htst2.1) (.inr (.inr htst2.2)) rfl⟩
  rw [show (decide (q < T.length) && wAt T q) = false by simpa using htst2]
  refine if_F ?_
  have hq : q ≤ T.length := by omega
  have hqs := hf2.stop (fun hlt => by simpa [hlt] using htst2) hq
  clear hN2 hf2 hk2
  have hfd : fwdW T p = (q, true) := by unfold fwdW; rw [hjs, if_neg (by omega), hqs]
  have hjq2 : j < q := by
    refine Nat.lt_of_le_of_ne hjq fun e => ?_
    subst e
    exact absurd (by simp [hlt, hwj]) htst2
  have hqw' : wAt T (q - 1) = true := by
    rcases hqw with h | h | h
    · cases h
    · exact absurd h (Nat.ne_of_gt hjq2)
    · exact h
  have hpq : p < q := Nat.lt_of_le_of_lt hpj hjq2
  clear hjs hqs hqw htst htst2 hjq hjq2 hpj hj hwj hlt
  walk_at "go"
  by_cases hqe : en < q
  · refine if_t (decide_eq_true (Int.ofNat_lt.mpr hqe)) ?_
    walk_at "go"
    rename_i t ht
    refine hX (.ret _) _ _ ⟨_, Sub.refl _, h _ t T m (m0.upd ht) (hacc _ _ ?_) hch (by omega) (AH.upd_self _ _ _)⟩
    by_cases hz : p + bn < T.length
    · exact .stop2 hz (.inr (.inl (by rw [hfd]; simp only; omega)))
    · exact .stop1 hz
  refine if_f (decide_eq_false fun q => hqe (Int.ofNat_lt.mp q)) ?_
  walk_at "go"
  refine cw_law_put rfl (hK.sub m0) ht1 ht2 hch (by omega) hq (fun hd t ht => ?_) fun H6 t a wl cl d hd hlw hd4 hdn hdc m6 g1 g2 g3 g4 => ?_
  · walk_at "mw"
    walk_at "mw"
    walk_at "mw"
    walk_at "mw"
    walk_at "mw"
    walk_at "mw"
    walk_at "mw"
    walk_at "mw"
    refine SW.forget (H := H5) ?_ (by walk_at "sub")
    walk_at "mw"
    refine kw_swap ["end", "text", "many"] ?_ (by intro env h; cases env; subst h; rfl)
    walk_at "go"
    refine cb_len_str hlen ?_
    rw [st_len]
    walk_at "go"
    refine cb_len_str hlen ?_
    rw [st_len]
    walk_at "go"
    refine cb_int ?_
    walk_at "go"
    rename_i t9 ht9
    refine ⟨[some (.ref kn), some (.str (st T)), some (.int (i : Nat)), some (.int (((en : Int) + (T.length : Nat)) - (T.length : Nat))), some (.int (q : Nat)), some (.int ((m : Int) + (if (false : Bool) = true then 1 else 0))), some (.int (q : Nat)), some (.str (st T)), some .none, none, none, none], ⟨_, ⟨_, ⟨_, rfl, by walk_at "np"⟩, by walk_at "np"⟩, by walk_at "np"⟩, ?_⟩
    refine SW.forget (H := H5) ?_ (by walk_at "sub")
    walk_at "go"
    refine hN _ _ ⟨T.length - q, by omega, .mk T q m en (some (.int (q : Nat))) (some (.str (st T))) (some .none) m0 (Nat.sub_add_cancel hq) (by omega) hch hen (fun Tf mf hR => hacc _ _ (.skip (by omega) (by rw [hfd]) (by rw [hfd]; show q + bn ≤ _; omega) (by rw [hfd]; exact hpq) (by rw [hfd]; exact hd) (by rw [hfd]; exact hR))) ?_⟩
    rw [Int.add_sub_cancel]
    simp
  · have hq2 : d.2.1 = q := lawW_end (by omega) hqw' hlw
    obtain ⟨_, hds, hde⟩ := lawW_some hq hlw
    have hpl : (putT T d).length + q = d.1 + d.2.2.length + T.length := by have := putT_len T d (by omega) (by omega); omega
    have hC0 : 0 < d.2.2.length := List.length_pos_iff.mpr hdn
    walk_at "mw"
    walk_at "mw"
    walk_at "mw"
    walk_at "mw"
    walk_at "mw"
    walk_at "mw"
    walk_at "mw"
    walk_at "mw"
    walk_at "mw"
    refine kw_swap ["end", "text", "many"] ?_ (by intro env h; cases env; subst h; rfl)
    walk_at "go"
    refine cb_len_str (by rw [st_len]; omega) ?_
    rw [st_len]
    walk_at "go"
    refine cb_len_str hlen ?_
    rw [st_len]
    walk_at "go"
    refine cb_int ?_
    walk_at "go"
    rename_i t9 ht9
    refine ⟨[some (.ref kn), some (.str (st (putT T d))), some (.int (i : Nat)), some (.int (((en : Int) + ((putT T d).length : Nat)) - (T.length : Nat))), some (.int ((d.1 + d.2.2.length : Nat))), some (.int ((m : Int) + (if (true : Bool) = true then 1 else 0))), some (.int (q : Nat)), some (.str (st (putT T d))), some (.ref a), none, none, none], ⟨_, ⟨_, ⟨_, rfl, by walk_at "np"⟩, by walk_at "np"⟩, by walk_at "np"⟩, ?_⟩
    walk_at "go"
    obtain ⟨en', hen'⟩ : ∃ en', en' + T.length = en + (putT T d).length := ⟨en + (putT T d).length - T.length, Nat.sub_add_cancel (by omega)⟩
    refine hN _ _ ⟨T.length - q, by omega, .mk (putT T d) (d.1 + d.2.2.length) (m + 1) en' (some (.int (q : Nat))) (some (.str (st (putT T d)))) (some (.ref a)) ((m0.trans m6).upd ht9) (by omega) (by omega) (putT_lt hch hdc) (by omega) (fun Tf mf hR => hacc _ _ (.put (d := d) (by omega) (by rw [hfd]) (by rw [hfd]; show q + bn ≤ _; omega) (by rw [hfd]; exact hpq) (by rw [hfd]; exact hd) (by rw [hfd]; exact hq2) (by omega) hd4 hdc hR)) ?_⟩
    rw [show ((en : Int) + ((putT T d).length : Nat)) - (T.length : Nat) = ((en' : Nat) : Int) by omega]
    simp
end

section
variable {S : Sta} {E : ES} {n : Nat} {F F' : List (Option AV)} {H H' : AH} {Q : AV → AH → Prop} {QN : List (Option AV) → AH → Prop} {QX : AFl → List (Option AV) → AH → Prop}
theorem vat_cons {K V : Type} [DecidableEq K] (p : K × V) (r : List (K × V)) (j : K) : vat (p :: r) j = if p.1 = j then some p.2 else vat r j := by
  unfold vat
  by_cases e : p.1 = j <;> simp [e]
theorem vat_map_ne {K V : Type} [DecidableEq K] (k j : K) (v : V) (h : j ≠ k) : ∀ kvs : List (K × V), vat (kvs.map fun kv => if kv.1 = k then (kv.1, v) else kv) j = vat kvs j
  | [] => rfl
  | p :: r => by
    rw [List.map_cons, vat_cons, vat_cons, vat_map_ne k j v h r]
    by_cases e : p.1 = k
    · rw [if_pos e]
      have : ¬ (p.1 = j) := fun q => h (q.symm.trans e)
      rw [if_neg this, if_neg this]
    · rw [if_neg e]
theorem vat_map_eq {K V : Type} [DecidableEq K] (k : K) (v : V) : ∀ kvs : List (K × V), kvs.any (fun kv => kv.1 = k) = true → vat (kvs.map fun kv => if kv.1 = k then (kv.1, v) else kv) k = some v
  | [], h => by simp at h
  | p :: r, h => by
    rw [List.map_cons, vat_cons]
    by_cases e : p.1 = k
    · rw [if_pos e, if_pos e]
    · have h' : r.any (fun kv => kv.1 = k) = true := by simpa [e] using h
      rw [if_neg e, if_neg e]
      exact vat_map_eq k v r h'
theorem vat_none {K V : Type} [DecidableEq K] {kvs : List (K × V)} {k : K} (h : ¬ kvs.any (fun kv => kv.1 = k) = true) : vat kvs k = none := by
  have := vat_isSome kvs k
  cases q : vat kvs k with
  | none => rfl
  | some x => rw [q] at this; exact absurd this.symm h
theorem vat_app {K V : Type} [DecidableEq K] (a b : List (K × V)) (j : K) : vat (a ++ b) j = (vat a j).or (vat b j) := by
  unfold vat; rw [List.find?_append]; cases List.find? _ a <;> simp
theorem vat_sto {K V : Type} [DecidableEq K] (kvs : List (K × V)) (k j : K) (v : V) : vat (sto kvs k v) j = if j = k then some v else vat kvs j := by
  unfold sto
  by_cases ha : kvs.any (fun kv => kv.1 = k) = true
  · rw [if_pos ha]
    by_cases e : j = k
    · subst e; rw [if_pos rfl]; exact vat_map_eq _ _ _ ha
    · rw [if_neg e]; exact vat_map_ne _ _ _ e _
  · rw [if_neg ha, vat_app]
    by_cases e : j = k
    · subst e; rw [if_pos rfl, vat_none ha]; simp [vat]
    · rw [if_neg e]
      have : vat [(k, v)] j = none := by simp [vat, Ne.symm e]
      rw [this]; simp
theorem w_st : Str.ofString "w" = st [119] := by decide +kernel
theorem e_st : Str.ofString "" = st [] := by decide +kernel
theorem cw_read_syntax (h : ∀ H' x dx, Sub H H' → H' x = some (.inst 381 dx) → H' dx = some (.rcd 5 at_Syntax [some (.str "w"), some .none, some (.str "")]) → Q (.ref x) H') : CW S (.ref 395) (n + 4) [.str "w"] Q H := by
  refine kw_fn [some _, none, none, none, none, none, none, none, none, none, none, none] (k_read_syntax _) (c_read_syntax _) (b_read_syntax _) rfl rfl ?_
  walk_at "go"
  refine gw_str (c := 119) (by omega) (by omega) (by decide +kernel) ?_
  walk_at "go"
  refine gw_str (c := 119) (by omega) (by omega) (by decide +kernel) ?_
  walk_at "go"
  refine cb_len_str (by decide +kernel) ?_
  walk_at "go"
  refine if_t (by decide +kernel) ?_
  walk_at "go"
  rename_i sl hsl
  refine gw_scut (AH.upd_self _ _ _) (by simp [nn]) (by simp [nn]) (by decide +kernel) ?_
  rw [show scut (.int 2) .none (Str.ofString "w") = Str.ofString "" by decide +kernel]
  walk_at "mw"
  refine SW.forget (H := H) ?_ (by walk_at "sub")
  walk_at "go"
  refine ow_notinsE (c := false) (by decide +kernel) ?_
  refine ⟨_, rfl, ?_⟩
  refine if_f rfl ?_
  walk_at "go"
  refine ew_comp1 [] [(".0", .local), ("flag", .local), ("FLAGS", .globalImplicit)] (by kernel_rfl) (fun u => [none, u, none]) rfl (fun _ _ => .there .here) (fun _ => none) (by intro _ _; rfl) (by kernel_rfl) (by kernel_rfl) (by kernel_rfl) (by kernel_rfl) ?_
  walk_at "go"
  have hs0 : signs (Str.ofString "") = [] := by rw [e_st, signs_st]; rfl
  refine ⟨_, _, ?_, iw_str, ?_, fun d hd => ?_⟩
  · rw [hs0]; simp
  · intro v hv; rw [hs0] at hv; cases hv
  · walk_at "go"
    refine cb_all0 (some_list (AH.upd_self _ _ _) (by rw [hs0]; rfl)) ?_
    walk_at "mw"
    walk_at "mw"
    walk_at "mw"
    walk_at "mw"
    refine SW.forget (H := H) ?_ (by walk_at "sub")
    walk_at "go"
    refine cw_sorted_flags rfl ?_
    walk_at "go"
    rw [show (⟨#[119]⟩ : Str) = Str.ofString "w" by decide +kernel]
    refine cw_Syntax fun x dx hx hd' hne => ?_
    exact ⟨_, Sub.refl _, h _ x dx (Sub.updN (Sub.updN (Sub.refl _) hd') hx) (AH.upd_self _ _ _) (by rw [AH.upd_ne (Ne.symm hne)]; exact AH.upd_self _ _ _)⟩
theorem wcs_st : Str.ofString "abABxyzXYZ" = st wcs := by decide +kernel
theorem cw_modify_all {a dx r : Addr} {x : Str} (hx : x = st wcs) (a1 : H a = some (.inst 462 dx)) (a2 : H dx = some (.rcd 6 at_SyntaxTable [some .none, some (.ref r)])) (a3 : H r = some (.idict 6 []))
    (h : ∀ H', (∀ b o, H b = some o → b ≠ r → H' b = some o) → SynT H' a → Q .none H') : CW S (.ref 424) (n + 5) [.ref a, .str x, .str "w"] Q H := by
  subst hx
  refine kw_fn [some _, some _, some _, none, none, none, none] (k_SyntaxTable_modify_all _) (c_SyntaxTable_modify_all _) (b_SyntaxTable_modify_all _) rfl rfl ?_
  walk_at "go"
  refine cw_read_syntax fun H1 sy sx m s1 s2 => ?_
  have b1 := m _ _ a1
  have b2 := m _ _ a2
  have b3 := m _ _ a3
  walk_at "go"
  refine ⟨_, _, iw_str, jfor (fun xs F H' => ∃ D R kv u, D ++ R = wcs ∧ xs = signs (st R) ∧ H' = H1.upd r (.idict 6 kv) ∧ kv.length ≤ D.length ∧ (∀ c : Nat, vat kv (c : Int) = if D.contains c then some (.ref sy) else none) ∧
    F = [some (.ref a), some (.str (st wcs)), some (.str "w"), some (.ref sy), u, none, none]) ?_ ?_ _ _ _ ⟨[], wcs, [], none, rfl, rfl, (upd_id b3).symm, by simp, fun c => rfl, rfl⟩⟩
  · intro v rest QL QXL hN hX F H' hj
    refine gG fun GG kG => ?_
    obtain ⟨D, R, kv, u, hDR, hxs, rfl, hlen, hv, rfl⟩ := hj
    refine kG ?_
    clear kG GG
    cases R with
    | nil => rw [signs_st] at hxs; cases hxs
    | cons c R =>
      rw [signs_st] at hxs
      simp only [List.map_cons, List.cons.injEq] at hxs
      obtain ⟨rfl, rfl⟩ := hxs
      have hDl : D.length ≤ 10 := by
        have := congrArg List.length hDR
        simp [wcs] at this; omega
      walk_at "go"
      refine cb_ord ?_
      refine pw_idict (AH.upd_self _ _ _) (by omega) ?_
      rw [upd_upd]
      walk_at "go"
      refine hN _ _ ⟨trivial, D ++ [c], R, sto kv (c : Int) (.ref sy), _, by simpa using hDR, by rw [signs_st], rfl, ?_, fun j => ?_, rfl⟩
      · have := sto_len kv (c : Int) (.ref sy); simp; omega
      · rw [vat_sto, hv j]
        by_cases e : j = c
        · subst e; simp
        · have : ¬ ((j : Int) = (c : Int)) := by omega
          simp [e, this]
  · intro F H' hj
    refine gG fun GG kG => ?_
    obtain ⟨D, R, kv, u, hDR, hxs, rfl, hlen, hv, rfl⟩ := hj
    refine kG ?_
    clear kG GG
    cases R with
    | cons c R => rw [signs_st] at hxs; cases hxs
    | nil =>
      simp only [List.append_nil] at hDR
      subst hDR
      walk_at "go"
      refine ⟨_, Sub.refl _, h _ (fun b o hb hne => by rw [AH.upd_ne hne]; exact m _ _ hb) ⟨dx, r, sy, sx, kv, "", ⟨by walk_at "hk", by walk_at "hk", AH.upd_self _ _ _, hv, by walk_at "hk", by walk_at "hk"⟩⟩⟩
end

section
variable {S : Sta} {E : ES} {n : Nat} {F F' : List (Option AV)} {H H' : AH} {Q : AV → AH → Prop} {QN : List (Option AV) → AH → Prop} {QX : AFl → List (Option AV) → AH → Prop}
theorem DeckS.mv {P : Nat → Bool} {d : Addr} {m : Nat} (h : DeckS H d m) (k : Mv P H H') (h1 : P 41 = false) (h2 : P 1 = false) : DeckS H' d m := by
  obtain ⟨c, i, L, a, b, r⟩ := h
  exact ⟨c, i, L, k _ _ a h1, k _ _ b h2, r⟩
theorem DeckS.le {d : Addr} {m m' : Nat} (h : DeckS H d m) (k : m' ≤ m) : DeckS H d m' := by
  obtain ⟨c, i, L, a, b, r1, r2, r3⟩ := h
  exact ⟨c, i, L, a, b, r1, r2, by omega⟩
theorem Mv.updN {P : Nat → Bool} {H₁ : AH} {a : Addr} {o : AO} (m : Mv P H H₁) (h : H a = none) : Mv P H (H₁.upd a o) := fun b p e k => by
  rw [AH.upd_ne fun q => ?_]; exact m b p e k
  subst q; rw [h] at e; cases e
/-- what a turn of the table's loop keeps -/
noncomputable def Kp (e rw : Addr) (H H' : AH) : Prop := ∀ a o, H a = some o → a ≠ e → a ≠ rw → kd o ≠ 41 → H' a = some o
theorem sto_new {K V : Type} [DecidableEq K] (kvs : List (K × V)) (k : K) (v : V) (h : ∀ p ∈ kvs, p.1 ≠ k) : sto kvs k v = kvs ++ [(k, v)] := by
  unfold sto
  rw [if_neg]
  intro q
  obtain ⟨p, hp, e⟩ := List.any_eq_true.mp q
  exact h p hp (by simpa using e)
theorem wout_ne {K V : Type} [DecidableEq K] {kvs : List (K × V)} {k : K} {p : K × V} (h : p ∈ wout kvs k) : p ∈ kvs ∧ p.1 ≠ k := by
  obtain ⟨a, b⟩ := List.mem_filter.mp h
  exact ⟨a, by simpa using b⟩
theorem sto_own {K V : Type} [DecidableEq K] (f : List Nat → K) (kvs : List (K × V)) (w : List Nat) (ex : Bool) (v : V) : sto (wout (wout kvs (f w)) (f (w.map dnN))) (f (ownW w ex)) v = wout (wout kvs (f w)) (f (w.map dnN)) ++ [(f (ownW w ex), v)] := by
  refine sto_new _ _ _ fun p hp => ?_
  obtain ⟨h1, h2⟩ := wout_ne hp
  obtain ⟨_, h3⟩ := wout_ne h1
  cases ex
  · exact h2
  · exact h3
noncomputable def noE (es : List En) (w : List Nat) : List En := es.filter fun e => e.1 != w
noncomputable def newE (es : List En) (w t : List Nat) (ex : Bool) : List En := noE (noE es w) (w.map dnN) ++ [(ownW w ex, t, ex)]
theorem ents_wout {kvs : List (Str × AV)} {es : List En} {w : List Nat} (h : EntsR H kvs es) (ho : OkE es) (hw : ∀ c ∈ w, c < 128) : EntsR H (wout kvs (keyS w)) (noE es w) := by
  induction h with
  | nil => exact .nil
  | cons a _ ih =>
    rename_i r en kvs es _
    have ih' := ih fun x hx => ho x (.tail _ hx)
    by_cases e : en.1 = w
    · have h1 : wout ((keyS en.1, AV.ref r) :: kvs) (keyS w) = wout kvs (keyS w) := by unfold wout; rw [List.filter_cons_of_neg (by simp [e])]
      have h2 : noE (en :: es) w = noE es w := by unfold noE; rw [List.filter_cons_of_neg (by simp [e])]
      rw [h1, h2]; exact ih'
    · have hk : keyS en.1 ≠ keyS w := fun h => e (keyS_inj (ho en (.head _)) hw h)
      have h1 : wout ((keyS en.1, AV.ref r) :: kvs) (keyS w) = (keyS en.1, AV.ref r) :: wout kvs (keyS w) := by unfold wout; rw [List.filter_cons_of_pos (by simp [hk])]
      have h2 : noE (en :: es) w = en :: noE es w := by unfold noE; rw [List.filter_cons_of_pos (by simp [e])]
      rw [h1, h2]; exact .cons a ih'
theorem ents_app {kvs : List (Str × AV)} {es : List En} {en : En} {r : Addr} (h : EntsR H kvs es) (k : EntR H r en) : EntsR H (kvs ++ [(keyS en.1, .ref r)]) (es ++ [en]) := by
  induction h with
  | nil => exact .cons k .nil
  | cons a _ ih => exact .cons a ih
theorem rows_wout {kvs : List (Str × AV)} {es : List En} {w : List Nat} (h : RowsR H kvs es) : RowsR H (wout kvs (st w)) (noE es w) := by
  induction h with
  | nil => exact .nil
  | cons a _ ih =>
    rename_i tp en kvs es _
    by_cases e : en.1 = w
    · have h1 : wout ((st en.1, AV.ref tp) :: kvs) (st w) = wout kvs (st w) := by unfold wout; rw [List.filter_cons_of_neg (by simp [e])]
      have h2 : noE (en :: es) w = noE es w := by unfold noE; rw [List.filter_cons_of_neg (by simp [e])]
      rw [h1, h2]; exact ih
    · have hk : st en.1 ≠ st w := fun h => e (st_inj h)
      have h1 : wout ((st en.1, AV.ref tp) :: kvs) (st w) = (st en.1, AV.ref tp) :: wout kvs (st w) := by unfold wout; rw [List.filter_cons_of_pos (by simp [hk])]
      have h2 : noE (en :: es) w = en :: noE es w := by unfold noE; rw [List.filter_cons_of_pos (by simp [e])]
      rw [h1, h2]; exact .cons a ih
theorem rows_app {kvs : List (Str × AV)} {es : List En} {en : En} {tp : Addr} (h : RowsR H kvs es) (k : H tp = some (.tuple [.str (st en.2.1), .bool en.2.2])) : RowsR H (kvs ++ [(st en.1, .ref tp)]) (es ++ [en]) := by
  induction h with
  | nil => exact .cons k .nil
  | cons a _ ih => exact .cons a ih
theorem noE_mem {es : List En} {w : List Nat} {e : En} (h : e ∈ noE es w) : e ∈ es := (List.mem_filter.mp h).1
theorem newE_okE {es : List En} {w t : List Nat} {ex : Bool} (h : OkE es) (hw : ∀ c ∈ w, c < 128) : OkE (newE es w t ex) := fun e he => by
  rcases List.mem_append.mp he with he | he
  · exact h e (noE_mem (noE_mem he))
  · rw [List.mem_singleton.mp he]
    cases ex
    · intro c hc
      obtain ⟨d, hd, rfl⟩ := List.mem_map.mp hc
      exact dn_lt (hw d hd)
    · exact hw
theorem newE_okT {es : List En} {w t : List Nat} {ex : Bool} (h : OkT es) (ht : t ∈ texts) : OkT (newE es w t ex) := fun e he => by
  rcases List.mem_append.mp he with he | he
  · exact h e (noE_mem (noE_mem he))
  · rw [List.mem_singleton.mp he]; exact ht
theorem newE_len (es : List En) (w t : List Nat) (ex : Bool) : (newE es w t ex).length ≤ es.length + 1 := by
  unfold newE
  rw [List.length_append]
  exact Nat.add_le_add_right (Nat.le_trans (List.length_filter_le _ _) (List.length_filter_le _ _)) 1
noncomputable def words : List (List Nat) := [[97], [97, 98], [98], [65], [98, 65]]
theorem words_ok : ∀ w ∈ words, (∀ c ∈ w, c < 128) ∧ w.length ≤ 2 := by decide
theorem word_at {v : Nat} (h : v < 5) : ∃ w, w ∈ words ∧ ([.str (Str.ofString "a"), .str (Str.ofString "ab"), .str (Str.ofString "b"), .str (Str.ofString "A"), .str (Str.ofString "bA")] : List AV)[v]? = some (.str (st w)) := by
  rcases v with _ | _ | _ | _ | _ | v
  · exact ⟨[97], by decide, rfl⟩
  · exact ⟨[97, 98], by decide, rfl⟩
  · exact ⟨[98], by decide, rfl⟩
  · exact ⟨[65], by decide, rfl⟩
  · exact ⟨[98, 65], by decide, rfl⟩
  · omega
theorem text_at {v : Nat} (h : v < 4) : ∃ t, t ∈ texts ∧ ([.str (Str.ofString "x"), .str (Str.ofString "xy z"), .str (Str.ofString "(x.y"), .str (Str.ofString "ab")] : List AV)[v]? = some (.str (st t)) := by
  rcases v with _ | _ | _ | _ | v
  · exact ⟨[120], by decide, rfl⟩
  · exact ⟨[120, 121, 32, 122], by decide, rfl⟩
  · exact ⟨[40, 120, 46, 121], by decide, rfl⟩
  · exact ⟨[97, 98], by decide, rfl⟩
  · omega
end

section
variable {S : Sta} {E : ES} {n : Nat} {F F' : List (Option AV)} {H H' : AH} {Q : AV → AH → Prop} {QN : List (Option AV) → AH → Prop} {QX : AFl → List (Option AV) → AH → Prop}
theorem hneq {a b : Addr} {o1 o2 : AO} (h1 : H a = some o1) (h2 : H b = some o2) (hk : kd o1 ≠ kd o2) : a ≠ b := fun q => by
  subst q; rw [h1] at h2; cases h2; exact hk rfl
theorem hnn {a b : Addr} {o : AO} (h1 : H a = some o) (h2 : H b = none) : a ≠ b := fun q => by
  subst q; rw [h1] at h2; cases h2
noncomputable def pU (k : Nat) : Bool := k == 23 || k == 73 || k == 51 || k == 41
structure Inn (Hs : AH) (e rw d : Addr) (M : Nat) (kv rv : List (Str × AV)) (es es' : List En) (H : AH) : Prop where
  kp : Kp e rw Hs H
  dk : DeckS H d M
  he : H e = some (.sdict 2 kv)
  hr : H rw = some (.sdict 7 rv)
  en : EntsR H kv es
  ro : RowsR H rv es'
theorem Inn.sub {Hs : AH} {e rw d : Addr} {M : Nat} {kv rv : List (Str × AV)} {es es' : List En} (h : Inn Hs e rw d M kv rv es es' H) (m : Sub H H') : Inn Hs e rw d M kv rv es es' H' :=
  ⟨fun a o ha h1 h2 h3 => m _ _ (h.kp a o ha h1 h2 h3), h.dk.mv (P := fun _ => false) (Mv.ofSub m) rfl rfl, m _ _ h.he, m _ _ h.hr, h.en.sub m, h.ro.sub m⟩
theorem Inn.draw {Hs : AH} {e rw d : Addr} {M M' : Nat} {kv rv : List (Str × AV)} {es es' : List En} (h : Inn Hs e rw d M kv rv es es' H) (m : Mv pD H H') (dk : DeckS H' d M') : Inn Hs e rw d M' kv rv es es' H' :=
  ⟨fun a o ha h1 h2 h3 => m _ _ (h.kp a o ha h1 h2 h3) (by simpa [pD] using h3), dk, m _ _ h.he rfl, m _ _ h.hr rfl, h.en.mv m rfl rfl rfl, h.ro.mv m rfl⟩
theorem ents_len {kvs : List (Str × AV)} {es : List En} (h : EntsR H kvs es) : kvs.length = es.length := by
  induction h with
  | nil => rfl
  | cons _ _ ih => simp [ih]
theorem rows_len {kvs : List (Str × AV)} {es : List En} (h : RowsR H kvs es) : kvs.length = es.length := by
  induction h with
  | nil => rfl
  | cons _ _ ih => simp [ih]
/-- what the two turns leave -/
inductive A29 (d kn x1 x2 e1 e2 : Addr) (m : Nat) (xs : List AV) (H : AH) : Prop
  | a (hx : xs = [.ref x1, .ref x2]) (g1 : DeckS H d (m + 30)) (g2 : H kn = some (.list 5 [])) (g3 : H e1 = some (.sdict 2 [])) (g4 : H e2 = some (.sdict 2 []))
  | b (hx : xs = [.ref x2]) (r1 : Addr) (kv1 rv1 : List (Str × AV)) (es1 : List En) (g1 : DeckS H d (m + 15)) (g2 : H kn = some (.list 5 [.ref r1])) (g3 : H e1 = some (.sdict 2 kv1)) (g4 : EntsR H kv1 es1) (g5 : H r1 = some (.sdict 7 rv1)) (g6 : RowsR H rv1 es1) (g7 : OkE es1) (g8 : OkT es1) (g9 : H e2 = some (.sdict 2 []))
  | c (hx : xs = []) (r1 : Addr) (kv1 rv1 : List (Str × AV)) (es1 : List En) (r2 : Addr) (kv2 rv2 : List (Str × AV)) (es2 : List En) (g1 : DeckS H d m) (g2 : H kn = some (.list 5 [.ref r1, .ref r2])) (g3 : H e1 = some (.sdict 2 kv1)) (g4 : EntsR H kv1 es1) (g5 : H r1 = some (.sdict 7 rv1)) (g6 : RowsR H rv1 es1) (g7 : OkE es1) (g8 : OkT es1)
      (g9 : H e2 = some (.sdict 2 kv2)) (g10 : EntsR H kv2 es2) (g11 : H r2 = some (.sdict 7 rv2)) (g12 : RowsR H rv2 es2) (g13 : OkE es2) (g14 : OkT es2)
inductive J29 (H H4 : AH) (d t2 kn t1 x1 x2 e1 e2 : Addr) (m : Nat) (xs : List AV) (H' : AH) : List (Option AV) → Prop
  | mk (hmD : Mv pD H H') (hmU : Mv pU H4 H') (hx : A29 d kn x1 x2 e1 e2 m xs H') (u4 u5 u6 u7 u8 u9 u10 u11 : Option AV) : J29 H H4 d t2 kn t1 x1 x2 e1 e2 m xs H' [some (.ref d), some (.ref t2), some (.ref kn), some (.ref t1), u4, u5, u6, u7, u8, u9, u10, u11, none, none, none, none, none]
inductive I29 (Hs : AH) (d t2 kn t1 tb e rw : Addr) (most M : Nat) (xs : List AV) (H : AH) : List (Option AV) → Prop
  | mk (kv rv : List (Str × AV)) (es : List En) (hI : Inn Hs e rw d (M + 3 * xs.length) kv rv es es H) (ho : OkE es) (hot : OkT es) (hlen : es.length + xs.length ≤ 4) (u7 u8 u9 u10 u11 : Option AV) :
      I29 Hs d t2 kn t1 tb e rw most M xs H [some (.ref d), some (.ref t2), some (.ref kn), some (.ref t1), some (.ref tb), some (.int (most : Nat)), some (.ref rw), u7, u8, u9, u10, u11, none, none, none, none, none]
theorem cw_law_tables {d : Addr} {m : Nat} (hD : DeckS H d (m + 30))
    (h : ∀ H' t tb kn es1 es2, Mv pD H H' → DeckS H' d m → Tabs H' tb es1 es2 → KnownS H' kn es1 es2 → OkE es1 → OkE es2 → OkT es1 → OkT es2 → H' t = some (.tuple [.ref tb, .ref kn]) → Q (.ref t) H') : CW S (.ref 848) (n + 5) [.ref d] Q H := by
  refine kw_fn [some _, none, none, none, none, none, none, none, none, none, none, none, none, none, none, none, none] (k_law_tables _) (c_law_tables _) (b_law_tables _) rfl rfl ?_
  walk_at "mw"
  refine kw_swap ["parent", "known"] ?_ (by intro env h; cases env; subst h; rfl)
  walk_at "go"
  rename_i pl2 hpl2
  refine cw_AbbrevTable fun H1 t2 tx2 e2 m1 he2 a1 a2 a3 => ?_
  have p2 := m1 _ _ (AH.upd_self _ _ _)
  have m1' : Sub H H1 := ((Sub.refl _).upd hpl2).trans m1
  have he2' : H e2 = none := upd_none he2
  walk_at "mw"
  refine kw_listT 5 ?_
  walk_at "mw"
  walk_at "mw"
  intro kn hkn
  walk_at "go"
  rename_i t0 ht0
  refine ⟨[some (.ref d), some (.ref t2), some (.ref kn), none, none, none, none, none, none, none, none, none, none, none, none, none, none], ⟨_, ⟨_, rfl, by walk_at "np"⟩, by walk_at "np"⟩, ?_⟩
  have hkn' : H kn = none := m1'.none hkn
  have q1 : (H1.upd kn (.list 5 [])) kn = some (.list 5 []) := AH.upd_self _ _ _
  have m2 : Sub H (H1.upd kn (.list 5 [])) := m1'.upd hkn
  replace a1 := AH.upd_old (o := .list 5 []) hkn a1
  replace a2 := AH.upd_old (o := .list 5 []) hkn a2
  replace a3 := AH.upd_old (o := .list 5 []) hkn a3
  replace p2 := AH.upd_old (o := .list 5 []) hkn p2
  refine SW.forget (H := H1.upd kn (.list 5 [])) ?_ (by walk_at "sub")
  generalize H1.upd kn (.list 5 []) = H2 at *
  walk_at "go"
  rename_i pl1 hpl1
  refine cw_AbbrevTable fun H3 t1 tx1 e1 m3 he1 b1 b2 b3 => ?_
  have he12 : e1 ≠ e2 := (hnn a3 (upd_none he1)).symm
  have hkn1 : e1 ≠ kn := (hnn q1 (upd_none he1)).symm
  have m3' : Sub H2 H3 := ((Sub.refl _).upd hpl1).trans m3
  have p1 := m3 _ _ (AH.upd_self _ _ _)
  replace a1 := m3' _ _ a1
  replace a2 := m3' _ _ a2
  replace a3 := m3' _ _ a3
  replace p2 := m3' _ _ p2
  replace q1 := m3' _ _ q1
  have he1' : H e1 = none := m2.none (upd_none he1)
  walk_at "go"
  rename_i x1 hx1 x2 hx2 l hl
  have w1 : (((H3.upd x1 (.tuple [.ref t1, .int 4])).upd x2 (.tuple [.ref t2, .int 3])).upd l (.list 0 [.ref x1, .ref x2])) x1 = some (.tuple [.ref t1, .int 4]) := by walk_at "hk"
  have w2 : (((H3.upd x1 (.tuple [.ref t1, .int 4])).upd x2 (.tuple [.ref t2, .int 3])).upd l (.list 0 [.ref x1, .ref x2])) x2 = some (.tuple [.ref t2, .int 3]) := by walk_at "hk"
  have w3 : (((H3.upd x1 (.tuple [.ref t1, .int 4])).upd x2 (.tuple [.ref t2, .int 3])).upd l (.list 0 [.ref x1, .ref x2])) l = some (.list 0 [.ref x1, .ref x2]) := AH.upd_self _ _ _
  have mm : Sub H3 (((H3.upd x1 (.tuple [.ref t1, .int 4])).upd x2 (.tuple [.ref t2, .int 3])).upd l (.list 0 [.ref x1, .ref x2])) := by walk_at "sub"
  generalize (((H3.upd x1 (.tuple [.ref t1, .int 4])).upd x2 (.tuple [.ref t2, .int 3])).upd l (.list 0 [.ref x1, .ref x2])) = H4 at *
  replace a1 := mm _ _ a1
  replace a2 := mm _ _ a2
  replace a3 := mm _ _ a3
  replace p2 := mm _ _ p2
  replace q1 := mm _ _ q1
  replace b1 := mm _ _ b1
  replace b2 := mm _ _ b2
  replace b3 := mm _ _ b3
  replace p1 := mm _ _ p1
  have mH : Sub H H4 := m2.trans (m3'.trans mm)
  have hD4 : DeckS H4 d (m + 30) := hD.mv (P := fun _ => false) (Mv.ofSub mH) rfl rfl
  refine ⟨_, _, iw_list w3, jfor (fun xs F H' => J29 H H4 d t2 kn t1 x1 x2 e1 e2 m xs H' F) ?_ ?_ _ _ _ (.mk (Mv.ofSub mH) (Mv.refl _) (.a rfl hD4 q1 b3 a3) none none none none none none none none)⟩
  · intro v rest QL QXL hN _ F H' hj
    obtain ⟨hmD, hmU, hx, u4, u5, u6, u7, u8, u9, u10, u11⟩ := hj
    refine gG fun GG kG => ?_
    obtain ⟨tb, tx, e, nm, pl, xk, most, M, kl, rfl, hxk, htb, htx, he0, hmost, hM, hD', hkn0, hkl, hee, hrest⟩ : ∃ (tb tx e : Addr) (nm : Str) (pl xk : Addr) (most M : Nat) (kl : List AV), v = .ref xk ∧ H4 xk = some (.tuple [.ref tb, .int (most : Nat)]) ∧ H4 tb = some (.inst 104 tx) ∧ H4 tx = some (.rcd 4 at_AbbrevTable [some (.str nm), some (.ref pl), some (.ref e), some (.bool false)]) ∧
        H e = none ∧ 0 < most ∧ most ≤ 4 ∧ DeckS H' d (M + 15) ∧ H' kn = some (.list 5 kl) ∧ kl.length ≤ 1 ∧ H' e = some (.sdict 2 []) ∧
        (∀ (H3 : AH) (rw : Addr) (kv rv : List (Str × AV)) (es : List En),
          (∀ a o, H' a = some o → a ≠ e → a ≠ kn → kd o ≠ 41 → H3 a = some o) → DeckS H3 d M → H3 kn = some (.list 5 (kl ++ [.ref rw])) → H3 e = some (.sdict 2 kv) → EntsR H3 kv es → H3 rw = some (.sdict 7 rv) → RowsR H3 rv es → OkE es → OkT es → A29 d kn x1 x2 e1 e2 m rest H3) := by
      rcases hx with ⟨hx, g1, g2, g3, g4⟩ | ⟨hx, r1, kv1, rv1, es1, g1, g2, g3, g4, g5, g6, g7, g8, g9⟩ | ⟨hx, _⟩
      · simp only [List.cons.injEq] at hx
        obtain ⟨rfl, rfl⟩ := hx
        refine ⟨t1, tx1, e1, _, _, x1, 4, m + 15, [], rfl, w1, b1, b2, he1', by omega, by omega, g1, g2, by simp, g3, ?_⟩
        intro H3 rw kv rv es i4 i5 i6 i7 i8 i9 i10 i11 i12
        exact .b rfl rw kv rv es i5 i6 i7 i8 i9 i10 i11 i12 (i4 _ _ g4 (Ne.symm he12) (hneq g4 g2 (Nat.ne_of_beq_eq_false rfl)) (by decide))
      · simp only [List.cons.injEq] at hx
        obtain ⟨rfl, rfl⟩ := hx
        refine ⟨t2, tx2, e2, _, _, x2, 3, m, [.ref r1], rfl, w2, a1, a2, he2', by omega, by omega, g1, g2, by simp, g9, ?_⟩
        intro H3 rw kv rv es i4 i5 i6 i7 i8 i9 i10 i11 i12
        have hr1 : r1 ≠ e2 := hneq g5 g9 (Nat.ne_of_beq_eq_false rfl)
        have mv : Mv (fun k => k == 23 || k == 51 || k == 41) H' H3 := fun a o ha hp => by
          simp only [Bool.or_eq_false_iff, beq_eq_false_iff_ne, ne_eq] at hp
          exact i4 a o ha (hneq ha g9 hp.1.1) (hneq ha g2 hp.1.2) hp.2
        exact .c rfl r1 kv1 rv1 es1 rw kv rv es i5 i6 (i4 _ _ g3 he12 (hneq g3 g2 (Nat.ne_of_beq_eq_false rfl)) (Nat.ne_of_beq_eq_false rfl)) (g4.mv mv rfl rfl rfl) (i4 _ _ g5 hr1 (hneq g5 g2 (Nat.ne_of_beq_eq_false rfl)) (Nat.ne_of_beq_eq_false rfl)) (g6.mv mv rfl) g7 g8 i7 i8 i9 i10 i11 i12
      · cases hx
    refine kG ?_
    clear kG GG
    have htb' := hmU _ _ htb rfl
    have htx' := hmU _ _ htx rfl
    have hxk' := hmU _ _ hxk rfl
    have w3' := hmU _ _ w3 rfl
    refine tw_tuple rfl ⟨_, rfl, .inl hxk'⟩ rfl ?_
    walk_at "go"
    refine ew_dictS 7 fun rw hrw => ?_
    walk_at "go"
    have md1 : Sub H' (H'.upd rw (.sdict 7 [])) := (Sub.refl _).upd hrw
    refine cw_law_draw (m := M + 14) hmost (hD'.mv (P := fun _ => false) (Mv.ofSub md1) rfl rfl) fun H5 v hv m5 hD5 => ?_
    walk_at "go"
    refine cb_range (by omega) fun rg hrg => ?_
    have f1 : (H5.upd rg (.rng v)) e = some (.sdict 2 []) := AH.upd_old hrg (m5 _ _ (AH.upd_old hrw hee) rfl)
    have f2 : (H5.upd rg (.rng v)) rw = some (.sdict 7 []) := AH.upd_old hrg (m5 _ _ (AH.upd_self _ _ _) rfl)
    have f3 : (H5.upd rg (.rng v)) rg = some (.rng v) := AH.upd_self _ _ _
    have f4 : DeckS (H5.upd rg (.rng v)) d (M + 12) := (hD5.mv (P := fun _ => false) (Mv.ofSub ((Sub.refl _).upd hrg)) rfl rfl).le (by omega)
    have f5 : Mv pD H' (H5.upd rg (.rng v)) := ((Mv.ofSub md1).trans m5).fr hrg
    generalize H5.upd rg (.rng v) = Hs at *
    have htb2 := f5 _ _ htb' rfl
    have htx2 := f5 _ _ htx' rfl
    have w32 := f5 _ _ w3' rfl
    have hkn2 := f5 _ _ hkn0 rfl
    have hir : rw ≠ e := (hnn hee hrw).symm
    refine ⟨_, _, iw_rng f3, jfor (fun xs F H6 => I29 Hs d t2 kn t1 tb e rw most M xs H6 F) ?_ ?_ _ _ _ (.mk [] [] [] ⟨fun a o ha _ _ _ => ha, f4.le (by simp [upto]; omega), f1, f2, .nil, .nil⟩ (fun _ h => by cases h) (fun _ h => by cases h) (by simp [upto]; omega) _ _ _ _ _)⟩
    · intro vv rest QL2 QXL2 hN2 _ F H6 hj
      clear hN hrest
      obtain ⟨kv, rv, es, hI, ho, hot, hlen, u7, u8, u9, u10, u11⟩ := hj
      simp only [List.length_cons] at hI hlen
      walk_at "mw"
      walk_at "mw"
      refine kw_swap ["word", "is_exact"] ?_ (by intro env h; cases env; subst h; rfl)
      walk_at "go"
      rename_i lw hlw
      refine cw_law_draw (many := 5) (m := M + 3 * rest.length + 2) (by omega) ((hI.sub ((Sub.refl _).upd hlw)).dk.le (by omega)) fun H7 v1 hv1 m7 hD7 => ?_
      have hI2 := (hI.sub ((Sub.refl _).upd hlw)).draw m7 hD7
      refine gG fun GG kG => ?_
      obtain ⟨w, hwm, hwe⟩ := word_at hv1
      refine kG ?_
      clear kG GG
      refine gw_list (m7 _ _ (AH.upd_self _ _ _) rfl) (by omega) (by omega) (x := .str (st w)) (by rw [Int.toNat_natCast]; exact hwe) ?_
      walk_at "go"
      refine cw_law_draw (many := 3) (m := M + 3 * rest.length + 1) (by omega) hD7 fun H8 v2 hv2 m8 hD8 => ?_
      have hI3 := hI2.draw m8 hD8
      walk_at "go"
      rename_i tt htt
      refine ⟨[some (.ref d), some (.ref t2), some (.ref kn), some (.ref t1), some (.ref tb), some (.int (most : Nat)), some (.ref rw), _, some (.str (st w)), some (.bool ((v2 : Int) == 0)), u10, u11, none, none, none, none, none], ⟨_, ⟨_, rfl, by walk_at "np"⟩, by walk_at "np"⟩, ?_⟩
      refine SW.forget (H := H8) ?_ (by walk_at "sub")
      generalize ((v2 : Int) == 0) = ex
      walk_at "go"
      rename_i lt hlt
      refine cw_law_draw (many := 4) (m := M + 3 * rest.length) (by omega) ((hI3.sub ((Sub.refl _).upd hlt)).dk) fun H9 v3 hv3 m9 hD9 => ?_
      have hI4 := (hI3.sub ((Sub.refl _).upd hlt)).draw m9 hD9
      refine gG fun GG kG => ?_
      obtain ⟨tx', htm, hte⟩ := text_at hv3
      refine kG ?_
      clear kG GG
      refine gw_list (m9 _ _ (AH.upd_self _ _ _) rfl) (by omega) (by omega) (x := .str (st tx')) (by rw [Int.toNat_natCast]; exact hte) ?_
      have hwo := words_ok w hwm
      have hto := texts_ok tx' htm
      have hSm : Sm w := ⟨by omega, hwo.1⟩
      walk_at "go"
      refine cw_law_codes rfl (by omega) fun wl hwl => ?_
      walk_at "go"
      refine cw_law_codes rfl (by omega) fun cl hcl => ?_
      have hIc : Inn Hs e rw d (M + 3 * rest.length) kv rv es es ((H9.upd wl (.list 0 (ic w))).upd cl (.list 0 (ic tx'))) := (hI4.sub ((Sub.refl _).upd hwl)).sub ((Sub.refl _).upd hcl)
      have c1 : ((H9.upd wl (.list 0 (ic w))).upd cl (.list 0 (ic tx'))) wl = some (.list 0 (ic w)) := by walk_at "hk"
      have c2 : ((H9.upd wl (.list 0 (ic w))).upd cl (.list 0 (ic tx'))) cl = some (.list 0 (ic tx')) := AH.upd_self _ _ _
      generalize (H9.upd wl (.list 0 (ic w))).upd cl (.list 0 (ic tx')) = Hc at *
      have ftb := hIc.kp _ _ htb2 (hneq htb2 f1 (Nat.ne_of_beq_eq_false rfl)) (hneq htb2 f2 (Nat.ne_of_beq_eq_false rfl)) (Nat.ne_of_beq_eq_false rfl)
      have ftx := hIc.kp _ _ htx2 (hneq htx2 f1 (Nat.ne_of_beq_eq_false rfl)) (hneq htx2 f2 (Nat.ne_of_beq_eq_false rfl)) (Nat.ne_of_beq_eq_false rfl)
      have hel := ents_len hIc.en
      have hrl := rows_len hIc.ro
      walk_at "go"
      refine cw_define ftb ftx hIc.he (by omega) c1 hSm c2 fun Hd r kd1 kd2 kd3 => ?_
      rw [sto_own keyS] at kd2
      have kmv : Mv (fun k => k == 23) Hc Hd := fun a o ha hp => kd1 a o ha (fun q => by subst q; rw [hIc.he] at ha; cases ha; cases hp)
      have nE : EntsR Hd _ (newE es w tx' ex) := ents_app (en := (ownW w ex, tx', ex)) (ents_wout (ents_wout (hIc.en.mv kmv rfl rfl rfl) ho hwo.1) (fun x hx => ho x (List.mem_filter.mp hx).1) hSm.dn.2) kd3
      have nR := hIc.ro.mv kmv rfl
      have nD := hIc.dk.mv kmv rfl rfl
      have nrw := kd1 _ _ hIc.hr hir
      have nK : Kp e rw Hs Hd := fun a o ha h1 h2 h3 => kd1 a o (hIc.kp a o ha h1 h2 h3) h1
      have hI5 : Inn Hs e rw d (M + 3 * rest.length) _ rv (newE es w tx' ex) es Hd := ⟨nK, nD, kd2, nrw, nE, nR⟩
      clear kd1 kd2 kd3 kmv nE nR nD nrw nK c1 c2 ftb ftx hIc
      have hlw := lower_st hwo.1
      have hll : (Txt.lower (st w)).length ≤ 1000000 := by rw [hlw, st_len]; simp; omega
      walk_at "go"
      refine cb_lower hll ?_
      rw [hlw]
      walk_at "go"
      rename_i ky hky
      have hI6 := hI5.sub ((Sub.refl _).upd hky (o := .tuple [.str (st w), .str (st (w.map dnN))]))
      have hkt : (Hd.upd ky (.tuple [.str (st w), .str (st (w.map dnN))])) ky = some (.tuple [.str (st w), .str (st (w.map dnN))]) := AH.upd_self _ _ _
      generalize Hd.upd ky (.tuple [.str (st w), .str (st (w.map dnN))]) = He at *
      refine ⟨_, _, iw_tuple hkt, ?_⟩
      show TW _ _ _ _ _ _ _ _
      have g6 := hI6.hr
      walk_at "go"
      refine kw_mB bm_dpop ?_
      walk_at "go"
      refine cb_dpop2 hI6.hr (by omega) ?_
      have hkt1 : ∀ o, (He.upd rw o) ky = some (.tuple [.str (st w), .str (st (w.map dnN))]) := fun o => upd_by hkt hI6.hr (by with_unfolding_all exact Nat.ne_of_beq_eq_false rfl)
      have hu1 := fun o => (AH.upd_self He rw o)
      walk_at "go"
      refine ⟨hkt1 _, ?_⟩
      show TW _ _ _ _ _ _ _ _
      walk_at "go"
      refine kw_mB bm_dpop ?_
      walk_at "go"
      refine cb_dpop2 (hu1 _) (Nat.le_trans (List.length_filter_le _ _) (by omega)) ?_
      rw [upd_upd]
      walk_at "go"
      refine ⟨hkt1 _, ?_⟩
      show SW _ _ _ _ _ _ _ _
      have hfin : ∀ (Hz : AH) tp, Sub (He.upd rw (.sdict 7 (wout (wout rv (st w)) (st (w.map dnN))))) Hz → Hz tp = some (.tuple [.str (st tx'), .bool ex]) → He tp = none →
          Inn Hs e rw d (M + 3 * rest.length) (wout (wout kv (keyS w)) (keyS (w.map dnN)) ++ [(keyS (ownW w ex), .ref r)]) (wout (wout rv (st w)) (st (w.map dnN)) ++ [(st (ownW w ex), .ref tp)]) (newE es w tx' ex) (newE es w tx' ex) (Hz.upd rw (.sdict 7 (wout (wout rv (st w)) (st (w.map dnN)) ++ [(st (ownW w ex), .ref tp)]))) := by
        intro Hz tp mz htp hn
        have hrz : Hz rw = some (.sdict 7 (wout (wout rv (st w)) (st (w.map dnN)))) := mz _ _ (AH.upd_self _ _ _)
        have mq : Mv (fun k => k == 73) He (Hz.upd rw (.sdict 7 (wout (wout rv (st w)) (st (w.map dnN)) ++ [(st (ownW w ex), .ref tp)]))) := fun a o ha hp => by
          have hne : a ≠ rw := fun q => by subst q; rw [hI6.hr] at ha; cases ha; cases hp
          rw [AH.upd_ne hne]
          exact mz _ _ (by rw [AH.upd_ne hne]; exact ha)
        have mw2 : Mv (fun k => k == 73) Hz (Hz.upd rw (.sdict 7 (wout (wout rv (st w)) (st (w.map dnN)) ++ [(st (ownW w ex), .ref tp)]))) := Mv.ch (Mv.refl _) hrz rfl
        refine ⟨fun a o ha h1 h2 h3 => ?_, hI6.dk.mv mq rfl rfl, mq _ _ hI6.he rfl, AH.upd_self _ _ _, hI6.en.mv mq rfl rfl rfl, ?_⟩
        · rw [AH.upd_ne h2]; exact mz _ _ (by rw [AH.upd_ne h2]; exact hI6.kp a o ha h1 h2 h3)
        · exact rows_app (en := (ownW w ex, tx', ex)) (rows_wout (rows_wout (hI6.ro.mv mq rfl))) (mw2 _ _ htp rfl)
      have hnew : OkE (newE es w tx' ex) ∧ OkT (newE es w tx' ex) ∧ (newE es w tx' ex).length + rest.length ≤ 4 := ⟨newE_okE ho hwo.1, newE_okT hot htm, by have := newE_len es w tx' ex; omega⟩
      have hkz : (wout (wout rv (st w)) (st (w.map dnN))).length ≤ 100000 := Nat.le_trans (List.length_filter_le _ _) (Nat.le_trans (List.length_filter_le _ _) (by omega))
      walk_at "go"
      rename_i tp htp
      cases ex
      · walk_at "go"
        refine cb_lower hll ?_
        rw [hlw]
        refine pw_sdict (AH.upd_old htp (AH.upd_self _ _ _)) hkz ?_
        have := sto_own st rv w false (AV.ref tp)
        simp only [ownW, Bool.false_eq_true, if_false] at this
        rw [this]
        walk_at "go"
        exact hN2 _ _ ⟨trivial, .mk _ _ _ (hfin _ tp ((Sub.refl _).upd htp) (AH.upd_self _ _ _) (upd_none htp)) hnew.1 hnew.2.1 hnew.2.2 _ _ _ _ _⟩
      · walk_at "go"
        refine pw_sdict (AH.upd_old htp (AH.upd_self _ _ _)) hkz ?_
        have := sto_own st rv w true (AV.ref tp)
        simp only [ownW, if_true] at this
        rw [this]
        walk_at "go"
        exact hN2 _ _ ⟨trivial, .mk _ _ _ (hfin _ tp ((Sub.refl _).upd htp) (AH.upd_self _ _ _) (upd_none htp)) hnew.1 hnew.2.1 hnew.2.2 _ _ _ _ _⟩
    · intro F H6 hj
      obtain ⟨kv, rv, es, hI, ho, hot, _, u7, u8, u9, u10, u11⟩ := hj
      have kkn := hI.kp _ _ hkn2 (hneq hkn2 f1 (Nat.ne_of_beq_eq_false rfl)) (hneq hkn2 f2 (Nat.ne_of_beq_eq_false rfl)) (Nat.ne_of_beq_eq_false rfl)
      walk_at "go"
      refine cb_append kkn (by omega) ?_
      walk_at "go"
      have hall : ∀ a o, H' a = some o → a ≠ e → kd o ≠ 41 → H6 a = some o := fun a o ha h1 h2 =>
        hI.kp a o (f5 _ _ ha (by simpa [pD] using h2)) h1 (hnn ha hrw) h2
      have hc : Mv (fun k => k == 51) H6 (H6.upd kn (.list 5 (kl ++ [.ref rw]))) := Mv.ch (Mv.refl _) kkn rfl
      have hall2 : ∀ a o, H' a = some o → a ≠ e → kd o ≠ 41 → kd o ≠ 51 → (H6.upd kn (.list 5 (kl ++ [.ref rw]))) a = some o := fun a o ha h1 h2 h3 => hc _ _ (hall a o ha h1 h2) (by simpa using h3)
      refine hN _ _ ⟨hall2 _ _ w3' (hneq w3' hee (Nat.ne_of_beq_eq_false rfl)) (Nat.ne_of_beq_eq_false rfl) (Nat.ne_of_beq_eq_false rfl), .mk ?_ ?_ (hrest _ rw kv rv es ?_ (hI.dk.mv hc rfl rfl) (AH.upd_self _ _ _) (hc _ _ hI.he rfl) (hI.en.mv hc rfl rfl rfl) (hc _ _ hI.hr rfl) (hI.ro.mv hc rfl) ho hot) _ _ _ _ _ _ _ _⟩
      · refine Mv.updN (fun a o ha hp => ?_) hkn'
        exact hall a o (hmD _ _ ha hp) (hnn ha he0) (by simpa [pD] using hp)
      · intro a o ha hp
        have hp2 := hp
        simp only [pU, Bool.or_eq_false_iff, beq_eq_false_iff_ne, ne_eq] at hp
        exact hall2 a o (hmU _ _ ha hp2) (fun q => by subst q; have := hmU _ _ ha hp2; rw [hee] at this; cases this; exact hp.1.1.1 rfl) hp.2 hp.1.2
      · intro a o ha h1 h2 h3
        rw [AH.upd_ne h2]; exact hall a o ha h1 h3
  · intro F H' hj
    obtain ⟨hmD, hmU, hx, u4, u5, u6, u7, u8, u9, u10, u11⟩ := hj
    rcases hx with ⟨hx, _⟩ | ⟨hx, _⟩ | ⟨_, r1, kv1, rv1, es1, r2, kv2, rv2, es2, g1, g2, g3, g4, g5, g6, g7, g8, g9, g10, g11, g12, g13, g14⟩
    · cases hx
    · cases hx
    · walk_at "go"
      rename_i t ht
      have ms : Sub H' (H'.upd t (.tuple [.ref t1, .ref kn])) := (Sub.refl _).upd ht
      refine ⟨_, Sub.refl _, h _ t t1 kn es1 es2 (hmD.fr ht) (g1.mv (P := fun _ => false) (Mv.ofSub ms) rfl rfl) ?_ ?_ g7 g13 g8 g14 (AH.upd_self _ _ _)⟩
      · exact ⟨pl1, t2, pl2, ⟨tx1, e1, kv1, ms _ _ (hmU _ _ b1 rfl), ms _ _ (hmU _ _ b2 rfl), ms _ _ g3, g4.sub ms⟩, ⟨tx2, e2, kv2, ms _ _ (hmU _ _ a1 rfl), ms _ _ (hmU _ _ a2 rfl), ms _ _ g9, g10.sub ms⟩, ms _ _ (hmU _ _ p1 rfl), ms _ _ (hmU _ _ p2 rfl)⟩
      · exact ⟨r1, r2, rv1, rv2, ms _ _ g2, ms _ _ g5, g6.sub ms, ms _ _ g11, g12.sub ms⟩
end

section
variable {S : Sta} {E : ES} {n : Nat} {F F' : List (Option AV)} {H H' : AH} {Q : AV → AH → Prop} {QN : List (Option AV) → AH → Prop} {QX : AFl → List (Option AV) → AH → Prop}
structure LawS (H : AH) (d sy b tb kn : Addr) (m : Nat) (es1 es2 : List En) (T : List Nat) (pt : Int) : Prop where
  dk : DeckS H d m
  sn : SynT H sy
  bf : BufS H b T pt ((T.length : Nat) + 1)
  tb : Tabs H tb es1 es2
  kn : KnownS H kn es1 es2
theorem SynT.mv {P : Nat → Bool} {a : Addr} (h : SynT H a) (m : Mv P H H') (h1 : P 5 = false) (h2 : P 66 = false) (h3 : P 64 = false) (h4 : P 56 = false) : SynT H' a := by
  obtain ⟨dx, r, sy, sx, kvs, fl, ⟨a1, a2, a3, a4, a5, a6⟩⟩ := h
  exact ⟨dx, r, sy, sx, kvs, fl, ⟨m _ _ a1 h1, m _ _ a2 h2, m _ _ a3 h3, a4, m _ _ a5 h1, m _ _ a6 h4⟩⟩
theorem BufS.mv {P : Nat → Bool} {b : Addr} {T : List Nat} {pt zv : Int} (h : BufS H b T pt zv) (m : Mv P H H') (h1 : P 5 = false) (h2 : P 16 = false) (h3 : P 116 = false) (h4 : P 11 = false) (h5 : P 76 = false) (h6 : P 74 = false) (h7 : P 1 = false) : BufS H' b T pt zv := by
  obtain ⟨dx, g, gx, cl, mk, mx, mr, ls, nu, na, ma, li, ct, sv, ti, A, G, B, ⟨b1, b2, b3, b4, b5, b6, b7, b8, b9, sz⟩, e⟩ := h
  exact ⟨dx, g, gx, cl, mk, mx, mr, ls, nu, na, ma, li, ct, sv, ti, A, G, B, ⟨m _ _ b1 h1, m _ _ b2 h2, m _ _ b3 h1, m _ _ b4 h3, m _ _ b5 h4, m _ _ b6 h1, m _ _ b7 h5, m _ _ b8 h6, m _ _ b9 h7, sz⟩, e⟩
theorem TabR.mv {P : Nat → Bool} {tb pl : Addr} {nm : Str} {es : List En} (h : TabR H tb nm pl es) (m : Mv P H H') (h1 : P 5 = false) (h2 : P 46 = false) (h3 : P 23 = false) (h4 : P 36 = false) (h5 : P 1 = false) : TabR H' tb nm pl es := by
  obtain ⟨tx, e, kvs, a1, a2, a3, a4⟩ := h
  exact ⟨tx, e, kvs, m _ _ a1 h1, m _ _ a2 h2, m _ _ a3 h3, a4.mv m h1 h4 h5⟩
theorem Tabs.mv {P : Nat → Bool} {tb : Addr} {es1 es2 : List En} (h : Tabs H tb es1 es2) (m : Mv P H H') (h1 : P 5 = false) (h2 : P 46 = false) (h3 : P 23 = false) (h4 : P 36 = false) (h5 : P 1 = false) : Tabs H' tb es1 es2 := by
  obtain ⟨pl1, t2, pl2, hT1, hT2, hp1, hp2⟩ := h
  exact ⟨pl1, t2, pl2, hT1.mv m h1 h2 h3 h4 h5, hT2.mv m h1 h2 h3 h4 h5, m _ _ hp1 h5, m _ _ hp2 h5⟩
variable {d sy b tb kn : Addr} {m : Nat} {es1 es2 : List En} {T : List Nat} {pt : Int}
theorem LawS.sub (h : LawS H d sy b tb kn m es1 es2 T pt) (s : Sub H H') : LawS H' d sy b tb kn m es1 es2 T pt :=
  ⟨h.dk.mv (P := fun _ => false) (Mv.ofSub s) rfl rfl, h.sn.sub s, h.bf.sub s, h.tb.mv (P := fun _ => false) (Mv.ofSub s) rfl rfl rfl rfl rfl, h.kn.sub s⟩
theorem LawS.draw {m' : Nat} (h : LawS H d sy b tb kn m es1 es2 T pt) (s : Mv pD H H') (k : DeckS H' d m') : LawS H' d sy b tb kn m' es1 es2 T pt :=
  ⟨k, h.sn.mv s rfl rfl rfl rfl, h.bf.mv s rfl rfl rfl rfl rfl rfl rfl, h.tb.mv s rfl rfl rfl rfl rfl, h.kn.mv s rfl rfl rfl⟩
theorem LawS.rl {T' : List Nat} {pt' : Int} (h : LawS H d sy b tb kn m es1 es2 T pt) (s : Rl H H') (k : BufS H' b T' pt' ((T'.length : Nat) + 1)) : LawS H' d sy b tb kn m es1 es2 T' pt' :=
  ⟨h.dk.mv s.1 rfl rfl, s.syn h.sn, k, s.tabs h.tb, h.kn.mv s.1 rfl rfl rfl⟩
end

section
variable {S : Sta} {E : ES} {n : Nat} {F F' : List (Option AV)} {H H' : AH} {Q : AV → AH → Prop} {QN : List (Option AV) → AH → Prop} {QX : AFl → List (Option AV) → AH → Prop}
variable {d sy b tb kn : Addr} {m : Nat} {es1 es2 : List En} {T : List Nat} {pt : Int}
noncomputable def lb : List Stmt := match tp 86 with | .FunctionDef _ _ body _ _ _ _ _ _ _ => body | _ => []
noncomputable def lsc : Scope := match tp 86 with | .FunctionDef _ _ _ _ _ _ scope _ _ _ => scope | _ => default
noncomputable def fAbs : AV → Option AV
  | .int i => some (.int (i.natAbs : Int))
  | _ => none
theorem fm_abs (L : List Int) : (L.map AV.int).filterMap fAbs = (L.map fun i => (i.natAbs : Int)).map AV.int := by
  induction L with
  | nil => rfl
  | cons i L ih => simp only [List.map_cons, List.filterMap_cons, fAbs] at ih ⊢; rw [ih]
theorem ew_tupleC {elts : List Expr} {k : Nat} {pos : Pos} (h : EWs S E n elts (fun vs H => vs.length ≤ 1000 ∧ ∀ a, H a = none → Q (.ref a) (H.upd a (.tuple vs))) F H) : EW S E n (.Tuple elts k pos) Q F H := kw_tuple h
theorem cmp_ind {x : Str} {elt : Expr} {K : AH → Prop} {R : List AV → AH → Prop} (Fr : Option AV → List (Option AV)) (hput : ∀ u v, NPut x v E.sc.names (Fr u) (Fr (some v))) (J : List AV → List AV → AH → Prop)
    (step : ∀ v rest acc H, J (v :: rest) acc H → EW S E n elt (fun y H => K H ∧ J rest (acc ++ [y]) H) (Fr (some v)) H) (fin : ∀ acc H, J [] acc H → R acc H) : ∀ (xs acc : List AV) (u : Option AV) (H : AH), J xs acc H → CmpW S E n x elt [] K R xs acc (Fr u) H
  | [], acc, u, H, j => fin acc H j
  | v :: rest, acc, u, H, j => by
    refine ⟨_, hput u v, ?_⟩
    show IfsW S E n [] _ _ H
    refine ifs0 (P := fun H => EW S E n elt (fun y H => K H ∧ CmpW S E n x elt [] K R rest (acc ++ [y]) (Fr (some v)) H) (Fr (some v)) H) (R := fun H => K H ∧ CmpW S E n x elt [] K R rest acc (Fr (some v)) H) ?_
    exact (step v rest acc H j).mono fun y H ⟨k, q⟩ => ⟨k, cmp_ind Fr hput J step fin rest _ _ H q⟩
theorem ew_comp2 {elt iter : Expr} {x : Str} {px : Pos} {scope : Scope} {pos : Pos} (cl : List (Str × Addr)) (N : List (Str × NameKind)) (hN : relNames E scope.names = N) (Fr : Option AV → List (Option AV)) (hF0 : Fr none = List.replicate scope.names.length none)
    (hput : ∀ u v, NPut x v N (Fr u) (Fr (some v))) (J : List AV → List AV → AH → Prop)
    (hclos : ∀ env, EnvOk E env.locals env → closureFor scope env = pure cl)
    (hcell : (scope.names.all fun y => y.2 != .cell) = true) (hok : scOk { scope with names := N } = true) (hx : scope.names.lookup x = some .local) (hok' : scOk scope = true)
    (h : EW S E n iter (fun v H => ∃ xs K, xs.length ≤ 100000 ∧ IW S v xs K H ∧ J xs [] H ∧ (∀ v rest acc H, J (v :: rest) acc H → EW S ⟨{ scope with names := N }, cl⟩ n elt (fun y H => K H ∧ J rest (acc ++ [y]) H) (Fr (some v)) H) ∧
      ∀ acc H, J [] acc H → ∀ d, H d = none → Q (.ref d) (H.upd d (.list 0 acc))) F H)
    (hs : ∀ env v, foldedSetIterable iter env v = pure v := by intro _ _; rfl) :
    EW S E n (.ListComp elt [⟨.Name x px, iter, [], 0⟩] scope pos) Q F H := by
  subst hN
  refine ew_comp cl hclos hcell hok hx hok' (h.mono fun v H ⟨xs, K, h1, h2, h3, h4, h5⟩ => ⟨xs, K, h1, h2, ?_⟩) hs
  rw [← hF0]
  exact cmp_ind Fr (E := compES E scope cl) hput J h4 (fun acc H j => h5 acc H j) xs [] none H h3
theorem cw_law_draw' {d : Addr} {x : Int} {many m : Nat} (e : x = (many : Nat)) (hm : 0 < many) (hD : DeckS H d (m + 1)) (h : ∀ H' (v : Nat), v < many → Mv pD H H' → DeckS H' d m → Q (.int (v : Nat)) H') : CW S (.ref 836) (n + 1) [.ref d, .int x] Q H := by
  subst e; exact cw_law_draw hm hD h
noncomputable def seps : List (List Nat) := [[], [32], [46, 32], [10]]
theorem seps_ok : ∀ s ∈ seps, (∀ c ∈ s, c < 128) ∧ s.length ≤ 2 := by decide
theorem sep_at {v : Nat} (h : v < 4) : ∃ w ∈ seps, ([.str (Str.ofString ""), .str (Str.ofString " "), .str (Str.ofString ". "), .str (Str.ofString "\n")] : List AV)[v]? = some (.str (st w)) := by
  match v, h with
  | 0, _ => exact ⟨[], by decide, congrArg (fun x => some (AV.str x)) (by decide +kernel)⟩
  | 1, _ => exact ⟨[32], by decide, congrArg (fun x => some (AV.str x)) (by decide +kernel)⟩
  | 2, _ => exact ⟨[46, 32], by decide, congrArg (fun x => some (AV.str x)) (by decide +kernel)⟩
  | 3, _ => exact ⟨[10], by decide, congrArg (fun x => some (AV.str x)) (by decide +kernel)⟩
theorem end_at {v : Nat} (h : v < 2) : ∃ w : List Nat, ((∀ c ∈ w, c < 128) ∧ w.length ≤ 2) ∧ ([.str (Str.ofString ""), .str (Str.ofString " .")] : List AV)[v]? = some (.str (st w)) := by
  match v, h with
  | 0, _ => exact ⟨[], by decide, congrArg (fun x => some (AV.str x)) (by decide +kernel)⟩
  | 1, _ => exact ⟨[32, 46], by decide, congrArg (fun x => some (AV.str x)) (by decide +kernel)⟩
theorem abAB_st : Str.ofString "abAB" = st [97, 98, 65, 66] := by decide +kernel
theorem abAB_at {v : Nat} (h : v < 4) : ∃ k, k < 128 ∧ (Str.ofString "abAB").cps[v]? = some k := by
  rw [abAB_st]
  match v, h with
  | 0, _ => exact ⟨97, by decide, rfl⟩
  | 1, _ => exact ⟨98, by decide, rfl⟩
  | 2, _ => exact ⟨65, by decide, rfl⟩
  | 3, _ => exact ⟨66, by decide, rfl⟩
theorem law_lit {cl : List (Str × Addr)} {name params body decs rt tps scope tsc bind pos} (hst : tp 86 = .FunctionDef name params body decs rt tps scope tsc bind pos) (h : SW S ⟨scope, cl⟩ n body QN QX F H) : SW S ⟨lsc, cl⟩ n lb QN QX F H := by
  unfold lsc lb; rw [hst]; exact h
end

section
variable {S : Sta} {E : ES} {n : Nat} {F F' : List (Option AV)} {H H' : AH} {Q : AV → AH → Prop} {QN : List (Option AV) → AH → Prop} {QX : AFl → List (Option AV) → AH → Prop}
variable {d sy b tb kn : Addr} {m : Nat} {es1 es2 : List En} {T : List Nat} {pt : Int}
theorem law_end {c sl : Addr} {u7 u8 u9 u10 u11 u12 : Option AV} (hlk : ([(("deck" : Str), c)] : List (Str × Addr)).lookup ("deck" : Str) = some c) (LS : LawS H d sy b tb kn (m + 2) es1 es2 T pt) (hcc : H c = some (.cell (.ref d))) (hT1 : T.length ≤ 27) (hT2 : ∀ k ∈ T, k < 128) (o1 : OkE es1) (o2 : OkE es2) (o3 : OkT es1) (o4 : OkT es2) :
    SW S ⟨lsc, [("deck", c)]⟩ (n + 20) (lb.drop 15) (fun _ _ => False) (fun fl _ _ => fl = .ret (.bool true)) [some (.ref sl), none, some (.ref sy), some (.ref b), some (.ref tb), some (.ref kn), some (.str (st T)), u7, u8, u9, u10, u11, u12, none, none, none, none, none, none, none, none, none, none, none, none, none, none, none, none, none, none] H := by
  show SW S ⟨⟨_, _, _, _, _⟩, [("deck", c)]⟩ (n + 20) (_ :: _) _ _ _ _
  walk_at "go"
  have hlen : (st T).length < 2 ^ 60 := by rw [st_len]; omega
  refine ew_cell (by walk_at "na") hlk hcc (by simp) ?_
  walk_at "go"
  refine cb_len_str hlen ?_
  rw [st_len]
  walk_at "go"
  refine cw_law_draw' (many := T.length + 1) (m := m + 1) (by omega) (by omega) LS.dk fun H1 v1 hv1 m1 hD1 => ?_
  have LS1 := LS.draw m1 hD1
  have hcc1 := m1 _ _ hcc rfl
  walk_at "go"
  refine ew_cell (by walk_at "na") hlk hcc1 (by simp) ?_
  walk_at "go"
  refine cb_len_str hlen ?_
  rw [st_len]
  walk_at "go"
  refine cw_law_draw' (many := T.length + 1) (m := m) (by omega) (by omega) LS1.dk fun H2 v2 hv2 m2 hD2 => ?_
  have LS2 := LS1.draw m2 hD2
  have hcc2 := m2 _ _ hcc1 rfl
  walk_at "go"
  rename_i ll hll
  refine cb_sorted2 (AH.upd_self _ _ _) fun rr hrr => ?_
  refine ex_ul (AH.upd_self _ _ _) rfl ?_
  rw [show (min (v1 : Int) (v2 : Int)) = ((min v1 v2 : Nat) : Int) by omega, show (max (v1 : Int) (v2 : Int)) = ((max v1 v2 : Nat) : Int) by omega]
  walk_at "mw"
  walk_at "mw"
  walk_at "mw"
  walk_at "mw"
  walk_at "mw"
  refine SW.forget (H := H2) ?_ (by walk_at "sub")
  clear LS LS1 hcc hcc1 m1 m2 hD1 hD2
  walk_at "go"
  refine cw_law_all_put rfl LS2.kn o3 o4 hT2 (by omega) (i := min v1 v2) (e := max v1 v2) (by omega) (by omega) fun H3 t Tf mf m3 hR hTf hTl ht => ?_
  have LS3 := LS2.sub m3
  walk_at "go"
  refine cw_expand_region LS3.bf LS3.sn hT2 (i := min v1 v2) (e := max v1 v2) rfl rfl (by omega) (by omega) (by omega) LS3.tb o1 o2 o3.toN o4.toN hR fun H4 pt4 r4 hB4 => ?_
  walk_at "go"
  refine if_t (by simp) ?_
  walk_at "go"
  refine cw_law_held hB4 hTf hTl ?_
  walk_at "go"
  rfl
end

section
variable {S : Sta} {E : ES} {n : Nat} {F F' : List (Option AV)} {H H' : AH} {Q : AV → AH → Prop} {QN : List (Option AV) → AH → Prop} {QX : AFl → List (Option AV) → AH → Prop}
variable {d sy b tb kn : Addr} {m : Nat} {es1 es2 : List En} {T : List Nat} {pt : Int}
theorem law_mid {c sl : Addr} {p : Nat} {u7 : Option AV} (hlk : ([(("deck" : Str), c)] : List (Str × Addr)).lookup ("deck" : Str) = some c) (LS : LawS H d sy b tb kn (m + 2) es1 es2 T ((p : Nat) + 1)) (hcc : H c = some (.cell (.ref d))) (hT1 : T.length ≤ 27) (hT2 : ∀ k ∈ T, k < 128) (hp : p ≤ T.length) (o1 : OkE es1) (o2 : OkE es2) (o3 : OkT es1) (o4 : OkT es2) :
    SW S ⟨lsc, [("deck", c)]⟩ (n + 20) (lb.drop 9) (fun _ _ => False) (fun fl _ _ => fl = .ret (.bool true)) [some (.ref sl), none, some (.ref sy), some (.ref b), some (.ref tb), some (.ref kn), some (.str (st T)), u7, some (.int (p : Nat)), none, none, none, none, none, none, none, none, none, none, none, none, none, none, none, none, none, none, none, none, none, none] H := by
  show SW S ⟨⟨_, _, _, _, _⟩, [("deck", c)]⟩ (n + 20) (_ :: _) _ _ _ _
  walk_at "go"
  cases hd : dueE es1 es2 T p with
  | none =>
    refine cw_law_put rfl LS.kn o3 o4 hT2 (by omega) hp (fun _ t ht => ?_) (fun _ _ _ _ _ _ q => by rw [hd] at q; cases q)
    walk_at "mw"
    walk_at "mw"
    walk_at "mw"
    walk_at "mw"
    walk_at "mw"
    walk_at "mw"
    walk_at "mw"
    walk_at "mw"
    refine SW.forget (H := H) ?_ (by walk_at "sub")
    walk_at "go"
    refine cw_expand_abbrev LS.bf LS.sn hT2 hp (by omega) LS.tb o1 o2 o3.toN o4.toN (fun _ H1 r1 hB1 => ?_) (fun _ _ _ _ _ _ q => by rw [hd] at q; cases q)
    have LS1 := LS.rl r1 hB1
    have hcc1 := r1.1 _ _ hcc rfl
    have hBq := hB1
    obtain ⟨dx', g', gx', cl', mk', mx', mr', ls', nu', na', ma', li', ct', sv', ti', A', G', B', ⟨b1, b2, b3, b4, b5, b6, b7, b8, b9, sz⟩, eAB, pls⟩ := hBq
    walk_at "go"
    refine ow_nenn ?_
    walk_at "go"
    refine cw_law_held hB1 hT2 (by omega) ?_
    walk_at "go"
    rename_i l1 hl1 l2 hl2
    refine ow_nel (AH.upd_old hl2 (AH.upd_self _ _ _)) (AH.upd_self _ _ _) (by simp [AV.flat]) ?_
    walk_at "mw"
    walk_at "mw"
    walk_at "mw"
    refine SW.forget (H := H1) ?_ (by walk_at "sub")
    walk_at "go"
    refine cw_law_held hB1 hT2 (by omega) ?_
    walk_at "go"
    refine if_f (by simp) ?_
    walk_at "mw"
    exact law_end hlk LS1 hcc1 hT1 hT2 o1 o2 o3 o4
  | some dd =>
    refine cw_law_put rfl LS.kn o3 o4 hT2 (by omega) hp (fun q => by rw [hd] at q; cases q) (fun H1 t a wl cl d' q hlw h4 hne hlt m1 g1 g2 g3 g4 => ?_)
    rw [hd] at q; cases q
    obtain ⟨_, hds, hde⟩ := lawW_some hp hlw
    have hpl := putT_len T dd (by omega) (by omega)
    have hplt := putT_lt hT2 hlt
    have LS1 := LS.sub m1
    have hcc1 := m1 _ _ hcc
    walk_at "go"
    refine cw_expand_abbrev LS1.bf LS1.sn hT2 hp (by omega) LS1.tb o1 o2 o3.toN o4.toN (fun q => by rw [hd] at q; cases q) (fun H2 v ex wl2 cl2 d' q r2 hB2 x1 x2 x3 x4 => ?_)
    rw [hd] at q; cases q
    have LS2 := LS1.rl r2 hB2
    have hcc2 := r2.1 _ _ hcc1 rfl
    have g2' := r2.1 _ _ g2 rfl
    have g3' := r2.lst g3
    have g4' := r2.lst g4
    have hBq := hB2
    obtain ⟨dx', g', gx', cl', mk', mx', mr', ls', nu', na', ma', li', ct', sv', ti', A', G', B', ⟨b1, b2, b3, b4, b5, b6, b7, b8, b9, sz⟩, eAB, pls⟩ := hBq
    walk_at "go"
    rename_i tq htq
    refine ow_net (AH.upd_self _ _ _) (AH.upd_old htq g2') (AH.upd_old htq x3) (AH.upd_old htq g3') (AH.upd_old htq x4) (AH.upd_old htq g4') (by simp [ic, AV.flat]) (by simp [ic, AV.flat]) ?_
    walk_at "mw"
    walk_at "mw"
    walk_at "mw"
    refine SW.forget (H := H2) ?_ (by walk_at "sub")
    walk_at "go"
    refine cw_law_held hB2 hplt (by omega) ?_
    walk_at "go"
    rename_i l1 hl1 l2 hl2
    refine ow_nel (AH.upd_old hl2 (AH.upd_self _ _ _)) (AH.upd_self _ _ _) (by simp [AV.flat]) ?_
    walk_at "mw"
    walk_at "mw"
    walk_at "mw"
    refine SW.forget (H := H2) ?_ (by walk_at "sub")
    walk_at "go"
    refine cw_unexpand_abbrev hB2 LS2.tb o1 o2 hds (by omega) hne h4 (by omega) hT2 x1 x2 x3 x4 fun H3 r3 hB3 => ?_
    have LS3 := LS2.rl r3 hB3
    have hcc3 := r3.1 _ _ hcc2 rfl
    have y1 := r3.1 _ _ x1 rfl
    have y2 := r3.1 _ _ x2 rfl
    have y3 := r3.lst x3
    clear b1 b2 b3 b4 b5 b6 b7 b8 b9 sz eAB pls
    have hBq := hB3
    obtain ⟨dx', g', gx', cl', mk', mx', mr', ls', nu', na', ma', li', ct', sv', ti', A', G', B', ⟨b1, b2, b3, b4, b5, b6, b7, b8, b9, sz⟩, eAB, pls⟩ := hBq
    have hcl := cutN_len dd.1 dd.2.1 T (by omega)
    walk_at "go"
    refine cb_len_list y3 (by rw [ic_len]; omega) ?_
    rw [ic_len, hcl]
    walk_at "go"
    refine if_f (by simp; omega) ?_
    walk_at "go"
    refine cw_law_held hB3 hT2 (by omega) ?_
    walk_at "go"
    refine if_f (by simp) ?_
    walk_at "mw"
    exact law_end hlk LS3 hcc3 hT1 hT2 o1 o2 o3 o4
end

section
variable {S : Sta} {E : ES} {n : Nat} {F F' : List (Option AV)} {H H' : AH} {Q : AV → AH → Prop} {QN : List (Option AV) → AH → Prop} {QX : AFl → List (Option AV) → AH → Prop}
variable {d sy b tb kn : Addr} {m : Nat} {es1 es2 : List En} {T : List Nat} {pt : Int}
theorem gw_cut0 {l b : Addr} {xs : List AV} {lo hi : AV} (hb : H b = some (.slc lo hi .none)) (hl : ∃ o vs m, S.h₀.get? l = some o ∧ o.cls = .type "list" ∧ o.data = .seq vs m ∧ vs.toList.map ab = xs) (h1 : nn lo) (h2 : nn hi) (hsz : xs.length ≤ 100000) (h : ∀ a, H a = none → Q (.ref a) (H.upd a (.list 0 (cut lo hi xs)))) :
    GW S n (.ref l) (.ref b) Q H := fun A L ns G stk s u v rm hu hv st => by
  rw [ab_ref hu, ab_ref hv]
  obtain ⟨o, vs, m, e1, e2, e4, e5⟩ := hl
  replace e1 := st.keep _ _ e1
  obtain ⟨os, vl, vu, vk, f1, f2, f3, f4, f5, f6⟩ := slc_at st hb
  obtain ⟨p, p1, p2⟩ := part_of f4 h1
  obtain ⟨q, q1, q2⟩ := part_of f5 h2
  rw [ab_none f6] at f3
  have sz : vs.size = xs.length := by rw [← e5, List.length_map, Array.length_toList]
  refine ⟨⟨"list", _, list_getitem_lookup, o, e1, e2⟩, wpAny_getItem_list_slice ⟨o, e1, e2, m, e4⟩ ⟨os, f1, f2, f3⟩ p1 q1 .none (by simp) ?_ (by rw [sz]; exact Nat.le_trans hsz (by decide))⟩
  exact ⟨_, st.push (o := .list 0 (cut lo hi xs)) (ob := { cls := .type "list", data := .seq (slicePick vs p q none) }) ⟨_, _, rfl, by rw [pick_cut p2 q2, cut_map, e5]⟩ rfl, h _ (st.fresh_H (size_none _))⟩
inductive J34 (dd sy b tb kn c sl : Addr) (es1 es2 : List En) (xs : List AV) (F : List (Option AV)) (H' : AH) : Prop
  | mk (T : List Nat) (u : Option AV) (hcc : H' c = some (.cell (.ref dd))) (LS : LawS H' dd sy b tb kn (8000 + 10 * xs.length) es1 es2 [] 1) (hTl : T.length + 5 * xs.length ≤ 25) (hTc : ∀ k ∈ T, k < 128)
    (hF : F = [some (.ref sl), none, some (.ref sy), some (.ref b), some (.ref tb), some (.ref kn), some (.str (st T)), u, none, none, none, none, none, none, none, none, none, none, none, none, none, none, none, none, none, none, none, none, none, none, none])
inductive C34 (dd sy b tb kn c : Addr) (es1 es2 : List En) (m : Nat) (xs acc : List AV) (H' : AH) : Prop
  | mk (W : List Nat) (hcc : H' c = some (.cell (.ref dd))) (LS : LawS H' dd sy b tb kn (m + xs.length) es1 es2 [] 1) (ha : acc = W.map (fun k => AV.str ⟨#[k]⟩)) (hWl : W.length + xs.length ≤ 3) (hWc : ∀ k ∈ W, k < 128)
theorem law_sw {c sl : Addr} {L : List Int} (hL : L.length ≤ 63) (hsl : ∃ o vs m, S.h₀.get? sl = some o ∧ o.cls = .type "list" ∧ o.data = .seq vs m ∧ vs.toList.map ab = L.map AV.int) (hc : H c = some (.cell (.other .none))) :
    SW S ⟨lsc, [("deck", c)]⟩ (n + 20) lb (fun _ _ => False) (fun fl _ _ => fl = .ret (.bool true)) [some (.ref sl), none, none, none, none, none, none, none, none, none, none, none, none, none, none, none, none, none, none, none, none, none, none, none, none, none, none, none, none, none, none] H := by
  refine law_lit rfl ?_
  have hlk : ([(("deck" : Str), c)] : List (Str × Addr)).lookup ("deck" : Str) = some c := by simp
  walk_at "mw"
  refine kw_unpack ?_ rfl rfl (by intro env ev; have e := ev.sc; cases env; simp only at e; subst e; rfl)
  walk_at "mw"
  walk_at "mw"
  refine kw_listT 4 ?_
  walk_at "mw"
  refine ew_comp1 [] [(".0", .local), ("cell", .local), ("abs", .globalImplicit)] (by kernel_rfl) (fun u => [none, u, none]) rfl (fun _ _ => .there .here) fAbs (by intro _ _; rfl) (by kernel_rfl) (by kernel_rfl) (by kernel_rfl) (by kernel_rfl) ?_
  walk_at "go"
  rename_i s1 hs1
  refine gw_cut0 (AH.upd_self _ _ _) hsl (by simp [nn]) (by simp [nn]) (by simp; omega) fun s2 hs2 => ?_
  have ecut : cut .none (.int 48) (L.map AV.int) = (L.take 48).map AV.int := by rw [cut_eq]; simp [loN, hiN, List.map_take]
  rw [ecut] at *
  refine ⟨_, _, ?_, iw_list (AH.upd_self _ _ _), ?_, fun dc hdc => ?_⟩
  · simp; omega
  · intro v hv
    obtain ⟨i, hi, rfl⟩ := List.mem_map.mp hv
    refine ifs0 ?_
    walk_at "go"
    refine cb_abs ?_
    exact ⟨rfl, rfl⟩
  rw [fm_abs]
  walk_at "go"
  rename_i dd hdd
  have m0 : Sub H ((((H.upd s1 (.slc .none (.int 48) .none)).upd s2 (.list 0 ((L.take 48).map AV.int))).upd dc (.list 0 (((L.take 48).map fun i => (i.natAbs : Int)).map AV.int))).upd dd (.list 4 [.ref dc, .int 0])) := by walk_at "sub"
  have D0 : DeckS ((((H.upd s1 (.slc .none (.int 48) .none)).upd s2 (.list 0 ((L.take 48).map AV.int))).upd dc (.list 0 (((L.take 48).map fun i => (i.natAbs : Int)).map AV.int))).upd dd (.list 4 [.ref dc, .int 0])) dd 9000 :=
    ⟨dc, 0, (L.take 48).map fun i => (i.natAbs : Int), AH.upd_self _ _ _, by walk_at "hk", by simp; omega, by omega, by omega⟩
  generalize ((((H.upd s1 (.slc .none (.int 48) .none)).upd s2 (.list 0 ((L.take 48).map AV.int))).upd dc (.list 0 (((L.take 48).map fun i => (i.natAbs : Int)).map AV.int))).upd dd (.list 4 [.ref dc, .int 0])) = Ha at *
  have hca := m0 _ _ hc
  refine cw_SyntaxTable fun H1 sy dxs r m1 a1 a2 a3 => ?_
  walk_at "go"
  refine cw_Buffer fun H2 b dx g gx cl mk mx mr ls m2 b1 b2 b3 b4 b5 b6 b7 b8 b9 => ?_
  have m12 := m1.trans m2
  have hc2 := m12 _ _ hca
  have D2 : DeckS H2 dd 9000 := D0.mv (P := fun _ => false) (Mv.ofSub m12) rfl rfl
  have B2 : BufS H2 b [] 1 ((([] : List Nat).length : Nat) + 1) := ⟨dx, g, gx, cl, mk, mx, mr, ls, _, _, _, _, _, _, _, [], List.replicate 8 (.int 0), [], ⟨b1, b2, b3, b4, by rw [b5]; rfl, b6, b7, b8, b9, by simp⟩, rfl, rfl, rfl, rfl, rfl⟩
  replace a1 := m2 _ _ a1
  replace a2 := m2 _ _ a2
  replace a3 := m2 _ _ a3
  walk_at "go"
  rename_i t ht
  refine tw_cell (v₀ := .other .none) (by walk_at "na") hlk (by walk_at "hk") ?_
  walk_at "mw"
  walk_at "mw"
  walk_at "mw"
  walk_at "mw"
  walk_at "mw"
  have mc : Mv (fun k => k == 7) H2 (H2.upd c (.cell (.ref dd))) := Mv.ch (Mv.refl _) hc2 rfl
  refine SW.forget (H := H2.upd c (.cell (.ref dd))) ?_ (((Sub.refl _).upd ht).both)
  have hcc : (H2.upd c (.cell (.ref dd))) c = some (.cell (.ref dd)) := AH.upd_self _ _ _
  replace D2 := D2.mv mc rfl rfl
  replace B2 := B2.mv mc rfl rfl rfl rfl rfl rfl rfl
  replace a1 := mc _ _ a1 rfl
  replace a2 := mc _ _ a2 rfl
  replace a3 := mc _ _ a3 rfl
  generalize H2.upd c (.cell (.ref dd)) = H3 at *
  walk_at "go"
  refine cw_modify_all wcs_st a1 a2 a3 fun H4 k4 sy4 => ?_
  have m4 : Mv (fun k => k == 64) H3 H4 := fun a o ha hp => k4 a o ha fun q => by subst q; rw [a3] at ha; cases ha; cases hp
  replace hcc := m4 _ _ hcc rfl
  replace D2 := D2.mv m4 rfl rfl
  replace B2 := B2.mv m4 rfl rfl rfl rfl rfl rfl rfl
  clear a1 a2 a3 b1 b2 b3 b4 b5 b6 b7 b8 b9 mc k4 m4 m12 m1 m2 hc2 hca m0 D0 hc hsl
  walk_at "go"
  refine ew_cell (by walk_at "na") hlk hcc (by simp) ?_
  walk_at "go"
  refine cw_law_tables (m := 8900) (D2.le (by omega)) fun H5 t5 tb kn es1 es2 m5 D5 T5 K5 o1 o2 o3 o4 g5 => ?_
  replace hcc := m5 _ _ hcc rfl
  have LS : LawS H5 dd sy b tb kn 8900 es1 es2 [] 1 := ⟨D5, sy4.mv m5 rfl rfl rfl rfl, B2.mv m5 rfl rfl rfl rfl rfl rfl rfl, T5, K5⟩
  clear D5 T5 K5 D2 B2 sy4 m5
  walk_at "go"
  refine ew_cell (by walk_at "na") hlk hcc (by simp) ?_
  walk_at "go"
  refine cw_law_draw (many := 5) (m := 8899) (by omega) LS.dk fun H6 v hv m6 hD6 => ?_
  replace hcc := m6 _ _ hcc rfl
  replace LS := LS.draw m6 hD6
  walk_at "go"
  rw [show ((1 : Int) + (v : Nat)) = ((1 + v : Nat) : Int) by omega]
  refine cb_range (by omega) fun r6 hr6 => ?_
  have LS := LS.sub ((Sub.refl _).upd hr6 (o := .rng (1 + v)))
  replace hcc := AH.upd_old (o := .rng (1 + v)) hr6 hcc
  have f6 : (H6.upd r6 (.rng (1 + v))) r6 = some (.rng (1 + v)) := AH.upd_self _ _ _
  generalize H6.upd r6 (.rng (1 + v)) = H7 at *
  refine ⟨_, _, iw_rng f6, jfor (fun xs F H' => J34 dd sy b tb kn c sl es1 es2 xs F H') ?_ ?_ _ _ _
    (.mk [] none hcc ⟨LS.dk.le (by simp [upto]; omega), LS.sn, LS.bf, LS.tb, LS.kn⟩ (by simp [upto]; omega) (fun _ h => by cases h) (by rw [e_st]))⟩
  · intro vv rest QL QXL hN _ F H' hj
    refine gG fun GG kG => ?_
    obtain ⟨T, u, hcc, LS, hTl, hTc, rfl⟩ := hj
    refine kG ?_
    clear kG GG
    simp only [List.length_cons] at LS hTl
    walk_at "go"
    rename_i lw hlw
    refine ew_cell (by walk_at "na") hlk (AH.upd_old hlw hcc) (by simp) ?_
    walk_at "go"
    refine cw_law_draw (many := 4) (m := 8000 + 10 * rest.length + 9) (by omega) ((LS.sub ((Sub.refl _).upd hlw)).dk) fun H8 v8 hv8 m8 hD8 => ?_
    have LS8 := (LS.sub ((Sub.refl _).upd hlw)).draw m8 hD8
    have hcc8 := m8 _ _ (AH.upd_old hlw hcc) rfl
    refine gG fun GG kG => ?_
    obtain ⟨s, hsm, hse⟩ := sep_at hv8
    refine kG ?_
    clear kG GG
    have hso := seps_ok s hsm
    refine gw_list (m8 _ _ (AH.upd_self _ _ _) rfl) (by omega) (by omega) (x := .str (st s)) (by rw [Int.toNat_natCast]; exact hse) ?_
    refine ow_adds (by rw [st_len, st_len]; omega) ?_
    rw [st_app]
    walk_at "go"
    refine ew_comp2 [("deck", c)] [(".0", .local), ("letter", .local), ("_law_draw", .globalImplicit), ("deck", .cell)] (by rfl) (fun u => [none, u, none, none]) rfl (fun _ _ => .there .here)
      (fun xs acc H' => C34 dd sy b tb kn c es1 es2 (8000 + 10 * rest.length) xs acc H')
      (by intro env ev; have e := ev.cl; cases env; simp only at e; subst e; rfl) (by kernel_rfl) (by kernel_rfl) (by kernel_rfl) (by kernel_rfl) ?_
    walk_at "go"
    refine ew_cell (by walk_at "na") hlk hcc8 (by simp) ?_
    walk_at "go"
    refine cw_law_draw (many := 3) (m := 8000 + 10 * rest.length + 8) (by omega) hD8 fun H9 v9 hv9 m9 hD9 => ?_
    have LS9 := LS8.draw m9 hD9
    have hcc9 := m9 _ _ hcc8 rfl
    walk_at "go"
    rw [show ((1 : Int) + (v9 : Nat)) = ((1 + v9 : Nat) : Int) by omega]
    refine cb_range (by omega) fun r9 hr9 => ?_
    have LS10 := LS9.sub ((Sub.refl _).upd hr9 (o := .rng (1 + v9)))
    have hcc10 := AH.upd_old (o := .rng (1 + v9)) hr9 hcc9
    have f9 : (H9.upd r9 (.rng (1 + v9))) r9 = some (.rng (1 + v9)) := AH.upd_self _ _ _
    generalize H9.upd r9 (.rng (1 + v9)) = H10 at *
    refine ⟨_, _, by simp [upto]; omega, iw_rng f9, .mk [] hcc10 ⟨LS10.dk.le (by simp [upto]; omega), LS10.sn, LS10.bf, LS10.tb, LS10.kn⟩ rfl (by simp [upto]; omega) (fun _ h => by cases h), ?_, ?_⟩
    · intro v' rest' acc Hx hj2
      refine gG fun GG kG => ?_
      obtain ⟨W, hccx, LSx, rfl, hWl, hWc⟩ := hj2
      refine kG ?_
      clear kG GG
      simp only [List.length_cons] at LSx hWl
      walk_at "go"
      refine ew_cell (by walk_at "na") (by simp) hccx (by simp) ?_
      walk_at "go"
      refine cw_law_draw (many := 4) (m := 8000 + 10 * rest.length + rest'.length) (by omega) LSx.dk fun Hy vy hvy my hDy => ?_
      obtain ⟨k, hk, hke⟩ := abAB_at hvy
      refine gw_str (c := k) (by omega) (by omega) (by rw [Int.toNat_natCast]; exact hke) ?_
      exact ⟨trivial, .mk (W ++ [k]) (my _ _ hccx rfl) (LSx.draw my hDy) (by simp) (by simp; omega) (fun z hz => by rcases List.mem_append.mp hz with h | h; exact hWc z h; simp at h; subst h; exact hk)⟩
    · intro acc Hx hj2 dl hdl
      refine gG fun GG kG => ?_
      obtain ⟨W, hccx, LSx, rfl, hWl, hWc⟩ := hj2
      refine kG ?_
      clear kG GG
      simp only [List.length_nil] at hWl LSx
      walk_at "go"
      refine cb_join (ss := W.map fun k => (⟨#[k]⟩ : Str)) (some_list (AH.upd_self _ _ _) (by rw [List.map_map]; rfl)) ?_ ?_
      · have e2 : (Str.ofString "").length = 0 := by decide +kernel
        rw [sum1, e2]; omega
      rw [join1]
      refine ow_adds (by rw [st_len, st_len]; simp; omega) ?_
      rw [st_app]
      walk_at "go"
      exact hN _ _ ⟨trivial, .mk (T ++ s ++ W) _ (AH.upd_old hdl hccx) (LSx.sub ((Sub.refl _).upd hdl)) (by simp; omega) (fun z hz => by
        simp only [List.mem_append] at hz
        rcases hz with (h | h) | h
        · exact hTc z h
        · exact hso.1 z h
        · exact hWc z h) rfl⟩
  · intro F H' hj
    refine gG fun GG kG => ?_
    obtain ⟨T, u, hcc, LS, hTl, hTc, rfl⟩ := hj
    refine kG ?_
    clear kG GG
    simp only [List.length_nil] at LS hTl
    walk_at "go"
    rename_i lw hlw
    refine ew_cell (by walk_at "na") hlk (AH.upd_old hlw hcc) (by simp) ?_
    walk_at "go"
    refine cw_law_draw (many := 2) (m := 7999) (by omega) ((LS.sub ((Sub.refl _).upd hlw)).dk.le (by omega)) fun H8 v8 hv8 m8 hD8 => ?_
    have LS8 := (LS.sub ((Sub.refl _).upd hlw)).draw m8 hD8
    have hcc8 := m8 _ _ (AH.upd_old hlw hcc) rfl
    refine gG fun GG kG => ?_
    obtain ⟨s, hso, hse⟩ := end_at hv8
    refine kG ?_
    clear kG GG
    refine gw_list (m8 _ _ (AH.upd_self _ _ _) rfl) (by omega) (by omega) (x := .str (st s)) (by rw [Int.toNat_natCast]; exact hse) ?_
    refine ow_adds (by rw [st_len, st_len]; omega) ?_
    rw [st_app]
    have hT1 : (T ++ s).length ≤ 27 := by simp; omega
    have hT2 : ∀ k ∈ T ++ s, k < 128 := fun z hz => by
      rcases List.mem_append.mp hz with h | h
      · exact hTc z h
      · exact hso.1 z h
    generalize T ++ s = T at *
    clear hTl hTc hse hso LS
    walk_at "go"
    refine cw_law_codes rfl (by omega) fun cl hcl => ?_
    walk_at "go"
    refine cw_insert_at (T := []) (i := 0) (LS8.bf.sub ((Sub.refl _).upd hcl)) (AH.upd_self _ _ _) (by simp) (by simp) (by simp) (by simp; omega) fun H9 pt9 m9 hB9 => ?_
    have hB9' : BufS H9 b T pt9 ((T.length : Nat) + 1) := by
      have e : ((([] : List Nat).length : Nat) : Int) + 1 + (T.length : Nat) = (T.length : Nat) + 1 := by simp; omega
      rw [e] at hB9; simpa using hB9
    have LS9 := (LS8.sub ((Sub.refl _).upd hcl)).rl (Rl.ofB m9) hB9'
    have hcc9 := m9 _ _ (AH.upd_old hcl hcc8) rfl
    clear hB9 hB9' m9 hcl hcc8 LS8 hcc hD8 m8
    walk_at "go"
    refine ew_cell (by walk_at "na") hlk hcc9 (by simp) ?_
    walk_at "go"
    refine cb_len_str (by rw [st_len]; omega) ?_
    rw [st_len]
    walk_at "go"
    refine cw_law_draw' (many := T.length + 1) (m := 7998) (by omega) (by omega) LS9.dk fun H10 p hp m10 hD10 => ?_
    have LS10 := LS9.draw m10 hD10
    have hcc10 := m10 _ _ hcc9 rfl
    clear LS9 hcc9 hD10 m10
    have hBq := LS10.bf
    refine gG fun GG kG => ?_
    obtain ⟨dx', g', gx', cl', mk', mx', mr', ls', nu', na', ma', li', ct', sv', ti', A', G', B', ⟨b1, b2, b3, b4, b5, b6, b7, b8, b9, sz⟩, eAB, pls⟩ := hBq
    refine kG ?_
    clear kG GG
    walk_at "go"
    refine cw_goto LS10.bf (p := p) rfl (by omega) fun H11 vg m11 hB11 => ?_
    have LS11 := LS10.rl (Rl.ofB m11) hB11
    have hcc11 := m11 _ _ hcc10 rfl
    clear b1 b2 b3 b4 b5 b6 b7 b8 b9 LS10 hcc10 m11 hB11
    first | exact law_mid hlk LS11 hcc11 hT1 hT2 (by omega) o1 o2 o3 o4 | (walk_at "mw"; exact law_mid hlk LS11 hcc11 hT1 hT2 (by omega) o1 o2 o3 o4)
end

section
variable {S : Sta} {E : ES} {n : Nat} {F F' : List (Option AV)} {H H' : AH} {Q : AV → AH → Prop} {QN : List (Option AV) → AH → Prop} {QX : AFl → List (Option AV) → AH → Prop}
theorem fin : PySem.Challenge.rw_oj0034_01.Holds := by
  refine hd ?_ ?_
  · first | w_witness2 | exact ⟨[ofPy (.list [])], by decide +kernel, by decide +kernel⟩
  intro w s₀ s₁ mg mb G Y fa o pm cd doc dV kV ho hd hcd hD hmg hg args vals as hpre hlay hrd hwl hlo
  have X := (Ground.X G).1
  have V := (Ground.X G).2
  refine Ground.open G ?_
  intro T B D TE TW
  obtain ⟨_, _, M⟩ := bmod_of_top T
  have TA := at_of_top T
  clear hmg
  wrow_args hpre hlay hrd hwl hlo
  all_goals (first | refine callC_kw (enter_call ?_) | refine enter_call ?_ | refine callC_kw (enter_callW ?_) | refine enter_callW ?_ | w_how)
  rename_i Ls hs1 hs2 hs3 hs4 hs5 a1 a2 sl wv a4 hIL ra w1 r0 hIA hr hc63 htr
  refine codeAny_mono ?_ (fun _ _ g => GoodW.toG g)
  have hdV := hD.pos_none (by kernel_rfl)
  have hkV := hD.noKw
  subst hdV hkV
  let S : Sta := ⟨w, s₁.heap, qv, looseW qv loose, mg, mb, s₁.os, Y, topRead_of T⟩
  have st0 : St S [] (fun _ => none) s₁ := ⟨fun _ _ e => e, (fun p hp => by cases hp), List.nodup_nil, (fun a o e => by cases e), hg, rfl⟩
  have hL : Ls.length ≤ 63 := Decidable.byContradiction fun h => hc63 (Int.ofNat_lt.mpr (Nat.lt_of_not_le h))
  obtain ⟨ol, o1, o2, ml, o3⟩ := hIL
  have hsl : ∃ o vs m, S.h₀.get? sl = some o ∧ o.cls = .type "list" ∧ o.data = .seq vs m ∧ vs.toList.map ab = Ls.map AV.int := ⟨ol, _, ml, o1, o2, o3, by simpa using of_ints hIA⟩
  show codeAny (model pw w) callerA _ _ s₁
  refine codeAny_call_cells (body := lb) (binds := [("script", .ref sl)]) (by decide) ho hd T.nolimit hcd (by kernel_rfl) (by kernel_rfl) rfl ?_ (fun s₂ x => ?_) (by kernel_rfl) (by kernel_rfl) (by kernel_rfl)
  · intro z hz
    simp only [List.mem_singleton] at hz; subst hz
    exact .inl (by kernel_rfl)
  have hcells : (callEnvC { docDef dl.name dl.params dl.body dl.scope pm cd doc with defaults := .none, kwdefaults := .none } s₁.heap.objs.size fa).cells = [((Str.ofString "deck"), s₁.heap.objs.size + 1)] := by kernel_rfl
  have hcn : s₁.heap.get? (s₁.heap.objs.size + 1) = none := by
    cases q : s₁.heap.get? (s₁.heap.objs.size + 1) with
    | none => rfl
    | some o => exact absurd (Heap.lt_size q) (Nat.not_lt.mpr (Nat.le_succ _))
  obtain ⟨h₁, tk, rfl⟩ := x.toInCall.same
  have st1 : St S (.fr s₁.heap.objs.size lsc.names [some (.ref sl), none, none, none, none, none, none, none, none, none, none, none, none, none, none, none, none, none, none, none, none, none, none, none, none, none, none, none, none, none, none] :: []) (fun _ => none) { s₁ with heap := h₁, toks := tk } :=
    st0.under x.toInCall.keep (size_none _) ⟨_, x.toInCall.ns, fun y v g => by
      have g' : y = "script" ∧ v = .ref sl := by
        revert g
        show NGet y .local v (_ :: _) _ → _
        intro g
        cases g with
        | here => exact ⟨rfl, rfl⟩
        | there g => exact absurd g (noget (m := 30))
      obtain ⟨rfl, rfl⟩ := g'
      exact ⟨.ref sl, by kernel_rfl, rfl⟩⟩
  have st2 := St.cells (cv := fun _ => .other .none) (cm := fun _ => none) (fun _ => rfl) [("deck", s₁.heap.objs.size + 1)] _ st1 (fun p hp => by
      simp only [List.mem_singleton] at hp; subst hp
      exact x.cell "deck" (s₁.heap.objs.size + 1) (by rw [hcells]; simp)) (fun p hp => by simp only [List.mem_singleton] at hp; subst hp; exact hcn) (fun p hp q hq => by
      simp only [List.mem_singleton] at hp hq; subst hp; subst hq
      show s₁.heap.objs.size ≠ s₁.heap.objs.size + 1
      omega)
  have key := law_sw (S := S) (n := 0) (c := s₁.heap.objs.size + 1) (sl := sl) (H := AH.upd (fun _ => none) (s₁.heap.objs.size + 1) (.cell (.other .none))) hL hsl (AH.upd_self _ _ _)
  refine wpAny_mono (key _ _ _ [] _ ?_ ⟨rfl, hcells, rfl, rfl, rfl, by kernel_rfl⟩ st2) (fun fl s' ⟨F', H', st', q⟩ => ?_) fun _ _ x => x.elim
  · exact Room.deeper (n := 20) (A := callerA) ⟨rfl, by decide, by decide⟩
  · cases fl with
    | next => exact q.elim
    | brk => exact absurd q nofun
    | cont => exact absurd q nofun
    | ret v =>
      have hv : ab v = .bool true := by injection q
      have hv' := ab_bool hv
      subst hv'
      refine ⟨.inl ⟨_, ofPy (PyData.bool true), [], rfl, ?_, ?_, ?_, ?_⟩, st'.keep, st'.os, st'.gens⟩
      · intro cls; rfl
      · first | exact .bool | (constructor)
      · first | kernel_rfl | decide +kernel | rfl
      · exact fun _ => ⟨List.nodup_nil, fun a h => by cases h⟩
end

end Mine

theorem PySem.Challenge.cw_oj0034_01_holds : PySem.Challenge.rw_oj0034_01.Holds := by
  exact Mine.fin
