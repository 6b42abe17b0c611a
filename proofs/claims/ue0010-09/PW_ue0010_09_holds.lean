import PyProof.Rows.All
import Wide.All
import OpenK.AllK
import Wide.FinOn
import KE.KDictSum
import PyProof.Rows.SortWalk
import PySem.Challenge.RW_ue0010_09
set_option Elab.async false
set_option linter.all false
section
set_option autoImplicit false
set_option Elab.async false
set_option maxRecDepth 100000
set_option maxHeartbeats 8000000
namespace Mine
namespace HD
open PySem PySem.W PyProof.Rows
noncomputable abbrev pw : Program := PySem.Challenge.pw_ue0010_09
noncomputable def top (i : Nat) : Stmt := (pw.main.body[i]?).getD (.Pass ⟨0, 0, 0, 0⟩)
noncomputable def fp : Stmt → Arguments × List Stmt × Scope
  | .FunctionDef _ a b _ _ _ s _ _ _ => (a, b, s)
  | .ClassDef _ _ _ b _ _ s _ _ _ _ => (⟨[], [], none, [], [], none, []⟩, b, s)
  | _ => (⟨[], [], none, [], [], none, []⟩, [], ⟨.module, [], false, false, []⟩)
noncomputable def sub (i j : Nat) : Stmt := ((fp (top i)).2.1[j]?).getD (.Pass ⟨0, 0, 0, 0⟩)
noncomputable def view : Program := { pw with main := { pw.main with body := [top 0, top 2, top 3, top 5, top 6, top 8, top 9, top 10] } }
noncomputable abbrev s (x : String) : Str := .ofString x
noncomputable abbrev de (P : Params) (x : String) (i : Nat) (v : Value) : DictEntry := ⟨PyData.keyHash P (.ofString x), .str (.ofString x) i, v⟩
noncomputable def heap (P : Params) : Frag := [
  (2, ⟨.none, none, (.dict #[] 0), #[]⟩),
  (3, ⟨(.type "dict"), none, (.dict #[de P "__name__" 165 (.str (s "law_ue0010_09") 422), de P "__doc__" 166 .none, de P "__package__" 167 .none, de P "__loader__" 168 (.builtin "__main__.__loader__#opaque"), de P "__spec__" 169 .none, de P "__annotations__" 170 (.ref 6), de P "__builtins__" 171 (.ref 4), de P "__file__" 173 (.str (s "/claim/cut.py") 172), de P "__cached__" 174 .none, de P "_wall" 193 (.ref 21), de P "StoreError" 213 (.ref 31), de P "BadPage" 239 (.ref 51), de P "copied" 250 (.ref 60), de P "Pages" 421 (.ref 195), de P "_law_told" 431 (.ref 206), de P "_law_bad" 441 (.ref 213), de P "law" 447 (.ref 218)] 17), #[]⟩),
  (15, ⟨(.type "tuple"), none, (.seq #[] 0), #[]⟩),
  (17, ⟨(.type "tuple"), none, (.seq #[(.str (s "k") 190)] 0), #[]⟩),
  (18, ⟨(.type "tuple"), none, (.seq #[] 0), #[]⟩),
  (20, ⟨(.type "code"), none, (.fields #[(.str (s "_wall") 187), (.str (s "_wall") 188), (.str (s "/claim/cut.py") 189), (.int 1 0), (.int 1 0), (.int 0 0), (.int 0 0), (.int 3 0), (.ref 15), (.bool true), (.int 181 0), (.ref 16), .none, (.ref 17), (.ref 18), (.ref 19), (.int 191 0), (.int 1 0), (.str (s "/claim/cut.py") 192)]), #[]⟩),
  (21, ⟨(.type "function"), none, (.func ⟨(s "_wall"), (s "_wall"), (fp (top 0)).1, .stmts (fp (top 0)).2.1, (fp (top 0)).2.2, 3, [], .none, .none, .none, (.str (s "__main__") 164), none, (.ref 20), .none, 0⟩), #[]⟩),
  (22, ⟨(.type "tuple"), none, (.seq #[(.type "ValueError")] 0), #[]⟩),
  (29, ⟨(.type "tuple"), none, (.seq #[] 0), #[]⟩),
  (30, ⟨(.type "dict"), none, (.dict #[de P "__module__" 203 (.str (s "leafstore.errors") 194), de P "__firstlineno__" 207 (.int 5 206), de P "__static_attributes__" 208 (.ref 29), de P "__weakref__" 210 (.ref 32), de P "__doc__" 211 .none] 3), #[]⟩),
  (31, ⟨(.type "type"), none, (.cls ⟨(s "StoreError"), [(.type "ValueError")], [(.ref 31), (.type "ValueError"), (.type "Exception"), (.type "BaseException"), (.type "object")], 30, (s "StoreError"), true, [], [(.ref 51)], false, none, false⟩), #[(some (.ref 22)), none, (some (.str (s "StoreError") 196)), (some (.str (s "StoreError") 204)), (some (.builtin "ValueError.__new__")), (some (.bool true))]⟩),
  (32, ⟨(.type "getset_descriptor"), none, (.fields #[(.str (s "__weakref__") 209), (.ref 31), (.builtin "ExceptionGroup.__weakref__"), .none]), #[]⟩),
  (35, ⟨(.type "tuple"), none, (.seq #[(.ref 31)] 0), #[]⟩),
  (42, ⟨(.type "tuple"), none, (.seq #[] 0), #[]⟩),
  (44, ⟨(.type "tuple"), none, (.seq #[(.str (s "self") 229), (.str (s "number") 230), (.str (s "words") 231)] 0), #[]⟩),
  (45, ⟨(.type "tuple"), none, (.seq #[] 0), #[]⟩),
  (47, ⟨(.type "code"), none, (.fields #[(.str (s "__init__") 226), (.str (s "BadPage.__init__") 227), (.str (s "/claim/cut.py") 228), (.int 9 0), (.int 2 0), (.int 0 0), (.int 0 0), (.int 3 0), (.ref 42), (.bool true), (.int 181 0), (.ref 43), .none, (.ref 44), (.ref 45), (.ref 46), (.int 232 0), (.int 9 0), (.str (s "/claim/cut.py") 233)]), #[]⟩),
  (48, ⟨(.type "function"), none, (.func ⟨(s "__init__"), (s "BadPage.__init__"), (fp (sub 3 0)).1, .stmts (fp (sub 3 0)).2.1, (fp (sub 3 0)).2.2, 3, [], .none, .none, .none, (.str (s "leafstore.errors") 194), none, (.ref 47), .none, 0⟩), #[]⟩),
  (49, ⟨(.type "tuple"), none, (.seq #[(.str (s "number") 235)] 0), #[]⟩),
  (50, ⟨(.type "dict"), none, (.dict #[de P "__module__" 221 (.str (s "leafstore.errors") 194), de P "__firstlineno__" 225 (.int 7 224), de P "__init__" 234 (.ref 48), de P "__static_attributes__" 236 (.ref 49), de P "__doc__" 237 .none] 2), #[]⟩),
  (51, ⟨(.type "type"), none, (.cls ⟨(s "BadPage"), [(.ref 31)], [(.ref 51), (.ref 31), (.type "ValueError"), (.type "Exception"), (.type "BaseException"), (.type "object")], 50, (s "BadPage"), true, [], [], false, none, false⟩), #[(some (.ref 35)), none, (some (.str (s "BadPage") 214)), (some (.str (s "BadPage") 222)), (some (.builtin "ValueError.__new__")), (some (.bool true))]⟩),
  (54, ⟨(.type "tuple"), none, (.seq #[] 0), #[]⟩),
  (56, ⟨(.type "tuple"), none, (.seq #[(.str (s "page") 245), (.str (s "out") 246), (.str (s "part") 247)] 0), #[]⟩),
  (57, ⟨(.type "tuple"), none, (.seq #[] 0), #[]⟩),
  (59, ⟨(.type "code"), none, (.fields #[(.str (s "copied") 242), (.str (s "copied") 243), (.str (s "/claim/cut.py") 244), (.int 16 0), (.int 1 0), (.int 0 0), (.int 0 0), (.int 3 0), (.ref 54), (.bool true), (.int 181 0), (.ref 55), .none, (.ref 56), (.ref 57), (.ref 58), (.int 248 0), (.int 16 0), (.str (s "/claim/cut.py") 249)]), #[]⟩),
  (60, ⟨(.type "function"), none, (.func ⟨(s "copied"), (s "copied"), (fp (top 5)).1, .stmts (fp (top 5)).2.1, (fp (top 5)).2.2, 3, [], .none, .none, .none, (.str (s "leafstore.pages") 240), none, (.ref 59), .none, 0⟩), #[]⟩),
  (68, ⟨(.type "tuple"), none, (.seq #[] 0), #[]⟩),
  (70, ⟨(.type "tuple"), none, (.seq #[(.str (s "self") 266)] 0), #[]⟩),
  (71, ⟨(.type "tuple"), none, (.seq #[] 0), #[]⟩),
  (73, ⟨(.type "code"), none, (.fields #[(.str (s "__init__") 263), (.str (s "Pages.__init__") 264), (.str (s "/claim/cut.py") 265), (.int 27 0), (.int 1 0), (.int 0 0), (.int 0 0), (.int 3 0), (.ref 68), (.bool true), (.int 181 0), (.ref 69), .none, (.ref 70), (.ref 71), (.ref 72), (.int 267 0), (.int 27 0), (.str (s "/claim/cut.py") 268)]), #[]⟩),
  (74, ⟨(.type "function"), none, (.func ⟨(s "__init__"), (s "Pages.__init__"), (fp (sub 6 0)).1, .stmts (fp (sub 6 0)).2.1, (fp (sub 6 0)).2.2, 3, [], .none, .none, .none, (.str (s "leafstore.pages") 240), none, (.ref 73), .none, 0⟩), #[]⟩),
  (75, ⟨(.type "tuple"), none, (.seq #[] 0), #[]⟩),
  (77, ⟨(.type "tuple"), none, (.seq #[(.str (s "self") 273), (.str (s "page") 274), (.str (s "number") 275)] 0), #[]⟩),
  (78, ⟨(.type "tuple"), none, (.seq #[] 0), #[]⟩),
  (80, ⟨(.type "code"), none, (.fields #[(.str (s "add") 270), (.str (s "Pages.add") 271), (.str (s "/claim/cut.py") 272), (.int 36 0), (.int 2 0), (.int 0 0), (.int 0 0), (.int 3 0), (.ref 75), (.bool true), (.int 181 0), (.ref 76), .none, (.ref 77), (.ref 78), (.ref 79), (.int 276 0), (.int 36 0), (.str (s "/claim/cut.py") 277)]), #[]⟩),
  (81, ⟨(.type "function"), none, (.func ⟨(s "add"), (s "Pages.add"), (fp (sub 6 1)).1, .stmts (fp (sub 6 1)).2.1, (fp (sub 6 1)).2.2, 3, [], .none, .none, .none, (.str (s "leafstore.pages") 240), none, (.ref 80), .none, 0⟩), #[]⟩),
  (82, ⟨(.type "tuple"), none, (.seq #[] 0), #[]⟩),
  (84, ⟨(.type "tuple"), none, (.seq #[(.str (s "self") 282), (.str (s "number") 283)] 0), #[]⟩),
  (85, ⟨(.type "tuple"), none, (.seq #[] 0), #[]⟩),
  (87, ⟨(.type "code"), none, (.fields #[(.str (s "_check") 279), (.str (s "Pages._check") 280), (.str (s "/claim/cut.py") 281), (.int 48 0), (.int 2 0), (.int 0 0), (.int 0 0), (.int 3 0), (.ref 82), (.bool true), (.int 181 0), (.ref 83), .none, (.ref 84), (.ref 85), (.ref 86), (.int 284 0), (.int 48 0), (.str (s "/claim/cut.py") 285)]), #[]⟩),
  (88, ⟨(.type "function"), none, (.func ⟨(s "_check"), (s "Pages._check"), (fp (sub 6 2)).1, .stmts (fp (sub 6 2)).2.1, (fp (sub 6 2)).2.2, 3, [], .none, .none, .none, (.str (s "leafstore.pages") 240), none, (.ref 87), .none, 0⟩), #[]⟩),
  (89, ⟨(.type "tuple"), none, (.seq #[] 0), #[]⟩),
  (91, ⟨(.type "tuple"), none, (.seq #[(.str (s "self") 290), (.str (s "number") 291)] 0), #[]⟩),
  (92, ⟨(.type "tuple"), none, (.seq #[] 0), #[]⟩),
  (94, ⟨(.type "code"), none, (.fields #[(.str (s "read") 287), (.str (s "Pages.read") 288), (.str (s "/claim/cut.py") 289), (.int 54 0), (.int 2 0), (.int 0 0), (.int 0 0), (.int 3 0), (.ref 89), (.bool true), (.int 181 0), (.ref 90), .none, (.ref 91), (.ref 92), (.ref 93), (.int 292 0), (.int 54 0), (.str (s "/claim/cut.py") 293)]), #[]⟩),
  (95, ⟨(.type "function"), none, (.func ⟨(s "read"), (s "Pages.read"), (fp (sub 6 3)).1, .stmts (fp (sub 6 3)).2.1, (fp (sub 6 3)).2.2, 3, [], .none, .none, .none, (.str (s "leafstore.pages") 240), none, (.ref 94), .none, 0⟩), #[]⟩),
  (96, ⟨(.type "tuple"), none, (.seq #[] 0), #[]⟩),
  (98, ⟨(.type "tuple"), none, (.seq #[(.str (s "self") 298), (.str (s "number") 299), (.str (s "page") 300)] 0), #[]⟩),
  (99, ⟨(.type "tuple"), none, (.seq #[] 0), #[]⟩),
  (101, ⟨(.type "code"), none, (.fields #[(.str (s "write") 295), (.str (s "Pages.write") 296), (.str (s "/claim/cut.py") 297), (.int 59 0), (.int 3 0), (.int 0 0), (.int 0 0), (.int 3 0), (.ref 96), (.bool true), (.int 181 0), (.ref 97), .none, (.ref 98), (.ref 99), (.ref 100), (.int 301 0), (.int 59 0), (.str (s "/claim/cut.py") 302)]), #[]⟩),
  (102, ⟨(.type "function"), none, (.func ⟨(s "write"), (s "Pages.write"), (fp (sub 6 4)).1, .stmts (fp (sub 6 4)).2.1, (fp (sub 6 4)).2.2, 3, [], .none, .none, .none, (.str (s "leafstore.pages") 240), none, (.ref 101), .none, 0⟩), #[]⟩),
  (103, ⟨(.type "tuple"), none, (.seq #[] 0), #[]⟩),
  (105, ⟨(.type "tuple"), none, (.seq #[(.str (s "self") 307), (.str (s "number") 308)] 0), #[]⟩),
  (106, ⟨(.type "tuple"), none, (.seq #[] 0), #[]⟩),
  (108, ⟨(.type "code"), none, (.fields #[(.str (s "change") 304), (.str (s "Pages.change") 305), (.str (s "/claim/cut.py") 306), (.int 65 0), (.int 2 0), (.int 0 0), (.int 0 0), (.int 3 0), (.ref 103), (.bool true), (.int 181 0), (.ref 104), .none, (.ref 105), (.ref 106), (.ref 107), (.int 309 0), (.int 65 0), (.str (s "/claim/cut.py") 310)]), #[]⟩),
  (109, ⟨(.type "function"), none, (.func ⟨(s "change"), (s "Pages.change"), (fp (sub 6 5)).1, .stmts (fp (sub 6 5)).2.1, (fp (sub 6 5)).2.2, 3, [], .none, .none, .none, (.str (s "leafstore.pages") 240), none, (.ref 108), .none, 0⟩), #[]⟩),
  (110, ⟨(.type "tuple"), none, (.seq #[] 0), #[]⟩),
  (112, ⟨(.type "tuple"), none, (.seq #[(.str (s "self") 315), (.str (s "number") 316)] 0), #[]⟩),
  (113, ⟨(.type "tuple"), none, (.seq #[] 0), #[]⟩),
  (115, ⟨(.type "code"), none, (.fields #[(.str (s "drop") 312), (.str (s "Pages.drop") 313), (.str (s "/claim/cut.py") 314), (.int 72 0), (.int 2 0), (.int 0 0), (.int 0 0), (.int 3 0), (.ref 110), (.bool true), (.int 181 0), (.ref 111), .none, (.ref 112), (.ref 113), (.ref 114), (.int 317 0), (.int 72 0), (.str (s "/claim/cut.py") 318)]), #[]⟩),
  (116, ⟨(.type "function"), none, (.func ⟨(s "drop"), (s "Pages.drop"), (fp (sub 6 6)).1, .stmts (fp (sub 6 6)).2.1, (fp (sub 6 6)).2.2, 3, [], .none, .none, .none, (.str (s "leafstore.pages") 240), none, (.ref 115), .none, 0⟩), #[]⟩),
  (117, ⟨(.type "tuple"), none, (.seq #[] 0), #[]⟩),
  (120, ⟨(.type "code"), none, (.fields #[(.str (s "numbers") 320), (.str (s "Pages.numbers") 321), (.str (s "/claim/cut.py") 322), (.int 78 0), (.int 1 0), (.int 0 0), (.int 0 0), (.int 3 0), (.ref 117), (.bool true), (.int 181 0), (.ref 118), .none, .none, .none, (.ref 119), (.int 323 0), (.int 78 0), (.str (s "/claim/cut.py") 324)]), #[]⟩),
  (121, ⟨(.type "function"), none, (.func ⟨(s "numbers"), (s "Pages.numbers"), (fp (sub 6 7)).1, .stmts (fp (sub 6 7)).2.1, (fp (sub 6 7)).2.2, 3, [], .none, .none, .none, (.str (s "leafstore.pages") 240), none, (.ref 120), .none, 0⟩), #[]⟩),
  (122, ⟨(.type "tuple"), none, (.seq #[] 0), #[]⟩),
  (124, ⟨(.type "tuple"), none, (.seq #[(.str (s "self") 329)] 0), #[]⟩),
  (125, ⟨(.type "tuple"), none, (.seq #[] 0), #[]⟩),
  (127, ⟨(.type "code"), none, (.fields #[(.str (s "count") 326), (.str (s "Pages.count") 327), (.str (s "/claim/cut.py") 328), (.int 81 0), (.int 1 0), (.int 0 0), (.int 0 0), (.int 3 0), (.ref 122), (.bool true), (.int 181 0), (.ref 123), .none, (.ref 124), (.ref 125), (.ref 126), (.int 330 0), (.int 81 0), (.str (s "/claim/cut.py") 331)]), #[]⟩),
  (128, ⟨(.type "function"), none, (.func ⟨(s "count"), (s "Pages.count"), (fp (sub 6 8)).1, .stmts (fp (sub 6 8)).2.1, (fp (sub 6 8)).2.2, 3, [], .none, .none, .none, (.str (s "leafstore.pages") 240), none, (.ref 127), .none, 0⟩), #[]⟩),
  (129, ⟨(.type "tuple"), none, (.seq #[] 0), #[]⟩),
  (131, ⟨(.type "tuple"), none, (.seq #[(.str (s "self") 336)] 0), #[]⟩),
  (132, ⟨(.type "tuple"), none, (.seq #[] 0), #[]⟩),
  (134, ⟨(.type "code"), none, (.fields #[(.str (s "free_count") 333), (.str (s "Pages.free_count") 334), (.str (s "/claim/cut.py") 335), (.int 84 0), (.int 1 0), (.int 0 0), (.int 0 0), (.int 3 0), (.ref 129), (.bool true), (.int 181 0), (.ref 130), .none, (.ref 131), (.ref 132), (.ref 133), (.int 337 0), (.int 84 0), (.str (s "/claim/cut.py") 338)]), #[]⟩),
  (135, ⟨(.type "function"), none, (.func ⟨(s "free_count"), (s "Pages.free_count"), (fp (sub 6 9)).1, .stmts (fp (sub 6 9)).2.1, (fp (sub 6 9)).2.2, 3, [], .none, .none, .none, (.str (s "leafstore.pages") 240), none, (.ref 134), .none, 0⟩), #[]⟩),
  (136, ⟨(.type "tuple"), none, (.seq #[] 0), #[]⟩),
  (138, ⟨(.type "tuple"), none, (.seq #[(.str (s "self") 343), (.str (s "number") 344), (.str (s "old") 345)] 0), #[]⟩),
  (139, ⟨(.type "tuple"), none, (.seq #[] 0), #[]⟩),
  (141, ⟨(.type "code"), none, (.fields #[(.str (s "_note") 340), (.str (s "Pages._note") 341), (.str (s "/claim/cut.py") 342), (.int 87 0), (.int 2 0), (.int 0 0), (.int 0 0), (.int 3 0), (.ref 136), (.bool true), (.int 181 0), (.ref 137), .none, (.ref 138), (.ref 139), (.ref 140), (.int 346 0), (.int 87 0), (.str (s "/claim/cut.py") 347)]), #[]⟩),
  (142, ⟨(.type "function"), none, (.func ⟨(s "_note"), (s "Pages._note"), (fp (sub 6 10)).1, .stmts (fp (sub 6 10)).2.1, (fp (sub 6 10)).2.2, 3, [], .none, .none, .none, (.str (s "leafstore.pages") 240), none, (.ref 141), .none, 0⟩), #[]⟩),
  (143, ⟨(.type "tuple"), none, (.seq #[] 0), #[]⟩),
  (145, ⟨(.type "tuple"), none, (.seq #[(.str (s "self") 352)] 0), #[]⟩),
  (146, ⟨(.type "tuple"), none, (.seq #[] 0), #[]⟩),
  (148, ⟨(.type "code"), none, (.fields #[(.str (s "begin") 349), (.str (s "Pages.begin") 350), (.str (s "/claim/cut.py") 351), (.int 94 0), (.int 1 0), (.int 0 0), (.int 0 0), (.int 3 0), (.ref 143), (.bool true), (.int 181 0), (.ref 144), .none, (.ref 145), (.ref 146), (.ref 147), (.int 353 0), (.int 94 0), (.str (s "/claim/cut.py") 354)]), #[]⟩),
  (149, ⟨(.type "function"), none, (.func ⟨(s "begin"), (s "Pages.begin"), (fp (sub 6 11)).1, .stmts (fp (sub 6 11)).2.1, (fp (sub 6 11)).2.2, 3, [], .none, .none, .none, (.str (s "leafstore.pages") 240), none, (.ref 148), .none, 0⟩), #[]⟩),
  (150, ⟨(.type "tuple"), none, (.seq #[] 0), #[]⟩),
  (152, ⟨(.type "tuple"), none, (.seq #[(.str (s "self") 359)] 0), #[]⟩),
  (153, ⟨(.type "tuple"), none, (.seq #[] 0), #[]⟩),
  (155, ⟨(.type "code"), none, (.fields #[(.str (s "begun") 356), (.str (s "Pages.begun") 357), (.str (s "/claim/cut.py") 358), (.int 101 0), (.int 1 0), (.int 0 0), (.int 0 0), (.int 3 0), (.ref 150), (.bool true), (.int 181 0), (.ref 151), .none, (.ref 152), (.ref 153), (.ref 154), (.int 360 0), (.int 101 0), (.str (s "/claim/cut.py") 361)]), #[]⟩),
  (156, ⟨(.type "function"), none, (.func ⟨(s "begun"), (s "Pages.begun"), (fp (sub 6 12)).1, .stmts (fp (sub 6 12)).2.1, (fp (sub 6 12)).2.2, 3, [], .none, .none, .none, (.str (s "leafstore.pages") 240), none, (.ref 155), .none, 0⟩), #[]⟩),
  (157, ⟨(.type "tuple"), none, (.seq #[] 0), #[]⟩),
  (159, ⟨(.type "tuple"), none, (.seq #[(.str (s "self") 366), (.str (s "touched") 367)] 0), #[]⟩),
  (160, ⟨(.type "tuple"), none, (.seq #[] 0), #[]⟩),
  (162, ⟨(.type "code"), none, (.fields #[(.str (s "commit") 363), (.str (s "Pages.commit") 364), (.str (s "/claim/cut.py") 365), (.int 104 0), (.int 1 0), (.int 0 0), (.int 0 0), (.int 3 0), (.ref 157), (.bool true), (.int 181 0), (.ref 158), .none, (.ref 159), (.ref 160), (.ref 161), (.int 368 0), (.int 104 0), (.str (s "/claim/cut.py") 369)]), #[]⟩),
  (163, ⟨(.type "function"), none, (.func ⟨(s "commit"), (s "Pages.commit"), (fp (sub 6 13)).1, .stmts (fp (sub 6 13)).2.1, (fp (sub 6 13)).2.2, 3, [], .none, .none, .none, (.str (s "leafstore.pages") 240), none, (.ref 162), .none, 0⟩), #[]⟩),
  (164, ⟨(.type "tuple"), none, (.seq #[] 0), #[]⟩),
  (166, ⟨(.type "tuple"), none, (.seq #[(.str (s "self") 374), (.str (s "journal") 375), (.str (s "number") 376)] 0), #[]⟩),
  (167, ⟨(.type "tuple"), none, (.seq #[] 0), #[]⟩),
  (169, ⟨(.type "code"), none, (.fields #[(.str (s "rollback") 371), (.str (s "Pages.rollback") 372), (.str (s "/claim/cut.py") 373), (.int 112 0), (.int 1 0), (.int 0 0), (.int 0 0), (.int 3 0), (.ref 164), (.bool true), (.int 181 0), (.ref 165), .none, (.ref 166), (.ref 167), (.ref 168), (.int 377 0), (.int 112 0), (.str (s "/claim/cut.py") 378)]), #[]⟩),
  (170, ⟨(.type "function"), none, (.func ⟨(s "rollback"), (s "Pages.rollback"), (fp (sub 6 14)).1, .stmts (fp (sub 6 14)).2.1, (fp (sub 6 14)).2.2, 3, [], .none, .none, .none, (.str (s "leafstore.pages") 240), none, (.ref 169), .none, 0⟩), #[]⟩),
  (171, ⟨(.type "tuple"), none, (.seq #[] 0), #[]⟩),
  (174, ⟨(.type "code"), none, (.fields #[(.str (s "trim") 380), (.str (s "Pages.trim") 381), (.str (s "/claim/cut.py") 382), (.int 125 0), (.int 1 0), (.int 0 0), (.int 0 0), (.int 3 0), (.ref 171), (.bool true), (.int 181 0), (.ref 172), .none, .none, .none, (.ref 173), (.int 383 0), (.int 125 0), (.str (s "/claim/cut.py") 384)]), #[]⟩),
  (175, ⟨(.type "function"), none, (.func ⟨(s "trim"), (s "Pages.trim"), (fp (sub 6 15)).1, .stmts (fp (sub 6 15)).2.1, (fp (sub 6 15)).2.2, 3, [], .none, .none, .none, (.str (s "leafstore.pages") 240), none, (.ref 174), .none, 0⟩), #[]⟩),
  (176, ⟨(.type "tuple"), none, (.seq #[] 0), #[]⟩),
  (179, ⟨(.type "code"), none, (.fields #[(.str (s "faults") 386), (.str (s "Pages.faults") 387), (.str (s "/claim/cut.py") 388), (.int 135 0), (.int 1 0), (.int 0 0), (.int 0 0), (.int 3 0), (.ref 176), (.bool true), (.int 181 0), (.ref 177), .none, .none, .none, (.ref 178), (.int 389 0), (.int 135 0), (.str (s "/claim/cut.py") 390)]), #[]⟩),
  (180, ⟨(.type "function"), none, (.func ⟨(s "faults"), (s "Pages.faults"), (fp (sub 6 16)).1, .stmts (fp (sub 6 16)).2.1, (fp (sub 6 16)).2.2, 3, [], .none, .none, .none, (.str (s "leafstore.pages") 240), none, (.ref 179), .none, 0⟩), #[]⟩),
  (181, ⟨(.type "tuple"), none, (.seq #[] 0), #[]⟩),
  (184, ⟨(.type "code"), none, (.fields #[(.str (s "dump") 392), (.str (s "Pages.dump") 393), (.str (s "/claim/cut.py") 394), (.int 143 0), (.int 1 0), (.int 0 0), (.int 0 0), (.int 3 0), (.ref 181), (.bool true), (.int 181 0), (.ref 182), .none, .none, .none, (.ref 183), (.int 395 0), (.int 143 0), (.str (s "/claim/cut.py") 396)]), #[]⟩),
  (185, ⟨(.type "function"), none, (.func ⟨(s "dump"), (s "Pages.dump"), (fp (sub 6 17)).1, .stmts (fp (sub 6 17)).2.1, (fp (sub 6 17)).2.2, 3, [], .none, .none, .none, (.str (s "leafstore.pages") 240), none, (.ref 184), .none, 0⟩), #[]⟩),
  (186, ⟨(.type "tuple"), none, (.seq #[] 0), #[]⟩),
  (188, ⟨(.type "tuple"), none, (.seq #[(.str (s "self") 401), (.str (s "slots") 402), (.str (s "free") 403)] 0), #[]⟩),
  (189, ⟨(.type "tuple"), none, (.seq #[] 0), #[]⟩),
  (191, ⟨(.type "code"), none, (.fields #[(.str (s "restore") 398), (.str (s "Pages.restore") 399), (.str (s "/claim/cut.py") 400), (.int 146 0), (.int 3 0), (.int 0 0), (.int 0 0), (.int 3 0), (.ref 186), (.bool true), (.int 181 0), (.ref 187), .none, (.ref 188), (.ref 189), (.ref 190), (.int 404 0), (.int 146 0), (.str (s "/claim/cut.py") 405)]), #[]⟩),
  (192, ⟨(.type "function"), none, (.func ⟨(s "restore"), (s "Pages.restore"), (fp (sub 6 18)).1, .stmts (fp (sub 6 18)).2.1, (fp (sub 6 18)).2.2, 3, [], .none, .none, .none, (.str (s "leafstore.pages") 240), none, (.ref 191), .none, 0⟩), #[]⟩),
  (193, ⟨(.type "tuple"), none, (.seq #[(.str (s "_free") 407), (.str (s "_journal") 408), (.str (s "_old_free") 409), (.str (s "_old_length") 410), (.str (s "_slots") 411), (.str (s "reads") 412), (.str (s "writes") 413)] 0), #[]⟩),
  (194, ⟨(.type "dict"), none, (.dict #[de P "__module__" 258 (.str (s "leafstore.pages") 240), de P "__firstlineno__" 262 (.int 25 261), de P "__init__" 269 (.ref 74), de P "add" 278 (.ref 81), de P "_check" 286 (.ref 88), de P "read" 294 (.ref 95), de P "write" 303 (.ref 102), de P "change" 311 (.ref 109), de P "drop" 319 (.ref 116), de P "numbers" 325 (.ref 121), de P "count" 332 (.ref 128), de P "free_count" 339 (.ref 135), de P "_note" 348 (.ref 142), de P "begin" 355 (.ref 149), de P "begun" 362 (.ref 156), de P "commit" 370 (.ref 163), de P "rollback" 379 (.ref 170), de P "trim" 385 (.ref 175), de P "faults" 391 (.ref 180), de P "dump" 397 (.ref 185), de P "restore" 406 (.ref 192), de P "__static_attributes__" 414 (.ref 193), de P "__dict__" 416 (.ref 196), de P "__weakref__" 418 (.ref 197), de P "__doc__" 419 .none] 4), #[]⟩),
  (195, ⟨(.type "type"), none, (.cls ⟨(s "Pages"), [(.type "object")], [(.ref 195), (.type "object")], 194, (s "Pages"), true, [], [], false, none, false⟩), #[none, none, (some (.str (s "Pages") 251)), (some (.str (s "Pages") 259)), (some (.builtin "object.__new__")), (some (.bool true))]⟩),
  (196, ⟨(.type "getset_descriptor"), none, (.fields #[(.str (s "__dict__") 415), (.ref 195), (.builtin "function.__dict__"), (.builtin "function.__dict__#set")]), #[]⟩),
  (197, ⟨(.type "getset_descriptor"), none, (.fields #[(.str (s "__weakref__") 417), (.ref 195), (.builtin "ExceptionGroup.__weakref__"), .none]), #[]⟩),
  (200, ⟨(.type "tuple"), none, (.seq #[] 0), #[]⟩),
  (202, ⟨(.type "tuple"), none, (.seq #[(.str (s "ask") 427), (.str (s "out") 428)] 0), #[]⟩),
  (203, ⟨(.type "tuple"), none, (.seq #[] 0), #[]⟩),
  (205, ⟨(.type "code"), none, (.fields #[(.str (s "_law_told") 424), (.str (s "_law_told") 425), (.str (s "/claim/cut.py") 426), (.int 149 0), (.int 1 0), (.int 0 0), (.int 0 0), (.int 3 0), (.ref 200), (.bool true), (.int 181 0), (.ref 201), .none, (.ref 202), (.ref 203), (.ref 204), (.int 429 0), (.int 149 0), (.str (s "/claim/cut.py") 430)]), #[]⟩),
  (206, ⟨(.type "function"), none, (.func ⟨(s "_law_told"), (s "_law_told"), (fp (top 8)).1, .stmts (fp (top 8)).2.1, (fp (top 8)).2.2, 3, [], .none, .none, .none, (.str (s "law_ue0010_09") 422), none, (.ref 205), .none, 0⟩), #[]⟩),
  (207, ⟨(.type "tuple"), none, (.seq #[] 0), #[]⟩),
  (209, ⟨(.type "tuple"), none, (.seq #[(.str (s "pages") 435), (.str (s "number") 436), (.str (s "out") 437), (.str (s "error") 438)] 0), #[]⟩),
  (210, ⟨(.type "tuple"), none, (.seq #[] 0), #[]⟩),
  (212, ⟨(.type "code"), none, (.fields #[(.str (s "_law_bad") 432), (.str (s "_law_bad") 433), (.str (s "/claim/cut.py") 434), (.int 156 0), (.int 2 0), (.int 0 0), (.int 0 0), (.int 3 0), (.ref 207), (.bool true), (.int 181 0), (.ref 208), .none, (.ref 209), (.ref 210), (.ref 211), (.int 439 0), (.int 156 0), (.str (s "/claim/cut.py") 440)]), #[]⟩),
  (213, ⟨(.type "function"), none, (.func ⟨(s "_law_bad"), (s "_law_bad"), (fp (top 9)).1, .stmts (fp (top 9)).2.1, (fp (top 9)).2.2, 3, [], .none, .none, .none, (.str (s "law_ue0010_09") 422), none, (.ref 212), .none, 0⟩), #[]⟩),
  (214, ⟨(.type "tuple"), none, (.seq #[] 0), #[]⟩),
  (217, ⟨(.type "code"), none, (.fields #[(.str (s "law") 442), (.str (s "law") 443), (.str (s "/claim/cut.py") 444), (.int 163 0), (.int 1 0), (.int 0 0), (.int 0 0), (.int 3 0), (.ref 214), (.bool true), (.int 181 0), (.ref 215), .none, .none, .none, (.ref 216), (.int 445 0), (.int 163 0), (.str (s "/claim/cut.py") 446)]), #[]⟩),
  (218, ⟨(.type "function"), none, (.func ⟨(s "law"), (s "law"), (fp (top 10)).1, .stmts (fp (top 10)).2.1, (fp (top 10)).2.2, 3, [], .none, .none, .none, (.str (s "law_ue0010_09") 422), none, (.ref 217), .none, 0⟩), #[]⟩)]
noncomputable def adr : List Addr := [2, 3, 15, 17, 18, 20, 21, 22, 29, 30, 31, 32, 35, 42, 44, 45, 47, 48, 49, 50, 51, 54, 56, 57, 59, 60, 68, 70, 71, 73, 74, 75, 77, 78, 80, 81, 82, 84, 85, 87, 88, 89, 91, 92, 94, 95, 96, 98, 99, 101, 102, 103, 105, 106, 108, 109, 110, 112, 113, 115, 116, 117, 120, 121, 122, 124, 125, 127, 128, 129, 131, 132, 134, 135, 136, 138, 139, 141, 142, 143, 145, 146, 148, 149, 150, 152, 153, 155, 156, 157, 159, 160, 162, 163, 164, 166, 167, 169, 170, 171, 174, 175, 176, 179, 180, 181, 184, 185, 186, 188, 189, 191, 192, 193, 194, 195, 196, 197, 200, 202, 203, 205, 206, 207, 209, 210, 212, 213, 214, 217, 218]
theorem adr_ok (P : Params) : adr = (heap P).map (·.1) := by kernel_rfl
noncomputable def lawD : DefRec := ⟨s "law", (fp (top 10)).1, (fp (top 10)).2.1, (fp (top 10)).2.2, ⟨163, 0, 233, 35⟩⟩
theorem left : LeftO PySem.Challenge.rw_ue0010_09.row.prog view [] (fun s => xlAt view [] s && recOk (RowW.records PySem.Challenge.rw_ue0010_09.row.toRowW) s) (kHook heap adr adr_ok).obs (kHook heap adr adr_ok).val 2916 := by
  unfold LeftO
  intro w
  kernel_rfl
theorem said : OpenLaw.wellSaid PySem.Challenge.rw_ue0010_09 = true := by decide +kernel
theorem hd (walk : WalkO view [] (XL view []) (kHook heap adr adr_ok).says PySem.Challenge.rw_ue0010_09.row.toRowW lawD [] fun f vs => call f vs) : PySem.Challenge.rw_ue0010_09.Holds := by
  refine holds_law said fun said => ?_
  refine W.holds_open (Xt := fun s => xlAt view [] s && recOk (RowW.records PySem.Challenge.rw_ue0010_09.row.toRowW) s) (XP := XL view []) (Yf := (kHook heap adr adr_ok).obs) (Ya := (kHook heap adr adr_ok).val) (YP := (kHook heap adr adr_ok).says) (d := lawD) (kwd := []) (N := 2916) left (kHook heap adr adr_ok).of (kHook heap adr adr_ok).keeps (fun s e => xl_of s (Bool.and_eq_true_iff.mp e).1) XL.keeps (by kernel_rfl) (by kernel_rfl) (by kernel_rfl) (fun s e => recFacts_of (Bool.and_eq_true_iff.mp e).2) (by kernel_rfl) said (by decide +kernel) ⟨rfl, rfl, rfl, rfl, rfl, by decide +kernel⟩ ?hw walk
  case hw => w_witness2
end HD
end Mine
end
section
set_option autoImplicit false
set_option linter.unusedVariables false
set_option genSizeOf false
set_option genInjectivity false
namespace Mine
open PySem PySem.Calls PyProof.Rows

/-! small values -/
theorem r1 {a b c : Nat} (h : a = b) (h2 : c < b) : c < a := h ▸ h2
theorem r2 {a b m n : Nat} (h : a = b) (h2 : b < m) (hm : m ≤ n) : a < n := h ▸ Nat.lt_of_lt_of_le h2 hm
theorem r3 {a m n : Nat} (h2 : a < m) (hm : m ≤ n) : a < n := Nat.lt_of_lt_of_le h2 hm
theorem r4 {a m n : Nat} (h2 : a < m) (hm : m ≤ n + 1) : a ≤ n := Nat.le_of_lt_succ (Nat.lt_of_lt_of_le h2 hm)
theorem r5 {a k m n : Nat} (h : a ≤ k) (hk : k < m) (hm : m ≤ n) : a < n := Nat.lt_of_le_of_lt h (Nat.lt_of_lt_of_le hk hm)
theorem r6 {a k j m n : Nat} (h : a ≤ k + j) (hk : k < m) (hm : m + j ≤ n) : a < n := Nat.lt_of_le_of_lt h (Nat.lt_of_lt_of_le (Nat.add_lt_add_right hk j) hm)
theorem r7 {a m n : Nat} (h : a < m) (hm : m ≤ n) : (a : Int).natAbs < n := Nat.lt_of_lt_of_le h hm
theorem r8 {a b m n : Nat} (h : a = b) (h2 : b < m) (hm : m ≤ n) : (a : Int).natAbs < n := h ▸ Nat.lt_of_lt_of_le h2 hm
theorem r9 {a b j : Nat} (h : a = b) : ((a : Int) - (j : Int)).toNat = b - j := by subst h; omega
theorem r10 {a b : Nat} (h : a = b) : ((a : Int) - 1).toNat = b - 1 := r9 (j := 1) h
theorem r11 {a b : Nat} (h : a = b) : ((a : Int) - 0).toNat = b - 0 := r9 (j := 0) h
theorem r12 {a b m n : Nat} (h : a = b) (h2 : b < m) (hm : m ≤ n + 1) : a ≤ n := h ▸ r4 h2 hm
theorem r13 {a b i : Nat} (h : a = b) (h2 : i < ((a : Int) - 1).toNat) : 1 + i < b := by subst h; omega
theorem r14 {a b n m j k : Nat} (h : a + b = n - j) (h2 : n < m) (hm : m ≤ k) : a ≤ k := by omega
inductive MVal where
  | none
  | bool (b : Bool)
  | int (i : Int)
  | str (s : Str)
  | ty (n : String)
  | bi (id : String)
  | ref (a : Addr)
  | meth (f self : Addr)
  | rng (lo hi : Int)
  | tup (vs : List MVal)
  | ro (a : Addr)

/-- no list, tuple or dict of the call's own grows beyond this -/
noncomputable abbrev BIG : Nat := 4194304

mutual
noncomputable def VR (h : Heap) : MVal → Value → Prop
  | .none, v => v = .none
  | .bool b, v => v = .bool b
  | .int i, v => ∃ t, v = .int i t
  | .str x, v => ∃ t, v = .str x t
  | .ty n, v => v = .type n
  | .bi i, v => v = .builtin i
  | .ref a, v => v = .ref a
  | .meth f q, v => ∃ a, v = .ref a ∧ h.get? a = some ⟨.type "method", none, .fields #[.ref f, .ref q], #[]⟩
  | .rng lo hi, v => ∃ a t u x, v = .ref a ∧ (lo.natAbs < 2 ^ 60 ∧ hi.natAbs < 2 ^ 60) ∧ h.get? a = some ⟨.type "range", none, .fields #[.int lo t, .int hi u, .int 1 x], #[]⟩
  | .tup ms, v => ∃ a vs n, v = .ref a ∧ vs.size ≤ BIG ∧ h.get? a = some ⟨.type "tuple", none, .seq vs n, #[]⟩ ∧ VRs h ms vs.toList
  | .ro a, v => v = .ref a
noncomputable def VRs (h : Heap) : List MVal → List Value → Prop
  | [], vs => vs = []
  | m :: ms, vs => ∃ v r, vs = v :: r ∧ VR h m v ∧ VRs h ms r
end

inductive MObj where
  | list (xs : List MVal)
  | dict (ep : Nat) (es : List (Int × MVal))
  | set (xs : List Int)
  | inst (C dx : Addr)
  | ns (fs : List (Str × MVal))
  | exc (C : Addr) (dx : Option Addr)

noncomputable abbrev Tag := Nat × Nat
noncomputable abbrev MH := Addr → Option (Tag × MObj)

noncomputable def upd (H : MH) (a : Addr) (t : Tag) (o : MObj) : MH := fun b => if b = a then some (t, o) else H b
theorem upd_same (H : MH) (a : Addr) (t : Tag) (o : MObj) : upd H a t o a = some (t, o) := if_pos rfl
theorem upd_ne (H : MH) {a b : Addr} (t : Tag) (o : MObj) (h : b ≠ a) : upd H a t o b = H b := if_neg h

noncomputable def NsR (h : Heap) (P : Params) : List (Str × MVal) → List DictEntry → Prop
  | [], es => es = []
  | (n, m) :: fs, es => ∃ e r, es = e :: r ∧ (∃ t, e.key = .str n t) ∧ e.hash = PyData.keyHash P n ∧ VR h m e.val ∧ NsR h P fs r

noncomputable def DictR (h : Heap) : List (Int × MVal) → List DictEntry → Prop
  | [], es => es = []
  | (k, m) :: fs, es => ∃ e r, es = e :: r ∧ (∃ t, e.key = .int k t) ∧ e.hash = hashInt k ∧ VR h m e.val ∧ DictR h fs r

noncomputable def SetR (P : Params) (xs : List Int) (o : Obj) : Prop :=
  ∃ es ep t, o = ⟨.type "set", none, .set es ep t, #[]⟩ ∧ (∀ e ∈ es.toList, (∃ k, Value.isInt k e.2 = true ∧ e.1 = hashInt k) ∧ e.2.scannable = true) ∧
    (∀ k, k ∈ xs ↔ ∃ e ∈ es.toList, Value.isInt k e.2 = true) ∧ es.size < scanBound ∧ t.fits es.size = true ∧ es.size = xs.length ∧
    t.place.toList.Pairwise (· < ·) ∧ t.dummies = #[] ∧ (P.followText "set-order" = true ∨ t.led = true) ∧ xs.Nodup

/-- what an exception object looks like: its fields, and a traceback that is a traceback -/
noncomputable def ExcOk (h₀ h : Heap) (C : Addr) (dx : Option Addr) (o : Obj) : Prop :=
  ∃ vs, o = ⟨.ref C, dx, .fields vs, #[]⟩ ∧ 5 ≤ vs.size ∧
    (vs[1]? = some .none ∨ ∃ T d ts tsl, vs[1]? = some (.ref T) ∧ h₀.get? T = none ∧ h.get? T = some ⟨.type "traceback", d, .fields ts, tsl⟩ ∧ 4 ≤ ts.size)

noncomputable def OR (h₀ : Heap) (P : Params) (h : Heap) : MObj → Obj → Prop
  | .list xs, o => ∃ vs n, o = ⟨.type "list", none, .seq vs n, #[]⟩ ∧ vs.size ≤ BIG ∧ VRs h xs vs.toList
  | .dict n es, o => ∃ rs, o = ⟨.type "dict", none, .dict rs n, #[]⟩ ∧ rs.size ≤ BIG ∧ DictR h es rs.toList ∧ (es.map (·.1)).Nodup
  | .set xs, o => SetR P xs o
  | .inst C dx, o => o = ⟨.ref C, some dx, .plain, #[]⟩
  | .ns fs, o => ∃ rs n, o = ⟨.type "dict", none, .dict rs n, #[]⟩ ∧ NsR h P fs rs.toList
  | .exc C dx, o => ExcOk h₀ h C dx o

/-- the classes of objects that small values or frames lean on -/
noncomputable def softCls (v : Value) : Prop := v = .type "tuple" ∨ v = .type "method" ∨ v = .type "range" ∨ v = .type "traceback" ∨ v = .type "frame"

theorem OR.hard {h₀ : Heap} {P : Params} {h : Heap} {o : MObj} {ob : Obj} (x : OR h₀ P h o ob) : ¬ softCls ob.cls := by
  cases o with
  | list xs => obtain ⟨vs, n, rfl, _⟩ := x; simp [softCls]
  | dict n es => obtain ⟨vs, rfl, _⟩ := x; simp [softCls]
  | set xs => obtain ⟨es, ep, t, rfl, _⟩ := x; simp [softCls]
  | inst C dx => simp only [OR] at x; subst x; simp [softCls]
  | ns fs => obtain ⟨vs, n, rfl, _⟩ := x; simp [softCls]
  | exc C dx => obtain ⟨vs, rfl, _⟩ := x; simp [softCls]

structure Soft (h h' : Heap) : Prop where
  imm : ∀ a o, h.get? a = some o → (o.cls = .type "tuple" ∨ o.cls = .type "method" ∨ o.cls = .type "range") → h'.get? a = some o
  tb : ∀ a d ts sl, h.get? a = some ⟨.type "traceback", d, .fields ts, sl⟩ → ∃ ts', h'.get? a = some ⟨.type "traceback", d, .fields ts', sl⟩ ∧ ts'.size = ts.size
  fr : ∀ a o, h.get? a = some o → o.cls = .type "frame" → (∃ es n, o.data = .dict es n) → ∃ o', h'.get? a = some o' ∧ o'.cls = .type "frame" ∧ ∃ es n, o'.data = .dict es n

theorem Soft.of_keep {h h' : Heap} (k : ∀ b o, h.get? b = some o → h'.get? b = some o) : Soft h h' :=
  ⟨fun a o e _ => k a o e, fun a d ts sl e => ⟨ts, k _ _ e, rfl⟩, fun a o e c d => ⟨o, k a o e, c, d⟩⟩
theorem Soft.refl (h : Heap) : Soft h h := .of_keep fun _ _ e => e
theorem Soft.trans {h₁ h₂ h₃ : Heap} (x : Soft h₁ h₂) (y : Soft h₂ h₃) : Soft h₁ h₃ :=
  ⟨fun a o e c => y.imm a o (x.imm a o e c) c,
   fun a d ts sl e => let ⟨ts', e', z⟩ := x.tb a d ts sl e; let ⟨ts'', e'', z'⟩ := y.tb a d ts' sl e'; ⟨ts'', e'', z'.trans z⟩,
   fun a o e c d => let ⟨o', e', c', d'⟩ := x.fr a o e c d; y.fr a o' e' c' d'⟩
theorem Soft.of_but {h h' : Heap} {a : Addr} (k : Heap.ExtBut a h h') (n : ∀ o, h.get? a = some o → ¬ softCls o.cls) : Soft h h' := by
  refine ⟨fun b o e c => k b o (fun q => ?_) e, fun b d ts sl e => ⟨ts, k b _ (fun q => ?_) e, rfl⟩, fun b o e c d => ⟨o, k b o (fun q => ?_) e, c, d⟩⟩
  · subst q; exact n o e (by rcases c with c | c | c <;> simp [softCls, c])
  · subst q; exact n _ e (by simp [softCls])
  · subst q; exact n o e (by simp [softCls, c])

mutual
theorem VR.soft {h h' : Heap} (x : Soft h h') : ∀ {m : MVal} {v : Value}, VR h m v → VR h' m v
  | .none, _, y => y
  | .bool _, _, y => y
  | .int _, _, y => y
  | .str _, _, y => y
  | .ty _, _, y => y
  | .bi _, _, y => y
  | .ref _, _, y => y
  | .ro _, _, y => y
  | .meth _ _, _, y => by
    simp only [VR] at y ⊢
    obtain ⟨a, e, g⟩ := y
    exact ⟨a, e, x.imm _ _ g (.inr (.inl rfl))⟩
  | .rng _ _, _, y => by
    simp only [VR] at y ⊢
    obtain ⟨a, t, u, z, e, b, g⟩ := y
    exact ⟨a, t, u, z, e, b, x.imm _ _ g (.inr (.inr rfl))⟩
  | .tup ms, _, y => by
    simp only [VR] at y ⊢
    obtain ⟨a, vs, n, e, z, g, r⟩ := y
    exact ⟨a, vs, n, e, z, x.imm _ _ g (.inl rfl), VRs.soft x r⟩
theorem VRs.soft {h h' : Heap} (x : Soft h h') : ∀ {ms : List MVal} {vs : List Value}, VRs h ms vs → VRs h' ms vs
  | [], _, y => by simp only [VRs] at y ⊢; exact y
  | m :: ms, _, y => by
    simp only [VRs] at y ⊢
    obtain ⟨v, r, e, p, q⟩ := y
    exact ⟨v, r, e, VR.soft x p, VRs.soft x q⟩
end
theorem NsR.soft {h h' : Heap} {P : Params} (x : Soft h h') : ∀ {fs : List (Str × MVal)} {es : List DictEntry}, NsR h P fs es → NsR h' P fs es
  | [], _, y => y
  | (_, _) :: _, _, y => let ⟨e, r, a, b, c, d, f⟩ := y; ⟨e, r, a, b, c, d.soft x, f.soft x⟩
theorem DictR.soft {h h' : Heap} (x : Soft h h') : ∀ {fs : List (Int × MVal)} {es : List DictEntry}, DictR h fs es → DictR h' fs es
  | [], _, y => y
  | (_, _) :: _, _, y => let ⟨e, r, a, b, c, d, f⟩ := y; ⟨e, r, a, b, c, d.soft x, f.soft x⟩
theorem ExcOk.soft {h₀ h h' : Heap} (x : Soft h h') {C : Addr} {dx : Option Addr} {o : Obj} (y : ExcOk h₀ h C dx o) : ExcOk h₀ h' C dx o := by
  obtain ⟨vs, rfl, hz, y⟩ := y
  refine ⟨vs, rfl, hz, y.imp id fun ⟨T, d, ts, tsl, a, b, c, e⟩ => ?_⟩
  obtain ⟨ts', c', z⟩ := x.tb _ _ _ _ c
  exact ⟨T, d, ts', tsl, a, b, c', by omega⟩
theorem OR.soft {h₀ : Heap} {P : Params} {h h' : Heap} (x : Soft h h') {o : MObj} {ob : Obj} (y : OR h₀ P h o ob) : OR h₀ P h' o ob := by
  cases o with
  | list xs => obtain ⟨vs, n, e, z, r⟩ := y; exact ⟨vs, n, e, z, r.soft x⟩
  | dict n es => obtain ⟨vs, e, z, r, w⟩ := y; exact ⟨vs, e, z, r.soft x, w⟩
  | set xs => exact y
  | inst C dx => exact y
  | ns fs => obtain ⟨vs, n, e, r⟩ := y; exact ⟨vs, n, e, r.soft x⟩
  | exc C dx => exact ExcOk.soft x y

/-- the dynamic state: what the base holds stays; the frames stand; the tracked objects are as the small heap says -/
structure Dyn (h₀ : Heap) (P : Params) (fr : List Env) (H : MH) (s : Shared) : Prop where
  keep : h₀.StaysIn s.heap
  ff : ∀ env ∈ fr, env.scope.kind = .function ∧ ∃ L o, env.frame = some L ∧ h₀.get? L = none ∧ H L = none ∧ s.heap.get? L = some o ∧ o.cls = .type "frame" ∧ ∃ es n, o.data = .dict es n
  obj : ∀ a t o, H a = some (t, o) → h₀.get? a = none ∧ ∃ ob, s.heap.get? a = some ob ∧ OR h₀ P s.heap o ob

structure Ext (X : Addr → Prop) (H : MH) (s : Shared) (H' : MH) (s' : Shared) : Prop where
  old : ∀ a o, s.heap.get? a = some o → H a = none → ¬ X a → o.cls ≠ .type "traceback" → o.cls ≠ .type "frame" → s'.heap.get? a = some o
  frm : ∀ a o, s.heap.get? a = some o → H a = none → ¬ X a → o.cls = .type "frame" → ∃ sl, s'.heap.get? a = some { o with slots := sl }
  soft : Soft s.heap s'.heap
  alive : ∀ a, ¬ X a → s.heap.get? a ≠ none → s'.heap.get? a ≠ none
  dom : ∀ a, H a ≠ none → H' a ≠ none
  new : ∀ a, H a = none → H' a ≠ none → s.heap.get? a = none
  xno : ∀ a, X a → H' a = none
  gens : ∃ l : List GenState, s'.gens.toList = s.gens.toList ++ l ∧ ∀ g ∈ l, g = .finished
  os : s'.os = s.os

noncomputable def noX : Addr → Prop := fun _ => False

theorem Ext.refl {X : Addr → Prop} (H : MH) (s : Shared) (hx : ∀ a, X a → H a = none) : Ext X H s H s :=
  ⟨fun _ _ e _ _ _ _ => e, fun _ o e _ _ _ => ⟨o.slots, e⟩, .refl _, fun _ _ h => h, fun _ h => h, fun _ h h' => absurd h h', hx, ⟨[], by simp, fun _ h => (by cases h)⟩, rfl⟩
theorem Ext.rfl0 (H : MH) (s : Shared) : Ext noX H s H s := .refl H s fun _ z => z.elim
theorem Ext.un {X : Addr → Prop} {H H' : MH} {s s' : Shared} (x : Ext X H s H' s') {a : Addr} (e : s.heap.get? a ≠ none) (n : H a = none) : H' a = none := by
  cases q : H' a with
  | none => rfl
  | some z => exact absurd (x.new a n (by simp [q])) e
theorem Ext.trans {X : Addr → Prop} {H₁ H₂ H₃ : MH} {s₁ s₂ s₃ : Shared} (x : Ext X H₁ s₁ H₂ s₂) (y : Ext X H₂ s₂ H₃ s₃) : Ext X H₁ s₁ H₃ s₃ := by
  have un : ∀ a o, s₁.heap.get? a = some o → H₁ a = none → H₂ a = none := fun a o e n => x.un (by rw [e]; simp) n
  refine ⟨fun a o e n nx c1 c2 => y.old a o (x.old a o e n nx c1 c2) (un a o e n) nx c1 c2, fun a o e n nx c => ?_, x.soft.trans y.soft, fun a nx h => y.alive a nx (x.alive a nx h), fun a h => y.dom a (x.dom a h), fun a h h' => ?_, y.xno, ?_, y.os.trans x.os⟩
  · obtain ⟨sl, e'⟩ := x.frm a o e n nx c
    obtain ⟨sl', e''⟩ := y.frm a _ e' (un a o e n) nx c
    exact ⟨sl', e''⟩
  · cases q : H₂ a with
    | some z => exact x.new a h (by simp [q])
    | none =>
      have z := y.new a q h'
      cases e : s₁.heap.get? a with
      | none => rfl
      | some o => exact absurd z (x.alive a (fun hX => h' (y.xno a hX)) (by rw [e]; simp))
  · obtain ⟨l, e, f⟩ := x.gens
    obtain ⟨l', e', f'⟩ := y.gens
    exact ⟨l ++ l', by rw [e', e, List.append_assoc], fun g hg => (List.mem_append.mp hg).elim (f g) (f' g)⟩
theorem Ext.weaken {X : Addr → Prop} {H H' : MH} {s s' : Shared} (x : Ext noX H s H' s') (h : ∀ a, X a → H a = none ∧ s.heap.get? a ≠ none) : Ext X H s H' s' :=
  ⟨fun a o e n nx => x.old a o e n fun q => q, fun a o e n nx => x.frm a o e n fun q => q, x.soft, fun a _ => x.alive a fun q => q, x.dom, x.new, fun a q => x.un (h a q).2 (h a q).1, x.gens, x.os⟩
theorem Ext.widen {X Y : Addr → Prop} {H H' : MH} {s s' : Shared} (x : Ext X H s H' s') (h : ∀ a, X a → Y a) (h2 : ∀ a, Y a → H' a = none) : Ext Y H s H' s' :=
  ⟨fun a o e n nx => x.old a o e n fun q => nx (h a q), fun a o e n nx => x.frm a o e n fun q => nx (h a q), x.soft, fun a nx => x.alive a fun q => nx (h a q), x.dom, x.new, h2, x.gens, x.os⟩
/-- exempted places that were not alive before count for nothing -/
theorem Ext.drop {X Y : Addr → Prop} {H H' : MH} {s s' : Shared} (x : Ext X H s H' s') (h : ∀ a, X a → ¬ Y a → s.heap.get? a = none) (hy : ∀ a, Y a → H' a = none) : Ext Y H s H' s' :=
  ⟨fun a o e n nx => x.old a o e n fun q => (by rw [h a q nx] at e; cases e), fun a o e n nx => x.frm a o e n fun q => (by rw [h a q nx] at e; cases e), x.soft, fun a nx e => x.alive a (fun q => e (h a q nx)) e, x.dom, x.new, hy, x.gens, x.os⟩
theorem Ext.drop0 {X : Addr → Prop} {H H' : MH} {s s' : Shared} (x : Ext X H s H' s') (h : ∀ a, X a → s.heap.get? a = none) : Ext noX H s H' s' := x.drop (fun a q _ => h a q) fun _ z => z.elim

theorem Ext.of_keep {H : MH} {s s' : Shared} (k : ∀ b o, s.heap.get? b = some o → s'.heap.get? b = some o) (hg : s'.gens = s.gens := by rfl) (ho : s'.os = s.os := by rfl) : Ext noX H s H s' :=
  ⟨fun a o e _ _ _ _ => k a o e, fun a o e _ _ _ => ⟨o.slots, k a o e⟩, .of_keep k, fun a _ h => (by cases e : s.heap.get? a with | none => exact absurd e h | some o => rw [k a o e]; simp),
    fun _ h => h, fun _ h h' => absurd h h', fun _ z => z.elim, ⟨[], by simp [hg], fun _ h => (by cases h)⟩, ho⟩

section
variable {h₀ : Heap} {P : Params} {fr : List Env} {H : MH} {s s' : Shared} {X : Addr → Prop}

theorem Dyn.of_keep (x : Dyn h₀ P fr H s) (k : ∀ b o, s.heap.get? b = some o → s'.heap.get? b = some o) : Dyn h₀ P fr H s' := by
  refine ⟨fun b o e => k b o (x.keep b o e), fun env he => ?_, fun a t o e => ?_⟩
  · obtain ⟨a, L, o, b, c, d, e, f⟩ := x.ff env he
    exact ⟨a, L, o, b, c, d, k _ _ e, f⟩
  · obtain ⟨a1, ob, b1, c1⟩ := x.obj a t o e
    exact ⟨a1, ob, k _ _ b1, c1.soft (.of_keep k)⟩

/-- a tracked object is changed -/
theorem Dyn.put {a : Addr} {t t' : Tag} {o o' : MObj} {ob' : Obj} (x : Dyn h₀ P fr H s) (ha : H a = some (t, o)) (k : Heap.ExtBut a s.heap s'.heap) (e' : s'.heap.get? a = some ob') (r : Soft s.heap s'.heap → OR h₀ P s'.heap o' ob')
    (hg : s'.gens = s.gens := by rfl) (ho : s'.os = s.os := by rfl) : Dyn h₀ P fr (upd H a t' o') s' ∧ Ext noX H s (upd H a t' o') s' := by
  obtain ⟨n₀, ob, e, rr⟩ := x.obj a t o ha
  have sf : Soft s.heap s'.heap := .of_but k fun o2 q => by rw [e] at q; cases q; exact rr.hard
  refine ⟨⟨fun b o2 q => k b o2 (fun z => by subst z; rw [n₀] at q; cases q) (x.keep b o2 q), fun env he => ?_, fun b t2 o2 q => ?_⟩, ?_⟩
  · obtain ⟨hk, L, oL, b1, c1, d1, e1, f1⟩ := x.ff env he
    have ne : L ≠ a := fun z => by subst z; rw [ha] at d1; cases d1
    exact ⟨hk, L, oL, b1, c1, (upd_ne H t' o' ne).trans d1, k _ _ ne e1, f1⟩
  · by_cases z : b = a
    · subst z; rw [upd_same] at q; cases q; exact ⟨n₀, ob', e', r sf⟩
    · rw [upd_ne H t' o' z] at q
      obtain ⟨a1, ob2, b1, c1⟩ := x.obj b t2 o2 q
      exact ⟨a1, ob2, k _ _ z b1, c1.soft sf⟩
  · have ne : ∀ b, H b = none → b ≠ a := fun b n z => by subst z; rw [ha] at n; cases n
    refine ⟨fun b o2 q n _ _ _ => k b o2 (ne b n) q, fun b o2 q n _ _ => ⟨o2.slots, k b o2 (ne b n) q⟩, sf, fun b _ h => ?_, fun b h => ?_, fun b h h' => ?_, fun _ z => z.elim, ⟨[], by simp [hg], fun _ h => (by cases h)⟩, ho⟩
    · by_cases z : b = a
      · subst z; rw [e']; simp
      · cases q : s.heap.get? b with
        | none => exact absurd q h
        | some o2 => rw [k b o2 z q]; simp
    · by_cases z : b = a
      · subst z; rw [upd_same]; simp
      · rw [upd_ne H t' o' z]; exact h
    · rw [upd_ne H t' o' (ne b h)] at h'; exact absurd h h'

/-- a new object is tracked -/
theorem Dyn.new {a : Addr} {t' : Tag} {o' : MObj} {ob' : Obj} (x : Dyn h₀ P fr H s) (ha : s.heap.get? a = none) (k : ∀ b o, s.heap.get? b = some o → s'.heap.get? b = some o) (e' : s'.heap.get? a = some ob') (r : Soft s.heap s'.heap → OR h₀ P s'.heap o' ob')
    (hg : s'.gens = s.gens := by rfl) (ho : s'.os = s.os := by rfl) : H a = none ∧ Dyn h₀ P fr (upd H a t' o') s' ∧ Ext noX H s (upd H a t' o') s' := by
  have hn : H a = none := by
    cases q : H a with
    | none => rfl
    | some z => obtain ⟨t, o⟩ := z; obtain ⟨_, ob, e, _⟩ := x.obj a t o q; rw [ha] at e; cases e
  have n₀ : h₀.get? a = none := by
    cases q : h₀.get? a with
    | none => rfl
    | some z => have := x.keep _ _ q; rw [ha] at this; cases this
  have sf : Soft s.heap s'.heap := .of_keep k
  refine ⟨hn, ⟨fun b o2 q => k b o2 (x.keep b o2 q), fun env he => ?_, fun b t2 o2 q => ?_⟩, ?_⟩
  · obtain ⟨hk, L, oL, b1, c1, d1, e1, f1⟩ := x.ff env he
    have ne : L ≠ a := fun z => by subst z; rw [ha] at e1; cases e1
    exact ⟨hk, L, oL, b1, c1, (upd_ne H t' o' ne).trans d1, k _ _ e1, f1⟩
  · by_cases z : b = a
    · subst z; rw [upd_same] at q; cases q; exact ⟨n₀, ob', e', r sf⟩
    · rw [upd_ne H t' o' z] at q
      obtain ⟨a1, ob2, b1, c1⟩ := x.obj b t2 o2 q
      exact ⟨a1, ob2, k _ _ b1, c1.soft sf⟩
  · refine ⟨fun b o2 q _ _ _ _ => k b o2 q, fun b o2 q _ _ _ => ⟨o2.slots, k b o2 q⟩, sf, fun b _ h => ?_, fun b h => ?_, fun b h h' => ?_, fun _ z => z.elim, ⟨[], by simp [hg], fun _ h => (by cases h)⟩, ho⟩
    · cases q : s.heap.get? b with
      | none => exact absurd q h
      | some o2 => rw [k b o2 q]; simp
    · by_cases z : b = a
      · subst z; rw [upd_same]; simp
      · rw [upd_ne H t' o' z]; exact h
    · by_cases z : b = a
      · subst z; exact ha
      · rw [upd_ne H t' o' z] at h'; exact absurd h h'

/-- an untracked object of the frame (its locals, a cell) is changed -/
theorem Dyn.own {a : Addr} {o o' : Obj} (x : Dyn h₀ P fr H s) (k : Heap.ExtBut a s.heap s'.heap) (hX : X a) (ha : H a = none) (n₀ : h₀.get? a = none) (e : s.heap.get? a = some o) (e' : s'.heap.get? a = some o')
    (hc : o'.cls = o.cls) (hs : ¬ softCls o.cls ∨ (o.cls = .type "frame" ∧ ∃ es n, o'.data = .dict es n)) (hx : ∀ a, X a → H a = none) (hg : s'.gens = s.gens := by rfl) (ho : s'.os = s.os := by rfl) : Dyn h₀ P fr H s' ∧ Ext X H s H s' := by
  have sf : Soft s.heap s'.heap := by
    refine ⟨fun b o2 q c => k b o2 (fun z => ?_) q, fun b d ts sl q => ⟨ts, k b _ (fun z => ?_) q, rfl⟩, fun b o2 q c d => ?_⟩
    · subst z; rw [e] at q; cases q
      rcases hs with hs | hs
      · exact hs (by rcases c with c | c | c <;> simp [softCls, c])
      · rw [hs.1] at c; simp at c
    · subst z; rw [e] at q; cases q
      rcases hs with hs | hs
      · exact hs (by simp [softCls])
      · simp at hs
    · by_cases z : b = a
      · subst z; rw [e] at q; cases q
        rcases hs with hs | hs
        · exact absurd (by simp [softCls, c]) hs
        · exact ⟨o', e', hc.trans c, hs.2⟩
      · exact ⟨o2, k b o2 z q, c, d⟩
  refine ⟨⟨fun b o2 q => k b o2 (fun z => by subst z; rw [n₀] at q; cases q) (x.keep b o2 q), fun env he => ?_, fun b t2 o2 q => ?_⟩, ?_⟩
  · obtain ⟨hk, L, oL, b1, c1, d1, e1, f1, f2⟩ := x.ff env he
    obtain ⟨oL', g1, g2, g3⟩ := sf.fr L oL e1 f1 f2
    exact ⟨hk, L, oL', b1, c1, d1, g1, g2, g3⟩
  · obtain ⟨a1, ob2, b1, c1⟩ := x.obj b t2 o2 q
    exact ⟨a1, ob2, k _ _ (fun z => by subst z; rw [ha] at q; cases q) b1, c1.soft sf⟩
  · refine ⟨fun b o2 q n nx _ _ => k b o2 (fun z => nx (z ▸ hX)) q, fun b o2 q n nx _ => ⟨o2.slots, k b o2 (fun z => nx (z ▸ hX)) q⟩, sf, fun b _ h => ?_, fun _ h => h, fun _ h h' => absurd h h', hx, ⟨[], by simp [hg], fun _ h => (by cases h)⟩, ho⟩
    by_cases z : b = a
    · subst z; rw [e']; simp
    · cases q : s.heap.get? b with
      | none => exact absurd q h
      | some o2 => rw [k b o2 z q]; simp

end

end Mine
end
section
set_option autoImplicit false
set_option linter.unusedVariables false
set_option linter.unusedSimpArgs false
set_option genSizeOf false
set_option genInjectivity false
namespace Mine
open PySem

/-- a set's table: its places rise, none was given up -/
structure TabOK (t : SetTable) : Prop where
  up : t.place.toList.Pairwise (· < ·)
  dm : t.dummies = #[]

theorem below_go (xs : Array Nat) (j : Nat) (up : xs.toList.Pairwise (· < ·)) : ∀ (fuel lo hi : Nat), hi - lo ≤ fuel → lo ≤ hi → hi ≤ xs.size → (∀ (i x : Nat), xs[i]? = some x → i < lo → x < j) → (∀ (i x : Nat), xs[i]? = some x → hi ≤ i → j ≤ x) →
    (∀ (i x : Nat), xs[i]? = some x → i < SetTable.below.go xs j fuel lo hi → x < j) ∧ (∀ (i x : Nat), xs[i]? = some x → SetTable.below.go xs j fuel lo hi ≤ i → j ≤ x) ∧ SetTable.below.go xs j fuel lo hi ≤ xs.size
  | 0, lo, hi, hf, hl, hh, a, b => by
    have : lo = hi := by omega
    subst this
    exact ⟨a, b, hh⟩
  | fuel + 1, lo, hi, hf, hl, hh, a, b => by
    unfold SetTable.below.go
    by_cases h : lo < hi
    · rw [if_pos h]
      dsimp only
      have hm : (lo + hi) / 2 < hi := by omega
      have hm2 : lo ≤ (lo + hi) / 2 := by omega
      have hs : (lo + hi) / 2 < xs.size := by omega
      have mono : ∀ (i k x y : Nat), xs[i]? = some x → xs[k]? = some y → i < k → x < y := by
        intro i k x y hx hy hik
        have hk : k < xs.toList.length := by
          rcases Nat.lt_or_ge k xs.size with h | h
          · simpa using h
          · rw [Array.getElem?_eq_none h] at hy; cases hy
        have hi' : i < xs.toList.length := by omega
        have := List.pairwise_iff_getElem.mp up i k hi' hk hik
        simp at hi' hk
        rw [Array.getElem?_eq_getElem hi'] at hx
        rw [Array.getElem?_eq_getElem hk] at hy
        cases hx; cases hy
        simpa using this
      have hg : xs.getD ((lo + hi) / 2) j = xs[(lo + hi) / 2] := by simp [Array.getD, hs]
      have hmid : xs[(lo + hi) / 2]? = some xs[(lo + hi) / 2] := Array.getElem?_eq_getElem hs
      by_cases hc : xs.getD ((lo + hi) / 2) j < j
      · rw [if_pos hc]
        refine below_go xs j up fuel _ hi (by omega) (by omega) hh (fun i x hx hlo => ?_) b
        rcases Nat.lt_or_ge i ((lo + hi) / 2) with h | h
        · have := mono i _ x _ hx hmid h
          rw [hg] at hc; omega
        · have : i = (lo + hi) / 2 := by omega
          subst this; rw [hmid] at hx; cases hx; rw [hg] at hc; exact hc
      · rw [if_neg hc]
        refine below_go xs j up fuel lo _ (by omega) (by omega) (by omega) a (fun i x hx hlo => ?_)
        rcases Nat.lt_or_ge ((lo + hi) / 2) i with h | h
        · have := mono _ i _ x hmid hx h
          rw [hg] at hc; omega
        · have : i = (lo + hi) / 2 := by omega
          subst this; rw [hmid] at hx; cases hx; rw [hg] at hc; omega
    · rw [if_neg h]
      have : lo = hi := by omega
      subst this
      exact ⟨a, b, hh⟩
theorem below_spec (xs : Array Nat) (j : Nat) (up : xs.toList.Pairwise (· < ·)) : (∀ (i x : Nat), xs[i]? = some x → i < SetTable.below xs j → x < j) ∧ (∀ (i x : Nat), xs[i]? = some x → SetTable.below xs j ≤ i → j ≤ x) ∧ SetTable.below xs j ≤ xs.size := by
  unfold SetTable.below
  refine below_go xs j up xs.size 0 xs.size (by omega) (by omega) (by omega) (fun i x _ h => by omega) (fun i x hx h => ?_)
  rw [Array.getElem?_eq_none h] at hx; cases hx

theorem insert_up (xs : Array Nat) (j : Nat) (up : xs.toList.Pairwise (· < ·)) (hn : ¬ (xs[SetTable.below xs j]? == some j) = true) : (SetTable.insertAt xs (SetTable.below xs j) j).toList.Pairwise (· < ·) := by
  obtain ⟨h1, h2, h3⟩ := below_spec xs j up
  rw [SetTable.toList_insertAt]
  generalize SetTable.below xs j = p at *
  have e : xs.toList = xs.toList.take p ++ xs.toList.drop p := (List.take_append_drop p xs.toList).symm
  have up' := up
  rw [e, List.pairwise_append] at up'
  obtain ⟨ua, ub, uc⟩ := up'
  rw [List.pairwise_append, List.pairwise_cons]
  have ga : ∀ x ∈ xs.toList.take p, x < j := by
    intro x hx
    obtain ⟨i, hi⟩ := List.getElem?_of_mem hx
    rw [List.getElem?_take] at hi
    split at hi
    · rename_i hlt; exact h1 i x (by simpa using hi) hlt
    · cases hi
  have gb : ∀ x ∈ xs.toList.drop p, j < x := by
    intro x hx
    obtain ⟨i, hi⟩ := List.getElem?_of_mem hx
    rw [List.getElem?_drop] at hi
    have hi' : xs[p + i]? = some x := by simpa using hi
    have := h2 (p + i) x hi' (by omega)
    rcases Nat.lt_or_eq_of_le this with h | h
    · exact h
    · subst h
      exfalso
      cases i with
      | zero => apply hn; rw [show p + 0 = p from rfl] at hi'; rw [hi']; simp
      | succ i =>
        have hl : p + (i + 1) < xs.size := by
          rcases Nat.lt_or_ge (p + (i + 1)) xs.size with h | h
          · exact h
          · rw [Array.getElem?_eq_none h] at hi'; cases hi'
        have hp : xs[p]? = some xs[p] := Array.getElem?_eq_getElem (by omega)
        have h4 := h2 p _ hp (Nat.le_refl _)
        have h5 := List.pairwise_iff_getElem.mp up p (p + (i + 1)) (by simp; omega) (by simpa using hl) (by omega)
        rw [Array.getElem?_eq_getElem hl] at hi'
        have hi' : xs[p + (i + 1)] = j := by simpa using hi'
        simp only [Array.getElem_toList] at h5
        omega
  refine ⟨ua, ⟨gb, ub⟩, fun x hx y hy => ?_⟩
  rcases List.mem_cons.mp hy with rfl | hy
  · exact ga x hx
  · exact uc x hx y hy

theorem probe_empty (t : SetTable) (dm : t.dummies = #[]) (hashAt : Nat → Int) (h : Int) : ∀ (fuel : Nat) (p : SetTable.Probe) (j : Nat) (d : Option Nat), p.dummy = none → SetTable.probe.go t hashAt h fuel p = some (.empty j d) → d = none ∧ t.slot j = .empty
  | 0, p, j, d, hp, e => by simp [SetTable.probe.go] at e
  | fuel + 1, p, j, d, hp, e => by
    have nd : ∀ j, t.slot j ≠ .dummy := fun j e => by
      unfold SetTable.slot at e
      dsimp only at e
      split at e
      · cases e
      · rw [dm] at e
        have : SetTable.has #[] j = false := by simp [SetTable.has]
        rw [this] at e
        simp at e
    have ad : ∀ p : SetTable.Probe, (t.advance p).dummy = p.dummy := fun p => by unfold SetTable.advance; split <;> rfl
    unfold SetTable.probe.go at e
    cases hs : t.slot p.j with
    | empty => rw [hs] at e; simp at e; obtain ⟨rfl, rfl⟩ := e; exact ⟨hp, hs⟩
    | dummy => exact absurd hs (nd _)
    | live i =>
      rw [hs] at e
      dsimp only at e
      split at e
      · cases e
      · exact probe_empty t dm hashAt h fuel _ j d ((ad p).trans hp) e

theorem TabOK.standIn (t : SetTable) (n : Nat) : TabOK (t.standIn n) := by
  refine ⟨?_, rfl⟩
  simp only [SetTable.standIn, Array.toList_range]
  exact List.pairwise_lt_range
theorem TabOK.layNew {t : SetTable} (x : TabOK t) (es : Array (Int × Value)) (h : Int) (v : Value) : TabOK (layNew t es h v).2.1 ∧ (PySem.layNew t es h v).2.1.led = t.led := by
  unfold PySem.layNew
  split
  · rename_i slot wasDummy hf
    unfold SetTable.freeSlot at hf
    split at hf
    · rename_i j d hp
      obtain ⟨rfl, hs⟩ := probe_empty t x.dm _ _ _ _ _ _ (by rfl) hp
      simp at hf
      obtain ⟨rfl, rfl⟩ := hf
      have hn : ¬ (t.place[SetTable.below t.place j]? == some j) = true := by
        intro e
        unfold SetTable.slot at hs
        dsimp only at hs
        rw [if_pos e] at hs; cases hs
      have tk : TabOK (t.put j).1 := by
        refine ⟨insert_up _ _ x.up hn, ?_⟩
        simp only [SetTable.put, x.dm]
        split
        · simp [SetTable.eraseAt]
        · rfl
      dsimp only
      unfold SetTable.orStandIn
      split
      · exact ⟨tk, rfl⟩
      · exact ⟨TabOK.standIn _ _, rfl⟩
    · cases hf
  · exact ⟨TabOK.standIn _ _, rfl⟩
theorem TabOK.relayAll {t : SetTable} (x : TabOK t) (es : Array (Int × Value)) (n : Nat) : TabOK (relayAll t es n).2.1 ∧ (PySem.relayAll t es n).2.1.led = t.led := by
  unfold PySem.relayAll
  split
  · rename_i t' order hr
    dsimp only
    split
    · unfold SetTable.relaid SetTable.laid at hr
      dsimp only at hr
      cases ho : SetTable.layClean (SetTable.sizeAbove n - 1) (es.map (·.1)) with
      | none => rw [ho] at hr; cases hr
      | some owner =>
        rw [ho] at hr
        simp only [Option.bind_eq_bind, Option.bind_some, pure, Option.some.injEq, Prod.mk.injEq] at hr
        obtain ⟨rfl, rfl⟩ := hr
        refine ⟨⟨?_, rfl⟩, rfl⟩
        simp only [List.map_filterMap]
        rw [List.pairwise_filterMap]
        refine List.Pairwise.imp ?_ List.pairwise_lt_range
        intro a b hab x hx y hy
        simp only [Option.map_map, Option.map_eq_some_iff, Function.comp] at hx hy
        obtain ⟨_, _, rfl⟩ := hx
        obtain ⟨_, _, rfl⟩ := hy
        exact hab
    · exact ⟨TabOK.standIn _ _, rfl⟩
  · exact ⟨TabOK.standIn _ _, rfl⟩
end Mine
end
section
set_option autoImplicit false
set_option linter.unusedVariables false
set_option linter.unusedSimpArgs false
namespace Mine
open PySem
section
variable {prog : Program} {w : World} {A : Around} {E : Value → Shared → Prop} {s : Shared}

noncomputable abbrev freshSet (w : World) : Obj := { cls := .type "set", dict := none, data := .set #[] 0 (.fresh 0 0 (!w.params.followText "set-order")) }

theorem code_set_new (a : Value) {Q₁ : Value → Shared → Prop} (h : Q₁ (.ref s.heap.objs.size) { s with heap := s.heap.push (freshSet w) }) :
    codeAny (model prog w) A (.call (.builtin "set.__new__") ⟨[.type "set", a], []⟩) (wants Q₁ E) s := by
  refine codeAny_of_tree ?_
  show wpAny _ A.in1 (do checkBuiltinCall "set.__new__" ⟨[.type "set", a], []⟩; again (.builtin "set.__new__" ⟨[.type "set", a], []⟩)) _ _ s
  refine wpAny_bind (wpAny_of_eq (F.newCall_set_1 a) (wpAny_pure ⟨plainId_quiet F.plain_set_new _, codeAny_builtin F.entry_set_new ?_⟩))
  rw [Around.under_plainId F.plain_set_new _]
  unfold Builtin.«set.__new__» Builtin.Frozenset.newClass
  have hsub := sub_set_self
  obtain ⟨hp, g, d, tk, os⟩ := s
  dsimp only
  wp_walk
  refine wpAny_askSetting (wpAny_pure ?_)
  dsimp only
  simp only [newObj]
  refine wpAny_bind (wpAny_alloc (wpAny_pure ?_))
  exact wpAny_pure h

set_option maxRecDepth 100000 in
set_option maxHeartbeats 3200000 in
/-- set([]) -/
theorem call_set_empty {l : Addr} {Q : Value → Shared → Prop} (hh : A.handled = none) (hl : s.heap.IsList l #[])
    (h : ∀ (h' : Heap) (tk : Nat), h'.get? s.heap.objs.size = some (freshSet w) → (∀ b o, b < s.heap.objs.size → s.heap.get? b = some o → h'.get? b = some o) → Q (.ref s.heap.objs.size) { s with heap := h', toks := tk }) :
    wpAny (model prog w) A (call (.type "set") [.ref l]) Q E s := by
  obtain ⟨c, tl, hmro⟩ := F.called_set.mro
  have hmade := F.called_set.made
  have hsub := F.called_set.sub
  refine wpAny_call (codeAny_of_tree ?_)
  show wpAny _ _ (callAny (.type "set") _) _ _ _
  refine wpAny_pure ⟨Code.quiet_builtin _ (by decide +kernel), codeAny_builtin F.entry_type_call ?_⟩
  rw [Around.under_plain (weight_type_call_type "set" [.ref l] []) rfl]
  have h1 := F.called_set.notType
  have h2 := F.called_set.canCreate
  have hct := F.typeCall_set_1 (.ref l)
  repeat (any_goals (first | assumption | wp_step))
  refine codeAny_mono (code_set_new (.ref l) (E := E) (Q₁ := fun obj s₁ => obj = .ref s.heap.objs.size ∧ s₁ = { s with heap := s.heap.push (freshSet w) }) ⟨rfl, rfl⟩) fun r s₁ hr => ?_
  cases r with
  | error e => exact hr
  | ok fl =>
    cases fl with
    | ret obj =>
      obtain ⟨rfl, rfl⟩ := hr
      have hS : (s.heap.push (freshSet w)).get? s.heap.objs.size = some (freshSet w) := Heap.get?_push_size _ rfl
      have hT : Shared.TypeIs { s with heap := s.heap.push (freshSet w) } (.ref s.heap.objs.size) "set" := ⟨_, hS, rfl⟩
      have hli := F.called_set.init.lookup
      have hbi := F.called_set.init.bind (.ref s.heap.objs.size)
      repeat (any_goals (first | assumption | wp_step))
      refine codeAny_mono (codeAny_call_builtin (R := wants (fun r s₂ => r = .none ∧ ∃ h' tk, s₂ = { s with heap := h', toks := tk } ∧ h'.get? s.heap.objs.size = some (freshSet w) ∧
          (∀ b o, b < s.heap.objs.size → s.heap.get? b = some o → h'.get? b = some o)) E) F.called_set.init.plain F.entry_set_init (check_set_init_1 hT ?_)) fun r₂ s₂ hr₂ => ?_
      · obtain ⟨ol, hol, hcl, nl, hdl⟩ := hl
        obtain ⟨ocls, odict, odata, oslots⟩ := ol
        simp only at hcl hdl
        subst hcl; subst hdl
        have hol' : (s.heap.push (freshSet w)).get? l = some { cls := .type "list", dict := odict, data := .seq #[] nl, slots := oslots } := Heap.get?_push_of_some _ hol
        have hsls := F.sub_list_set
        have hslf := F.sub_list_frozenset
        have hne : (Value.type "list" == Value.type "dict") = false := by decide
        have hl1 : (s.heap.push (freshSet w)).IsList l #[] := ⟨_, hol', rfl, nl, rfl⟩
        unfold Builtin.«set.__init__» noKeywords Builtin.Frozenset.updateFrom
        generalize hPI : pyIter = PI
        wp_walk
        subst hPI
        refine wpAny_pyIter_list hl1 ?_
        refine wpAny_bind (wpAny_runValue ?_)
        have hlS : l < s.heap.objs.size := Heap.lt_size hol
        have hh3 : A.in1.in1.in1.handled = none := by simp [hh]
        have hneI : l ≠ (s.heap.push (freshSet w)).objs.size := by
          rw [Heap.size_push]; exact Nat.ne_of_lt (Nat.lt_succ_of_lt hlS)
        refine codeAny_builtin PyProof.Rows.F.entry_set_update_loop ?_
        rw [Around.under_plainId PyProof.Rows.F.plain_set_update_loop _]
        show wpAny _ A.in1.in1.in1 (pyNext (.ref (s.heap.push (freshSet w)).objs.size) >>= _) _ _ _
        refine wpAny_bind ((Walks.list hh3 _ l hneI #[]).done _ _ _ ⟨⟨_, Heap.get?_push_size _ rfl, rfl, rfl⟩, hl1.push _⟩ fun h' tk hm => ?_)
        show wpAny _ _ (ret Value.none) _ _ _
        refine wpAny_pure ?_
        show wpAny _ _ (pure ()) _ _ _
        refine wpAny_pure ?_
        show wpAny _ _ (ret Value.none) _ _ _
        have nS : s.heap.objs.size ≠ (s.heap.push (freshSet w)).objs.size := by rw [Heap.size_push]; exact Nat.ne_of_lt (Nat.lt_succ_self _)
        refine wpAny_pure ⟨rfl, h', tk, rfl, hm _ _ (by simpa using nS) (Heap.get?_push_of_some _ hS), fun b o hb e => hm b o ?_ (Heap.get?_push_of_some _ (Heap.get?_push_of_some _ e))⟩
        have nb : b ≠ (s.heap.push (freshSet w)).objs.size := by rw [Heap.size_push]; exact Nat.ne_of_lt (Nat.lt_succ_of_lt hb)
        simpa using nb
      · cases r₂ with
        | error e => exact hr₂
        | ok fl₂ =>
          cases fl₂ with
          | ret r =>
            obtain ⟨rfl, h', tk, rfl, hS', hk'⟩ := hr₂
            repeat (any_goals (first | assumption | wp_step))
            exact h _ _ hS' hk'
          | _ => exact hr₂.elim
    | _ => exact hr.elim
end
end Mine
end
section
set_option autoImplicit false
set_option linter.unusedVariables false
set_option linter.unusedSimpArgs false
set_option genSizeOf false
set_option genInjectivity false
namespace Mine
open PySem
section
variable {prog : Program} {w : World} {A : Around} {E : Value → Shared → Prop} {s : Shared}

/-- a set of ints, with its table -/
structure SAt (w : World) (h : Heap) (a : Addr) (es : Array (Int × Value)) (ep : Nat) (t : SetTable) : Prop where
  get : h.get? a = some ⟨.type "set", none, .set es ep t, #[]⟩
  el : ∀ e ∈ es.toList, (∃ k, Value.isInt k e.2 = true ∧ e.1 = hashInt k) ∧ e.2.scannable = true
  sz : es.size < scanBound
  fit : t.fits es.size = true
  tab : TabOK t
  led : w.params.followText "set-order" = true ∨ t.led = true

theorem SAt.store {h : Heap} {a : Addr} {es es' : Array (Int × Value)} {ep : Nat} {t t' : SetTable} (x : SAt w h a es ep t) (el : ∀ e ∈ es'.toList, (∃ k, Value.isInt k e.2 = true ∧ e.1 = hashInt k) ∧ e.2.scannable = true) (sz : es'.size < scanBound) (fit : t'.fits es'.size = true) (tab : TabOK t') (hl : t'.led = t.led) :
    SAt w (h.update a (Obj.putSet es' t')) a es' (ep + 1) t' := by
  refine ⟨?_, el, sz, fit, tab, by rw [hl]; exact x.led⟩
  have hd : (⟨.type "set", none, .set es ep t, #[]⟩ : Obj).data = .set es ep t := rfl
  have := Heap.get?_update_self (Obj.putSet es' t') x.get (by rw [putSet_of es' t' hd]; rfl)
  rw [putSet_of es' t' hd] at this; exact this

/-- one int more in a set -/
theorem setAdd_at {a : Addr} {es : Array (Int × Value)} {ep : Nat} {t : SetTable} {i : Int} {tk : Tok} {Q : Bool → Shared → Prop} (x : SAt w s.heap a es ep t) (room : es.size + 1 < scanBound)
    (h0 : (∃ e ∈ es.toList, Value.isInt i e.2 = true) → Q false s)
    (h1 : (∀ e ∈ es.toList, Value.isInt i e.2 = false) → ∀ h' es' ep' t', Heap.SameBut a s.heap h' → SAt w h' a es' ep' t' → es'.toList.Perm (es.toList ++ [(hashInt i, .int i tk)]) → Q true { s with heap := h' }) :
    wpAny (model prog w) A (setAddHashed a (.int i tk) (hashInt i)) Q E s := by
  have hkey : (intKind prog w).is i (.int i tk) = true := by show Value.isInt i (.int i tk) = true; simp [Value.isInt]
  have hd : (⟨.type "set", none, .set es ep t, #[]⟩ : Obj).data = .set es ep t := rfl
  have hel : ElemsOf (intKind prog w) es.toList := x.el
  unfold setAddHashed setAddHashedIn
  refine wpAny_holding (wpAny_bind (wpAny_setState_of x.get hd x.fit ?_))
  dsimp only
  rw [byScan_of (knd := intKind prog w) rfl x.sz hel]
  simp only [↓reduceIte]
  unfold setAddByScan
  refine wpAny_bind ?_
  refine wpAny_bind (wpAny_rule ?_)
  refine wpAny_bind (wpAny_setScan_of (knd := intKind prog w) hkey x.get hd x.fit hel ?_)
  cases hr : List.findIdx? (fun e => (intKind prog w).is i e.2) es.toList with
  | some j =>
    dsimp only
    obtain ⟨hj, hpj, _⟩ := List.findIdx?_eq_some_iff_getElem.mp hr
    exact wpAny_pure (wpAny_pure (h0 ⟨es.toList[j], List.getElem_mem hj, hpj⟩))
  | none =>
    dsimp only
    have hno : ∀ e ∈ es.toList, Value.isInt i e.2 = false := fun e he => by
      have := List.findIdx?_eq_none_iff.mp hr e he
      exact this
    have hperm := layNew_perm t es (hashInt i) (.int i tk)
    have hfits := layNew_fits t es (hashInt i) (.int i tk)
    obtain ⟨htab, hled⟩ := x.tab.layNew es (hashInt i) (.int i tk)
    have e0 : (intKind prog w).hash i = hashInt i := rfl
    rw [e0] at *
    generalize hL : layNew t es (hashInt i) (.int i tk) = Ly at hperm hfits htab hled ⊢
    obtain ⟨es1, t1, wasDummy, gave⟩ := Ly
    dsimp only at hperm hfits htab hled ⊢
    rw [Array.toList_push] at hperm
    have hsz1 : es1.size = es.size + 1 := by rw [← Array.length_toList, hperm.length_eq, List.length_append, Array.length_toList]; rfl
    have hel1 : ∀ e ∈ es1.toList, (∃ k, Value.isInt k e.2 = true ∧ e.1 = hashInt k) ∧ e.2.scannable = true := fun e he => by
      rcases List.mem_append.mp (hperm.mem_iff.mp he) with he | he
      · exact x.el e he
      · rw [List.mem_singleton] at he; subst he; exact ⟨⟨i, hkey, rfl⟩, rfl⟩
    have gw : ∀ (b : Bool) (s₁ : Shared) (Q' : Unit → Shared → Prop), Q' () s₁ → wpAny (model prog w) A (match b with | true => rule "set.scan.the-table-gave-way" | false => pure ()) Q' E s₁ :=
      fun b s₁ Q' hq => by cases b <;> first | exact wpAny_pure hq | exact wpAny_rule hq
    refine wpAny_bind (gw _ _ _ ?_)
    have tail : ∀ (g : Bool → Sem Unit) (hg : ∀ (b : Bool) (s₁ : Shared) (Q' : Unit → Shared → Prop), Q' () s₁ → wpAny (model prog w) A (g b) Q' E s₁) (t2 : SetTable), TabOK t2 → t2.led = t.led → t2.fits es1.size = true → wpAny (model prog w) A (do
        storeSet a es1 t2
        if (!wasDummy && t2.tooFull) = true then do
            g (relayAll t2 es1 (SetTable.grown es1.size)).2.2
            storeSet a (relayAll t2 es1 (SetTable.grown es1.size)).1 (relayAll t2 es1 (SetTable.grown es1.size)).2.1
            pure (some true)
          else pure (some true)) (fun r s' => wpAny (model prog w) A (match r with | some added => pure added | none => setAddHashedIn a (.int i tk) (hashInt i) 99999) Q E s') E s := by
      intro g hg t2 k1 k2 k3
      have x1 := x.store (es' := es1) (t' := t2) hel1 (by omega) k3 k1 k2
      refine wpAny_bind (wpAny_storeSet_of x.get hd ?_ (fits_of_scanBound (by omega)))
      have hsb1 := Heap.SameBut.update s.heap a (Obj.putSet es1 t2)
      split
      · have hp := relayAll_perm t2 es1 (SetTable.grown es1.size)
        have hfr := relayAll_fits t2 es1 (SetTable.grown es1.size)
        obtain ⟨tb3, ld3⟩ := k1.relayAll es1 (SetTable.grown es1.size)
        generalize hRl : relayAll t2 es1 (SetTable.grown es1.size) = Rl at hp hfr tb3 ld3 ⊢
        obtain ⟨es2, t3, gave2⟩ := Rl
        dsimp only at hp hfr tb3 ld3 ⊢
        have hsz2 : es2.size = es1.size := by rw [← Array.length_toList, hp.length_eq, Array.length_toList]
        refine wpAny_bind (hg _ _ _ ?_)
        have x2 := x1.store (es' := es2) (t' := t3) (fun e he => hel1 e (hp.mem_iff.mp he)) (by omega) hfr tb3 ld3
        refine wpAny_bind (wpAny_storeSet_of x1.get rfl ?_ (fits_of_scanBound (by omega)))
        exact wpAny_pure (wpAny_pure (h1 hno _ _ _ _ (hsb1.trans (Heap.SameBut.update _ a _)) x2 (hp.trans hperm)))
      · exact wpAny_pure (wpAny_pure (h1 hno _ _ _ _ hsb1 x1 hperm))
    split
    · refine wpAny_bind ?_
      rw [hashByValue_scannable 8 rfl]
      refine wpAny_pure ?_
      refine tail _ ?_ _ ?_ ?_ ?_
      · intro b s₁ Q' hq; cases b <;> first | exact wpAny_pure hq | exact wpAny_rule hq
      · split
        · exact htab
        · exact ⟨htab.up, htab.dm⟩
      · split
        · exact hled
        · exact hled
      · split
        · exact hfits
        · exact SetTable.fits_plain_off hfits
    · refine wpAny_bind (wpAny_pure ?_)
      simp only [↓reduceIte]
      refine tail _ ?_ _ htab hled hfits
      intro b s₁ Q' hq; cases b <;> first | exact wpAny_pure hq | exact wpAny_rule hq

/-- set.add -/
theorem call_set_add_at {a : Addr} {es : Array (Int × Value)} {ep : Nat} {t : SetTable} {i : Int} {tk : Tok} {Q : Value → Shared → Prop} (x : SAt w s.heap a es ep t) (room : es.size + 1 < scanBound)
    (h0 : (∃ e ∈ es.toList, Value.isInt i e.2 = true) → Q .none { s with toks := s.toks + 1 })
    (h1 : (∀ e ∈ es.toList, Value.isInt i e.2 = false) → ∀ h' es' ep' t', Heap.SameBut a s.heap h' → SAt w h' a es' ep' t' → es'.toList.Perm (es.toList ++ [(hashInt i, .int i tk)]) → Q .none { s with heap := h', toks := s.toks + 1 }) :
    wpAny (model prog w) A (call (.builtin "set.add") [.ref a, .int i tk]) Q E s := by
  have hT : s.TypeIs (.ref a) "set" := ⟨_, x.get, rfl⟩
  have hkey : (intKind prog w).is i (.int i tk) = true := by show Value.isInt i (.int i tk) = true; simp [Value.isInt]
  refine wpAny_call_entry F.slot_set_add hT F.entry_set_add ?_ (F.args_set_add_2 _ _)
  unfold Builtin.«set.add» Builtin.Frozenset.oneOther
  simp only [List.isEmpty_nil, bind_assoc]
  unfold Builtin.Frozenset.addrOf setAdd
  refine wpAny_bind (wpAny_pure ?_)
  try dsimp only
  refine wpAny_bind (wpAny_pure ?_)
  try dsimp only
  refine wpAny_bind ?_
  refine wpAny_holding ?_
  refine wpAny_bind ((intKind prog w).pyHash hkey ?_)
  refine setAdd_at (s := { s with toks := s.toks + 1 }) x room (fun h => ?_) (fun h h' es' ep' t' hsb x' hp => ?_)
  · show wpAny _ _ (ret Value.none) _ _ _
    exact wpAny_pure ⟨_, rfl, h0 h⟩
  · show wpAny _ _ (ret Value.none) _ _ _
    exact wpAny_pure ⟨_, rfl, h1 h h' es' ep' t' hsb x' hp⟩
end
end Mine
end
section
set_option autoImplicit false
set_option linter.unusedVariables false
set_option linter.unusedSimpArgs false
namespace Mine
open PySem

theorem slot_si_next : Slot "set_iterator" "__next__" "set_iterator.__next__" :=
  .of (owner := "set_iterator") (n := "__next__") (by rw [typeLookup_type, builtinLookup_eq_fast]; kernel_rfl) (by decide +kernel) (by decide +kernel) (by decide +kernel)
    (by first | exact .inl (by decide +kernel) | exact .inr (by decide +kernel)) (by rw [isSubtype_type]; kernel_rfl)
theorem entry_si_next : entryFor table "set_iterator.__next__" = some Builtin.«set_iterator.__next__» := entryFor_of_tree (by kernel_rfl)
theorem args_si_next (a : Value) : argsOk "set_iterator.__next__" ⟨[a], []⟩ := by unfold argsOk; kernel_rfl
theorem slot_si_iter : Slot "set_iterator" "__iter__" "set_iterator.__iter__" :=
  .of (owner := "set_iterator") (n := "__iter__") (by rw [typeLookup_type, builtinLookup_eq_fast]; kernel_rfl) (by decide +kernel) (by decide +kernel) (by decide +kernel)
    (by first | exact .inl (by decide +kernel) | exact .inr (by decide +kernel)) (by rw [isSubtype_type]; kernel_rfl)
theorem entry_si_iter : entryFor table "set_iterator.__iter__" = some Builtin.«dict_keyiterator.__iter__» :=
  entryFor_alias (id' := "dict_keyiterator.__iter__") (by kernel_rfl) rfl (by decide +kernel) (by kernel_rfl)
theorem args_si_iter (a : Value) : argsOk "set_iterator.__iter__" ⟨[a], []⟩ := by unfold argsOk; kernel_rfl
theorem entry_set_iter : entryFor table "set.__iter__" = some Builtin.«frozenset.__iter__» :=
  entryFor_alias (id' := "frozenset.__iter__") (by kernel_rfl) rfl (by decide +kernel) (by kernel_rfl)
end Mine
end
section
set_option autoImplicit false
set_option linter.unusedVariables false
set_option linter.unusedSimpArgs false
namespace Mine
open PySem
section
variable {prog : Program} {w : World} {A : Around} {E : Value → Shared → Prop} {s : Shared}

/-- a set's iterator -/
noncomputable def SIt (h : Heap) (I a : Addr) (first : Value) (i n ep : Nat) : Prop := h.get? I = some ⟨.type "set_iterator", none, .fields #[first, .int i 0, .ref a, .int n 0, .int ep 0], #[]⟩

theorem si_iter {I a : Addr} {first : Value} {i n ep : Nat} {Q : Value → Shared → Prop} (x : SIt s.heap I a first i n ep) (h : Q (.ref I) s) : wpAny (model prog w) A (pyIter (.ref I)) Q E s := by
  have hT : s.TypeIs (.ref I) "set_iterator" := ⟨_, x, rfl⟩
  refine wpAny_pyIter_slot hT slot_si_iter (wpAny_call_entry slot_si_iter hT entry_si_iter ?_ (args_si_iter _))
  show wpAny _ _ (ret (.ref I)) _ _ s
  exact wpAny_pure ⟨_, rfl, "set_iterator", _, hT, slot_si_next.lookup, h⟩

theorem si_next_int {I a : Addr} {slot i ep nx : Nat} {v : Value} {es : Array (Int × Value)} {t : SetTable} {Q : Option Value → Shared → Prop} (x : SIt s.heap I a (.int slot 0) i es.size ep) (y : SAt w s.heap a es ep t)
    (hn : ∀ (A : Around) (E : Value → Shared → Prop) (Q : Option (Value × Nat) → Shared → Prop), Q (some (v, nx)) s → wpAny (model prog w) A (setNext a slot i ep) Q E s)
    (hQ : ∀ h', SIt h' I a (.int nx 0) (i + 1) es.size ep → Heap.SameBut I s.heap h' → Q (some v) { s with heap := h' }) : wpAny (model prog w) A (pyNext (.ref I)) Q E s := by
  have hT : s.TypeIs (.ref I) "set_iterator" := ⟨_, x, rfl⟩
  unfold pyNext
  refine wpAny_bind (wpAny_attempt (wpAny_callSpecial?_slot (name := Str.ofString "__next__") hT slot_si_next
    (wpAny_call_entry slot_si_next hT entry_si_next ?_ (args_si_next _))))
  unfold Builtin.«set_iterator.__next__»
  refine wpAny_bind (wpAny_pure ?_)
  refine wpAny_bind (wpAny_fieldsOf x rfl ?_)
  dsimp only
  refine wpAny_bind (wpAny_setEntries_of y.get rfl y.fit ?_)
  rw [if_neg (by simp)]
  show wpAny _ _ (setNext a slot i ep >>= _) _ _ s
  refine wpAny_bind (hn _ _ _ ?_)
  dsimp only
  refine wpAny_bind (wpAny_setField x rfl (by simp) ?_)
  have g1 := Heap.get?_update_self (Obj.mapFields (·.setIfInBounds 0 (rawInt nx))) x rfl
  refine wpAny_bind (wpAny_setField g1 rfl (by simp [Obj.mapFields]) ?_)
  have g2 := Heap.get?_update_self (Obj.mapFields (·.setIfInBounds 1 (rawInt ((i : Int) + 1)))) g1 rfl
  refine wpAny_pure ⟨_, rfl, wpAny_pure (hQ _ ?_ ((Heap.SameBut.update ..).trans (Heap.SameBut.update ..)))⟩
  unfold SIt
  rw [g2]
  simp [Obj.mapFields, rawInt]

/-- the end of a walk -/
theorem si_stop {I : Addr} {o : Obj} {vs : Array Value} {R : Fin → Shared → Prop} {Ex : Value → Shared → Prop} (hh : A.handled = none) (g : s.heap.get? I = some o) (hd : o.data = .fields vs) (hz : 2 < vs.size)
    (hE : ∀ e h', Heap.ExtBut I s.heap h' → Shared.TypeIs { s with heap := h' } e "StopIteration" → Ex e { s with heap := h' }) : wpAny (model prog w) A (setField (.ref I) 2 .none >>= fun _ => newExc (.type "StopIteration") [] >>= fun e => (raiseNew e : Sem Fin)) R Ex s := by
  refine wpAny_bind (wpAny_setField g hd hz ?_)
  refine wpAny_bind ?_
  simp only [newExc, newTuple]
  refine wpAny_bind (wpAny_newObj_type ?_ (by size_fits))
  refine wpAny_bind (m := firstArgMember _ _) (wpAny_of_eq (a := Value.none) (by first | rfl | (simp only [firstArgMember]; rfl)) ?_)
  refine wpAny_newObj_type ?_ (by size_fits)
  simp only [raiseNew]
  refine wpAny_bind (wpAny_handled ?_)
  rw [hh]
  refine wpAny_bind (wpAny_pure (wpAny_throw ?_))
  exact hE _ _ (((Heap.SameBut.update ..).extBut.push _).push _) ⟨_, Heap.get?_push_size _ rfl, rfl⟩

theorem si_end_int {I a : Addr} {slot i ep : Nat} {es : Array (Int × Value)} {t : SetTable} {Q : Option Value → Shared → Prop} (hh : A.handled = none) (x : SIt s.heap I a (.int slot 0) i es.size ep) (y : SAt w s.heap a es ep t)
    (hn : ∀ (A : Around) (E : Value → Shared → Prop) (Q : Option (Value × Nat) → Shared → Prop), Q none s → wpAny (model prog w) A (setNext a slot i ep) Q E s)
    (hQ : ∀ h', Heap.ExtBut I s.heap h' → Q none { s with heap := h' }) : wpAny (model prog w) A (pyNext (.ref I)) Q E s := by
  have hT : s.TypeIs (.ref I) "set_iterator" := ⟨_, x, rfl⟩
  unfold pyNext
  refine wpAny_bind (wpAny_attempt (wpAny_callSpecial?_slot (name := Str.ofString "__next__") hT slot_si_next
    (wpAny_call_entry slot_si_next hT entry_si_next ?_ (args_si_next _))))
  unfold Builtin.«set_iterator.__next__»
  refine wpAny_bind (wpAny_pure ?_)
  refine wpAny_bind (wpAny_fieldsOf x rfl ?_)
  dsimp only
  refine wpAny_bind (wpAny_setEntries_of y.get rfl y.fit ?_)
  rw [if_neg (by simp)]
  show wpAny _ _ (setNext a slot i ep >>= _) _ _ s
  refine wpAny_bind (hn _ _ _ ?_)
  dsimp only
  refine si_stop (by simp [hh]) x rfl (by simp) fun e h' k hs => ?_
  refine wpAny_bind (wpAny_isInstance hs isSubtype_stop ?_)
  exact wpAny_pure (hQ _ k)

theorem si_next_tup {I a tp : Addr} {i ep pl : Nat} {tk : Tok} {ps : Array Value} {n' : Nat} {v : Value} {hs : Int} {es : Array (Int × Value)} {t : SetTable} {Q : Option Value → Shared → Prop} (x : SIt s.heap I a (.ref tp) i es.size ep) (y : SAt w s.heap a es ep t)
    (z : s.heap.get? tp = some ⟨.type "tuple", none, .seq ps n', #[]⟩) (hp : ps[i]? = some (.int pl tk)) (hv : es[pl]? = some (hs, v))
    (hQ : ∀ h', SIt h' I a (.ref tp) (i + 1) es.size ep → Heap.SameBut I s.heap h' → Q (some v) { s with heap := h' }) : wpAny (model prog w) A (pyNext (.ref I)) Q E s := by
  have hT : s.TypeIs (.ref I) "set_iterator" := ⟨_, x, rfl⟩
  unfold pyNext
  refine wpAny_bind (wpAny_attempt (wpAny_callSpecial?_slot (name := Str.ofString "__next__") hT slot_si_next
    (wpAny_call_entry slot_si_next hT entry_si_next ?_ (args_si_next _))))
  unfold Builtin.«set_iterator.__next__»
  refine wpAny_bind (wpAny_pure ?_)
  refine wpAny_bind (wpAny_fieldsOf x rfl ?_)
  dsimp only
  refine wpAny_bind (wpAny_setEntries_of y.get rfl y.fit ?_)
  rw [if_neg (by simp)]
  show wpAny _ _ (seqItems? (.ref tp) >>= _) _ _ s
  unfold seqItems?
  refine wpAny_bind (wpAny_bind (wpAny_load z (wpAny_pure ?_)))
  simp only [Int.toNat_natCast, hp]
  unfold setNextDrawn
  refine wpAny_bind (wpAny_bind (wpAny_setState_of y.get rfl y.fit ?_))
  simp only [bne_self_eq_false, Bool.false_eq_true, if_false, hv]
  refine wpAny_pure ?_
  refine wpAny_bind (wpAny_setField x rfl (by simp) ?_)
  have g2 := Heap.get?_update_self (Obj.mapFields (·.setIfInBounds 1 (rawInt ((i : Int) + 1)))) x rfl
  refine wpAny_pure ⟨_, rfl, wpAny_pure (hQ _ ?_ (Heap.SameBut.update ..))⟩
  unfold SIt
  rw [g2]
  simp [Obj.mapFields, rawInt]

theorem si_end_tup {I a tp : Addr} {i ep : Nat} {ps : Array Value} {n' : Nat} {es : Array (Int × Value)} {t : SetTable} {Q : Option Value → Shared → Prop} (hh : A.handled = none) (x : SIt s.heap I a (.ref tp) i es.size ep) (y : SAt w s.heap a es ep t)
    (z : s.heap.get? tp = some ⟨.type "tuple", none, .seq ps n', #[]⟩) (hp : ps[i]? = none)
    (hQ : ∀ h', Heap.ExtBut I s.heap h' → Q none { s with heap := h' }) : wpAny (model prog w) A (pyNext (.ref I)) Q E s := by
  have hT : s.TypeIs (.ref I) "set_iterator" := ⟨_, x, rfl⟩
  unfold pyNext
  refine wpAny_bind (wpAny_attempt (wpAny_callSpecial?_slot (name := Str.ofString "__next__") hT slot_si_next
    (wpAny_call_entry slot_si_next hT entry_si_next ?_ (args_si_next _))))
  unfold Builtin.«set_iterator.__next__»
  refine wpAny_bind (wpAny_pure ?_)
  refine wpAny_bind (wpAny_fieldsOf x rfl ?_)
  dsimp only
  refine wpAny_bind (wpAny_setEntries_of y.get rfl y.fit ?_)
  rw [if_neg (by simp)]
  show wpAny _ _ (seqItems? (.ref tp) >>= _) _ _ s
  unfold seqItems?
  refine wpAny_bind (wpAny_bind (wpAny_load z (wpAny_pure ?_)))
  simp only [Int.toNat_natCast, hp]
  refine wpAny_bind (wpAny_setField x rfl (by simp) ?_)
  have g1 := Heap.get?_update_self (Obj.mapFields (·.setIfInBounds 0 (rawInt 0))) x rfl
  refine si_stop (by simp [hh]) g1 rfl (by simp [Obj.mapFields]) fun e h' k hs => ?_
  refine wpAny_bind (wpAny_isInstance hs isSubtype_stop ?_)
  exact wpAny_pure (hQ _ ((Heap.SameBut.update ..).extBut.trans k))
end
end Mine
end
section
set_option autoImplicit false
set_option linter.unusedVariables false
set_option linter.unusedSimpArgs false
namespace Mine
open PySem
section
variable {prog : Program} {w : World} {A : Around} {E : Value → Shared → Prop} {s : Shared}

theorem SAt.at {h h' : Heap} {a : Addr} {es : Array (Int × Value)} {ep : Nat} {t : SetTable} (x : SAt w h a es ep t) (k : ∀ o, h.get? a = some o → h'.get? a = some o) : SAt w h' a es ep t := ⟨k _ x.get, x.el, x.sz, x.fit, x.tab, x.led⟩
theorem SIt.at {h h' : Heap} {I a : Addr} {f : Value} {i n ep : Nat} (x : SIt h I a f i n ep) (k : ∀ o, h.get? I = some o → h'.get? I = some o) : SIt h' I a f i n ep := k _ x

theorem walk_int {I a : Addr} {es : Array (Int × Value)} {ep : Nat} {t : SetTable} (hh : A.handled = none) (ne : a ≠ I) (slotAt : Nat → Nat) (vs : List Value) (hl : vs.length = es.size)
    (hn : ∀ (i : Nat) (s : Shared) (A : Around) (E : Value → Shared → Prop) (Q : Option (Value × Nat) → Shared → Prop), i ≤ es.size → SAt w s.heap a es ep t → Q ((vs[i]?).map fun v => (v, slotAt (i + 1))) s → wpAny (model prog w) A (setNext a (slotAt i) i ep) Q E s) :
    Walks prog w A I [I, a] [I] es.size (fun i v => vs[i]? = some v) (fun i h => SIt h I a (.int (slotAt i) 0) i es.size ep ∧ SAt w h a es ep t) where
  sub := fun b hb => by simp at hb; simp [hb]
  frame := fun _ _ _ st hk => ⟨st.1.at fun o e => hk I (by simp) o e, st.2.at fun o e => hk a (by simp) o e⟩
  item := fun i s Q E hi st hQ => by
    have hv : vs[i]? = some vs[i] := by simp
    refine si_next_int st.1 st.2 (v := vs[i]) (nx := slotAt (i + 1)) (fun A E Q hq => hn i s A E Q (by omega) st.2 (by rw [hv]; exact hq)) fun h' x' sb => ?_
    exact hQ _ h' s.toks hv ⟨x', st.2.at fun o e => sb.extBut a o ne e⟩ fun b o hb e => sb.extBut b o (fun h => hb (by simp [h])) e
  done := fun s Q E st hQ => by
    have hv : vs[es.size]? = none := by simp [hl]
    exact si_end_int hh st.1 st.2 (fun A E Q hq => hn es.size s A E Q (by omega) st.2 (by rw [hv]; exact hq)) fun h' k => hQ h' s.toks fun b o hb e => k b o (fun h => hb (by simp [h])) e
  self := fun _ _ _ _ st hQ => si_iter st.1 hQ

theorem walk_tup {I a tp : Addr} {es : Array (Int × Value)} {ep : Nat} {t : SetTable} (hh : A.handled = none) (ne : a ≠ I) (nt : tp ≠ I) (pls : List Nat) (hl : pls.length = es.size) (hp : ∀ p ∈ pls, p < es.size) {n' : Nat} :
    Walks prog w A I [I, a, tp] [I] es.size (fun i v => ∃ p e, pls[i]? = some p ∧ es[p]? = some e ∧ v = e.2) (fun i h => SIt h I a (.ref tp) i es.size ep ∧ SAt w h a es ep t ∧ h.get? tp = some ⟨.type "tuple", none, .seq (pls.map fun (p : Nat) => rawInt p).toArray n', #[]⟩) where
  sub := fun b hb => by simp at hb; simp [hb]
  frame := fun _ _ _ st hk => ⟨st.1.at fun o e => hk I (by simp) o e, st.2.1.at fun o e => hk a (by simp) o e, hk tp (by simp) _ st.2.2⟩
  item := fun i s Q E hi st hQ => by
    have hv : pls[i]? = some pls[i] := by simp
    have hlt := hp pls[i] (List.getElem_mem _)
    have he : es[pls[i]]? = some es[pls[i]] := Array.getElem?_eq_getElem hlt
    refine si_next_tup (pl := pls[i]) (tk := 0) st.1 st.2.1 st.2.2 (by simp [rawInt, hv]) (v := es[pls[i]].2) (hs := es[pls[i]].1) he fun h' x' sb => ?_
    exact hQ _ h' s.toks ⟨_, _, hv, he, rfl⟩ ⟨x', st.2.1.at fun o e => sb.extBut a o ne e, sb.extBut tp _ nt st.2.2⟩ fun b o hb e => sb.extBut b o (fun h => hb (by simp [h])) e
  done := fun s Q E st hQ => si_end_tup hh st.1 st.2.1 st.2.2 (by simp [hl]) fun h' k => hQ h' s.toks fun b o hb e => k b o (fun h => hb (by simp [h])) e
  self := fun _ _ _ _ st hQ => si_iter st.1 hQ

/-! the three orders -/
theorem erase_perm {α : Type} : ∀ (l : List α) (j : Nat) (h : j < l.length), (l[j] :: l.eraseIdx j).Perm l
  | x :: l, 0, _ => .refl _
  | x :: l, j + 1, h => (List.Perm.swap ..).trans ((erase_perm l j (by simpa using h)).cons x)
theorem choose_snd {M : Model} {src : Source} {n : Nat} {Q : Nat → Shared → Prop} (hn : n ≠ 0) (h : Q (M.w.draws src (s.drawn.get src) % n) { s with drawn := s.drawn.bump src }) : wpAny M A (choose src n) Q E s := fun Γ p _ => by
  unfold choose
  rw [Sem.wp_choose]
  exact ⟨hn, by simpa using h⟩
theorem pick_perm {α : Type} (next : Nat → Nat) : ∀ (fuel k : Nat) (left : List α) (out : Array α), left.length = fuel → (pickOrder.go next fuel k left out).toList.Perm (out.toList ++ left)
  | 0, k, left, out, h => by
    have : left = [] := List.length_eq_zero_iff.mp h
    subst this; unfold pickOrder.go; simp
  | fuel + 1, k, left, out, h => by
    unfold pickOrder.go
    have hlt : next k % left.length < left.length := Nat.mod_lt _ (by omega)
    generalize hj : next k % left.length = j at *
    have e : left[j]? = some left[j] := List.getElem?_eq_getElem hlt
    rw [e]
    dsimp only
    refine (pick_perm next fuel (k + 1) (left.eraseIdx j) (out.push left[j]) (by rw [List.length_eraseIdx_of_lt hlt]; omega)).trans ?_
    rw [Array.toList_push, List.append_assoc]
    refine List.Perm.append_left _ ?_
    exact erase_perm left j hlt
theorem pickOrder_perm {α : Type} (next : Nat → Nat) (xs : Array α) : (pickOrder next xs).toList.Perm xs.toList := by
  unfold pickOrder
  have := pick_perm next xs.size 0 xs.toList #[] (by simp)
  simpa using this

theorem drawOrder_snd : ∀ (n : Nat) (xs : List Nat) (s : Shared) (Q : List Nat → Shared → Prop), xs.length = n → (∀ ys dr, ys.Perm xs → Q ys { s with drawn := dr }) → wpAny (model prog w) A (drawOrder n xs) Q E s
  | 0, xs, s, Q, h, hQ => by
    have : xs = [] := List.length_eq_zero_iff.mp h
    subst this; unfold drawOrder; exact wpAny_pure (hQ [] s.drawn .nil)
  | n + 1, [], s, Q, h, hQ => by simp at h
  | n + 1, x :: xs, s, Q, h, hQ => by
    unfold drawOrder
    refine wpAny_bind (choose_snd (by simp) ?_)
    have hlt := Nat.mod_lt ((model prog w).w.draws .order (s.drawn.get .order)) (show (x :: xs).length > 0 by simp)
    generalize (model prog w).w.draws .order (s.drawn.get .order) % (x :: xs).length = j at *
    have e : (x :: xs)[j]? = some (x :: xs)[j] := List.getElem?_eq_getElem hlt
    rw [e]
    dsimp only
    refine wpAny_bind (drawOrder_snd n ((x :: xs).eraseIdx j) _ _ (by rw [List.length_eraseIdx_of_lt hlt]; simp at h ⊢; omega) fun ys dr hp => wpAny_pure (hQ _ _ ?_))
    exact (hp.cons _).trans (erase_perm _ j hlt)

/-- the place before which a walk stands -/
noncomputable def slotAt (t : SetTable) (i : Nat) : Nat := if i = 0 then 0 else t.place.getD (i - 1) 0 + 1
theorem below_slot {t : SetTable} (x : TabOK t) {i : Nat} (hi : i ≤ t.place.size) : SetTable.below t.place (slotAt t i) = i := by
  obtain ⟨h1, h2, h3⟩ := below_spec t.place (slotAt t i) x.up
  generalize SetTable.below t.place (slotAt t i) = p at *
  rcases Nat.lt_trichotomy p i with h | h | h
  · have hl : i - 1 < t.place.size := by omega
    have := h2 (i - 1) _ (Array.getElem?_eq_getElem hl) (by omega)
    unfold slotAt at this
    rw [if_neg (by omega)] at this
    simp [Array.getD, hl] at this
    omega
  · exact h
  · have hl : i < t.place.size := by omega
    have a := h1 i _ (Array.getElem?_eq_getElem hl) h
    unfold slotAt at a
    split at a
    · omega
    · have hl2 : i - 1 < t.place.size := by omega
      have b := List.pairwise_iff_getElem.mp x.up (i - 1) i (by simp; omega) (by simpa using hl) (by omega)
      simp [Array.getD, hl2] at a b
      omega

theorem next_text {a : Addr} {es : Array (Int × Value)} {ep : Nat} {t : SetTable} {i sl : Nat} {Q : Option (Value × Nat) → Shared → Prop} (y : SAt w s.heap a es ep t) (hb : w.params.followText "set-order" = true)
    (hQ : Q ((((pickOrder (w.params.setOrder a ep) es).toList.map (·.2))[i]?).map fun v => (v, sl)) s) : wpAny (model prog w) A (setNext a sl i ep) Q E s := by
  unfold setNext
  refine wpAny_bind (wpAny_setState_of y.get rfl y.fit ?_)
  dsimp only
  unfold setsByText
  refine wpAny_bind (wpAny_bind (wpAny_askSetting (wpAny_pure ?_)))
  rw [if_pos (by exact hb)]
  simp only [bne_self_eq_false, Bool.false_eq_true, if_false]
  unfold setWalk
  refine wpAny_bind (wpAny_bind (wpAny_setState_of y.get rfl y.fit ?_))
  dsimp only
  unfold setsByText
  refine wpAny_bind (wpAny_bind (wpAny_askSetting (wpAny_pure ?_)))
  rw [if_pos (by exact hb)]
  refine wpAny_bind (wpAny_askSetting (wpAny_pure (wpAny_pure ?_)))
  have e : Option.map (fun v => (v, sl)) (((pickOrder (w.params.setOrder a ep) es).toList.map (·.2))[i]?) = Option.map (fun e => (e.2, sl)) ((pickOrder (w.params.setOrder a ep) es)[i]?) := by simp [Function.comp_def]
  rw [e] at hQ
  exact hQ

theorem next_led {a : Addr} {es : Array (Int × Value)} {ep : Nat} {t : SetTable} {i : Nat} {Q : Option (Value × Nat) → Shared → Prop} (y : SAt w s.heap a es ep t) (hb : w.params.followText "set-order" = false) (hd : (!t.plain && decide (es.size > 1)) = false) (hi : i ≤ es.size)
    (hQ : Q (((es.toList.map (·.2))[i]?).map fun v => (v, slotAt t (i + 1))) s) : wpAny (model prog w) A (setNext a (slotAt t i) i ep) Q E s := by
  have hsz : t.place.size = es.size := by have := y.fit; simp only [SetTable.fits, Bool.and_eq_true, beq_iff_eq] at this; exact this.1
  have hled : t.led = true := y.led.resolve_left (by rw [hb]; simp)
  unfold setNext
  refine wpAny_bind (wpAny_setState_of y.get rfl y.fit ?_)
  dsimp only
  unfold setsByText
  refine wpAny_bind (wpAny_bind (wpAny_askSetting (wpAny_pure ?_)))
  rw [if_neg (by show ¬ (w.params.followText "set-order" = true); rw [hb]; simp)]
  rw [if_neg (by show ¬ ((!t.plain && decide (es.size > 1)) = true); rw [hd]; simp)]
  refine wpAny_bind ?_
  show wpAny _ _ (if (!t.led && !es.isEmpty) = true then _ else _) _ _ _
  rw [hled]
  simp only [Bool.not_true, Bool.false_and, Bool.false_eq_true, if_false]
  refine wpAny_pure ?_
  rw [below_slot y.tab (by omega)]
  refine wpAny_pure ?_
  rcases Nat.lt_or_ge i es.size with h | h
  · have e1 : es[i]? = some es[i] := Array.getElem?_eq_getElem h
    have h' : i < t.place.size := by omega
    have e2 : t.place[i]? = some t.place[i] := Array.getElem?_eq_getElem h'
    have e3 : slotAt t (i + 1) = t.place[i] + 1 := by simp [slotAt, Array.getD, h']
    simp only [e1, e2]
    simpa [e3, h] using hQ
  · have e1 : es[i]? = none := Array.getElem?_eq_none h
    simp only [e1]
    simpa [h] using hQ
end
end Mine
end
section
set_option autoImplicit false
set_option linter.unusedVariables false
set_option linter.unusedSimpArgs false
namespace Mine
open PySem PySem.Calls PyProof.Rows
section
variable {prog : Program} {w : World} {A : Around} {E : Value → Shared → Prop} {s : Shared}

theorem szf (h : Heap) : h.get? h.objs.size = none := by
  cases z : h.get? h.objs.size with
  | none => rfl
  | some o => exact absurd (Heap.lt_size z) (Nat.lt_irrefl _)
theorem szf1 (h : Heap) : h.get? (h.objs.size + 1) = none := by
  cases z : h.get? (h.objs.size + 1) with
  | none => rfl
  | some o => exact absurd (Heap.lt_size z) (Nat.not_lt.mpr (Nat.le_succ _))
theorem set_hint {r : Addr} {Q : Bool → Shared → Prop} (hT : s.TypeIs (.ref r) "set") (h : Q false s) : wpAny (model prog w) A (Builtin.List.listLengthHint (.ref r)) Q E s := by
  unfold Builtin.List.listLengthHint
  refine wpAny_bind (wpAny_specialOf hT PySem.F.slot_set_len.lookup ?_)
  generalize hid : ("set.__len__" : String) = id0
  wp_delta
  rw [show splitId id0 = some ("set", "__len__") from by subst hid; decide +kernel]
  subst hid
  refine wpAny_bind (wpAny_isInstance (T := "set") (b := true) hT (by rw [isSubtype_type]; kernel_rfl) ?_)
  refine wpAny_ite_split (fun hab => absurd hab (by decide)) (fun _ => ?_)
  refine wpAny_ite_split (fun _ => ?_) (fun hab => absurd (by decide +kernel) hab)
  refine wpAny_bind (wpAny_typeOf hT ?_)
  exact wpAny_pure h

/-- an iterator over a set: what it gives is the set's values in some order -/
theorem set_iter {a : Addr} {es : Array (Int × Value)} {ep : Nat} {t : SetTable} {Q : Value → Shared → Prop} (hh : A.handled = none) (y : SAt w s.heap a es ep t)
    (hQ : ∀ (I : Addr) (fp : List Addr) (P : Nat → Value → Prop) (St : Nat → Heap → Prop) (h₂ : Heap) (dr : Drawn), Walks prog w A I fp [I] es.size P St → St 0 h₂ → (∀ b o, s.heap.get? b = some o → h₂.get? b = some o) → (∀ b ∈ fp, b = a ∨ s.heap.get? b = none) → s.heap.get? I = none →
      (∀ acc : Array Value, ItemsOf P acc es.size → acc.toList.Perm (es.toList.map (·.2))) → Q (.ref I) { s with heap := h₂, drawn := dr }) : wpAny (model prog w) A (pyIter (.ref a)) Q E s := by
  have hT : s.TypeIs (.ref a) "set" := ⟨_, y.get, rfl⟩
  have hsz : t.place.size = es.size := by have := y.fit; simp only [SetTable.fits, Bool.and_eq_true, beq_iff_eq] at this; exact this.1
  have alt : a < s.heap.objs.size := Heap.lt_size y.get
  refine wpAny_pyIter_slot hT F.slot_set_iter (wpAny_call_entry F.slot_set_iter hT entry_set_iter ?_ (F.args_set_iter_1 _))
  unfold Builtin.«frozenset.__iter__» Builtin.Frozenset.slot0 slotArgs
  simp only [List.isEmpty_nil, Bool.not_true, Bool.false_eq_true, ↓reduceIte, bind_assoc, List.length_nil, bne_self_eq_false]
  unfold Builtin.Frozenset.addrOf Builtin.Frozenset.sizeOf
  refine wpAny_bind (wpAny_pure ?_)
  try dsimp only
  refine wpAny_bind (wpAny_pure ?_)
  refine wpAny_bind (wpAny_bind (wpAny_setEntries_of y.get rfl y.fit (wpAny_pure ?_)))
  unfold setDrawn setsByText
  refine wpAny_bind (wpAny_bind (wpAny_setState_of y.get rfl y.fit ?_))
  dsimp only
  refine wpAny_bind (wpAny_bind (wpAny_askSetting (wpAny_pure (wpAny_pure ?_))))
  have fin : ∀ (dr : Drawn) (h₁ : Heap) (first : Value), (∀ b o, s.heap.get? b = some o → h₁.get? b = some o) →
      (∀ h₂, h₂ = h₁.push ⟨.type "set_iterator", none, .fields #[first, .int 0 0, .ref a, .int es.size 0, .int ep 0], #[]⟩ → Q (.ref h₁.objs.size) { s with heap := h₂, drawn := dr }) →
      wpAny (model prog w) A.in1 (do
          let e ← setEpoch a
          let it ← newFields "set_iterator" [first, rawInt 0, Value.ref a, rawInt ↑es.size, rawInt ↑e]
          ret it) (fun fin s' => ∃ v, fin = Fin.done (Flow.ret v) ∧ ∃ T' r, s'.TypeIs v T' ∧ typeLookup (Value.type T') (Str.ofString "__next__") = pure (some r) ∧ Q v s') E { s with heap := h₁, drawn := dr } := by
    intro dr h₁ first hk hq
    refine wpAny_bind (wpAny_setEpoch_of (s := { s with heap := h₁, drawn := dr }) (hk _ _ y.get) rfl y.fit ?_)
    refine wpAny_bind (wpAny_newObj_type ?_ (by size_fits))
    exact wpAny_pure ⟨_, rfl, "set_iterator", _, ⟨_, Heap.get?_push_size _ rfl, rfl⟩, slot_si_next.lookup, hq _ rfl⟩
  cases hb : w.params.followText "set-order" with
  | true =>
    rw [if_neg (by show ¬ ((!w.params.followText "set-order" && _) = true); rw [hb]; simp)]
    refine wpAny_bind (wpAny_pure ?_)
    refine fin s.drawn s.heap (rawInt 0) (fun _ _ e => e) fun h₂ e₂ => ?_
    subst e₂
    have vl : ((pickOrder (w.params.setOrder a ep) es).toList.map (·.2)).length = es.size := by rw [List.length_map, (pickOrder_perm _ _).length_eq, Array.length_toList]
    refine hQ _ _ _ _ _ s.drawn (walk_int (I := s.heap.objs.size) (t := t) (ep := ep) (by simp [hh]) (Nat.ne_of_lt alt) (fun _ => 0) ((pickOrder (w.params.setOrder a ep) es).toList.map (·.2)) vl fun i s' A' E' Q' hi y' hq => next_text y' hb hq) ⟨Heap.get?_push_size _ rfl, y.at fun o e => Heap.get?_push_of_some _ e⟩ (fun b o e => Heap.get?_push_of_some _ e) (fun b hb => ?_) (szf _) fun acc hi => ?_
    · simp at hb; rcases hb with rfl | rfl
      · exact .inr (szf _)
      · exact .inl rfl
    · have : acc.toList = (pickOrder (w.params.setOrder a ep) es).toList.map (·.2) := by
        apply List.ext_getElem?
        intro j
        rcases Nat.lt_or_ge j acc.size with h | h
        · have e1 : acc[j]? = some acc[j] := Array.getElem?_eq_getElem h
          rw [hi.2 j _ e1]; simp [h]
        · rw [List.getElem?_eq_none (by simpa using h), List.getElem?_eq_none (by rw [vl, ← hi.1]; exact h)]
      rw [this]; exact (pickOrder_perm _ _).map _
  | false =>
    cases hd : (!t.plain && decide (es.size > 1)) with
    | false =>
      rw [if_neg (by show ¬ ((!w.params.followText "set-order" && (!t.plain && decide (es.size > 1))) = true); rw [hb, hd]; simp)]
      refine wpAny_bind (wpAny_pure ?_)
      refine fin s.drawn s.heap (rawInt 0) (fun _ _ e => e) fun h₂ e₂ => ?_
      subst e₂
      refine hQ _ _ _ _ _ s.drawn (walk_int (I := s.heap.objs.size) (t := t) (ep := ep) (by simp [hh]) (Nat.ne_of_lt alt) (slotAt t) (es.toList.map (·.2)) (by simp) fun i s' A' E' Q' hi y' hq => next_led y' hb hd hi hq) ⟨Heap.get?_push_size _ rfl, y.at fun o e => Heap.get?_push_of_some _ e⟩ (fun b o e => Heap.get?_push_of_some _ e) (fun b hb => ?_) (szf _) fun acc hi => ?_
      · simp at hb; rcases hb with rfl | rfl
        · exact .inr (szf _)
        · exact .inl rfl
      · have : acc.toList = es.toList.map (·.2) := by
          apply List.ext_getElem?
          intro j
          rcases Nat.lt_or_ge j acc.size with h | h
          · have e1 : acc[j]? = some acc[j] := Array.getElem?_eq_getElem h
            rw [hi.2 j _ e1]; simp [h]
          · rw [List.getElem?_eq_none (by simpa using h), List.getElem?_eq_none (by simp; rw [← hi.1]; exact h)]
        rw [this]
    | true =>
      rw [if_pos (by show ((!w.params.followText "set-order" && (!t.plain && decide (es.size > 1))) = true); rw [hb, hd]; simp)]
      refine wpAny_bind (drawOrder_snd es.size (List.range es.size) _ _ (by simp) fun pls dr hp => ?_)
      have hpl : pls.length = es.size := by rw [hp.length_eq]; simp
      have hlt : ∀ p ∈ pls, p < es.size := fun p h => by have := hp.mem_iff.mp h; simpa using this
      simp only [newTuple]
      refine wpAny_bind (wpAny_newObj_type ?_ (by have := fits_of_scanBound y.sz; show (List.map (fun (i : Nat) => rawInt i) pls).toArray.size ≤ sizeLine; simp [hpl]; omega))
      refine fin dr _ (.ref s.heap.objs.size) (fun b o e => Heap.get?_push_of_some _ e) fun h₂ e₂ => ?_
      subst e₂
      have sz1 : ∀ o : Obj, (s.heap.push o).objs.size = s.heap.objs.size + 1 := fun o => Heap.size_push ..
      refine hQ _ _ _ _ _ dr (walk_tup (tp := s.heap.objs.size) (t := t) (ep := ep) (n' := 0) (by simp [hh]) ?_ ?_ pls hpl hlt) ⟨Heap.get?_push_size _ rfl, y.at fun o e => Heap.get?_push_of_some _ (Heap.get?_push_of_some _ e), Heap.get?_push_of_some _ (Heap.get?_push_size _ rfl)⟩ (fun b o e => Heap.get?_push_of_some _ (Heap.get?_push_of_some _ e)) (fun b hb => ?_) ?_ fun acc hi => ?_
      · rw [sz1]; exact Nat.ne_of_lt (Nat.lt_succ_of_lt alt)
      · rw [sz1]; exact Nat.ne_of_lt (Nat.lt_succ_self _)
      · simp only [List.mem_cons, List.not_mem_nil, or_false] at hb
        rcases hb with rfl | rfl | rfl
        · right; rw [sz1]; exact szf1 _
        · exact .inl rfl
        · exact .inr (szf _)
      · rw [sz1]; exact szf1 _
      · have e1 : acc.toList = pls.map fun p => (es[p]?.map (·.2)).getD .none := by
          apply List.ext_getElem?
          intro j
          rcases Nat.lt_or_ge j acc.size with h | h
          · have e1 : acc[j]? = some acc[j] := Array.getElem?_eq_getElem h
            obtain ⟨p, e, hp', he, hv⟩ := hi.2 j _ e1
            rw [List.getElem?_map, hp']
            simp [he, hv, h]
          · rw [List.getElem?_eq_none (by simpa using h), List.getElem?_eq_none (by simp; rw [hpl, ← hi.1]; exact h)]
        rw [e1]
        refine (hp.map _).trans (List.Perm.of_eq ?_)
        apply List.ext_getElem?
        intro j
        rcases Nat.lt_or_ge j es.size with h | h
        · simp [h]
        · simp [h]

/-- all that a set holds, in some order -/
theorem set_collect {a : Addr} {es : Array (Int × Value)} {ep : Nat} {t : SetTable} {R : List Value → Shared → Prop} (hh : A.handled = none) (y : SAt w s.heap a es ep t)
    (h : ∀ (h' : Heap) (tk : Nat) (dr : Drawn) (acc : List Value), (∀ b o, s.heap.get? b = some o → h'.get? b = some o) → acc.Perm (es.toList.map (·.2)) → R acc { s with heap := h', toks := tk, drawn := dr }) :
    wpAny (model prog w) A (collect (.ref a)) R E s := by
  have hn : es.size ≤ sizeLine := fits_of_scanBound y.sz
  have alt : a < s.heap.objs.size := Heap.lt_size y.get
  unfold collect
  refine wpAny_bind (wpAny_runValue (codeAny_builtin entry_proto_collect' ?_))
  rw [Around.under_plainId PySem.F.plain_proto_collect _]
  show wpAny _ A.in1 (newList [] >>= fun l => again (.builtin "list.__iadd__" ⟨[l, .ref a], []⟩)) _ _ s
  refine wpAny_bind (wpAny_newObj_type ?_)
  refine wpAny_pure ⟨plainId_quiet PySem.F.plain_list_iadd _, codeAny_builtin entry_list_iadd' ?_⟩
  rw [Around.under_plainId PySem.F.plain_list_iadd _]
  have hS : (s.heap.push { cls := .type "list", data := .seq ([] : List Value).toArray }).get? s.heap.objs.size = some { cls := .type "list", data := .seq #[] } := Heap.get?_push_size _ rfl
  have k0 : ∀ b o, s.heap.get? b = some o → (s.heap.push { cls := .type "list", data := .seq ([] : List Value).toArray }).get? b = some o := fun b o e => Heap.get?_push_of_some _ e
  have hlt : ∀ b o, s.heap.get? b = some o → b ≠ s.heap.objs.size := fun b o e => Nat.ne_of_lt (Heap.lt_size e)
  generalize hS0 : s.heap.objs.size = S at *
  generalize (s.heap.push { cls := .type "list", data := .seq ([] : List Value).toArray }) = h₀ at *
  show wpAny _ A.in1 (Builtin.List.listExtendWith (.ref S) (.ref a) (.ref S)) _ _ _
  have y0 := y.at (k0 a)
  unfold Builtin.List.listExtendWith
  have hT : Shared.TypeIs { s with heap := h₀ } (.ref a) "set" := ⟨_, y0.get, rfl⟩
  refine wpAny_bind (wpAny_typeOf hT ?_)
  have h1 : Builtin.List.listSameRef (.ref S) (.ref a) = false := by simp [Builtin.List.listSameRef]; exact Nat.ne_of_gt alt
  have h2 : (Value.type "set" == Value.type "list") = false := by decide
  have h3 : (Value.type "set" == Value.type "tuple") = false := by decide
  simp only [h1, h2, h3, Bool.or_false, Bool.false_eq_true, if_false]
  refine wpAny_bind (set_iter (s := { s with heap := h₀ }) (by simp [hh]) y0 fun I fp P St hp₂ dr W st kk hfp hI hgood => ?_)
  have nS : S ≠ I := fun e => by subst e; rw [hS] at hI; cases hI
  have hSf : S ∉ fp := fun hm => by
    rcases hfp S hm with e | e
    · exact absurd e (Nat.ne_of_gt alt)
    · rw [hS] at e; cases e
  refine wpAny_bind (wpAny_holding (set_hint ⟨_, kk _ _ y0.get, rfl⟩ ?_))
  have key : ∀ (R' : Result → Shared → Prop) (h' : Heap) (c₁ : Nat), St 0 h' → (∀ b o, b ≠ S → hp₂.get? b = some o → h'.get? b = some o) → h'.get? S = some { cls := .type "list", data := .seq #[] c₁ } →
      (∀ (h' : Heap) (tk : Nat) (acc : Array Value) (c' : Nat), (∀ b o, b ≠ S → b ≠ I → hp₂.get? b = some o → h'.get? b = some o) → h'.get? S = some { cls := .type "list", dict := none, data := .seq acc c', slots := #[] } → ItemsOf P acc es.size → R' (.ok (.ret (.ref S))) { s with heap := h', toks := tk, drawn := dr }) →
      codeAny (model prog w) A (.builtin "list.extend.loop" ⟨[.ref S, .ref I, .ref S], []⟩) R' { s with heap := h', drawn := dr } := by
    intro R' h' c₁ hst hk hS₁ hR
    refine codeAny_extend_loopS W.toS hn S hSf (.ref S) es.size 0 _ #[] c₁ rfl (Nat.zero_le _) hst hS₁ (ItemsOf.nil _) fun s' acc' c' hm hS' hacc => ?_
    rw [Moved.eq_with hm]
    refine hR s'.heap s'.toks acc' c' (fun b o hb hb' e => hm.heap b o (fun hmem => ?_) (hk b o hb e)) hS' hacc
    rcases List.mem_cons.mp hmem with e' | hmem
    · exact hb e'
    · exact hb' (List.mem_singleton.mp hmem)
  have done : ∀ (h' : Heap) (tk : Nat) (acc : Array Value) (c' : Nat), (∀ b o, b ≠ S → b ≠ I → hp₂.get? b = some o → h'.get? b = some o) → h'.get? S = some { cls := .type "list", dict := none, data := .seq acc c', slots := #[] } → ItemsOf P acc es.size →
      wpAny (model prog w) A (load S >>= fun o => match o.data with
        | .seq xs _ => pure xs.toList
        | _ => unsupported "internal:collect") R E { s with heap := h', toks := tk, drawn := dr } := by
    intro h' tk acc c' hk hS' hi
    refine wpAny_bind (wpAny_load hS' ?_)
    refine wpAny_pure (h h' tk dr acc.toList (fun b o e => hk b o (hlt b o e) (fun e' => by subst e'; rw [k0 _ _ e] at hI; cases hI) (kk _ _ (k0 _ _ e))) (hgood acc hi))
  have hS₂ := kk _ _ hS
  refine wpAny_ite_split (fun _ => ?_) (fun _ => wpAny_pure ⟨plainId_quiet PySem.F.plain_extend_loop _, key _ _ _ st (fun b o _ e => e) hS₂ fun h' tk acc c' a1 a2 a3 => done h' tk acc c' a1 a2 a3⟩)
  refine wpAny_bind (wpAny_rule ?_)
  refine wpAny_bind ?_
  show wpAny _ _ (updateSeq S (·.push .none) >>= fun _ => updateSeq S (·.pop)) _ _ _
  refine wpAny_bind (wpAny_updateSeq hS₂ rfl ?_)
  have hS₃ := Heap.get?_update_self (Obj.mapSeq (·.push Value.none)) hS₂ rfl
  refine wpAny_updateSeq (hz := by seq_fits) hS₃ rfl ?_
  have hS₄ := Heap.get?_update_self (Obj.mapSeq (·.pop)) hS₃ rfl
  refine wpAny_pure ⟨plainId_quiet PySem.F.plain_extend_loop _, key _ _ _ ?_ (fun b o hb e => ?_) hS₄ fun h' tk acc c' a1 a2 a3 => done h' tk acc c' a1 a2 a3⟩
  · refine W.frame 0 _ _ st fun b hb o e => ?_
    have hbS : b ≠ S := fun h => hSf (h ▸ hb)
    exact (Heap.get?_update_other _ _ (Ne.symm hbS)).trans ((Heap.get?_update_other _ _ (Ne.symm hbS)).trans e)
  · exact (Heap.get?_update_other _ _ (Ne.symm hb)).trans ((Heap.get?_update_other _ _ (Ne.symm hb)).trans e)
end
end Mine
end
section
set_option autoImplicit false
set_option linter.unusedVariables false
set_option linter.unusedSimpArgs false
namespace Mine
open PySem PySem.Calls PyProof.Rows
section
variable {prog : Program} {w : World} {A : Around} {E : Value → Shared → Prop} {s : Shared}

/-- sorted, by what is collected -/
theorem sorted_snd {v : Value} {Q : Value → Shared → Prop}
    (hc : wpAny (model prog w) A.in1 (collect v) (fun vs s' => ∃ ns : List Int, IntsAre vs ns ∧ vs.length < 64 ∧ ∀ (h' : Heap) (r : Addr) (out : Array Value) (ns' : List Int) (e : Nat), IntsAre out.toList ns' → ns'.Perm ns → ns'.Pairwise (· ≤ ·) →
      (∀ b o, s'.heap.get? b = some o → h'.get? b = some o) → s'.heap.get? r = none → h'.get? r = some ⟨.type "list", none, .seq out e, #[]⟩ → Q (.ref r) { s' with heap := h' }) E s) :
    wpAny (model prog w) A (call (.builtin "sorted") [v]) Q E s := by
  refine Calls.call_function_entry kind_sorted plain_sorted entry_sorted (args_sorted1 _) ?_
  unfold Builtin.«sorted»
  refine wpAny_bind (m := checkCount "sorted" 1 1 _) (wpAny_pure ?_)
  refine wpAny_bind (wpAny_mono hc (fun vs s' h => ?_) fun _ _ e => e)
  obtain ⟨ns, hI, h64, hq⟩ := h
  refine wpAny_bind (wpAny_newList ?_)
  have hoL : (s'.heap.push (seqObj "list" vs.toArray 0)).get? s'.heap.objs.size = some (seqObj "list" vs.toArray 0) := Heap.get?_push_size _ rfl
  show wpAny _ _ _ _ _ { s' with heap := s'.heap.push (seqObj "list" vs.toArray 0) }
  refine wpAny_bind (wpAny_holding (wpAny_call_entry slot_list_sort ⟨_, hoL, rfl⟩ entry_list_sort (list_sort_tree (s := { s' with heap := s'.heap.push (seqObj "list" vs.toArray 0) }) hoL hI h64 fun out ns' a1 a2 a3 => ⟨_, rfl, ?_⟩) (args_list_sort _)))
  obtain ⟨e, he⟩ := sortedHeap_at (out := out) hoL
  refine wpAny_pure ⟨_, rfl, hq _ _ out ns' e a1 a2 a3 (fun b o hb => ?_) (szf _) he⟩
  have hlt := Heap.lt_size hb
  rw [sortedHeap_old (Nat.ne_of_lt hlt) (by rw [Heap.size_push]; exact Nat.lt_succ_of_lt hlt)]
  exact Heap.get?_push_of_some _ hb

theorem str_len {i : Int} (h : i.natAbs < 10 ^ 18) : (Str.ofString (toString i)).length ≤ 1000 := by
  rw [ofString_len]
  have g : ∀ m : Nat, m < 10 ^ 18 → (Nat.repr m).length ≤ 18 := fun m hm => by
    have := toDigits_len_pow (b := 10) (k := 18) (n := m) (by decide) (by decide) hm
    simpa [Nat.repr] using this
  cases i with
  | ofNat m =>
    have := g m (by simpa using h)
    show (Nat.repr m).length ≤ 1000
    omega
  | negSucc m =>
    have := g (m + 1) (by simpa using h)
    show ("-" ++ Nat.repr (m + 1)).length ≤ 1000
    rw [String.length_append]
    have h1 : "-".length = 1 := by first | rfl | decide
    omega
end
end Mine
end
section
set_option autoImplicit false
set_option linter.unusedVariables false
set_option genSizeOf false
set_option genInjectivity false
namespace Mine
open PySem PySem.Calls PyProof.Rows

inductive BOp where | add | sub | mul | fdiv | mod | pow
inductive COp where | eq | ne | lt | le | gt | ge | is | isnt | isin | notin

inductive E where
  | none | bool (b : Bool) | int (i : Int) | str (x : Str)
  | loc (i : Nat)
  | glob (x : Str)
  | bin (op : BOp) (a b : E)
  | neg (a : E)
  | and (a b : E)
  | or (a b : E)
  | cmp (op : COp) (a b : E)
  | attr (a : E) (n : Str)
  | sub (a i : E)
  | slice (a lo hi : E)
  | list (es : List E)
  | tup (es : List E)
  | dict (ks vs : List E)
  | call (f : E) (as : List E)
  | mcall (o : E) (n : Str) (as : List E)
  | comp (elt : E) (x : Nat) (src : E) (cs : List E)

inductive S where
  | expr (e : E)
  | assign (x : Nat) (e : E)
  | assignAttr (o : E) (n : Str) (e : E)
  | assignSub (o i e : E)
  | unpack (xs : List Nat) (e : E)
  | ite (c : E) (a b : List S)
  | whil (c : E) (body : List S)
  | forr (xs : List Nat) (src : E) (body : List S)
  | ret (e : E)
  | raise (e : E)
  | tryx (body hs orelse : List S)
  | hand (cls : E) (x : Option Nat) (body : List S)
  | delSlice (o lo hi : E)

noncomputable abbrev Lcs := List (Option MVal)
noncomputable def lg : Lcs → Nat → Option MVal
  | [], _ => none
  | x :: _, 0 => x
  | _ :: r, i + 1 => lg r i
noncomputable def ls : Lcs → Nat → Option MVal → Lcs
  | [], _, _ => []
  | _ :: r, 0, v => v :: r
  | x :: r, i + 1, v => x :: ls r i v
theorem ls_length : ∀ (σ : Lcs) (i : Nat) (v : Option MVal), (ls σ i v).length = σ.length
  | [], _, _ => rfl
  | _ :: _, 0, _ => rfl
  | _ :: r, i + 1, v => by simp only [ls, List.length_cons, ls_length r i v]
theorem lg_ls : ∀ (σ : Lcs) (i j : Nat) (v : Option MVal), i < σ.length → lg (ls σ i v) j = if j = i then v else lg σ j
  | [], i, j, v, h => by simp at h
  | x :: r, 0, 0, v, _ => rfl
  | x :: r, 0, j + 1, v, _ => by simp [ls, lg]
  | x :: r, i + 1, 0, v, _ => by simp [ls, lg]
  | x :: r, i + 1, j + 1, v, h => by
    simp only [List.length_cons] at h
    simp only [ls, lg, lg_ls r i j v (by omega), Nat.add_right_cancel_iff]

inductive MFlow where
  | next | brk | cont
  | ret (v : MVal)
  | exc (e : Addr)

noncomputable def fget : List (Str × MVal) → Str → Option MVal
  | [], _ => Option.none
  | (k, v) :: r, n => if n = k then some v else fget r n
noncomputable def fset : List (Str × MVal) → Str → MVal → List (Str × MVal)
  | [], n, v => [(n, v)]
  | (k, w) :: r, n, v => if n = k then (k, v) :: r else (k, w) :: fset r n v

/-- what a law's text is linked to -/
structure Cfg where
  prog : Program
  w : World
  h₀ : Heap
  K : W.Frag
  ro : Addr → Option (List MVal) := fun _ => Option.none

noncomputable def toM : Value → Option MVal
  | .none => some .none
  | .bool b => some (.bool b)
  | .int i _ => some (.int i)
  | .str x _ => some (.str x)
  | .type n => some (.ty n)
  | .builtin i => some (.bi i)
  | .ref a => some (.ref a)
  | _ => Option.none

/-- a global name's value -/
noncomputable def glV (x : Str) : Option Value → Option MVal
  | some v => toM v
  | Option.none => if x = "__name__" then Option.none else (bootBuiltins x).bind toM
noncomputable def Cfg.gl (c : Cfg) (x : Str) : Option MVal := (W.nsIn c.K mainGlobals x).bind (glV x)
noncomputable def vRef : Value → Option Addr
  | .ref f => some f
  | _ => Option.none
noncomputable def vBi : W.CFound → Option String
  | .val (.builtin id) => some id
  | _ => Option.none
/-- a class's method -/
noncomputable def Cfg.meth (c : Cfg) (C : Addr) (n : Str) : Option Addr :=
  if W.plainGet c.K C n && W.hasDictIn c.K C && !W.copiedNames.contains n then (((W.findIn c.K (.ref C) n).bind id).bind vRef).bind fun f =>
    if W.isFn c.K (.ref f) && W.specialIn c.K (.ref f) "__get__" == some (some (.builtin "function.__get__")) && W.takesIn c.K (.ref f) == some false then some f else Option.none
  else Option.none
/-- a field that may be read of an object of the class -/
noncomputable def Cfg.fld (c : Cfg) (C : Addr) (n : Str) : Bool := W.plainGet c.K C n && W.hasDictIn c.K C && (W.findIn c.K (.ref C) n).any (W.noGet c.K)
/-- and stored -/
noncomputable def Cfg.stf (c : Cfg) (C : Addr) (n : Str) : Bool := W.findIn c.K (.ref C) "__setattr__" == some (some (.builtin "object.__setattr__")) && W.plainOver c.K C && W.takerIn c.K C n == some Option.none && W.hasDictIn c.K C
noncomputable def Cfg.sub (c : Cfg) (C D : Addr) : Option Bool := W.mroIn c.K C (.ref D)
/-- a class of exceptions of the text's own -/
noncomputable def Cfg.exc (c : Cfg) (C : Addr) : Bool := W.mroIn c.K C (.type "BaseException") == some true && W.typeIn c.K (.ref C) == some (.type "type") && (W.clsIn c.K C).isSome
noncomputable def Cfg.callee (c : Cfg) (f : Addr) : Bool := W.keepIn c.K (.ref f)
noncomputable def Cfg.fn (c : Cfg) (f : Addr) : Bool := W.fnIn c.K f
/-- a field of an exception's own: read and stored -/
noncomputable def Cfg.fldE (c : Cfg) (C : Addr) (n : Str) : Bool := W.findIn c.K (.ref C) "__getattribute__" == some (some (.builtin "BaseException.__getattribute__")) && W.findIn c.K (.ref C) "__getattr__" == some Option.none &&
  W.mroIn c.K C (.type "BaseException") == some true && W.hasDictIn c.K C && (W.findIn c.K (.ref C) n).any (W.noGet c.K)
noncomputable def Cfg.stE (c : Cfg) (C : Addr) (n : Str) : Bool := W.findIn c.K (.ref C) "__setattr__" == some (some (.builtin "object.__setattr__")) && W.mroIn c.K C (.type "object") == some true && W.takerIn c.K C n == some Option.none && (W.clsIn c.K C).any ClassData.hasDict && c.exc C
/-- a class of ValueErrors -/
noncomputable def Cfg.ve (c : Cfg) (C : Addr) : Bool := W.mroIn c.K C (.type "ValueError") == some true && (W.clsIn c.K C).isSome
/-- a built-in method, read off a class -/
noncomputable def Cfg.clsm (c : Cfg) (C : Addr) (n : Str) : Option String := if W.readsIn c.K C (.type "type") && W.specialIn c.K (.ref C) "__getattribute__" == some (some (.builtin "type.__getattribute__")) then ((W.findCls c.K (.ref C) (.type "type") n).bind vBi).bind fun id => if W.handedIn (.builtin id) then some id else Option.none
  else Option.none

theorem no {α : Type} {a : α} {P : Prop} (h : Option.none = some a) : P := nomatch h
theorem vRef_inv {v : Value} {a : Addr} (h : vRef v = some a) : v = .ref a := by
  cases v <;> first | exact congrArg Value.ref (Option.some.inj h) | exact no h
theorem vBi_inv {v : W.CFound} {a : String} (h : vBi v = some a) : v = .val (.builtin a) := by
  cases v with
  | val v => cases v <;> first | exact congrArg (fun x => W.CFound.val (.builtin x)) (Option.some.inj h) | exact no h
  | _ => exact no h
theorem ite_some {p : Prop} [Decidable p] {α : Type} {o : Option α} {a : α} (h : (if p then o else Option.none) = some a) : p ∧ o = some a := by
  by_cases hp : p
  · rw [if_pos hp] at h; exact ⟨hp, h⟩
  · rw [if_neg hp] at h; exact no h
theorem Cfg.meth_inv {c : Cfg} {C : Addr} {n : Str} {f : Addr} (h : c.meth C n = some f) : (W.plainGet c.K C n = true ∧ W.hasDictIn c.K C = true ∧ W.copiedNames.contains n = false) ∧ W.findIn c.K (.ref C) n = some (some (.ref f)) ∧
    W.isFn c.K (.ref f) = true ∧ W.specialIn c.K (.ref f) "__get__" = some (some (.builtin "function.__get__")) ∧ W.takesIn c.K (.ref f) = some false := by
  obtain ⟨h1, h⟩ := ite_some h
  obtain ⟨g, e1, h⟩ := Option.bind_eq_some_iff.mp h
  obtain ⟨h4, h⟩ := ite_some h
  cases h
  obtain ⟨v, e2, e3⟩ := Option.bind_eq_some_iff.mp e1
  obtain ⟨o, e4, e5⟩ := Option.bind_eq_some_iff.mp e2
  rw [vRef_inv e3] at e5
  simp only [Bool.and_eq_true, Bool.not_eq_true', beq_iff_eq] at h1 h4
  exact ⟨⟨h1.1.1, h1.1.2, h1.2⟩, e4.trans (congrArg some e5), h4.1.1, h4.1.2, h4.2⟩
theorem Cfg.clsm_inv {c : Cfg} {C : Addr} {n : Str} {id : String} (h : c.clsm C n = some id) : W.readsIn c.K C (.type "type") = true ∧ W.specialIn c.K (.ref C) "__getattribute__" = some (some (.builtin "type.__getattribute__")) ∧
    W.findCls c.K (.ref C) (.type "type") n = some (.val (.builtin id)) ∧ W.handedIn (.builtin id) = true := by
  obtain ⟨h1, h⟩ := ite_some h
  obtain ⟨g, e1, h⟩ := Option.bind_eq_some_iff.mp h
  obtain ⟨h4, h⟩ := ite_some h
  cases h
  obtain ⟨v, e2, e3⟩ := Option.bind_eq_some_iff.mp e1
  rw [vBi_inv e3] at e2
  simp only [Bool.and_eq_true, beq_iff_eq] at h1
  exact ⟨h1.1, h1.2, e2, h4⟩

/-! views of small values and of tracked objects -/
noncomputable def on {α : Type} (o : Option α) (k : α → Prop) : Prop := match o with
  | some a => k a
  | Option.none => False
theorem on_inv {α : Type} {o : Option α} {k : α → Prop} (h : on o k) : ∃ a, o = some a ∧ k a := by
  cases o with
  | none => exact False.elim h
  | some a => exact ⟨a, rfl, h⟩
theorem on_eq {α : Type} {o : Option α} {k : α → Prop} {a : α} (h : o = some a) : on o k = k a := by rw [h]; rfl
noncomputable def asR : MVal → Option Addr
  | .ref a => some a
  | _ => Option.none
noncomputable def asI : MVal → Option Int
  | .int a => some a
  | _ => Option.none
noncomputable def asB : MVal → Option Bool
  | .bool a => some a
  | _ => Option.none
noncomputable def asS : MVal → Option Str
  | .str a => some a
  | _ => Option.none
noncomputable def asT : MVal → Option (List MVal)
  | .tup a => some a
  | _ => Option.none
theorem asR_inv {v : MVal} {a : Addr} (h : asR v = some a) : v = .ref a := by
  cases v <;> first | exact congrArg MVal.ref (Option.some.inj h) | exact no h
theorem asI_inv {v : MVal} {a : Int} (h : asI v = some a) : v = .int a := by
  cases v <;> first | exact congrArg MVal.int (Option.some.inj h) | exact no h
theorem asB_inv {v : MVal} {a : Bool} (h : asB v = some a) : v = .bool a := by
  cases v <;> first | exact congrArg MVal.bool (Option.some.inj h) | exact no h
theorem asS_inv {v : MVal} {a : Str} (h : asS v = some a) : v = .str a := by
  cases v <;> first | exact congrArg MVal.str (Option.some.inj h) | exact no h
theorem asT_inv {v : MVal} {a : List MVal} (h : asT v = some a) : v = .tup a := by
  cases v <;> first | exact congrArg MVal.tup (Option.some.inj h) | exact no h
theorem onR {v : MVal} {k : Addr → Prop} (h : on (asR v) k) : ∃ a, v = .ref a ∧ k a := let ⟨a, e, h⟩ := on_inv h; ⟨a, asR_inv e, h⟩
theorem onI {v : MVal} {k : Int → Prop} (h : on (asI v) k) : ∃ a, v = .int a ∧ k a := let ⟨a, e, h⟩ := on_inv h; ⟨a, asI_inv e, h⟩
noncomputable def oL : MObj → Option (List MVal)
  | .list xs => some xs
  | _ => Option.none
noncomputable def oN : MObj → Option (List (Str × MVal))
  | .ns xs => some xs
  | _ => Option.none
noncomputable def oS : MObj → Option (List Int)
  | .set xs => some xs
  | _ => Option.none
noncomputable def oX : MObj → Option Addr
  | .exc C _ => some C
  | _ => Option.none
theorem oL_inv {o : MObj} {a : List MVal} (h : oL o = some a) : o = .list a := by
  cases o <;> first | exact congrArg MObj.list (Option.some.inj h) | exact no h
theorem oN_inv {o : MObj} {a : List (Str × MVal)} (h : oN o = some a) : o = .ns a := by
  cases o <;> first | exact congrArg MObj.ns (Option.some.inj h) | exact no h
theorem oS_inv {o : MObj} {a : List Int} (h : oS o = some a) : o = .set a := by
  cases o <;> first | exact congrArg MObj.set (Option.some.inj h) | exact no h
theorem oX_inv {o : MObj} {a : Addr} (h : oX o = some a) : ∃ dx, o = .exc a dx := by
  cases o with
  | exc C dx => exact ⟨dx, congrArg (MObj.exc · dx) (Option.some.inj h)⟩
  | _ => exact no h
/-- a tracked object, by one of its views -/
noncomputable def at? {α : Type} (f : MObj → Option α) (H : MH) (a : Addr) : Option (Tag × α) := (H a).bind fun p => (f p.2).map fun x => (p.1, x)
theorem at_eq {α : Type} {f : MObj → Option α} {H : MH} {a : Addr} {t : Tag} {o : MObj} {x : α} (h : H a = some (t, o)) (e : f o = some x) : at? f H a = some (t, x) := by
  unfold at?; rw [h]; show (f o).map _ = _; rw [e]; rfl
theorem at_L {H : MH} {a : Addr} {t : Tag} {xs : List MVal} (h : H a = some (t, .list xs)) : at? oL H a = some (t, xs) := at_eq (f := oL) h rfl
theorem at_N {H : MH} {a : Addr} {t : Tag} {xs : List (Str × MVal)} (h : H a = some (t, .ns xs)) : at? oN H a = some (t, xs) := at_eq (f := oN) h rfl
theorem at_S {H : MH} {a : Addr} {t : Tag} {xs : List Int} (h : H a = some (t, .set xs)) : at? oS H a = some (t, xs) := at_eq (f := oS) h rfl
theorem at_X {H : MH} {a : Addr} {t : Tag} {C : Addr} {dx : Option Addr} (h : H a = some (t, .exc C dx)) : at? oX H a = some (t, C) := at_eq (f := oX) h rfl
theorem at_inv {α : Type} {f : MObj → Option α} {H : MH} {a : Addr} {p : Tag × α} (h : at? f H a = some p) : ∃ o, H a = some (p.1, o) ∧ f o = some p.2 := by
  obtain ⟨x, h1, h2⟩ := Option.bind_eq_some_iff.mp h
  obtain ⟨y, h3, rfl⟩ := Option.map_eq_some_iff.mp h2
  exact ⟨x.2, h1, h3⟩
theorem atL {H : MH} {a : Addr} {p : Tag × List MVal} (h : at? oL H a = some p) : H a = some (p.1, .list p.2) := by
  obtain ⟨o, h, e⟩ := at_inv h; rw [oL_inv e] at h; exact h
theorem atN {H : MH} {a : Addr} {p : Tag × List (Str × MVal)} (h : at? oN H a = some p) : H a = some (p.1, .ns p.2) := by
  obtain ⟨o, h, e⟩ := at_inv h; rw [oN_inv e] at h; exact h
theorem atS {H : MH} {a : Addr} {p : Tag × List Int} (h : at? oS H a = some p) : H a = some (p.1, .set p.2) := by
  obtain ⟨o, h, e⟩ := at_inv h; rw [oS_inv e] at h; exact h
theorem atX {H : MH} {a : Addr} {p : Tag × Addr} (h : at? oX H a = some p) : ∃ dx, H a = some (p.1, .exc p.2 dx) := by
  obtain ⟨o, h, e⟩ := at_inv h; obtain ⟨dx, rfl⟩ := oX_inv e; exact ⟨dx, h⟩
theorem onL {H : MH} {a : Addr} {k : Tag × List MVal → Prop} (h : on (at? oL H a) k) : ∃ t xs, H a = some (t, .list xs) ∧ k (t, xs) := let ⟨p, e, h⟩ := on_inv h; ⟨p.1, p.2, atL e, h⟩
theorem onN {H : MH} {a : Addr} {k : Tag × List (Str × MVal) → Prop} (h : on (at? oN H a) k) : ∃ t xs, H a = some (t, .ns xs) ∧ k (t, xs) := let ⟨p, e, h⟩ := on_inv h; ⟨p.1, p.2, atN e, h⟩
/-- one argument, two -/
noncomputable def arg1 : List MVal → Option MVal
  | [v] => some v
  | _ => Option.none
noncomputable def arg2 : List MVal → Option (MVal × MVal)
  | [u, v] => some (u, v)
  | _ => Option.none
theorem arg1_inv {vs : List MVal} {v : MVal} (h : arg1 vs = some v) : vs = [v] := by
  cases vs with
  | nil => exact no h
  | cons x r => cases r with
    | nil => exact congrArg (fun v => [v]) (Option.some.inj h)
    | cons _ _ => exact no h
theorem arg2_inv {vs : List MVal} {p : MVal × MVal} (h : arg2 vs = some p) : vs = [p.1, p.2] := by
  cases vs with
  | nil => exact no h
  | cons x r => cases r with
    | nil => exact no h
    | cons y r => cases r with
      | nil => exact congrArg (fun p : MVal × MVal => [p.1, p.2]) (Option.some.inj h)
      | cons _ _ => exact no h
theorem on1 {vs : List MVal} {k : MVal → Prop} (h : on (arg1 vs) k) : ∃ v, vs = [v] ∧ k v := let ⟨a, e, h⟩ := on_inv h; ⟨a, arg1_inv e, h⟩
theorem on2 {vs : List MVal} {k : MVal × MVal → Prop} (h : on (arg2 vs) k) : ∃ u v, vs = [u, v] ∧ k (u, v) := let ⟨p, e, h⟩ := on_inv h; ⟨p.1, p.2, arg2_inv e, h⟩

noncomputable def Truth (H : MH) : MVal → Option Bool
  | .none => some false
  | .bool b => some b
  | .int i => some (i != 0)
  | .ref a => (at? oL H a).map fun p => !p.2.isEmpty
  | _ => Option.none

/-- the object that a loop runs over -/
noncomputable def srcObj (H : MH) : MVal → Option MObj
  | .ref a => (H a).map (·.2)
  | _ => Option.none

/-- what a for loop or a comprehension over a value takes -/
noncomputable def itO : MObj → Option (List MVal)
  | .list xs => some xs
  | .dict _ es => some (es.map fun e => .int e.1)
  | _ => Option.none
noncomputable def itemsOf (H : MH) : MVal → Option (List MVal)
  | .rng lo hi => some ((List.range (hi - lo).toNat).map fun (i : Nat) => MVal.int (lo + (i : Int)))
  | .ref a => (H a).bind fun p => itO p.2
  | _ => Option.none

noncomputable def t0 : Tag := (0, 0)
noncomputable def allocW (o : MObj) (H : MH) (Q : MVal → MH → Prop) : Prop := ∀ r, H r = none → Q (.ref r) (upd H r t0 o)

noncomputable def mapO {α β : Type} (f : α → Option β) : List α → Option (List β)
  | [] => some []
  | x :: r => (f x).bind fun y => (mapO f r).map fun ys => y :: ys

/-- plain data out of the small heap -/
noncomputable def rdS (H : MH) (f : MVal → Option PyData) : MVal → Option PyData
  | .none => some .none
  | .bool b => some (.bool b)
  | .int i => some (.int i)
  | .str x => if PyData.strOk x = true then some (.str x) else Option.none
  | .ref a => (at? oL H a).bind fun p => (mapO f p.2).map .list
  | _ => Option.none
noncomputable def rd (H : MH) : Nat → MVal → Option PyData
  | 0 => fun _ => Option.none
  | n + 1 => rdS H (rd H n)

noncomputable def eqM (H : MH) (u v : MVal) : Option Bool := (rd H 60 u).bind fun a => (rd H 60 v).map fun b => PyData.eqv a b

noncomputable def isN : MVal → Option Bool
  | .none => some true
  | .ref _ => some false
  | .tup _ => some false
  | _ => Option.none
noncomputable def isT (b : String) : MVal → Option Bool
  | .ty a => some (a == b)
  | _ => Option.none
noncomputable def isM (u : MVal) : MVal → Option Bool
  | .none => isN u
  | .ty b => isT b u
  | _ => Option.none

noncomputable def ordM (f : Int → Int → Bool) (u v : MVal) : Option Bool := (asI u).bind fun a => (asI v).map fun b => f a b

noncomputable def memM (H : MH) (x : MVal) (ys : List MVal) : Option Bool := (rd H 60 x).bind fun a => (mapO (rd H 60) ys).map fun bs => bs.any fun b => PyData.eqv b a

noncomputable def intsOf : List MVal → Option (List Int)
  | [] => some []
  | v :: r => (asI v).bind fun i => (intsOf r).map (i :: ·)

noncomputable def inO (H : MH) (x : MVal) : MObj → Option Bool
  | .list xs => memM H x xs
  | .dict _ es => (asI x).map fun i => (es.map (·.1)).contains i
  | _ => Option.none
noncomputable def inM (H : MH) (x v : MVal) : Option Bool := (asR v).bind fun a => (H a).bind fun p => inO H x p.2

noncomputable def cmpM (H : MH) (op : COp) (u v : MVal) : Option Bool := match op with
  | .eq => eqM H u v
  | .ne => (eqM H u v).map (!·)
  | .is => isM u v
  | .isnt => (isM u v).map (!·)
  | .isin => inM H u v
  | .notin => (inM H u v).map (!·)
  | .lt => ordM (fun a b => decide (a < b)) u v
  | .le => ordM (fun a b => decide (a ≤ b)) u v
  | .gt => ordM (fun a b => decide (a > b)) u v
  | .ge => ordM (fun a b => decide (a ≥ b)) u v

noncomputable def AddW (u v : MVal) (H : MH) (Q : MVal → MH → Prop) : Prop := match u with
  | .int a => on (asI v) fun b => Q (.int (a + b)) H
  | .str a => on (asS v) fun b => a.length + b.length ≤ 2 ^ 20 ∧ Q (.str (a ++ b)) H
  | .ref a => on (asR v) fun b => on (at? oL H a) fun p => on (at? oL H b) fun r => p.2.length + r.2.length ≤ BIG ∧ allocW (.list (p.2 ++ r.2)) H Q
  | _ => False
noncomputable def BinW (op : BOp) (u v : MVal) (H : MH) (Q : MVal → MH → Prop) : Prop := match op with
  | .add => AddW u v H Q
  | .sub => on (asI u) fun a => on (asI v) fun b => Q (.int (a - b)) H
  | .mul => on (asI u) fun a => on (asI v) fun b => (a.natAbs < 2 ^ 62 ∧ b.natAbs < 2 ^ 62) ∧ Q (.int (a * b)) H
  | .fdiv => on (asI u) fun a => on (asI v) fun b => (0 < b ∧ b < 2 ^ 30) ∧ Q (.int (a / b)) H
  | .mod => on (asI u) fun a => on (asI v) fun b => 0 < b ∧ Q (.int (a % b)) H
  | .pow => on (asI u) fun a => on (asI v) fun b => (0 ≤ b ∧ b ≤ 1000 ∧ a.natAbs ≤ 16) ∧ Q (.int (a ^ b.toNat)) H

/-- an item of a list at a place that may be negative -/
noncomputable def idx? (n : Nat) (i : Int) : Option Nat := if 0 ≤ i ∧ i < n then some i.toNat else if i < 0 ∧ 0 ≤ i + n then some (i + n).toNat else Option.none
noncomputable def nth? (xs : List MVal) (k : Int) : Option MVal := (idx? xs.length k).bind fun j => xs[j]?

noncomputable def SubO (k : Int) (H : MH) (Q : MVal → MH → Prop) : MObj → Prop
  | .list xs => on (nth? xs k) fun v => Q v H
  | .dict _ es => on (es.find? fun e => decide (e.1 = k)) fun e => Q e.2 H
  | _ => False
noncomputable def SubV (c : Cfg) (k : Int) (H : MH) (Q : MVal → MH → Prop) : MVal → Prop
  | .ro a => on (c.ro a) fun xs => on (nth? xs k) fun v => Q v H
  | .tup vs => on (nth? vs k) fun v => Q v H
  | .ref a => on (H a) fun p => SubO k H Q p.2
  | _ => False
noncomputable def SubW (c : Cfg) (u i : MVal) (H : MH) (Q : MVal → MH → Prop) : Prop := on (asI i) fun k => SubV c k H Q u

noncomputable def MethO (c : Cfg) (H : MH) (a : Addr) (n : Str) : MObj → Option (MVal × List MVal)
  | .list _ => if n = "append" then some (.bi "list.append", [.ref a]) else if n = "pop" then some (.bi "list.pop", [.ref a]) else Option.none
  | .set _ => if n = "add" then some (.bi "set.add", [.ref a]) else Option.none
  | .inst C dx => (at? oN H dx).bind fun p => if fget p.2 n = Option.none then (c.meth C n).map fun f => (.ref f, [.ref a]) else Option.none
  | _ => Option.none
noncomputable def MethA (c : Cfg) (H : MH) (a : Addr) (n : Str) : Option (Tag × MObj) → Option (MVal × List MVal)
  | some p => MethO c H a n p.2
  | Option.none => (c.clsm a n).map fun id => (.bi id, [])
noncomputable def MethR (c : Cfg) (H : MH) (u : MVal) (n : Str) : Option (MVal × List MVal) := (asR u).bind fun a => MethA c H a n (H a)
end Mine
end
section
set_option autoImplicit false
set_option linter.unusedVariables false
set_option genSizeOf false
set_option genInjectivity false
namespace Mine
open PySem PySem.Calls PyProof.Rows

noncomputable abbrev Cfg.P (c : Cfg) : Params := c.w.params
noncomputable abbrev Cfg.M (c : Cfg) : Model := model c.prog c.w

/-- where a call stands: its frames, its room, no exception under way -/
structure Stat (A : Around) (fr : List Env) (d : Nat) (q : Bool) : Prop where
  frames : A.frames = some fr
  depth : A.depth + 4 * d < 900
  units : A.units + 16 * d < 9000
  quiet : q = true → A.handled = none

theorem Stat.less {A : Around} {fr : List Env} {d d' : Nat} {q : Bool} (x : Stat A fr d q) (h : d' ≤ d) : Stat A fr d' q :=
  ⟨x.frames, by have := x.depth; omega, by have := x.units; omega, x.quiet⟩

inductive QV (c : Cfg) (fr : List Env) (X : Addr → Prop) (H : MH) (s : Shared) (Q : MVal → MH → Prop) (v : Value) (s' : Shared) : Prop
  | mk (m : MVal) (H' : MH) (r : VR s'.heap m v) (dy : Dyn c.h₀ c.P fr H' s') (e : Ext X H s H' s') (q : Q m H') : QV c fr X H s Q v s'
inductive QE (c : Cfg) (fr : List Env) (X : Addr → Prop) (H : MH) (s : Shared) (Z : Addr → MH → Prop) (v : Value) (s' : Shared) : Prop
  | mk (x : Addr) (H' : MH) (r : v = .ref x) (o : ∃ t C dx, H' x = some (t, .exc C dx)) (dy : Dyn c.h₀ c.P fr H' s') (e : Ext X H s H' s') (q : Z x H') : QE c fr X H s Z v s'
noncomputable def QR (c : Cfg) (fr : List Env) (X : Addr → Prop) (H : MH) (s : Shared) (Q : MVal → MH → Prop) (Z : Addr → MH → Prop) (r : Result) (s' : Shared) : Prop :=
  match r with
  | .ok (.ret v) => QV c fr X H s Q v s'
  | .ok _ => False
  | .error e => QE c fr X H s Z e s'

/-- a call of an object of the text, by what it gives -/
noncomputable def CallOK (c : Cfg) (d : Nat) (q : Bool) (f : Addr) (vs : List MVal) (H : MH) (Q : MVal → MH → Prop) (Z : Addr → MH → Prop) : Prop :=
  ∀ A fr s vals, Stat A fr d q → Dyn c.h₀ c.P fr H s → VRs s.heap vs vals → codeAny c.M A (.call (.ref f) ⟨vals, []⟩) (QR c fr noX H s Q Z) s

theorem QV.mono {c : Cfg} {fr : List Env} {X : Addr → Prop} {H : MH} {s : Shared} {Q Q' : MVal → MH → Prop} {v : Value} {s' : Shared} (x : QV c fr X H s Q v s') (h : ∀ m H', Q m H' → Q' m H') : QV c fr X H s Q' v s' :=
  let ⟨m, H', a, b, e, q⟩ := x; ⟨m, H', a, b, e, h m H' q⟩
theorem QE.mono {c : Cfg} {fr : List Env} {X : Addr → Prop} {H : MH} {s : Shared} {Z Z' : Addr → MH → Prop} {v : Value} {s' : Shared} (x : QE c fr X H s Z v s') (h : ∀ m H', Z m H' → Z' m H') : QE c fr X H s Z' v s' :=
  let ⟨m, H', a, a', b, e, q⟩ := x; ⟨m, H', a, a', b, e, h m H' q⟩
theorem QV.step {c : Cfg} {fr : List Env} {X : Addr → Prop} {H H₁ : MH} {s s₁ : Shared} {Q : MVal → MH → Prop} {v : Value} {s' : Shared} (e : Ext X H s H₁ s₁) (x : QV c fr X H₁ s₁ Q v s') : QV c fr X H s Q v s' :=
  let ⟨m, H', a, b, e', q⟩ := x; ⟨m, H', a, b, e.trans e', q⟩
theorem QE.step {c : Cfg} {fr : List Env} {X : Addr → Prop} {H H₁ : MH} {s s₁ : Shared} {Z : Addr → MH → Prop} {v : Value} {s' : Shared} (e : Ext X H s H₁ s₁) (x : QE c fr X H₁ s₁ Z v s') : QE c fr X H s Z v s' :=
  let ⟨m, H', a, a', b, e', q⟩ := x; ⟨m, H', a, a', b, e.trans e', q⟩

theorem CallOK.mono {c : Cfg} {d d' : Nat} {q : Bool} {f : Addr} {vs : List MVal} {H : MH} {Q Q' : MVal → MH → Prop} {Z Z' : Addr → MH → Prop} (x : CallOK c d q f vs H Q Z) (hd : d ≤ d')
    (hQ : ∀ m H', Q m H' → Q' m H') (hZ : ∀ m H', Z m H' → Z' m H') : CallOK c d' q f vs H Q' Z' := fun A fr s vals st dy hv =>
  codeAny_mono (x A fr s vals (st.less hd) dy hv) fun r s' y => by
    cases r with
    | error e => exact QE.mono y hZ
    | ok f => cases f <;> first | exact y.elim | exact QV.mono y hQ

/-- built-in functions -/
noncomputable def keysO : MObj → Option (List Int)
  | .list xs => intsOf xs
  | .set xs => some xs
  | .dict _ es => some (es.map (·.1))
  | _ => Option.none
noncomputable def keysM (H : MH) (a : Addr) : Option (List Int) := (H a).bind fun p => keysO p.2
noncomputable def lenO : MObj → Option Nat
  | .list xs => some xs.length
  | .dict _ es => some es.length
  | .set xs => some xs.length
  | _ => Option.none
noncomputable def lenM (c : Cfg) (H : MH) : MVal → Option Nat
  | .ref a => (H a).bind fun p => lenO p.2
  | .ro a => (c.ro a).map List.length
  | _ => Option.none
noncomputable def SortW (q : Bool) (H : MH) (Q : MVal → MH → Prop) (a : Addr) : Prop := q = true ∧ on (keysM H a) fun ns => ns.length < 64 ∧ ∀ ns' : List Int, ns'.Perm ns → ns'.Pairwise (· ≤ ·) → allocW (.list (ns'.map .int)) H Q
noncomputable def MaxW (q : Bool) (H : MH) (Q : MVal → MH → Prop) (a : Addr) : Prop := q = true ∧ on (at? oL H a) fun p => on (intsOf p.2) fun ns => ns ≠ [] ∧ ∀ M, M ∈ ns → (∀ a ∈ ns, a ≤ M) → Q (.int M) H

noncomputable def BiW (c : Cfg) (q : Bool) (id : String) (vs : List MVal) (H : MH) (Q : MVal → MH → Prop) : Prop :=
  if id = "len" then on (arg1 vs) fun v => on (lenM c H v) fun n => Q (.int n) H
  else if id = "abs" then on (arg1 vs) fun v => on (asI v) fun i => Q (.int i.natAbs) H
  else if id = "list.append" then on (arg2 vs) fun v => on (asR v.1) fun a => on (at? oL H a) fun p => p.2.length < BIG ∧ Q .none (upd H a p.1 (.list (p.2 ++ [v.2])))
  else if id = "list.pop" then on (arg1 vs) fun v => on (asR v) fun a => on (at? oL H a) fun p => ∃ h : p.2 ≠ [], Q (p.2.getLast h) (upd H a p.1 (.list p.2.dropLast))
  else if id = "set.add" then on (arg2 vs) fun v => on (asR v.1) fun a => on (asI v.2) fun i => on (at? oS H a) fun p => p.2.length < 1000 ∧ Q .none (upd H a p.1 (.set (if p.2.contains i then p.2 else p.2 ++ [i])))
  else if id = "sorted" then on (arg1 vs) fun v => on (asR v) (SortW q H Q)
  else if id = "max" then on (arg1 vs) fun v => on (asR v) (MaxW q H Q)
  else if id = "ValueError.__init__" then on (arg2 vs) fun v => on (asR v.1) fun e => on (at? oX H e) fun p => c.ve p.2 = true ∧ Q .none H
  else False

/-- built-in types, called -/
noncomputable def tyM (H : MH) : MVal → Option MVal
  | .int _ => some (.ty "int")
  | .none => some (.ty "NoneType")
  | .ref a => (at? oL H a).map fun _ => .ty "list"
  | _ => Option.none
noncomputable def TyW (q : Bool) (n : String) (vs : List MVal) (H : MH) (Q : MVal → MH → Prop) : Prop :=
  if n = "range" then (if vs.length = 1 then on (arg1 vs) fun v => on (asI v) fun b => b.natAbs < 2 ^ 60 ∧ Q (.rng 0 b) H
    else on (arg2 vs) fun v => on (asI v.1) fun a => on (asI v.2) fun b => (a.natAbs < 2 ^ 60 ∧ b.natAbs < 2 ^ 60) ∧ Q (.rng a b) H)
  else if n = "int" then on (arg1 vs) fun v => on (asB v) fun b => Q (.int (if b then 1 else 0)) H
  else if n = "list" then on (arg1 vs) fun v => on (asR v) fun a => on (at? oL H a) fun p => allocW (.list p.2) H Q
  else if n = "set" then on (arg1 vs) fun v => on (asR v) fun a => on (at? oL H a) fun p => p.2 = [] ∧ q = true ∧ allocW (.set []) H Q
  else if n = "str" then on (arg1 vs) fun v => on (asI v) fun i => i.natAbs < 10 ^ 18 ∧ ∀ x : Str, x = Str.ofString (toString i) → x.length ≤ 1000 → Q (.str x) H
  else if n = "type" then on (arg1 vs) fun v => on (tyM H v) fun m => Q m H
  else False

noncomputable def CallW (c : Cfg) (d : Nat) (q : Bool) (fv : MVal) (vs : List MVal) (H : MH) (Q : MVal → MH → Prop) (Z : Addr → MH → Prop) : Prop :=
  match fv with
  | .ref f => c.callee f = true ∧ CallOK c d q f vs H Q Z
  | .meth f self => c.fn f = true ∧ CallOK c d q f (.ref self :: vs) H Q Z
  | .bi id => BiW c q id vs H Q
  | .ty n => TyW q n vs H Q
  | _ => False

noncomputable def notBi : MVal → Bool
  | .bi _ => false
  | _ => true

noncomputable def AttrI (c : Cfg) (n : Str) (H : MH) (Q : MVal → MH → Prop) (a C : Addr) : Option MVal → Prop
  | some v => (c.fld C n = true ∧ notBi v = true) ∧ Q v H
  | Option.none => on (c.meth C n) fun f => Q (.meth f a) H
noncomputable def AttrO (c : Cfg) (n : Str) (H : MH) (Q : MVal → MH → Prop) (a : Addr) : MObj → Prop
  | .inst C dx => on (at? oN H dx) fun p => AttrI c n H Q a C (fget p.2 n)
  | .exc C dx => on dx fun dx => on (at? oN H dx) fun p => on (fget p.2 n) fun v => (c.fldE C n = true ∧ notBi v = true) ∧ Q v H
  | _ => False
noncomputable def AttrW (c : Cfg) (u : MVal) (n : Str) (H : MH) (Q : MVal → MH → Prop) : Prop := on (asR u) fun a => on (H a) fun p => AttrO c n H Q a p.2

noncomputable def slb (n : Nat) (v : MVal) (dflt : Nat) : Option Nat := match v with
  | .none => some dflt
  | .int i => if i.natAbs < 2 ^ 60 then some (if i < 0 then (max 0 (i + n)).toNat else min n i.toNat) else Option.none
  | _ => Option.none

noncomputable def SliceW (u lo hi : MVal) (H : MH) (Q : MVal → MH → Prop) : Prop :=
  on (asR u) fun a => on (at? oL H a) fun p => on (slb p.2.length lo 0) fun i => on (slb p.2.length hi p.2.length) fun j => allocW (.list ((p.2.take j).drop i)) H Q

/-- a comprehension's turns -/
noncomputable def compW (src : MVal) (o : Option MObj) (turn : MVal → MH → (Option MVal → MH → Prop) → Prop) : List MVal → List MVal → MH → (List MVal → MH → Prop) → Prop
  | [], acc, H, Q => srcObj H src = o ∧ Q acc H
  | v :: vs, acc, H, Q => srcObj H src = o ∧ turn v H fun r H' => compW src o turn vs (match r with | some y => acc ++ [y] | Option.none => acc) H' Q

noncomputable def bindXs (xs : List Nat) (v : MVal) (σ : Lcs) : Option Lcs :=
  if xs.length = 1 then xs.head?.map fun x => ls σ x (some v)
  else (asT v).bind fun vs => if xs.length = vs.length then some ((xs.zip vs).foldl (fun σ p => ls σ p.1 (some p.2)) σ) else Option.none

noncomputable abbrev VT := Lcs → MH → (MVal → MH → Prop) → (Addr → MH → Prop) → Prop
noncomputable abbrev BT := Lcs → MH → (Bool → MH → Prop) → (Addr → MH → Prop) → Prop
noncomputable abbrev LT := Lcs → MH → (List MVal → MH → Prop) → (Addr → MH → Prop) → Prop
noncomputable def testV (v : VT) : BT := fun σ H Q Z => v σ H (fun u H₁ => match Truth H₁ u with | some r => Q r H₁ | Option.none => False) Z
noncomputable def pk (v : VT) : VT × BT := (v, testV v)

mutual
noncomputable def wpX (c : Cfg) (d : Nat) (q : Bool) : E → VT × BT
  | .none => pk fun σ H Q Z => Q .none H
  | .bool b => pk fun σ H Q Z => Q (.bool b) H
  | .int i => pk fun σ H Q Z => Q (.int i) H
  | .str x => pk fun σ H Q Z => Q (.str x) H
  | .loc i => pk fun σ H Q Z => (match lg σ i with | some v => Q v H | Option.none => False)
  | .glob x => pk fun σ H Q Z => (match c.gl x with | some v => Q v H | Option.none => False)
  | .bin op a b => pk fun σ H Q Z => (wpX c d q a).1 σ H (fun u H₁ => (wpX c d q b).1 σ H₁ (fun v H₂ => BinW op u v H₂ Q) Z) Z
  | .neg a => pk fun σ H Q Z => (wpX c d q a).1 σ H (fun u H₁ => match u with | .int i => Q (.int (-i)) H₁ | _ => False) Z
  | .and a b => (fun σ H Q Z => (wpX c d q a).1 σ H (fun u H₁ => match Truth H₁ u with | some true => (wpX c d q b).1 σ H₁ Q Z | some false => Q u H₁ | Option.none => False) Z,
      fun σ H Q Z => (wpX c d q a).2 σ H (fun r H₁ => if r then (wpX c d q b).2 σ H₁ Q Z else Q false H₁) Z)
  | .or a b => (fun σ H Q Z => (wpX c d q a).1 σ H (fun u H₁ => match Truth H₁ u with | some false => (wpX c d q b).1 σ H₁ Q Z | some true => Q u H₁ | Option.none => False) Z,
      fun σ H Q Z => (wpX c d q a).2 σ H (fun r H₁ => if r then Q true H₁ else (wpX c d q b).2 σ H₁ Q Z) Z)
  | .cmp op a b => pk fun σ H Q Z => (wpX c d q a).1 σ H (fun u H₁ => (wpX c d q b).1 σ H₁ (fun v H₂ => match cmpM H₂ op u v with | some r => Q (.bool r) H₂ | Option.none => False) Z) Z
  | .attr a n => pk fun σ H Q Z => (wpX c d q a).1 σ H (fun u H₁ => AttrW c u n H₁ Q) Z
  | .sub a i => pk fun σ H Q Z => (wpX c d q a).1 σ H (fun u H₁ => (wpX c d q i).1 σ H₁ (fun v H₂ => SubW c u v H₂ Q) Z) Z
  | .slice a lo hi => pk fun σ H Q Z => (wpX c d q a).1 σ H (fun u H₁ => (wpX c d q lo).1 σ H₁ (fun v H₂ => (wpX c d q hi).1 σ H₂ (fun x H₃ => SliceW u v x H₃ Q) Z) Z) Z
  | .list es => pk fun σ H Q Z => (wpXs c d q es).1 σ H (fun vs H₁ => vs.length ≤ BIG ∧ allocW (.list vs) H₁ Q) Z
  | .tup es => pk fun σ H Q Z => (wpXs c d q es).1 σ H (fun vs H₁ => vs.length ≤ 2 ^ 20 ∧ Q (.tup vs) H₁) Z
  | .dict ks vs => pk fun σ H Q Z => (match ks, vs with
    | [], [] => allocW (.dict 0 []) H Q
    | _, _ => False)
  | .call f as => pk fun σ H Q Z => (wpX c d q f).1 σ H (fun fv H₁ => (wpXs c d q as).1 σ H₁ (fun vs H₂ => CallW c d q fv vs H₂ Q Z) Z) Z
  | .mcall o n as => pk fun σ H Q Z => (wpX c d q o).1 σ H (fun u H₁ => match MethR c H₁ u n with
      | some (fv, first) => (wpXs c d q as).1 σ H₁ (fun vs H₂ => CallW c d q fv (first ++ vs) H₂ Q Z) Z
      | Option.none => False) Z
  | .comp elt x src cs => pk fun σ H Q Z => (q = true ∧ x < σ.length) ∧ (wpX c d q src).1 σ H (fun u H₁ => match itemsOf H₁ u with
      | some its => its.length ≤ 2 ^ 20 ∧ compW u (srcObj H₁ u) (fun v H' k =>
          (wpXs c d q cs).2 (ls σ x (some v)) H' (fun r H'' => if r then (wpX c d q elt).1 (ls σ x (some v)) H'' (fun y H₃ => k (some y) H₃) (fun _ _ => False) else k Option.none H'') (fun _ _ => False)) its [] H₁ (fun ys H' => allocW (.list ys) H' Q)
      | Option.none => False) Z
noncomputable def wpXs (c : Cfg) (d : Nat) (q : Bool) : List E → LT × BT
  | [] => (fun σ H Q Z => Q [] H, fun σ H Q Z => Q true H)
  | e :: es => (fun σ H Q Z => (wpX c d q e).1 σ H (fun v H₁ => (wpXs c d q es).1 σ H₁ (fun vs H₂ => Q (v :: vs) H₂) Z) Z,
      fun σ H Q Z => (wpX c d q e).2 σ H (fun r H₁ => if r then (wpXs c d q es).2 σ H₁ Q Z else Q false H₁) Z)
end
end Mine
end
section
set_option autoImplicit false
set_option linter.unusedVariables false
namespace Mine
open PySem PySem.Calls PyProof.Rows

noncomputable abbrev ST := Lcs → MH → (MFlow → Lcs → MH → Prop) → Prop

noncomputable def SetAttrO (c : Cfg) (a : Addr) (n : Str) (v : MVal) (H : MH) (Q : MH → Prop) (t : Tag) : MObj → Prop
  | .inst C dx => on (at? oN H dx) fun r => (c.stf C n = true ∧ r.2.length < 100) ∧ Q (upd H dx r.1 (.ns (fset r.2 n v)))
  | .exc C dx => dx = Option.none ∧ c.stE C n = true ∧ ∀ dx, H dx = none → dx ≠ a → Q (upd (upd H dx t0 (.ns [(n, v)])) a t (.exc C (some dx)))
  | _ => False
noncomputable def SetAttrW (c : Cfg) (u : MVal) (n : Str) (v : MVal) (H : MH) (Q : MH → Prop) : Prop := on (asR u) fun a => on (H a) fun p => SetAttrO c a n v H Q p.1 p.2

noncomputable def putD (es : List (Int × MVal)) (k : Int) (v : MVal) : List (Int × MVal) :=
  if es.any (fun e => decide (e.1 = k)) then es.map (fun e => if e.1 = k then (e.1, v) else e) else es ++ [(k, v)]

noncomputable def SetItemO (a : Addr) (k : Int) (v : MVal) (H : MH) (Q : MH → Prop) (t : Tag) : MObj → Prop
  | .list xs => (0 ≤ k ∧ k < xs.length) ∧ Q (upd H a t (.list (xs.set k.toNat v)))
  | .dict _ es => es.length < BIG ∧ ∀ ep', Q (upd H a t (.dict ep' (putD es k v)))
  | _ => False
noncomputable def SetItemW (u i v : MVal) (H : MH) (Q : MH → Prop) : Prop := on (asR u) fun a => on (asI i) fun k => on (H a) fun p => SetItemO a k v H Q p.1 p.2

noncomputable def DelSliceW (u lo hi : MVal) (H : MH) (Q : MH → Prop) : Prop :=
  on (asR u) fun a => on (at? oL H a) fun p => on (asI lo) fun i => hi = .none ∧ (0 ≤ i ∧ i < 2 ^ 60) ∧ Q (upd H a p.1 (.list (p.2.take i.toNat)))

/-- a for loop's turns -/
noncomputable def forW (src : MVal) (o : Option MObj) (turn : MVal → ST) : List MVal → ST
  | [], σ, H, K => srcObj H src = o ∧ K .next σ H
  | v :: vs, σ, H, K => srcObj H src = o ∧ turn v σ H fun f σ' H' => match f with
    | .next => forW src o turn vs σ' H' K
    | .cont => forW src o turn vs σ' H' K
    | .brk => K .next σ' H'
    | .ret v => K (.ret v) σ' H'
    | .exc e => False

noncomputable def whileW (test : BT) (body : ST) : ST := fun σ H K => ∃ (I : Nat → Lcs → MH → Prop) (n : Nat), I n σ H ∧ ∀ n σ H, I n σ H →
  test σ H (fun r H₁ => if r then body σ H₁ (fun f σ' H' => match f with
    | .next => ∃ m, m < n ∧ I m σ' H'
    | .cont => ∃ m, m < n ∧ I m σ' H'
    | .brk => K .next σ' H'
    | .ret v => K (.ret v) σ' H'
    | .exc e => False) else K .next σ H₁) (fun e H₁ => False)

mutual
noncomputable def wpS (c : Cfg) (d : Nat) (q : Bool) : S → ST
  | .expr e => fun σ H K => (wpX c d q e).1 σ H (fun _ H₁ => K .next σ H₁) (fun x H₁ => K (.exc x) σ H₁)
  | .assign x e => fun σ H K => (wpX c d q e).1 σ H (fun v H₁ => K .next (ls σ x (some v)) H₁) (fun x H₁ => K (.exc x) σ H₁)
  | .assignAttr o n e => fun σ H K => (wpX c d q e).1 σ H (fun v H₁ => (wpX c d q o).1 σ H₁ (fun u H₂ => SetAttrW c u n v H₂ fun H₃ => K .next σ H₃) (fun x H₂ => K (.exc x) σ H₂)) (fun x H₁ => K (.exc x) σ H₁)
  | .assignSub o i e => fun σ H K => (wpX c d q e).1 σ H (fun v H₁ => (wpX c d q o).1 σ H₁ (fun u H₂ => (wpX c d q i).1 σ H₂ (fun k H₃ => SetItemW u k v H₃ fun H₄ => K .next σ H₄) (fun x H₃ => K (.exc x) σ H₃)) (fun x H₂ => K (.exc x) σ H₂)) (fun x H₁ => K (.exc x) σ H₁)
  | .unpack xs e => fun σ H K => q = true ∧ (wpX c d q e).1 σ H (fun v H₁ => match bindXs xs v σ with | some σ' => K .next σ' H₁ | Option.none => False) (fun x H₁ => K (.exc x) σ H₁)
  | .ite t a b => fun σ H K => (wpX c d q t).2 σ H (fun r H₁ => if r then wpSs c d q a σ H₁ K else wpSs c d q b σ H₁ K) (fun x H₁ => K (.exc x) σ H₁)
  | .whil t body => whileW (wpX c d q t).2 (wpSs c d q body)
  | .forr xs src body => fun σ H K => q = true ∧ (wpX c d q src).1 σ H (fun u H₁ => match itemsOf H₁ u with
      | some its => its.length ≤ 2 ^ 20 ∧ forW u (srcObj H₁ u) (fun v σ' H' k => match bindXs xs v σ' with
          | some σ'' => wpSs c d q body σ'' H' k
          | Option.none => False) its σ H₁ K
      | Option.none => False) (fun x H₁ => K (.exc x) σ H₁)
  | .ret e => fun σ H K => (wpX c d q e).1 σ H (fun v H₁ => K (.ret v) σ H₁) (fun x H₁ => K (.exc x) σ H₁)
  | .raise e => fun σ H K => q = true ∧ (wpX c d q e).1 σ H (fun v H₁ => on (asR v) fun a => on (at? oX H₁ a) fun p => c.exc p.2 = true ∧ K (.exc a) σ H₁) (fun x H₁ => K (.exc x) σ H₁)
  | .tryx body hs orelse => fun σ H K => wpSs c d q body σ H (fun f σ' H' => match f with
      | .next => wpSs c d q orelse σ' H' K
      | .exc e => wpHs c d hs e σ' H' K
      | f => K f σ' H')
  | .hand _ _ _ => fun _ _ _ => False
  | .delSlice o lo hi => fun σ H K => (wpX c d q o).1 σ H (fun u H₁ => (wpX c d q lo).1 σ H₁ (fun k H₂ => (wpX c d q hi).1 σ H₂ (fun l H₃ => DelSliceW u k l H₃ fun H₄ => K .next σ H₄) (fun x H₃ => K (.exc x) σ H₃)) (fun x H₂ => K (.exc x) σ H₂)) (fun x H₁ => K (.exc x) σ H₁)
noncomputable def wpSs (c : Cfg) (d : Nat) (q : Bool) : List S → ST
  | [] => fun σ H K => K .next σ H
  | s :: r => fun σ H K => wpS c d q s σ H fun f σ' H' => match f with
    | .next => wpSs c d q r σ' H' K
    | f => K f σ' H'
noncomputable def wpHs (c : Cfg) (d : Nat) : List S → Addr → ST
  | [], e => fun σ H K => K (.exc e) σ H
  | .hand cls x body :: rest, e => fun σ H K => (wpX c d false cls).1 σ H (fun v H₁ => on (asR v) fun D => on (at? oX H₁ e) fun p => c.exc D = true ∧ c.sub p.2 D = some true ∧ (match x with
      | some i => wpSs c d false body (ls σ i (some (.ref e))) H₁ fun f σ' H' => (match f with
        | .exc _ => False
        | f => K f (ls σ' i Option.none) H')
      | Option.none => wpSs c d false body σ H₁ fun f σ' H' => (match f with
        | .exc _ => False
        | f => K f σ' H'))) (fun _ _ => False)
  | _ :: _, _ => fun _ _ _ => False
end
end Mine
end
section
set_option autoImplicit false
set_option linter.unusedVariables false
set_option genSizeOf false
set_option genInjectivity false
namespace Mine
open PySem PySem.Calls PyProof.Rows

noncomputable def trOp : Operator → Option BOp
  | .Add => some .add
  | .Sub => some .sub
  | .Mult => some .mul
  | .FloorDiv => some .fdiv
  | .Mod => some .mod
  | .Pow => some .pow
  | _ => none
noncomputable def trCmp : CmpOp → COp
  | .Eq => .eq | .NotEq => .ne | .Lt => .lt | .LtE => .le | .Gt => .gt | .GtE => .ge | .Is => .is | .IsNot => .isnt | .In => .isin | .NotIn => .notin


noncomputable abbrev Sc := List (Str × NameKind)
noncomputable abbrev VM := List (Str × Nat)

noncomputable def relab (sc names : Sc) : Sc := names.map fun p => if p.2 == .free && sc.lookup p.1 == some .cell then (p.1, NameKind.cell) else p
noncomputable abbrev compVM (vm : VM) (k : Nat) (scope : Scope) (x : Str) : VM := (x, k) :: vm.filter fun p => scope.names.lookup p.1 == some .free
/-- what the translation asks of a comprehension -/
noncomputable def compTest (sc : Sc) (vm : VM) (scope : Scope) (x : Str) : Bool := scope.kind != .function || scope.names.any (fun p => p.2 == .cell) || scope.names.lookup x != some .local || !(scope.names.all fun p => p.2 != .local || scope.names.lookup p.1 == some .local) ||
      !(scope.names.all fun p => p.2 != .free || ((vm.lookup p.1).isSome && sc.lookup p.1 != some .local && p.1 != x))
noncomputable def special (x : Str) : Bool := x == ("__debug__" : Str) || x == ("__classdict__" : Str)

end Mine
end
section
set_option autoImplicit false
set_option linter.unusedVariables false
set_option genSizeOf false
set_option genInjectivity false
namespace Mine
open PySem PySem.Calls PyProof.Rows

/-- a variable's small value against what the frame holds; an unknown one may be anything -/
noncomputable def VO (h : Heap) : Option MVal → Option Value → Prop
  | Option.none, _ => True
  | some m, v => ∃ x, v = some x ∧ VR h m x
theorem VO.soft {h h' : Heap} (x : Soft h h') : ∀ {m : Option MVal} {v : Option Value}, VO h m v → VO h' m v
  | Option.none, _, _ => trivial
  | some m, _, y => let ⟨z, e, r⟩ := y; ⟨z, e, r.soft x⟩

structure Env0 (env : Env) (sc : Sc) (fr : List Env) : Prop where
  kind : env.scope.kind = .function
  names : env.scope.names = sc
  glob : env.globals = mainGlobals
  buil : env.builtins = builtinsNs
  top : ∃ e₀ r, fr = e₀ :: r ∧ env.frame = e₀.frame
  noin : interactive env = false

/-- the places that a frame owns -/
noncomputable def owns (env : Env) (a : Addr) : Prop := a = env.locals ∨ ∃ x, env.cells.lookup x = some a

structure FrOK (h₀ : Heap) (env : Env) (vm : VM) (σ : Lcs) (H : MH) (h : Heap) : Prop where
  loc : ∃ m o es n, h.get? env.locals = some o ∧ (o.cls = .type "frame" ∨ o.cls = .type "dict") ∧ o.data = .dict es n ∧ h.Ns env.locals m ∧ ∀ x i, vm.lookup x = some i → env.kindOf x = some .local → VO h (lg σ i) (m x)
  cel : ∀ x i, vm.lookup x = some i → env.kindOf x ≠ some .local → (env.kindOf x = some .cell ∨ env.kindOf x = some .free) ∧ ∃ c o v, env.cells.lookup x = some c ∧ h.get? c = some o ∧ o.cls = .type "cell" ∧ o.data = .cell v ∧ VO h (lg σ i) v
  own : ∀ a, owns env a → H a = none ∧ h₀.get? a = none ∧ h.get? a ≠ none
  size : ∀ x i, vm.lookup x = some i → i < σ.length

theorem FrOK.ext {h₀ : Heap} {env : Env} {vm : VM} {σ : Lcs} {H H' : MH} {s s' : Shared} (x : FrOK h₀ env vm σ H s.heap) (e : Ext noX H s H' s') : FrOK h₀ env vm σ H' s'.heap := by
  obtain ⟨⟨m, o, es, n, ho, hc, hd, hn, hv⟩, hcel, hown, hsz⟩ := x
  have hL : ∃ sl, s'.heap.get? env.locals = some { o with slots := sl } := by
    rcases hc with hc | hc
    · exact e.frm _ _ ho (hown _ (.inl rfl)).1 (fun z => z) hc
    · exact ⟨o.slots, e.old _ _ ho (hown _ (.inl rfl)).1 (fun z => z) (by rw [hc]; simp) (by rw [hc]; simp)⟩
  obtain ⟨sl, hL⟩ := hL
  refine ⟨⟨m, _, es, n, hL, hc, hd, ?_, fun y i a b => (hv y i a b).soft e.soft⟩, fun y i a b => ?_, fun a ha => ?_, hsz⟩
  · obtain ⟨o2, es2, ep, g1, g2, g3, g4⟩ := hn
    rw [ho] at g1; cases g1
    exact ⟨_, es2, ep, hL, g2, g3, g4⟩
  · obtain ⟨k, c, oc, v, l1, l2, l3, l4, l5⟩ := hcel y i a b
    exact ⟨k, c, oc, v, l1, e.old _ _ l2 (hown _ (.inr ⟨y, l1⟩)).1 (fun z => z) (by rw [l3]; simp) (by rw [l3]; simp), l3, l4, l5.soft e.soft⟩
  · obtain ⟨a1, a2, a3⟩ := hown a ha
    exact ⟨e.un a3 a1, a2, e.alive a (fun z => z) a3⟩

/-- the class's own storing is object's -/
noncomputable def refuses (mro : List Value) : Prop := ∀ self, refuseLoop self "__setattr__" mro = pure ()

/-- what the program's run has left, as far as the small logic asks -/
structure Link (c : Cfg) : Prop where
  K : c.K.In c.h₀
  G : ∃ mg, c.h₀.Ns mainGlobals mg
  B : ∃ mb, c.h₀.Ns builtinsNs mb ∧ ∀ x : Str, x ≠ "__name__" → mb x = bootBuiltins x
  nolimit : c.h₀.NoLimit
  mods : ∃ o, c.h₀.get? sysModules = some o
  ros : ∀ a xs, c.ro a = some xs → ∃ vs n, c.h₀.get? a = some ⟨.type "list", none, .seq vs n, #[]⟩ ∧ vs.size ≤ BIG ∧ VRs c.h₀ xs vs.toList
  exr : ∀ C cd, c.exc C = true → W.clsIn c.K C = some cd → refuses cd.mro

theorem toM_VR {h : Heap} {v : Value} {m : MVal} (e : toM v = some m) : VR h m v := by
  cases v with
  | none => cases (show MVal.none = m from Option.some.inj e); simp only [VR]
  | bool b => cases (show MVal.bool b = m from Option.some.inj e); simp only [VR]
  | int i t => cases (show MVal.int i = m from Option.some.inj e); exact ⟨t, rfl⟩
  | str x t => cases (show MVal.str x = m from Option.some.inj e); exact ⟨t, rfl⟩
  | type n => cases (show MVal.ty n = m from Option.some.inj e); simp only [VR]
  | builtin n => cases (show MVal.bi n = m from Option.some.inj e); simp only [VR]
  | ref a => cases (show MVal.ref a = m from Option.some.inj e); simp only [VR]
  | _ => exact no e

theorem Link.gl {c : Cfg} (L : Link c) {x : Str} {m : MVal} (e : c.gl x = some m) {A : Around} {env : Env} {s : Shared} {pos : Pos} {Q : Value → Shared → Prop} {Z : Value → Shared → Prop} (hk : env.scope.kind = .function) (hg : env.globals = mainGlobals)
    (hb : env.builtins = builtinsNs) (hx : env.kindOf x = some .globalImplicit) (hd : (x == ("__debug__" : Str)) = false) (k : c.h₀.StaysIn s.heap) (q : ∀ v, VR s.heap m v → Q v s) : wpAny c.M A (eval (.Name x pos) env) Q Z s := by
  obtain ⟨mg, G⟩ := L.G
  obtain ⟨mb, B, hB⟩ := L.B
  obtain ⟨o, hv, e⟩ := Option.bind_eq_some_iff.mp e
  cases o with
  | some v => exact Calls.Name_function_global hk hx (Calls.loadGlobal_global (env := env) (by rw [hg]; exact G.keeps k) (W.mg_of L.K G hv) (q v (toM_VR e))) hd
  | none =>
    have e : (if x = "__name__" then Option.none else (bootBuiltins x).bind toM) = some m := e
    by_cases hn : x = "__name__"
    · rw [if_pos hn] at e; exact no e
    · rw [if_neg hn] at e
      obtain ⟨v, hv', ev⟩ := Option.bind_eq_some_iff.mp e
      exact Calls.Name_function_global hk hx (Calls.loadGlobal_builtin (env := env) (by rw [hg]; exact G.keeps k) (W.mg_none_of L.K G hv) (by rw [hb]; exact B.keeps k) ((hB x hn).trans hv') (q v (toM_VR ev))) hd

section
variable {c : Cfg} {A : Around} {env : Env} {sc : Sc} {vm : VM} {fr : List Env} {d : Nat} {q : Bool} {σ : Lcs} {H : MH} {s : Shared}

/-- the value of an expression, in the model -/
noncomputable def EvOK (c : Cfg) (A : Around) (env : Env) (fr : List Env) (vm : VM) (t : Sem Value) (w : VT) : Prop :=
  ∀ (σ : Lcs) (H : MH) (s : Shared) (Q : MVal → MH → Prop) (Z : Addr → MH → Prop), FrOK c.h₀ env vm σ H s.heap → Dyn c.h₀ c.P fr H s → w σ H Q Z → wpAny c.M A t (QV c fr noX H s Q) (QE c fr noX H s Z) s
inductive QB (c : Cfg) (fr : List Env) (X : Addr → Prop) (H : MH) (s : Shared) (Q : Bool → MH → Prop) (b : Bool) (s' : Shared) : Prop
  | mk (H' : MH) (dy : Dyn c.h₀ c.P fr H' s') (e : Ext X H s H' s') (q : Q b H') : QB c fr X H s Q b s'
noncomputable def TsOK (c : Cfg) (A : Around) (env : Env) (fr : List Env) (vm : VM) (t : Sem Bool) (w : BT) : Prop :=
  ∀ (σ : Lcs) (H : MH) (s : Shared) (Q : Bool → MH → Prop) (Z : Addr → MH → Prop), FrOK c.h₀ env vm σ H s.heap → Dyn c.h₀ c.P fr H s → w σ H Q Z → wpAny c.M A t (QB c fr noX H s Q) (QE c fr noX H s Z) s
inductive QL (c : Cfg) (fr : List Env) (X : Addr → Prop) (H : MH) (s : Shared) (Q : List MVal → MH → Prop) (vs : List Value) (s' : Shared) : Prop
  | mk (ms : List MVal) (H' : MH) (r : VRs s'.heap ms vs) (dy : Dyn c.h₀ c.P fr H' s') (e : Ext X H s H' s') (q : Q ms H') : QL c fr X H s Q vs s'
noncomputable def LsOK (c : Cfg) (A : Around) (env : Env) (fr : List Env) (vm : VM) (t : Sem (List Value)) (w : LT) : Prop :=
  ∀ (σ : Lcs) (H : MH) (s : Shared) (Q : List MVal → MH → Prop) (Z : Addr → MH → Prop), FrOK c.h₀ env vm σ H s.heap → Dyn c.h₀ c.P fr H s → w σ H Q Z → wpAny c.M A t (QL c fr noX H s Q) (QE c fr noX H s Z) s

theorem EvOK.here {t : Sem Value} {w : VT} (h : ∀ (σ : Lcs) (H : MH) (s : Shared) (Q : MVal → MH → Prop) (Z : Addr → MH → Prop), FrOK c.h₀ env vm σ H s.heap → Dyn c.h₀ c.P fr H s → w σ H Q Z → ∀ K : Value → Shared → Prop, (∀ m v H' s', VR s'.heap m v → Dyn c.h₀ c.P fr H' s' → Ext noX H s H' s' → Q m H' → K v s') → wpAny c.M A t K (QE c fr noX H s Z) s) : EvOK c A env fr vm t w :=
  fun σ H s Q Z f dy w => h σ H s Q Z f dy w _ fun m v H' s' a b e q => ⟨m, H', a, b, e, q⟩

/-- run on behind an expression -/
theorem EvOK.then {t : Sem Value} {w : VT} (x : EvOK c A env fr vm t w) {Q : MVal → MH → Prop} {Z : Addr → MH → Prop} {K : Value → Shared → Prop} {H₀ : MH} {s₀ : Shared} (e₀ : Ext noX H₀ s₀ H s) (f : FrOK c.h₀ env vm σ H s.heap) (dy : Dyn c.h₀ c.P fr H s) (hw : w σ H Q Z)
    (k : ∀ m v H' s', VR s'.heap m v → FrOK c.h₀ env vm σ H' s'.heap → Dyn c.h₀ c.P fr H' s' → Ext noX H₀ s₀ H' s' → Soft s.heap s'.heap → Q m H' → K v s') : wpAny c.M A t K (QE c fr noX H₀ s₀ Z) s :=
  wpAny_mono (x σ H s Q Z f dy hw) (fun v s' ⟨m, H', a, b, e, q⟩ => k m v H' s' a (f.ext e) b (e₀.trans e) e.soft q) fun v s' h => h.step e₀
theorem TsOK.then {t : Sem Bool} {w : BT} (x : TsOK c A env fr vm t w) {Q : Bool → MH → Prop} {Z : Addr → MH → Prop} {K : Bool → Shared → Prop} {H₀ : MH} {s₀ : Shared} (e₀ : Ext noX H₀ s₀ H s) (f : FrOK c.h₀ env vm σ H s.heap) (dy : Dyn c.h₀ c.P fr H s) (hw : w σ H Q Z)
    (k : ∀ b H' s', FrOK c.h₀ env vm σ H' s'.heap → Dyn c.h₀ c.P fr H' s' → Ext noX H₀ s₀ H' s' → Soft s.heap s'.heap → Q b H' → K b s') : wpAny c.M A t K (QE c fr noX H₀ s₀ Z) s :=
  wpAny_mono (x σ H s Q Z f dy hw) (fun v s' ⟨H', b, e, q⟩ => k v H' s' (f.ext e) b (e₀.trans e) e.soft q) fun v s' h => h.step e₀
theorem LsOK.then {t : Sem (List Value)} {w : LT} (x : LsOK c A env fr vm t w) {Q : List MVal → MH → Prop} {Z : Addr → MH → Prop} {K : List Value → Shared → Prop} {H₀ : MH} {s₀ : Shared} (e₀ : Ext noX H₀ s₀ H s) (f : FrOK c.h₀ env vm σ H s.heap) (dy : Dyn c.h₀ c.P fr H s) (hw : w σ H Q Z)
    (k : ∀ ms vs H' s', VRs s'.heap ms vs → FrOK c.h₀ env vm σ H' s'.heap → Dyn c.h₀ c.P fr H' s' → Ext noX H₀ s₀ H' s' → Soft s.heap s'.heap → Q ms H' → K vs s') : wpAny c.M A t K (QE c fr noX H₀ s₀ Z) s :=
  wpAny_mono (x σ H s Q Z f dy hw) (fun v s' ⟨m, H', a, b, e, q⟩ => k m v H' s' a (f.ext e) b (e₀.trans e) e.soft q) fun v s' h => h.step e₀

theorem Ext.tok (H : MH) (s : Shared) (t : Nat) : Ext noX H s H { s with toks := t } := .of_keep fun _ _ e => e
theorem Dyn.tok {h₀ : Heap} {P : Params} {fr : List Env} {H : MH} {s : Shared} (x : Dyn h₀ P fr H s) (t : Nat) : Dyn h₀ P fr H { s with toks := t } := x.of_keep fun _ _ e => e

theorem snd_none {k pos} : EvOK c A env fr vm (eval (.Constant .none k pos) env) (wpX c d q .none).1 := fun σ H s Q Z f dy w => wpAny_Constant_none ⟨.none, H, rfl, dy, .rfl0 _ _, w⟩
theorem snd_bool {b k pos} : EvOK c A env fr vm (eval (.Constant (.bool b) k pos) env) (wpX c d q (.bool b)).1 := fun σ H s Q Z f dy w => wpAny_Constant_bool ⟨.bool b, H, rfl, dy, .rfl0 _ _, w⟩
theorem snd_int {i k pos} : EvOK c A env fr vm (eval (.Constant (.int i) k pos) env) (wpX c d q (.int i)).1 := fun σ H s Q Z f dy w => wpAny_Constant_int ⟨.int i, H, ⟨_, rfl⟩, dy.tok _, .tok _ _ _, w⟩
theorem snd_str {x k pos} : EvOK c A env fr vm (eval (.Constant (.str x) k pos) env) (wpX c d q (.str x)).1 := fun σ H s Q Z f dy w => wpAny_Constant_str ⟨.str x, H, ⟨_, rfl⟩, dy.tok _, .tok _ _ _, w⟩
theorem snd_loc {x : Str} {pos : Pos} {i : Nat} (e0 : Env0 env sc fr) (hd : (x == ("__debug__" : Str)) = false) (hd2 : (x == ("__classdict__" : Str)) = false) (hv : vm.lookup x = some i) : EvOK c A env fr vm (eval (.Name x pos) env) (wpX c d q (.loc i)).1 := fun σ H s Q Z f dy w => by
  have w' : (match lg σ i with | some v => Q v H | Option.none => False) := w
  refine wpAny_Name ?_ hd
  cases hm : lg σ i with
  | none => rw [hm] at w'; exact w'.elim
  | some m =>
    rw [hm] at w'
    by_cases hk : env.kindOf x = some .local
    · obtain ⟨mm, o, es, n, _, _, _, hn, hv'⟩ := f.loc
      obtain ⟨v, e, r⟩ := hm ▸ hv' x i hv hk
      exact wpAny_loadName_local e0.kind hk hn e ⟨m, H, r, dy, .rfl0 _ _, w'⟩
    · obtain ⟨k, cc, o, v, l1, l2, l3, l4, l5⟩ := f.cel x i hv hk
      obtain ⟨v', e, r⟩ := hm ▸ l5
      subst e
      rcases k with k | k
      · exact wpAny_loadName_cell e0.kind k l1 ⟨o, l2, l4⟩ ⟨m, H, r, dy, .rfl0 _ _, w'⟩
      · exact wpAny_loadName_free e0.kind k l1 ⟨o, l2, l4⟩ ⟨m, H, r, dy, .rfl0 _ _, w'⟩ hd2
theorem snd_glob {x : Str} {pos : Pos} (L : Link c) (e0 : Env0 env sc fr) (hd : (x == ("__debug__" : Str)) = false) (hk : sc.lookup x = some .globalImplicit) : EvOK c A env fr vm (eval (.Name x pos) env) (wpX c d q (.glob x)).1 := fun σ H s Q Z f dy w => by
  have w' : (match c.gl x with | some v => Q v H | Option.none => False) := w
  cases hm : c.gl x with
  | none => rw [hm] at w'; exact w'.elim
  | some m =>
    rw [hm] at w'
    exact L.gl hm e0.kind e0.glob e0.buil (by unfold Env.kindOf; rw [e0.names]; exact hk) hd dy.keep fun v r => ⟨m, H, r, dy, .rfl0 _ _, w'⟩
end
end Mine
end
section
set_option autoImplicit false
set_option linter.unusedVariables false
namespace Mine
open PySem PySem.Calls PyProof.Rows

theorem VRs.length {h : Heap} : ∀ {ms : List MVal} {vs : List Value}, VRs h ms vs → vs.length = ms.length
  | [], _, y => by simp only [VRs] at y; subst y; rfl
  | m :: ms, _, y => by simp only [VRs] at y; obtain ⟨v, r, rfl, _, q⟩ := y; simp [VRs.length q]
theorem VRs.append {h : Heap} : ∀ {ms ms' : List MVal} {vs vs' : List Value}, VRs h ms vs → VRs h ms' vs' → VRs h (ms ++ ms') (vs ++ vs')
  | [], _, _, _, y, z => by simp only [VRs] at y; subst y; exact z
  | m :: ms, _, _, _, y, z => by
    simp only [VRs] at y; obtain ⟨v, r, rfl, p, q⟩ := y
    simp only [List.cons_append, VRs]
    exact ⟨v, _, rfl, p, q.append z⟩
theorem VRs.get {h : Heap} : ∀ {ms : List MVal} {vs : List Value}, VRs h ms vs → ∀ {i : Nat} {m : MVal}, ms[i]? = some m → ∃ v, vs[i]? = some v ∧ VR h m v
  | [], _, _, i, m, e => by simp at e
  | m :: ms, _, y, i, m', e => by
    simp only [VRs] at y; obtain ⟨v, r, rfl, p, q⟩ := y
    cases i with
    | zero => simp at e; subst e; exact ⟨v, by simp, p⟩
    | succ i => simp only [List.getElem?_cons_succ] at e ⊢; exact q.get e

section
variable {c : Cfg} {A : Around} {fr : List Env} {H : MH} {s : Shared} {X : Addr → Prop}

/-- a value without a new object -/
theorem QV.plain {Q : MVal → MH → Prop} {m : MVal} {v : Value} {t : Nat} (dy : Dyn c.h₀ c.P fr H s) (r : VR s.heap m v) (q : Q m H) : QV c fr noX H s Q v { s with toks := t } :=
  ⟨m, H, r, dy.tok t, .tok _ _ _, q⟩
theorem QV.same {Q : MVal → MH → Prop} {m : MVal} {v : Value} (dy : Dyn c.h₀ c.P fr H s) (r : VR s.heap m v) (q : Q m H) : QV c fr noX H s Q v s := ⟨m, H, r, dy, .rfl0 _ _, q⟩

theorem QV.int {Q : MVal → MH → Prop} {i : Int} {u t : Nat} (dy : Dyn c.h₀ c.P fr H s) (q : Q (.int i) H) : QV c fr noX H s Q (.int i u) { s with toks := t } := .plain (m := .int i) dy ⟨u, rfl⟩ q
theorem QV.str {Q : MVal → MH → Prop} {i : Str} {u t : Nat} (dy : Dyn c.h₀ c.P fr H s) (q : Q (.str i) H) : QV c fr noX H s Q (.str i u) { s with toks := t } := .plain (m := .str i) dy ⟨u, rfl⟩ q
theorem QV.bool {Q : MVal → MH → Prop} {b : Bool} (dy : Dyn c.h₀ c.P fr H s) (q : Q (.bool b) H) : QV c fr noX H s Q (.bool b) s := .same (m := .bool b) dy rfl q

theorem push_keep (h : Heap) (o : Obj) : ∀ b o', h.get? b = some o' → (h.push o).get? b = some o' := fun _ _ e => Heap.get?_push_of_some o e
theorem size_fresh (h : Heap) : h.get? h.objs.size = none := by
  cases q : h.get? h.objs.size with
  | none => rfl
  | some o => exact absurd (Heap.lt_size q) (Nat.lt_irrefl _)
theorem Soft.push (h : Heap) (o : Obj) : Soft h (h.push o) := .of_keep (push_keep h o)

/-- a new object onto the small heap -/
theorem QV.alloc {Q : MVal → MH → Prop} {o : MObj} {ob : Obj} {t : Nat} (dy : Dyn c.h₀ c.P fr H s) (r : OR c.h₀ c.P (s.heap.push ob) o ob) (hf : ob.isFreed = false) (q : allocW o H Q) :
    QV c fr noX H s Q (.ref s.heap.objs.size) { s with heap := s.heap.push ob, toks := t } := by
  obtain ⟨hn, d, e⟩ := dy.new (s' := { s with heap := s.heap.push ob, toks := t }) (t' := t0) (o' := o) (ob' := ob) (size_fresh _) (push_keep _ _) (Heap.get?_push_size _ hf) (fun _ => r)
  exact ⟨.ref s.heap.objs.size, _, rfl, d, e, q _ hn⟩

theorem list_of {a : Addr} {t : Tag} {xs : List MVal} (dy : Dyn c.h₀ c.P fr H s) (h : H a = some (t, .list xs)) : ∃ vs n, s.heap.get? a = some ⟨.type "list", none, .seq vs n, #[]⟩ ∧ vs.size ≤ BIG ∧ VRs s.heap xs vs.toList := by
  obtain ⟨_, ob, e, vs, n, rfl, z, r⟩ := dy.obj a t _ h
  exact ⟨vs, n, e, z, r⟩

theorem str_append_nil (x : Str) : x ++ (⟨#[]⟩ : Str) = x := by
  show (⟨x.cps ++ #[]⟩ : Str) = x
  rw [Array.append_empty]
theorem str_nil_append (x : Str) : (⟨#[]⟩ : Str) ++ x = x := by
  show (⟨#[] ++ x.cps⟩ : Str) = x
  rw [Array.empty_append]
theorem str_of_len0 {x : Str} (h : x.length = 0) : x = ⟨#[]⟩ := by
  obtain ⟨a⟩ := x
  show (⟨a⟩ : Str) = _
  congr
  exact Array.eq_empty_of_size_eq_zero h

theorem sizeLine_big : 4194304 ≤ sizeLine := by decide
theorem BIG_eq : BIG = 4194304 := rfl

theorem intBits_16 {a : Int} (h : a.natAbs ≤ 16) : Builtin.Int.intBits a ≤ 5 := by
  unfold Builtin.Int.intBits
  split
  · omega
  · rcases Nat.eq_zero_or_pos a.natAbs with h0 | hp
    · rw [h0]; decide
    · have := (Nat.log2_lt (n := a.natAbs) (k := 5) (Nat.ne_of_gt hp)).mpr (by omega)
      omega

theorem snd_Bin {Z : Value → Shared → Prop} {op : Operator} {o : BOp} (ho : trOp op = some o) {m1 m2 : MVal} {u v : Value} {Q : MVal → MH → Prop} (dy : Dyn c.h₀ c.P fr H s) (hu : VR s.heap m1 u) (hv : VR s.heap m2 v)
    (hw : BinW o m1 m2 H Q) : wpAny c.M A (binaryOp op u v) (QV c fr noX H s Q) Z s := by
  have ii : ∀ {F : Int → Int → Prop}, (on (asI m1) fun a => on (asI m2) fun b => F a b) → ∃ a b t t', u = .int a t ∧ v = .int b t' ∧ F a b := fun h => by
    obtain ⟨a, e1, h1⟩ := onI h
    obtain ⟨b, e2, h2⟩ := onI h1
    rw [e1] at hu; rw [e2] at hv
    obtain ⟨t, rfl⟩ := hu; obtain ⟨t', rfl⟩ := hv
    exact ⟨a, b, t, t', rfl, rfl, h2⟩
  cases op with
  | Add =>
    cases (show BOp.add = o from Option.some.inj ho)
    cases m1 with
    | int a =>
      obtain ⟨b, e, h1⟩ := onI (show on (asI m2) _ from hw)
      rw [e] at hv
      obtain ⟨t, rfl⟩ := hu; obtain ⟨t', rfl⟩ := hv
      exact add_int (.int dy h1)
    | str a =>
      obtain ⟨b, e, h1, h2⟩ := on_inv (show on (asS m2) _ from hw)
      rw [asS_inv e] at hv
      obtain ⟨t, rfl⟩ := hu; obtain ⟨t', rfl⟩ := hv
      exact add_str (fun t' tk => .str dy h2) (by have := sizeLine_big; omega)
    | ref a =>
      obtain ⟨b, e, h1⟩ := onR (show on (asR m2) _ from hw)
      rw [e] at hv
      obtain ⟨t, xs, ha, h1⟩ := onL h1
      obtain ⟨t', ys, hb, h1⟩ := onL h1
      have hz : xs.length + ys.length ≤ BIG := h1.1
      simp only [VR] at hu hv; subst hu; subst hv
      obtain ⟨vs, n, e1, z1, r1⟩ := list_of dy ha
      obtain ⟨vs', n', e2, z2, r2⟩ := list_of dy hb
      have l1 := r1.length; have l2 := r2.length
      refine P.add_list (items := vs) (items2 := vs') (n := n) (n2 := n') e1 e2 ?_ (by have := sizeLine_big; have := BIG_eq; simp only [← Array.length_toList]; omega)
      exact QV.alloc (o := .list (xs ++ ys)) (t := s.toks) dy ⟨_, _, rfl, by simp only [Array.size_append]; simp only [← Array.length_toList]; omega, by rw [Array.toList_append]; exact (r1.append r2).soft (.push _ _)⟩ rfl h1.2
    | _ => exact False.elim hw
  | Sub =>
    cases (show BOp.sub = o from Option.some.inj ho)
    obtain ⟨a, b, t, t', rfl, rfl, hw⟩ := ii hw
    exact sub_int (.int dy hw)
  | Mult =>
    cases (show BOp.mul = o from Option.some.inj ho)
    obtain ⟨a, b, t, t', rfl, rfl, hw⟩ := ii hw
    exact mul_int (.int dy hw.2) (.of_left (intBits_le_64 (by have := hw.1.1; omega) (by have := hw.1.1; omega)))
  | FloorDiv =>
    cases (show BOp.fdiv = o from Option.some.inj ho)
    obtain ⟨a, b, t, t', rfl, rfl, hb, hw⟩ := ii hw
    refine floordiv_int (by omega) ?_ (.inl (PyProof.noPylong_small (by omega)))
    rw [Int.fdiv_eq_ediv_of_nonneg _ (by omega)]
    exact .int dy hw
  | Mod =>
    cases (show BOp.mod = o from Option.some.inj ho)
    obtain ⟨a, b, t, t', rfl, rfl, hb, hw⟩ := ii hw
    refine mod_int' (by omega) ?_
    rw [Int.fmod_eq_emod_of_nonneg _ (by omega)]
    exact .int dy hw
  | Pow =>
    cases (show BOp.pow = o from Option.some.inj ho)
    obtain ⟨a, b, t, t', rfl, rfl, ⟨h1, h2, h3⟩, hw⟩ := ii hw
    refine pow_int h1 ?_ (.int dy hw)
    have := intBits_16 h3
    exact Int.le_trans (Int.mul_le_mul (c := 5) (d := 1000) (by omega) h2 h1 (by omega)) (by decide)
  | _ => exact no ho
end
end Mine
end
section
set_option autoImplicit false
set_option linter.unusedVariables false
set_option linter.unusedSimpArgs false
namespace Mine
open PySem PySem.Calls PyProof.Rows

section
variable {c : Cfg} {A : Around} {fr : List Env} {H : MH} {s : Shared} {X : Addr → Prop} {d : Nat} {q : Bool}

theorem mapO_reads {n : Nat} (ih : ∀ m v d, rd H n m = some d → VR s.heap m v → (∃ as, Reads s.heap v d as) ∧ d.canLay0 = true ∧ d.depth ≤ n) :
    ∀ (ms : List MVal) (vs : List Value) (ds : List PyData), mapO (rd H n) ms = some ds → VRs s.heap ms vs → (∃ as, ReadsAll s.heap vs ds as) ∧ PyData.canLayAll0 ds = true ∧ PyData.depthAll ds ≤ n
  | [], vs, ds, e, r => by
    cases (show [] = ds from Option.some.inj e); simp only [VRs] at r; subst r
    exact ⟨⟨_, .nil⟩, rfl, Nat.zero_le _⟩
  | m :: ms, vs, ds, e, r => by
    simp only [VRs] at r
    obtain ⟨v, r', rfl, p, q⟩ := r
    obtain ⟨y, h1, e⟩ := Option.bind_eq_some_iff.mp e
    obtain ⟨ys, h2, rfl⟩ := Option.map_eq_some_iff.mp e
    obtain ⟨⟨a1, a2⟩, a3, a4⟩ := ih m v y h1 p
    obtain ⟨⟨b1, b2⟩, b3, b4⟩ := mapO_reads ih ms r' ys h2 q
    exact ⟨⟨_, .cons a2 b2⟩, by show (y.canLay0 && PyData.canLayAll0 ys) = true; rw [a3, b3]; rfl, Nat.max_le.mpr ⟨a4, b4⟩⟩
theorem rd_reads (dy : Dyn c.h₀ c.P fr H s) : ∀ (n : Nat) (m : MVal) (v : Value) (d : PyData), rd H n m = some d → VR s.heap m v → (∃ as, Reads s.heap v d as) ∧ d.canLay0 = true ∧ d.depth ≤ n
  | 0, _, _, _, e, _ => no e
  | n + 1, m, v, d, e, r => by
    cases m with
    | none => cases (show PyData.none = d from Option.some.inj e); simp only [VR] at r; subst r; exact ⟨⟨_, .none⟩, rfl, Nat.zero_le _⟩
    | bool b => cases (show PyData.bool b = d from Option.some.inj e); simp only [VR] at r; subst r; exact ⟨⟨_, .bool _⟩, rfl, Nat.zero_le _⟩
    | int i => cases (show PyData.int i = d from Option.some.inj e); obtain ⟨t, rfl⟩ := r; exact ⟨⟨_, .int _ _⟩, rfl, Nat.zero_le _⟩
    | str x =>
      have e : (if PyData.strOk x = true then some (PyData.str x) else Option.none) = some d := e
      by_cases h : PyData.strOk x = true
      · rw [if_pos h] at e; cases e; obtain ⟨t, rfl⟩ := r; exact ⟨⟨_, .str _ _⟩, h, Nat.zero_le _⟩
      · rw [if_neg h] at e; exact no e
    | ref a =>
      obtain ⟨p, ha, e⟩ := Option.bind_eq_some_iff.mp e
      obtain ⟨ds, hd, rfl⟩ := Option.map_eq_some_iff.mp e
      obtain ⟨vs, k, g, z, rr⟩ := list_of dy (atL ha)
      obtain ⟨⟨a1, a2⟩, a3, a4⟩ := mapO_reads (fun m v d => rd_reads dy n m v d) p.2 vs.toList ds hd rr
      simp only [VR] at r; subst r
      exact ⟨⟨_, .list g rfl rfl a2⟩, a3, Nat.succ_le_succ a4⟩
    | _ => exact no e

theorem eqM_inv {m1 m2 : MVal} {b : Bool} (e : eqM H m1 m2 = some b) : ∃ x y, rd H 60 m1 = some x ∧ rd H 60 m2 = some y ∧ PyData.eqv x y = b := by
  obtain ⟨x, h1, e⟩ := Option.bind_eq_some_iff.mp e
  obtain ⟨y, h2, e⟩ := Option.map_eq_some_iff.mp e
  exact ⟨x, y, h1, h2, e⟩
theorem shaped_of {d : PyData} (h : d.canLay0 = true) (k : d.depth ≤ 60) : SeqAt.shaped d = true := by simp [SeqAt.shaped, h]; omega
theorem eq_snd {Z : Value → Shared → Prop} {K : Value → Shared → Prop} {u v : Value} {m1 m2 : MVal} {b : Bool} (dy : Dyn c.h₀ c.P fr H s) (hu : VR s.heap m1 u) (hv : VR s.heap m2 v) (hs : A.units < 9000) (e : eqM H m1 m2 = some b) :
    (K (.bool b) s → wpAny c.M A (compareOp .Eq u v) K Z s) ∧ (K (.bool (!b)) s → wpAny c.M A (compareOp .NotEq u v) K Z s) := by
  obtain ⟨x, y, h1, h2, rfl⟩ := eqM_inv e
  obtain ⟨⟨_, r1⟩, c1, d1⟩ := rd_reads dy 60 m1 u x h1 hu
  obtain ⟨⟨_, r2⟩, c2, d2⟩ := rd_reads dy 60 m2 v y h2 hv
  have h9 : A.units + 64 < cLine := by have : cLine = 9900 := rfl; omega
  exact ⟨SeqAt.compareEq_shaped r1 r2 (shaped_of c1 d1) (shaped_of c2 d2) h9, SeqAt.compareNe_shaped r1 r2 (shaped_of c1 d1) (shaped_of c2 d2) h9⟩

theorem truth_snd {Z : Value → Shared → Prop} {K : Bool → Shared → Prop} {u : Value} {m : MVal} {b : Bool} (dy : Dyn c.h₀ c.P fr H s) (hu : VR s.heap m u) (e : Truth H m = some b)
    (k : ∀ t, K b { s with toks := t }) : wpAny c.M A (truthy u) K Z s := by
  cases m with
  | none => cases (show false = b from Option.some.inj e); simp only [VR] at hu; subst hu; exact truthy_none (k s.toks)
  | bool x => cases (show x = b from Option.some.inj e); simp only [VR] at hu; subst hu; exact wpAny_truthy_bool (k s.toks)
  | int i => cases (show (i != 0) = b from Option.some.inj e); obtain ⟨t, rfl⟩ := hu; exact truthy_int (k s.toks)
  | ref a =>
    simp only [VR] at hu; subst hu
    obtain ⟨p, ha, rfl⟩ := Option.map_eq_some_iff.mp e
    obtain ⟨vs, n, g, z, r⟩ := list_of dy (atL ha)
    refine wpAny_truthy_list (items := vs) ⟨_, g, rfl, n, rfl⟩ (by have := BIG_eq; omega) ?_
    have l := r.length
    have : vs.isEmpty = p.2.isEmpty := by
      cases h : p.2 with
      | nil => rw [h] at l; simp at l; simp [l]
      | cons x r => rw [h] at l; simp at l; simp; intro z; simp [z] at l
    rw [this]; exact k _
  | _ => exact no e

theorem isM_snd {u v : Value} {m1 m2 : MVal} {b : Bool} (hu : VR s.heap m1 u) (hv : VR s.heap m2 v) (e : isM m1 m2 = some b) : plainIs u v = true ∧ (u == v) = b := by
  have no : ∀ {P : Prop}, (Option.none : Option Bool) = some b → P := fun h => nomatch h
  cases m2 with
  | none =>
    have hv : v = .none := by simpa only [VR] using hv
    subst hv
    cases m1 with
    | none =>
      have hu : u = .none := by simpa only [VR] using hu
      subst hu; exact ⟨rfl, Option.some.inj e⟩
    | ref a =>
      have hu : u = .ref a := by simpa only [VR] using hu
      subst hu; exact ⟨rfl, Option.some.inj e⟩
    | tup ms => simp only [VR] at hu; obtain ⟨_, _, _, rfl, _, _⟩ := hu; exact ⟨rfl, Option.some.inj e⟩
    | _ => exact no e
  | ty y =>
    cases m1 with
    | ty x =>
      simp only [VR] at hu hv
      subst hu hv
      refine ⟨rfl, (?_ : _ = (x == y)).trans (Option.some.inj e)⟩
      cases h : x == y with
      | true => rw [eq_of_beq h]; simp
      | false => exact beq_eq_false_iff_ne.mpr fun z => (beq_eq_false_iff_ne.mp h) (by injection z)
    | _ => exact no e
  | _ => exact no e

theorem eqAt_all {u : Value} {x : PyData} {bs : List Addr} (r1 : Reads s.heap u x bs) (c1 : x.canLay0 = true) (d1 : x.depth ≤ 60) (hs : A.units < 9000) :
    ∀ (vs : List Value) (ys : List PyData) (bs : List Addr), ReadsAll s.heap vs ys bs → PyData.canLayAll0 ys = true → PyData.depthAll ys ≤ 60 → ∀ e : Value → Bool,
      (∀ y d as, Reads s.heap y d as → d.canLay0 = true → e y = PyData.eqv d x) → (∀ y ∈ vs, SeqAt.EqAt A.in1 s y u (e y)) ∧ vs.any e = ys.any fun b => PyData.eqv b x
  | _, _, _, .nil, _, _, e, he => ⟨(fun y hy => by cases hy), rfl⟩
  | _, _, _, .cons (v := v) (vs := vs) (d := y) (ds := ys) p q, cl, dp, e, he => by
    simp only [PyData.canLayAll0, Bool.and_eq_true] at cl
    simp only [PyData.depthAll] at dp
    obtain ⟨a1, a2⟩ := eqAt_all r1 c1 d1 hs vs ys _ q cl.2 (by omega) e he
    refine ⟨fun z hz => ?_, by simp only [List.any_cons, a2, he v y _ p cl.1]⟩
    rcases List.mem_cons.mp hz with rfl | hz
    · rw [he _ y _ p cl.1]
      exact SeqAt.eqAt_reads _ x A.in1 s _ u _ _ p r1 cl.1 c1 (by show A.units + 1 + _ < 9900; omega)
    · exact a1 z hz

theorem in_list_snd {Z : Value → Shared → Prop} {K : Value → Shared → Prop} {u : Value} {m : MVal} {a : Addr} {t : Tag} {xs : List MVal} {b : Bool} (dy : Dyn c.h₀ c.P fr H s) (hu : VR s.heap m u) (hs : A.units < 9000) (ha : H a = some (t, .list xs))
    (e : memM H m xs = some b) : (K (.bool b) s → wpAny c.M A (compareOp .In u (.ref a)) K Z s) ∧ (K (.bool (!b)) s → wpAny c.M A (compareOp .NotIn u (.ref a)) K Z s) := by
  obtain ⟨x, h1, e⟩ := Option.bind_eq_some_iff.mp e
  obtain ⟨ys, h2, rfl⟩ := Option.map_eq_some_iff.mp e
  obtain ⟨⟨_, r1⟩, c1, d1⟩ := rd_reads dy 60 m u x h1 hu
  obtain ⟨vs, n, g, z, rr⟩ := list_of dy ha
  obtain ⟨⟨bs, r2⟩, c2, d2⟩ := mapO_reads (fun m v d => rd_reads dy 60 m v d) xs vs.toList ys h2 rr
  have hl : s.heap.IsList a vs := ⟨_, g, rfl, n, rfl⟩
  let e : Value → Bool := fun y => @decide (∃ d as, Reads s.heap y d as ∧ d.canLay0 = true ∧ PyData.eqv d x = true) (Classical.propDecidable _)
  have he : ∀ y d as, Reads s.heap y d as → d.canLay0 = true → e y = PyData.eqv d x := by
    intro y d as r cl
    cases q : PyData.eqv d x with
    | true => exact @decide_eq_true _ (Classical.propDecidable _) ⟨d, as, r, cl, q⟩
    | false =>
      refine @decide_eq_false _ (Classical.propDecidable _) fun ⟨d', as', r', _, q'⟩ => ?_
      have := SeqAt.Reads.unique _ _ _ _ _ cl r r'
      subst this
      rw [q] at q'; cases q'
  obtain ⟨a1, a2⟩ := eqAt_all r1 c1 d1 hs _ _ _ r2 c2 d2 e he
  have a3 : vs.any e = ys.any fun b => PyData.eqv b x := by rw [← a2]; simp
  refine ⟨fun k => SeqAt.in_listAt e hl (fun y hy => a1 y (Array.mem_toList_iff.mpr hy)) (by rw [a3]; exact k), fun k => SeqAt.notIn_listAt e hl (fun y hy => a1 y (Array.mem_toList_iff.mpr hy)) (by rw [a3]; exact k)⟩

theorem isInt_self (i : Int) (t : Tok) : (Value.isInt i (.int i t)) = true := by simp [Value.isInt]

theorem set_of {a : Addr} {t : Tag} {xs : List Int} (dy : Dyn c.h₀ c.P fr H s) (h : H a = some (t, .set xs)) : s.heap.SetOf (intKind c.prog c.w) a (fun k => xs.contains k) xs.length := by
  obtain ⟨_, ob, e, es, ep, t', rfl, r1, r2, r3, r4, r5, _⟩ := dy.obj a t _ h
  exact ⟨_, es, ep, t', e, ⟨rfl, rfl, rfl⟩, rfl, r1, fun k => (by rw [show ((fun k => xs.contains k) k = true) = (k ∈ xs) from by simp]; exact r2 k), r3, r4, r5⟩
theorem DictR.vals {h : Heap} : ∀ {es : List (Int × MVal)} {rs : List DictEntry}, DictR h es rs → ∃ kvs : List (Int × Value), kvs.map (·.1) = es.map (·.1) ∧ VRs h (es.map (·.2)) (kvs.map (·.2)) ∧
    (∀ e ∈ rs, ∃ k, Value.isInt k e.key = true ∧ e.hash = hashInt k) ∧ ∀ (prog : Program) (w : World), Pairs (intKind prog w) rs kvs
  | [], _, r => by simp only [DictR] at r; subst r; exact ⟨[], rfl, rfl, (fun _ h => (by cases h)), fun _ _ => .nil⟩
  | (k, m) :: es, _, r => by
    simp only [DictR] at r
    obtain ⟨x, rs, rfl, ⟨t, hk⟩, hh, hv, r⟩ := r
    obtain ⟨kvs, a, b, d, e⟩ := DictR.vals r
    refine ⟨(k, x.val) :: kvs, by simp [a], by simp only [List.map_cons, VRs]; exact ⟨_, _, rfl, hv, b⟩, fun y hy => ?_, fun p w => .cons ?_ rfl (e p w)⟩
    · rcases List.mem_cons.mp hy with rfl | hy
      · exact ⟨k, by rw [hk]; exact isInt_self k t, hh⟩
      · exact d y hy
    · show Value.isInt k x.key = true; rw [hk]; exact isInt_self k t
theorem dict_of {a : Addr} {t : Tag} {n : Nat} {es : List (Int × MVal)} (dy : Dyn c.h₀ c.P fr H s) (h : H a = some (t, .dict n es)) : ∃ rs, s.heap.get? a = some ⟨.type "dict", none, .dict rs n, #[]⟩ ∧ rs.size ≤ BIG ∧ DictR s.heap es rs.toList ∧ (es.map (·.1)).Nodup := by
  obtain ⟨_, ob, e, rs, rfl, z, r, w⟩ := dy.obj a t _ h
  exact ⟨rs, e, z, r, w⟩
theorem dictOf_of {a : Addr} {t : Tag} {n : Nat} {es : List (Int × MVal)} (dy : Dyn c.h₀ c.P fr H s) (h : H a = some (t, .dict n es)) :
    ∃ kvs : List (Int × Value), (s.heap.DictOf (intKind c.prog c.w) a kvs ∧ s.heap.DictAt (intKind c.prog c.w) a kvs n) ∧ kvs.map (·.1) = es.map (·.1) ∧ VRs s.heap (es.map (·.2)) (kvs.map (·.2)) ∧ kvs.length = es.length := by
  obtain ⟨rs, g, z, r, nd⟩ := dict_of dy h
  obtain ⟨kvs, a1, a2, a3, a4⟩ := r.vals
  exact ⟨kvs, ⟨⟨_, rs, n, g, ⟨rfl, rfl, rfl⟩, rfl, fun x hx => a3 x (Array.mem_toList_iff.mpr hx), a4 _ _, by rw [a1]; exact nd⟩, ⟨_, rs, g, ⟨rfl, rfl, rfl⟩, rfl, fun x hx => a3 x (Array.mem_toList_iff.mpr hx), a4 _ _, by rw [a1]; exact nd⟩⟩, a1, a2, by have := congrArg List.length a1; simpa using this⟩
theorem valueAt_some (kvs : List (Int × Value)) (k : Int) : (valueAt kvs k).isSome = (kvs.map (·.1)).contains k := by
  unfold valueAt
  rw [Option.isSome_map]
  induction kvs with
  | nil => rfl
  | cons x r ih =>
    simp only [List.find?_cons, List.map_cons, List.contains_cons]
    by_cases h : x.1 = k
    · simp [h]
    · have h' : (k == x.1) = false := beq_eq_false_iff_ne.mpr fun z => h z.symm
      simp only [h, decide_false, h', Bool.false_or]; exact ih
theorem not_mods (L : Link c) {a : Addr} {t : Tag} {o : MObj} (dy : Dyn c.h₀ c.P fr H s) (h : H a = some (t, o)) : (a == sysModules) = false := by
  obtain ⟨n, _⟩ := dy.obj a t o h
  obtain ⟨om, hm⟩ := L.mods
  cases q : a == sysModules with
  | false => rfl
  | true => rw [eq_of_beq q, hm] at n; cases n

theorem in_snd (L : Link c) {Z : Value → Shared → Prop} {K : Value → Shared → Prop} {u v : Value} {m1 m2 : MVal} {b : Bool} (dy : Dyn c.h₀ c.P fr H s) (hu : VR s.heap m1 u) (hv : VR s.heap m2 v) (hs : A.units < 9000) (e : inM H m1 m2 = some b) :
    ((∀ t, K (.bool b) { s with toks := t }) → wpAny c.M A (compareOp .In u v) K Z s) ∧ ((∀ t, K (.bool (!b)) { s with toks := t }) → wpAny c.M A (compareOp .NotIn u v) K Z s) := by
  obtain ⟨a, h1, e⟩ := Option.bind_eq_some_iff.mp e
  rw [asR_inv h1] at hv
  simp only [VR] at hv; subst hv
  obtain ⟨p, ha, e⟩ := Option.bind_eq_some_iff.mp e
  obtain ⟨t, ob⟩ := p
  cases ob with
  | list xs => exact ⟨fun k => (in_list_snd dy hu hs ha e).1 (k s.toks), fun k => (in_list_snd dy hu hs ha e).2 (k s.toks)⟩
  | dict n es =>
    obtain ⟨i, h2, rfl⟩ := Option.map_eq_some_iff.mp e
    rw [asI_inv h2] at hu
    obtain ⟨t', rfl⟩ := hu
    obtain ⟨kvs, ⟨hm, _⟩, hf, _⟩ := dictOf_of dy ha
    exact ⟨fun k => wpAny_in_of (knd := intKind c.prog c.w) (key := .int _ t') (isInt_self _ t') (not_mods L dy ha) hm.mapOf (by rw [valueAt_some, hf]; exact k _), fun k => wpAny_notIn_of (knd := intKind c.prog c.w) (key := .int _ t') (isInt_self _ t') (not_mods L dy ha) hm.mapOf (by rw [valueAt_some, hf]; exact k _)⟩
  | _ => exact no e

theorem cmp_snd (L : Link c) {Z : Value → Shared → Prop} {K : Value → Shared → Prop} {op : CmpOp} {u v : Value} {m1 m2 : MVal} {b : Bool} (dy : Dyn c.h₀ c.P fr H s) (hu : VR s.heap m1 u) (hv : VR s.heap m2 v) (hs : A.units < 9000)
    (e : cmpM H (trCmp op) m1 m2 = some b) (k : ∀ t, K (.bool b) { s with toks := t }) : wpAny c.M A (compareOp op u v) K Z s := by
  have ii : ∀ {f : Int → Int → Bool}, ordM f m1 m2 = some b → ∃ x y t t', u = .int x t ∧ v = .int y t' ∧ f x y = b := fun e => by
    obtain ⟨x, h1, e⟩ := Option.bind_eq_some_iff.mp e
    obtain ⟨y, h2, e⟩ := Option.map_eq_some_iff.mp e
    rw [asI_inv h1] at hu; rw [asI_inv h2] at hv
    obtain ⟨t, rfl⟩ := hu; obtain ⟨t', rfl⟩ := hv
    exact ⟨x, y, t, t', rfl, rfl, e⟩
  cases op with
  | Eq => exact (eq_snd dy hu hv hs e).1 (k s.toks)
  | NotEq => obtain ⟨b', e', rfl⟩ := Option.map_eq_some_iff.mp e; exact (eq_snd dy hu hv hs e').2 (k s.toks)
  | Lt => obtain ⟨x, y, t, t', rfl, rfl, rfl⟩ := ii e; exact lt_int (k s.toks)
  | LtE => obtain ⟨x, y, t, t', rfl, rfl, rfl⟩ := ii e; exact le_int (k s.toks)
  | Gt => obtain ⟨x, y, t, t', rfl, rfl, rfl⟩ := ii e; exact gt_int (k s.toks)
  | GtE => obtain ⟨x, y, t, t', rfl, rfl, rfl⟩ := ii e; exact ge_int (k s.toks)
  | Is => obtain ⟨h1, h2⟩ := isM_snd hu hv e; exact wpAny_is_plain h1 (h2 ▸ k s.toks)
  | IsNot => obtain ⟨b', e', rfl⟩ := Option.map_eq_some_iff.mp e; obtain ⟨h1, h2⟩ := isM_snd hu hv e'; exact wpAny_isNot_plain h1 (h2 ▸ k s.toks)
  | In => exact (in_snd L dy hu hv hs e).1 k
  | NotIn => obtain ⟨b', e', rfl⟩ := Option.map_eq_some_iff.mp e; exact (in_snd L dy hu hv hs e').2 k
end
end Mine
end
section
set_option autoImplicit false
set_option linter.unusedVariables false
set_option linter.unusedSimpArgs false
namespace Mine
open PySem PySem.Calls PyProof.Rows W Builtin Builtin.ObjectAttr

theorem bga_kind : builtinKind "BaseException.__getattribute__" = some .slot := by decide +kernel
theorem bga_split : splitId "BaseException.__getattribute__" = some ("BaseException", "__getattribute__") := by decide +kernel
theorem bga_slot : Slot "BaseException" "__getattribute__" "BaseException.__getattribute__" :=
  Slot.of (T := "BaseException") (name := "__getattribute__") (owner := "BaseException") (n := "__getattribute__") (by rw [typeLookup_type, builtinLookup_eq_fast]; kernel_rfl) (by decide +kernel) (by decide +kernel) (by decide +kernel)
    (.inl (by decide +kernel)) (by rw [isSubtype_type]; kernel_rfl)

section
variable {prog : Program} {w : World} {A : Around} {E : Value → Shared → Prop} {s : Shared} {K : Frag} {x C : Addr} {ox : Obj} {od : Option Obj} {name : Str} {expr : Bool} {Q : Value → Shared → Prop}

/-- a value of an exception's own dict is read -/
theorem exc_get {v : Value} (X : K.In s.heap) (I : InstAt s.heap x ox C od) (hga : findIn K (.ref C) "__getattribute__" = some (some (.builtin "BaseException.__getattribute__"))) (hgn : findIn K (.ref C) "__getattr__" = some none) (hB : mroIn K C (.type "BaseException") = some true)
    (hf : findObj K C od name = some (.value v)) (hh : handedIn v = true) (h : Q v { s with toks := s.toks + 1 }) : wpAny (model prog w) A (getAttr (.ref x) name expr) Q E s := by
  obtain ⟨hp, g, d, t, os⟩ := s
  have L0 := I.type (M := model prog w)
  have L1 := looks_findIn (M := model prog w) X hga
  have L2 := looks_findIn (M := model prog w) X hgn
  have LF := looks_find (M := model prog w) X I hf
  have sub : Looks (model prog w) hp (isInstance (.ref x) (.type "BaseException")) true := L0.andThen (looks_mroIn X hB)
  unfold getAttr getAttrBy
  refine wpAny_bind (wpAny_mkText (wpAny_holding (wpAny_bind (L0.at (wpAny_bind (L1.at ?_))))))
  dsimp only
  rw [if_neg (show ¬ (onTheHeap (Value.ref C) && Value.builtin "BaseException.__getattribute__" == Value.builtin "object.__getattribute__") = true from by rw [show (Value.builtin "BaseException.__getattribute__" == Value.builtin "object.__getattribute__") = false from by decide +kernel]; simp)]
  unfold getAttrByItsOwn hookBefore
  rw [if_pos (show onTheHeap (Value.ref C) = true from rfl)]
  refine wpAny_bind (L2.at (wpAny_bind (wpAny_attempt (wpAny_holding ?_))))
  unfold callGetattribute
  rw [if_neg (by cases expr <;> decide)]
  unfold boundAndCalled
  refine wpAny_bind (wpAny_of_eq (bga_slot.bind (.ref x)) ?_)
  dsimp only
  refine wpAny_call (codeAny_call_builtin bga_slot.plain F.entry_bexc_ga (@check_slot (model prog w) _ _ _ "BaseException.__getattribute__" "BaseException" "__getattribute__" (.ref x) [.str name t] [] _ bga_kind bga_split sub (F.args_bexc_ga (.ref x) (.str name t)) ?_))
  refine wpAny_bind (wpAny_pure (wpAny_bind (wpAny_of_eq (a := name) rfl (wpAny_bind (L0.at (wpAny_bind (LF.at ?_)))))))
  refine wpAny_pure ?_
  show wpAny _ _ (handedOut v) _ _ _
  rw [handedOut_of hh]
  exact wpAny_pure h
end
end Mine
end
section
set_option autoImplicit false
set_option linter.unusedVariables false
set_option linter.unusedSimpArgs false
namespace Mine
open PySem PySem.Calls PyProof.Rows

section
variable {c : Cfg} {A : Around} {fr : List Env} {H : MH} {s : Shared} {X : Addr → Prop} {d : Nat} {q : Bool}

theorem isStr_iff (n x : Str) (t : Tok) : (Value.str x t).isStr n = decide (n = x) := by
  show (x == n) = _
  by_cases h : n = x
  · subst h; simp
  · rw [decide_eq_false h]; exact beq_eq_false_iff_ne.mpr fun z => h z.symm

theorem NsR.find {h : Heap} {P : Params} (n : Str) : ∀ {fs : List (Str × MVal)} {es : List DictEntry}, NsR h P fs es →
    match fget fs n with
    | some m => ∃ e, es.find? (·.key.isStr n) = some e ∧ VR h m e.val
    | Option.none => es.find? (·.key.isStr n) = none
  | [], _, r => by simp only [NsR] at r; subst r; simp [fget]
  | (k, m) :: fs, _, r => by
    simp only [NsR] at r
    obtain ⟨e, es, rfl, ⟨t, hk⟩, _, hv, r⟩ := r
    have ih := NsR.find n r
    simp only [fget, List.find?_cons, hk, isStr_iff]
    by_cases hn : n = k
    · simp only [hn, decide_true, if_true]; exact ⟨e, rfl, hv⟩
    · simp only [hn, decide_false, if_false]; exact ih
theorem NsR.noref {h : Heap} {P : Params} : ∀ {fs : List (Str × MVal)} {es : List DictEntry}, NsR h P fs es → es.any (·.refKey) = false
  | [], _, r => by simp only [NsR] at r; subst r; rfl
  | (k, m) :: fs, _, r => by
    simp only [NsR] at r
    obtain ⟨e, es, rfl, ⟨t, hk⟩, _, hv, r⟩ := r
    simp only [List.any_cons, NsR.noref r, Bool.or_false]
    unfold DictEntry.refKey
    rw [hk]

noncomputable abbrev nsObj (rs : Array DictEntry) (n : Nat) : Obj := ⟨.type "dict", none, .dict rs n, #[]⟩

theorem lookIn_ns {h : Heap} {P : Params} {fs : List (Str × MVal)} {rs : Array DictEntry} {k : Nat} (r : NsR h P fs rs.toList) (n : Str) :
    match fget fs n with
    | some m => ∃ v, W.lookIn n (nsObj rs k) = some (some v) ∧ VR h m v
    | Option.none => W.lookIn n (nsObj rs k) = some Option.none := by
  have f := r.find n
  unfold W.lookIn
  dsimp only
  cases g : fget fs n with
  | some m => rw [g] at f; obtain ⟨e, e1, e2⟩ := f; exact ⟨e.val, by simp only [e1], e2⟩
  | none => rw [g] at f; dsimp only at f ⊢; simp only [f, r.noref]; rfl

theorem inst_of {a dx C : Addr} {t t' : Tag} {fs : List (Str × MVal)} (dy : Dyn c.h₀ c.P fr H s) (ha : H a = some (t, .inst C dx)) (hd : H dx = some (t', .ns fs)) :
    ∃ rs n, W.InstAt s.heap a ⟨.ref C, some dx, .plain, #[]⟩ C (some (nsObj rs n)) ∧ s.heap.get? dx = some (nsObj rs n) ∧ NsR s.heap c.P fs rs.toList := by
  obtain ⟨_, ob, e, rfl⟩ := dy.obj a t _ ha
  obtain ⟨_, ob, e', rs, n, rfl, r⟩ := dy.obj dx t' _ hd
  exact ⟨rs, n, ⟨e, rfl, rfl, e'⟩, e', r⟩

theorem exc_inst {a dx C : Addr} {t t' : Tag} {fs : List (Str × MVal)} (dy : Dyn c.h₀ c.P fr H s) (ha : H a = some (t, .exc C (some dx))) (hd : H dx = some (t', .ns fs)) :
    ∃ rs n vs, W.InstAt s.heap a ⟨.ref C, some dx, .fields vs, #[]⟩ C (some (nsObj rs n)) ∧ s.heap.get? dx = some (nsObj rs n) ∧ NsR s.heap c.P fs rs.toList := by
  obtain ⟨_, ob, e, vs, rfl, _⟩ := dy.obj a t _ ha
  obtain ⟨_, ob, e', rs, n, rfl, r⟩ := dy.obj dx t' _ hd
  exact ⟨rs, n, vs, ⟨e, rfl, rfl, e'⟩, e', r⟩

theorem handedIn_of {m : MVal} {h : Heap} {v : Value} (r : VR h m v) (nb : notBi m = true) : W.handedIn v = true := by
  cases m <;> simp only [VR] at r <;> simp only [notBi] at nb <;> first | (subst r; rfl) | (obtain ⟨_, rfl⟩ := r; rfl) | (obtain ⟨_, rfl, _⟩ := r; rfl) | (obtain ⟨_, _, _, _, rfl, _, _⟩ := r; rfl) | (obtain ⟨_, _, _, rfl, _⟩ := r; rfl) | cases nb

theorem attr_snd (L : Link c) {Z : Value → Shared → Prop} {u : Value} {m : MVal} {n : Str} {e : Bool} {Q : MVal → MH → Prop} (dy : Dyn c.h₀ c.P fr H s) (hu : VR s.heap m u) (hw : AttrW c m n H Q) : wpAny c.M A (getAttr u n e) (QV c fr noX H s Q) Z s := by
  have KX := L.K.keeps dy.keep
  obtain ⟨a, e1, hw⟩ := onR hw
  rw [e1] at hu
  simp only [VR] at hu; subst hu
  obtain ⟨p, ha, hw⟩ := on_inv hw
  obtain ⟨t, ob⟩ := p
  cases ob with
  | inst C dx =>
    obtain ⟨t', fs, hd, hw⟩ := onN (show on (at? oN H dx) _ from hw)
    obtain ⟨rs, k, I, e', r⟩ := inst_of dy ha hd
    have lk := lookIn_ns (k := k) r n
    have hw : AttrI c n H Q a C (fget fs n) := hw
    cases hv : fget fs n with
    | some v =>
      rw [hv] at lk hw
      obtain ⟨x, hx, rx⟩ := lk
      obtain ⟨⟨hf, hb⟩, hq⟩ := hw
      simp only [Cfg.fld, Bool.and_eq_true] at hf
      obtain ⟨⟨f1, f2⟩, f3⟩ := hf
      obtain ⟨attr, ha', f3⟩ := W.any_some f3
      exact W.get_value KX I (W.plainGet_of f1).1 (W.findObj_own f2 ha' f3 hx) (handedIn_of rx hb) (.plain dy rx hq)
    | none =>
      rw [hv] at lk hw
      obtain ⟨f, hf, hw⟩ := on_inv (show on (c.meth C n) _ from hw)
      obtain ⟨⟨h1, h2, h3⟩, hg, h4, h5, h6⟩ := Cfg.meth_inv hf
      refine W.get_bind KX I (W.plainGet_of h1).1 (g := .builtin "function.__get__") (a := .ref f) ?_ (W.plainGet_of h1).2 (wpAny_call (W.fn_get (s := { s with toks := s.toks + 1 }) KX (beq_iff_eq.mp h4) ?_))
      · obtain ⟨cd, hc, hcd⟩ := W.any_some h2
        unfold W.findObj
        rw [hc, Option.bind_some, hg, Option.bind_some]
        dsimp only
        rw [h5, Option.bind_some]
        dsimp only
        rw [h6, Option.bind_some]
        dsimp only
        unfold W.ownOf
        rw [hcd, if_pos rfl]
        dsimp only
        rw [lk, Option.bind_some]
        dsimp only
        rw [h3]
        rfl
      · dsimp only
        rw [W.handedOut_of (by rfl)]
        refine wpAny_pure ⟨.meth f _, H, ?_, dy.of_keep (push_keep _ _), .of_keep (push_keep _ _), hw⟩
        exact ⟨_, rfl, Heap.get?_push_size _ rfl⟩
  | exc C dx =>
    obtain ⟨dx, rfl, hw⟩ := on_inv (show on dx _ from hw)
    obtain ⟨t', fs, hd, hw⟩ := onN hw
    obtain ⟨rs, k, vs, I, e', r⟩ := exc_inst dy ha hd
    have lk := lookIn_ns (k := k) r n
    obtain ⟨v, hv, ⟨hf, hb⟩, hq⟩ := on_inv hw
    rw [show fget fs n = _ from hv] at lk
    obtain ⟨x, hx, rx⟩ := lk
    simp only [Cfg.fldE, Bool.and_eq_true, beq_iff_eq] at hf
    obtain ⟨⟨⟨⟨f1, f2⟩, f3⟩, f4⟩, f5⟩ := hf
    obtain ⟨attr, ha', f5⟩ := W.any_some f5
    exact exc_get KX I f1 f2 f3 (W.findObj_own f4 ha' f5 hx) (handedIn_of rx hb) (.plain dy rx hq)
  | _ => exact False.elim hw
end
end Mine
end
section
set_option autoImplicit false
set_option linter.unusedVariables false
set_option linter.unusedSimpArgs false
namespace Mine
open PySem PySem.Calls PyProof.Rows PySem.W
open Builtin Builtin.ObjectAttr Builtin.Getset_descriptor

section
variable {c : Cfg} {A : Around} {fr : List Env} {H : MH} {s : Shared} {X : Addr → Prop} {d : Nat} {q : Bool}

theorem NsR.put {h h' : Heap} {P : Params} (sf : Soft h h') {n : Str} {t : Tok} {m : MVal} {v : Value} (r' : VR h' m v) : ∀ {fs : List (Str × MVal)} {es : List DictEntry}, NsR h P fs es →
    NsR h' P (fset fs n m) (putL n (PyData.keyHash P n) (.str n t) v es)
  | [], _, r => by
    simp only [NsR] at r; subst r
    simp only [fset, putL, NsR]
    exact ⟨_, _, rfl, ⟨t, rfl⟩, rfl, r', rfl⟩
  | (k, w) :: fs, _, r => by
    simp only [NsR] at r
    obtain ⟨e, es, rfl, ⟨t', hk⟩, hh, hv, r⟩ := r
    simp only [fset, putL, hk, isStr_iff]
    by_cases hn : n = k
    · subst hn
      simp only [decide_true, if_true, NsR]
      exact ⟨_, _, rfl, ⟨t', rfl⟩, hh, r', r.soft sf⟩
    · simp only [hn, decide_false, if_false, NsR, Bool.false_eq_true]
      exact ⟨_, _, rfl, ⟨t', hk⟩, hh, hv.soft sf, NsR.put sf r' r⟩
theorem NsR.length {h : Heap} {P : Params} : ∀ {fs : List (Str × MVal)} {es : List DictEntry}, NsR h P fs es → es.length = fs.length
  | [], _, r => by simp only [NsR] at r; subst r; rfl
  | (k, w) :: fs, _, r => by
    simp only [NsR] at r
    obtain ⟨e, es, rfl, _, _, _, r⟩ := r
    simp [NsR.length r]
theorem putL_length (n : Str) (h : Int) (k v : Value) : ∀ es : List DictEntry, (putL n h k v es).length ≤ es.length + 1
  | [] => by simp [putL]
  | e :: r => by
    simp only [putL]; split
    · simp
    · have := putL_length n h k v r; simp only [List.length_cons]; omega

theorem osa_put {x C dx : Addr} {n : Str} {tk : Tok} {v : Value} {rs : Array DictEntry} {k : Nat} {ox : Obj} {R : Result → Shared → Prop} {K : Frag} {prog : Program} {w : World} (X : K.In s.heap) (I : InstAt s.heap x ox C (some (nsObj rs k))) (hox : ox.dict = some dx)
    (hp : plainOver K C = true) (ht : takerIn K C n = some none) (hh : hasDictIn K C = true) (hn : rs.toList.any (·.refKey) = false) (hz : rs.size ≤ 500)
    (h : R (.ok (.ret .none)) { s with heap := s.heap.update dx (Obj.putName n (PyData.keyHash w.params n) (.str n s.toks) v), toks := s.toks + 1 }) :
    codeAny (model prog w) A (.call (.builtin "object.__setattr__") ⟨[.ref x, .str n tk, v], []⟩) R s := by
  refine osa_open X I hp ht fun b => ?_
  obtain ⟨cd, hc, hd'⟩ := any_some hh
  obtain ⟨hx, hcl, hnn, hdx⟩ := I
  obtain ⟨oc, odi, oda, osl⟩ := ox
  dsimp only at hcl hox hdx
  subst hcl hox
  dsimp only at hdx
  have eo : nsObj rs k = dictOf rs.toList k := by simp [nsObj]
  have D' : (s.heap.update dx (Obj.putName n (PyData.keyHash w.params n) (.str n s.toks) v)).get? dx = some (dictOf (putL n (PyData.keyHash w.params n) (.str n s.toks) v rs.toList) (putN n rs.toList k)) := by
    have := Heap.get?_update_self (Obj.putName n (PyData.keyHash w.params n) (.str n s.toks) v) hdx (by rw [eo, putName_dict]; rfl)
    rw [eo, putName_dict] at this; exact this
  refine wpAny_bind (wpAny_pure (wpAny_bind (wpAny_bind (wpAny_loadPart hx (wpAny_bind ((looks_clsIn X hc).here ?_))))))
  rw [hd']
  refine wpAny_pure (a := some dx) (wpAny_bind (wpAny_pure (wpAny_bind ?_)))
  unfold nsSet
  refine wpAny_bind (wpAny_bind (wpAny_askSetting (wpAny_pure (wpAny_bind (wpAny_mkText (wpAny_bind (wpAny_loadPart hdx ?_)))))))
  have cc : (!rs.any (·.key.isStr n) && rs.any (·.refKey)) = false := by
    have : rs.any (fun x => x.refKey) = false := by rw [← Array.any_toList]; exact hn
    rw [this, Bool.and_false]
  dsimp only [nsObj]
  rw [aRefKeyMayBeTheName_at, cc]
  refine wpAny_updatePart hdx ?_
  refine wpAny_bind (wpAny_lookBehind D' (pastItsLine_dict (by have := putL_length n (PyData.keyHash w.params n) (.str n s.toks) v rs.toList; have := sizeLine_big; simp only [List.size_toArray, Array.length_toList] at *; omega)) ?_)
  exact wpAny_pure h

end

section
open W Builtin Builtin.ObjectAttr
variable {prog : Program} {w : World} {A : Around} {R : Result → Shared → Prop} {K : Frag} {C x : Addr} {s : Shared}

theorem osa_exc_open {ox : Obj} {od : Option Obj} {name : Str} {tk : Tok} {v : Value} {cd : ClassData} (X : K.In s.heap) (I : InstAt s.heap x ox C od) (hc : clsIn K C = some cd) (hr : refuses cd.mro) (ho : mroIn K C (.type "object") = some true) (ht : takerIn K C name = some none)
    (h : ∀ b, wpAny (model prog w) A.in1 (storeInOwnDict (.ref x) (.ref C) (.str name tk) name v b)
      (fun fin s' => match fin with | .done f => R (.ok f) s' | .again c' => c'.quiet = true ∧ codeAny (model prog w) A c' R s') (fun e s' => R (.error e) s') s) :
    codeAny (model prog w) A (.call (.builtin "object.__setattr__") ⟨[.ref x, .str name tk, v], []⟩) R s := by
  have SF := PySem.F.store_object
  have sub : Looks (model prog w) s.heap (isInstance (.ref x) (.type "object")) true := I.type.andThen (looks_mroIn X ho)
  refine codeAny_call_builtin SF.slot.plain SF.entry (@check_slot (model prog w) _ _ s "object.__setattr__" "object" "__setattr__" (.ref x) [.str name tk, v] [] _ SF.kind SF.split sub (SF.args (.ref x) (.str name tk) v) ?_)
  obtain ⟨attr, ha, hr'⟩ := Option.bind_eq_some_iff.mp ht
  have hm : Looks (model prog w) s.heap (mroOf (.ref C)) cd.mro := (looks_clsIn X hc).andThen .now
  have L3 : Looks (model prog w) s.heap (storeTaker? attr) none := by
    cases attr with
    | none => exact .now
    | some a =>
      obtain ⟨b, hb, e⟩ := Option.map_eq_some_iff.mp hr'
      refine (looks_takesIn X hb).andThen ?_
      cases b
      · exact .now
      · cases e
  rw [osa_eq, refuse_eq]
  refine wpAny_bind (wpAny_bind (I.type.here (wpAny_bind (hm.here ?_))))
  rw [hr]
  refine wpAny_pure (wpAny_bind (I.type.here (wpAny_bind ((looks_findIn X ha).here (wpAny_bind (L3.here ?_))))))
  exact h _

/-- the first name of an exception's own: its dict is made -/
theorem osa_exc {name : Str} {tk : Tok} {v : Value} {cd : ClassData} {vs : Array Value} (X : K.In s.heap) (hx : s.heap.get? x = some ⟨.ref C, none, .fields vs, #[]⟩) (hc : clsIn K C = some cd) (hd : cd.hasDict = true) (hr : refuses cd.mro) (ho : mroIn K C (.type "object") = some true)
    (ht : takerIn K C name = some none)
    (h : ∀ h' n, (∀ b o, b ≠ x → s.heap.get? b = some o → h'.get? b = some o) → h'.get? x = some ⟨.ref C, some s.heap.objs.size, .fields vs, #[]⟩ → h'.get? s.heap.objs.size = some ⟨.type "dict", none, .dict #[⟨PyData.keyHash w.params name, .str name s.toks, v⟩] n, #[]⟩ →
      R (.ok (.ret .none)) { s with heap := h', toks := s.toks + 1 }) :
    codeAny (model prog w) A (.call (.builtin "object.__setattr__") ⟨[.ref x, .str name tk, v], []⟩) R s := by
  refine osa_exc_open (od := none) X ⟨hx, rfl, rfl, trivial⟩ hc hr ho ht fun b => ?_
  have hC : ∃ oc, s.heap.get? C = some oc ∧ oc.data = .cls cd := by
    unfold clsIn at hc
    split at hc
    · rename_i hl; cases hc; exact ⟨_, X _ _ hl, rfl⟩
    · cases hc
  unfold storeInOwnDict
  refine wpAny_bind (wpAny_pure ?_)
  rw [if_neg (by simp)]
  refine wpAny_bind (m := ownDictForStores (.ref x)) ?_
  show wpAny _ _ (instanceDict x true) _ _ _
  unfold instanceDict
  refine wpAny_bind (wpAny_loadPart hx ?_)
  dsimp only
  refine wpAny_bind ((looks_clsIn X hc).here ?_)
  rw [hd]
  simp only [Bool.not_true, Bool.false_eq_true, if_false, Bool.false_or]
  rw [if_neg (show ¬ (!typeHasDict (Value.ref C)) = true from fun z => by cases z)]
  have hlt : x < s.heap.objs.size := Heap.lt_size hx
  have hx1 : (s.heap.push { cls := .type "dict", data := .dict #[] }).get? x = some ⟨.ref C, none, .fields vs, #[]⟩ := push_keep _ _ _ _ hx
  refine wpAny_bind (wpAny_alloc (wpAny_bind (wpAny_update hx1 ?_)))
  have ne : s.heap.objs.size ≠ x := Nat.ne_of_gt hlt
  have gx : ((s.heap.push { cls := .type "dict", data := .dict #[] }).update x fun o => { o with dict := some s.heap.objs.size }).get? x = some ⟨.ref C, some s.heap.objs.size, .fields vs, #[]⟩ := Heap.get?_update_self _ hx1 rfl
  have gD : ((s.heap.push { cls := .type "dict", data := .dict #[] }).update x fun o => { o with dict := some s.heap.objs.size }).get? s.heap.objs.size = some (nsObj #[] 0) := (Heap.SameBut.update ..).extBut _ _ ne (Heap.get?_push_size _ rfl)
  have kp : ∀ b o, b ≠ x → s.heap.get? b = some o → ((s.heap.push { cls := .type "dict", data := .dict #[] }).update x fun o => { o with dict := some s.heap.objs.size }).get? b = some o := fun b o hb e => (Heap.SameBut.update ..).extBut _ _ hb (push_keep _ _ _ _ e)
  generalize ((s.heap.push { cls := .type "dict", data := .dict #[] }).update x fun o => { o with dict := some s.heap.objs.size }) = h₁ at *
  unfold dictMade
  refine wpAny_pure ?_
  dsimp only
  unfold storeInDict
  refine wpAny_bind (wpAny_pure (wpAny_bind ?_))
  have eo : nsObj #[] 0 = dictOf ([] : List DictEntry) 0 := by simp [nsObj]
  have D' : (h₁.update s.heap.objs.size (Obj.putName name (PyData.keyHash w.params name) (.str name s.toks) v)).get? s.heap.objs.size = some (dictOf (putL name (PyData.keyHash w.params name) (.str name s.toks) v []) (putN name [] 0)) := by
    have := Heap.get?_update_self (Obj.putName name (PyData.keyHash w.params name) (.str name s.toks) v) gD (by rw [eo, putName_dict]; rfl)
    rw [eo, putName_dict] at this; exact this
  unfold nsSet
  refine wpAny_bind (wpAny_bind (wpAny_askSetting (wpAny_pure (wpAny_bind (wpAny_mkText (wpAny_bind (wpAny_loadPart gD ?_)))))))
  dsimp only [nsObj]
  rw [aRefKeyMayBeTheName_at, show (!(#[] : Array DictEntry).any (·.key.isStr name) && (#[] : Array DictEntry).any (·.refKey)) = false from by simp]
  refine wpAny_updatePart gD ?_
  refine wpAny_bind (wpAny_lookBehind D' (pastItsLine_dict (by have := putL_length name (PyData.keyHash w.params name) (.str name s.toks) v []; have := sizeLine_big; simp only [List.size_toArray, List.length_nil] at *; omega)) ?_)
  refine wpAny_pure (h _ _ (fun b o hb e => (Heap.SameBut.update ..).extBut _ _ (fun z => by subst z; rw [size_fresh] at e; cases e) (kp b o hb e)) ((Heap.SameBut.update ..).extBut _ _ ne.symm gx) D')
end

section
variable {c : Cfg} {A : Around} {fr : List Env} {H : MH} {s : Shared} {X : Addr → Prop} {d : Nat} {q : Bool}

theorem setAttr_snd (L : Link c) {Z : Value → Shared → Prop} {K : Unit → Shared → Prop} {u v : Value} {m mv : MVal} {n : Str} {Q : MH → Prop} (dy : Dyn c.h₀ c.P fr H s) (hu : VR s.heap m u) (hv : VR s.heap mv v) (hw : SetAttrW c m n mv H Q)
    (k : ∀ H' s', Dyn c.h₀ c.P fr H' s' → Ext noX H s H' s' → Q H' → K () s') : wpAny c.M A (setAttr u n v) K Z s := by
  have KX := L.K.keeps dy.keep
  obtain ⟨a, e1, hw⟩ := onR hw
  rw [e1] at hu
  simp only [VR] at hu; subst hu
  obtain ⟨p, ha, hw⟩ := on_inv hw
  obtain ⟨t, ob⟩ := p
  cases ob with
  | inst C dx =>
    obtain ⟨t', fs, hd, hw⟩ := onN (show on (at? oN H dx) _ from hw)
    have hl0 : fs.length < 100 := hw.1.2
    obtain ⟨rs, j, I, e', r⟩ := inst_of dy ha hd
    obtain ⟨⟨hs, hl⟩, hq⟩ := hw
    unfold Cfg.stf at hs
    simp only [Bool.and_eq_true, beq_iff_eq] at hs
    obtain ⟨⟨⟨s1, s2⟩, s3⟩, s4⟩ := hs
    have len := r.length
    refine set_plain KX I s1 (osa_put (s := { s with toks := s.toks + 1 }) KX I rfl s2 s3 s4 r.noref (by simp only [← Array.length_toList]; omega) ?_)
    have eo : nsObj rs j = dictOf rs.toList j := by simp [nsObj]
    have D' : (s.heap.update dx (Obj.putName n (PyData.keyHash c.P n) (.str n (s.toks + 1)) v)).get? dx = some (dictOf (putL n (PyData.keyHash c.P n) (.str n (s.toks + 1)) v rs.toList) (putN n rs.toList j)) := by
      have := Heap.get?_update_self (Obj.putName n (PyData.keyHash c.P n) (.str n (s.toks + 1)) v) e' (by rw [eo, putName_dict]; rfl)
      rw [eo, putName_dict] at this; exact this
    obtain ⟨d', e2⟩ := dy.put (t' := t') (o' := .ns (fset fs n mv)) (s' := { s with heap := s.heap.update dx (Obj.putName n (PyData.keyHash c.P n) (.str n (s.toks + 1)) v), toks := s.toks + 1 + 1 }) hd
      (Heap.SameBut.update _ _ _).extBut D' (fun sf => ⟨_, _, rfl, NsR.put sf (hv.soft sf) r⟩)
    exact k _ _ d' e2 hq
  | exc C dx =>
    obtain ⟨rfl, hs, hq⟩ := hw
    simp only [Cfg.stE, Bool.and_eq_true, beq_iff_eq] at hs
    obtain ⟨⟨⟨⟨s1, s2⟩, s3⟩, s4⟩, s5⟩ := hs
    obtain ⟨cd, hcd, s4⟩ := W.any_some s4
    obtain ⟨n₀, ob, e, vs, rfl, z5, rr⟩ := dy.obj _ _ _ ha
    refine W.set_plain KX (od := none) ⟨e, rfl, rfl, trivial⟩ s1 (osa_exc (s := { s with toks := s.toks + 1 }) KX e hcd s4 (L.exr C cd s5 hcd) s2 s3 fun h' n' kp gx gD => ?_)
    have ne : s.heap.objs.size ≠ a := fun q => by rw [← q, size_fresh] at e; cases e
    have hD : H s.heap.objs.size = none := by
      cases q : H s.heap.objs.size with
      | none => rfl
      | some z => obtain ⟨t, o⟩ := z; obtain ⟨_, ob, e', _⟩ := dy.obj _ t o q; rw [size_fresh] at e'; cases e'
    have bD : c.h₀.get? s.heap.objs.size = none := by
      cases q : c.h₀.get? s.heap.objs.size with
      | none => rfl
      | some z => have := dy.keep _ _ q; rw [size_fresh] at this; cases this
    have sf : Soft s.heap h' := .of_but (a := a) (fun b o hb q => kp b o hb q) fun o q => by rw [e] at q; cases q; simp [softCls]
    have na : ∀ b, H b = none → b ≠ a := fun b hb z => by subst z; rw [ha] at hb; cases hb
    refine k _ { s with heap := h', toks := s.toks + 1 + 1 } ⟨fun b o q => kp b o (fun z => by subst z; rw [n₀] at q; cases q) (dy.keep b o q), fun env he => ?_, fun b t2 o2 q => ?_⟩ ⟨fun b o q hn _ _ _ => kp b o (na b hn) q, fun b o q hn _ _ => ⟨o.slots, kp b o (na b hn) q⟩, sf, fun b _ hb => ?_, fun b hb => ?_, fun b hb hb' => ?_, fun _ z => z.elim, ⟨[], by simp, fun _ h => (by cases h)⟩, rfl⟩ (hq s.heap.objs.size hD ne)
    · obtain ⟨hk, L', oL, b1, c1, d1, e1, f1⟩ := dy.ff env he
      have nL : L' ≠ a := na _ d1
      have nL2 : L' ≠ s.heap.objs.size := fun z => by rw [z, size_fresh] at e1; cases e1
      exact ⟨hk, L', oL, b1, c1, (upd_ne _ _ _ nL).trans ((upd_ne _ _ _ nL2).trans d1), kp _ _ nL e1, f1⟩
    · by_cases z : b = a
      · subst z; rw [upd_same] at q; cases q
        exact ⟨n₀, _, gx, ExcOk.soft sf (C := C) (dx := some s.heap.objs.size) (o := ⟨.ref C, some s.heap.objs.size, .fields vs, #[]⟩) (h := s.heap) ⟨vs, rfl, z5, rr⟩⟩
      · rw [upd_ne _ _ _ z] at q
        by_cases z2 : b = s.heap.objs.size
        · subst z2; rw [upd_same] at q; cases q
          exact ⟨bD, _, gD, _, _, rfl, by simp only [NsR]; exact ⟨_, _, rfl, ⟨_, rfl⟩, rfl, hv.soft sf, rfl⟩⟩
        · rw [upd_ne _ _ _ z2] at q
          obtain ⟨a1, ob2, b1, c1⟩ := dy.obj b t2 o2 q
          exact ⟨a1, ob2, kp _ _ z b1, c1.soft sf⟩
    · by_cases z : b = a
      · subst z; show h'.get? _ ≠ none; rw [gx]; simp
      · cases q : s.heap.get? b with
        | none => exact absurd q hb
        | some o => show h'.get? _ ≠ none; rw [kp b o z q]; simp
    · by_cases z : b = a
      · subst z; rw [upd_same]; simp
      · rw [upd_ne _ _ _ z]
        by_cases z2 : b = s.heap.objs.size
        · subst z2; rw [upd_same]; simp
        · rw [upd_ne _ _ _ z2]; exact hb
    · rw [upd_ne _ _ _ (na b hb)] at hb'
      by_cases z2 : b = s.heap.objs.size
      · subst z2; exact size_fresh _
      · rw [upd_ne _ _ _ z2] at hb'; exact absurd hb hb'
  | _ => exact False.elim hw
end
end Mine
end
section
set_option autoImplicit false
set_option linter.unusedVariables false
set_option linter.unusedSimpArgs false
namespace Mine
open PySem PySem.Calls PyProof.Rows

theorem upd_id {H : MH} {a : Addr} {t : Tag} {o : MObj} (h : H a = some (t, o)) : upd H a t o = H := by
  funext b
  by_cases z : b = a
  · subst z; rw [upd_same, h]
  · exact upd_ne _ _ _ z

theorem VRs.one {h : Heap} {m : MVal} {vs : List Value} (x : VRs h [m] vs) : ∃ v, vs = [v] ∧ VR h m v := by
  simp only [VRs] at x; obtain ⟨v, r, rfl, a, rfl⟩ := x; exact ⟨v, rfl, a⟩
theorem VRs.two {h : Heap} {m m' : MVal} {vs : List Value} (x : VRs h [m, m'] vs) : ∃ v v', vs = [v, v'] ∧ VR h m v ∧ VR h m' v' := by
  simp only [VRs] at x; obtain ⟨v, r, rfl, a, v', r', rfl, b, rfl⟩ := x; exact ⟨v, v', rfl, a, b⟩
theorem VRs.dropLast {h : Heap} : ∀ {ms : List MVal} {vs : List Value}, VRs h ms vs → VRs h ms.dropLast vs.dropLast
  | [], _, x => by simp only [VRs] at x; subst x; simp [VRs]
  | [m], _, x => by obtain ⟨v, rfl, _⟩ := x.one; simp [VRs]
  | m :: m' :: ms, _, x => by
    have x' := x
    simp only [VRs] at x; obtain ⟨v, r, rfl, a, v', r', rfl, b, x⟩ := x
    simp only [List.dropLast_cons_cons, VRs]
    refine ⟨v, _, rfl, a, VRs.dropLast (ms := m' :: ms) ?_⟩
    simp only [VRs]; exact ⟨v', r', rfl, b, x⟩
theorem VRs.last {h : Heap} {ms : List MVal} {vs : List Value} (x : VRs h ms vs) (hn : ms ≠ []) : ∃ v, vs[vs.length - 1]? = some v ∧ VR h (ms.getLast hn) v := by
  have l := x.length
  have : ms[ms.length - 1]? = some (ms.getLast hn) := by rw [List.getLast_eq_getElem]; exact List.getElem?_eq_getElem _
  obtain ⟨v, a, b⟩ := x.get this
  exact ⟨v, by rw [l]; exact a, b⟩

theorem DictR.length {h : Heap} : ∀ {es : List (Int × MVal)} {rs : List DictEntry}, DictR h es rs → rs.length = es.length
  | [], _, r => by simp only [DictR] at r; subst r; rfl
  | (k, w) :: fs, _, r => by
    simp only [DictR] at r
    obtain ⟨e, es, rfl, _, _, _, r⟩ := r
    simp [DictR.length r]

section
variable {c : Cfg} {A : Around} {fr : List Env} {H : MH} {s : Shared} {X : Addr → Prop} {d : Nat} {q : Bool}

theorem call_entry_len {a : Addr} {items : Array Value} {n : Nat} {Q : Value → Shared → Prop} {Z : Value → Shared → Prop} (g : IsL s.heap a items n) (z : items.size ≤ BIG) (h : ∀ t u, Q (.int items.size t) { s with toks := u }) : wpAny c.M A (call (.builtin "len") [.ref a]) Q Z s :=
  call_len_list (items := items) ⟨_, g, rfl, n, rfl⟩ (by have := BIG_eq; omega) (h _ _)

/-- a list of the call's own is changed in place -/
theorem QV.putList {Q : MVal → MH → Prop} {a : Addr} {t : Tag} {xs ys : List MVal} {vs : Array Value} {n : Nat} {f : Array Value → Array Value} {m : MVal} {v : Value} {tk : Nat} (dy : Dyn c.h₀ c.P fr H s) (ha : H a = some (t, .list xs)) (g : IsL s.heap a vs n)
    (hz : (f vs).size ≤ BIG) (r : VRs s.heap ys (f vs).toList) (rv : VR s.heap m v) (q : Q m (upd H a t (.list ys))) : QV c fr noX H s Q v { s with heap := s.heap.update a (Obj.mapSeq f), toks := tk } := by
  have e' := g.update f
  obtain ⟨d', e2⟩ := dy.put (t' := t) (o' := .list ys) (s' := { s with heap := s.heap.update a (Obj.mapSeq f), toks := tk }) ha (Heap.SameBut.update _ _ _).extBut e' (fun sf => ⟨_, _, rfl, hz, r.soft sf⟩)
  exact ⟨m, _, rv.soft e2.soft, d', e2, q⟩

theorem vinit_check {M : Model} {E : Value → Shared → Prop} {e C : Addr} {cd : ClassData} {v' : Value} {Q : Unit → Shared → Prop} (sub : W.Looks M s.heap (isInstance (.ref e) (.type "ValueError")) true) (ty : W.Looks M s.heap (typeOf (.ref e)) (.ref C)) (lc : W.Looks M s.heap (classData C) cd) (hq : Q () s) : wpAny M A (checkBuiltinCall "ValueError.__init__" ⟨[.ref e, v'], []⟩) Q E s := by
  have F := PySem.F.excBase_ValueError
  have hshort := F.noStar
  simp only [checkBuiltinCall, F.initKind, F.initSplit, F.initRow]
  refine wpAny_bind (sub.here ?_)
  simp only [Bool.not_true, Bool.false_eq_true, if_false]
  unfold Bind.checkArgs
  dsimp only
  refine wpAny_bind ?_
  unfold Bind.printed
  rw [if_neg (by decide)]
  rw [if_neg (by decide)]
  show wpAny _ _ (Bind.receiverType _ (.ref e) >>= fun t => typeNameWhole t >>= fun tp => pure (if true then tp else Bind.lastOf tp)) _ _ _
  unfold Bind.receiverType
  refine wpAny_bind (m := (if (Manifest.Receiver.self == Manifest.Receiver.cls) = true then pure (Value.ref e) else typeOf (.ref e))) ?_
  rw [if_neg (by decide)]
  refine ty.here ?_
  refine wpAny_bind (m := typeNameWhole (.ref C)) ?_
  show wpAny _ _ (classData C >>= fun cd => pure cd.name.toString) _ _ _
  refine wpAny_bind (lc.here (wpAny_pure ?_))
  refine wpAny_pure ?_
  refine wpAny_bind ?_
  rw [if_pos hshort]
  refine wpAny_pure ?_
  refine wpAny_onRaise ?_
  rw [show ∀ (a b : String) (n : Nat), Bind.check ⟨.positional, "*", "ValueError", .self, [⟨"args", .varPos, false⟩]⟩ a b n (List.map (fun x => x.fst) ([] : List (Str × Value))) = pure () from
    fun a b n => check_star_args _ _ _ _ _ _]
  exact wpAny_pure hq

theorem vinit_snd (L : Link c) {e : Addr} {t : Tag} {C : Addr} {dx : Option Addr} {v' : Value} {Q : MVal → MH → Prop} {Z : Value → Shared → Prop} (dy : Dyn c.h₀ c.P fr H s) (ha : H e = some (t, .exc C dx)) (hm : c.ve C = true) (hq : Q .none H) :
    wpAny c.M A (call (.builtin "ValueError.__init__") [.ref e, v']) (QV c fr noX H s Q) Z s := by
  have KX := L.K.keeps dy.keep
  obtain ⟨n₀, ob, g, vs, rfl, z5, rr⟩ := dy.obj _ _ _ ha
  unfold Cfg.ve at hm
  rw [Bool.and_eq_true] at hm
  obtain ⟨hm, hcl⟩ := hm
  obtain ⟨cd, hcd⟩ := Option.isSome_iff_exists.mp hcl
  have ty : W.Looks c.M s.heap (typeOf (.ref e)) (.ref C) := (W.Looks.ld g).andThen .now
  have sub : W.Looks c.M s.heap (isInstance (.ref e) (.type "ValueError")) true := ty.andThen (W.looks_mroIn KX (by simpa using hm))
  refine wpAny_call (codeAny_call_builtin PySem.F.excBase_ValueError.init.plain PySem.F.excBase_ValueError.initEntry (vinit_check sub ty (W.looks_clsIn KX hcd) ?_))
  show wpAny _ _ (newTuple [v'] >>= fun t => Builtin.BaseException.bexcPut (.ref e) 0 t >>= fun _ => ret .none) _ _ s
  refine wpAny_bind (wpAny_newObj_type ?_ (by size_fits))
  unfold Builtin.BaseException.bexcPut
  have g1 := Heap.get?_push_of_some { cls := .type "tuple", data := .seq [v'].toArray } g
  obtain ⟨x0, hx0⟩ : ∃ x, vs[0]? = some x := ⟨vs[0]'(by omega), Array.getElem?_eq_getElem _⟩
  refine wpAny_bind (wpAny_bind (wpAny_field g1 rfl hx0 ?_))
  refine wpAny_bind (wpAny_setField g1 rfl (by omega) ?_)
  have k1 : ∀ b o, s.heap.get? b = some o → (s.heap.push { cls := .type "tuple", data := .seq [v'].toArray }).get? b = some o := fun b o e => Heap.get?_push_of_some _ e
  have dy1 : Dyn c.h₀ c.P fr H { s with heap := s.heap.push { cls := .type "tuple", data := .seq [v'].toArray } } := dy.of_keep k1
  have ex1 : Ext noX H s H { s with heap := s.heap.push { cls := .type "tuple", data := .seq [v'].toArray } } := .of_keep k1
  have g2 := Heap.get?_update_self (Obj.mapFields (·.setIfInBounds 0 (Value.ref s.heap.objs.size))) g1 rfl
  obtain ⟨dy2, ex2⟩ := dy1.put (t' := t) (o' := .exc C dx) (s' := { s with heap := (s.heap.push { cls := .type "tuple", data := .seq [v'].toArray }).update e (Obj.mapFields (·.setIfInBounds 0 (Value.ref s.heap.objs.size))) }) ha (Heap.SameBut.update _ _ _).extBut g2 (fun sf => by
    refine ⟨vs.setIfInBounds 0 (.ref s.heap.objs.size), rfl, by simpa using z5, ?_⟩
    have e1 : (vs.setIfInBounds 0 (Value.ref s.heap.objs.size))[1]? = vs[1]? := by simp [Array.getElem?_setIfInBounds]
    rw [e1]
    have z : ExcOk c.h₀ s.heap C dx ⟨.ref C, dx, .fields vs, #[]⟩ := ⟨vs, rfl, z5, rr⟩
    obtain ⟨vs', e2, _, rr'⟩ := (z.soft (Soft.of_keep k1)).soft sf
    cases e2
    exact rr')
  rw [upd_id ha] at dy2 ex2
  have fin : QV c fr noX H s Q .none { s with heap := (s.heap.push { cls := .type "tuple", data := .seq [v'].toArray }).update e (Obj.mapFields (·.setIfInBounds 0 (Value.ref s.heap.objs.size))) } := ⟨.none, H, rfl, dy2, ex1.trans ex2, hq⟩
  cases x0 with
  | ref a => exact wpAny_letGo (wpAny_pure fin)
  | _ => exact wpAny_pure (wpAny_pure fin)
theorem sat_of {a : Addr} {t : Tag} {xs : List Int} (dy : Dyn c.h₀ c.P fr H s) (h : H a = some (t, .set xs)) : ∃ es ep tb, SAt c.w s.heap a es ep tb ∧ (∀ k, k ∈ xs ↔ ∃ e ∈ es.toList, Value.isInt k e.2 = true) ∧ es.size = xs.length ∧ xs.Nodup := by
  obtain ⟨_, ob, e, es, ep, t', rfl, r1, r2, r3, r4, r5, r6, r7, r8, r9⟩ := dy.obj a t _ h
  exact ⟨es, ep, t', ⟨e, r1, r3, r4, ⟨r6, r7⟩, r8⟩, r2, r5, r9⟩

theorem ints_are {h : Heap} : ∀ {xs : List MVal} {ns : List Int} {vs : List Value}, intsOf xs = some ns → VRs h xs vs → IntsAre vs ns
  | [], ns, vs, e, r => by
    simp only [VRs] at r; subst r
    cases (show [] = ns from Option.some.inj e); exact .nil
  | m :: ms, ns, vs, e, r => by
    simp only [VRs] at r
    obtain ⟨v, vs', rfl, rv, rs⟩ := r
    obtain ⟨i, h1, e⟩ := Option.bind_eq_some_iff.mp e
    obtain ⟨ns', e', rfl⟩ := Option.map_eq_some_iff.mp e
    rw [asI_inv h1] at rv
    obtain ⟨t, rfl⟩ := rv
    exact .cons i t (ints_are e' rs)
theorem vrs_ints {h : Heap} {vs : List Value} {ns : List Int} (x : IntsAre vs ns) : VRs h (ns.map .int) vs := by
  induction x with
  | nil => simp [VRs]
  | cons n t _ ih => simp only [List.map_cons, VRs]; exact ⟨_, _, rfl, ⟨t, rfl⟩, ih⟩
theorem ints_len {vs : List Value} {ns : List Int} (x : IntsAre vs ns) : vs.length = ns.length := by
  induction x with
  | nil => rfl
  | cons n t _ ih => simp [ih]
theorem perm_of_sub : ∀ (xs ns : List Int), xs.Nodup → (∀ k ∈ xs, k ∈ ns) → ns.length = xs.length → ns.Perm xs
  | [], ns, _, _, h => by rw [List.length_nil, List.length_eq_zero_iff] at h; subst h; exact .nil
  | x :: xs, ns, nd, hs, hl => by
    rw [List.nodup_cons] at nd
    have hx := hs x (.head _)
    refine (List.perm_cons_erase hx).trans ((perm_of_sub xs (ns.erase x) nd.2 (fun k hk => ?_) ?_).cons x)
    · exact (List.mem_erase_of_ne (fun e : k = x => nd.1 (e ▸ hk))).mpr (hs k (.tail _ hk))
    · rw [List.length_erase_of_mem hx]; simp at hl; omega
theorem ints_of_all : ∀ (vs : List Value), (∀ v ∈ vs, ∃ k, Value.isInt k v = true) → ∃ ns, IntsAre vs ns ∧ ∀ k, (∃ v ∈ vs, Value.isInt k v = true) → k ∈ ns
  | [], _ => ⟨[], .nil, fun k ⟨v, h, _⟩ => by cases h⟩
  | v :: vs, h => by
    obtain ⟨ns, a, b⟩ := ints_of_all vs fun w hw => h w (.tail _ hw)
    obtain ⟨k, hk⟩ := h v (.head _)
    cases v with
    | int i t =>
      refine ⟨i :: ns, .cons i t a, fun k' ⟨w, hw, hk'⟩ => ?_⟩
      rcases List.mem_cons.mp hw with rfl | hw
      · simp [Value.isInt] at hk'; simp [hk']
      · exact .tail _ (b k' ⟨w, hw, hk'⟩)
    | _ => simp [Value.isInt] at hk

theorem sorted_bi (L : Link c) {a : Addr} {ns : List Int} {Q : MVal → MH → Prop} {Z : Value → Shared → Prop} (dy : Dyn c.h₀ c.P fr H s) (hh : A.handled = none) (hk : keysM H a = some ns) (h64 : ns.length < 64)
    (hw : ∀ ns' : List Int, ns'.Perm ns → ns'.Pairwise (· ≤ ·) → allocW (.list (ns'.map .int)) H Q) : wpAny c.M A (call (.builtin "sorted") [.ref a]) (QV c fr noX H s Q) Z s := by
  have fin : ∀ (ns₁ : List Int), ns₁.Perm ns → ∀ (h₁ h' : Heap) (tk : Nat) (dr : Drawn) (r : Addr) (out : Array Value) (ns' : List Int) (e : Nat), (∀ b o, s.heap.get? b = some o → h₁.get? b = some o) → IntsAre out.toList ns' → ns'.Perm ns₁ → ns'.Pairwise (· ≤ ·) →
      (∀ b o, h₁.get? b = some o → h'.get? b = some o) → h₁.get? r = none → h'.get? r = some ⟨.type "list", none, .seq out e, #[]⟩ → QV c fr noX H s Q (.ref r) { s with heap := h', toks := tk, drawn := dr } := by
    intro ns₁ hp1 h₁ h' tk dr r out ns' e k1 hi hp hs k2 hr hg
    have hr0 : s.heap.get? r = none := by
      cases z : s.heap.get? r with
      | none => rfl
      | some o => rw [k1 _ _ z] at hr; cases hr
    have hl : out.size ≤ BIG := by
      have := ints_len hi
      have h2 := (hp.trans hp1).length_eq
      have h3 : 64 ≤ BIG := by decide
      simp only [Array.length_toList] at *
      omega
    obtain ⟨hn, d, ex⟩ := dy.new (s' := { s with heap := h', toks := tk, drawn := dr }) (t' := t0) (o' := .list (ns'.map .int)) hr0 (fun b o z => k2 _ _ (k1 _ _ z)) hg (fun _ => ⟨out, e, rfl, hl, vrs_ints hi⟩)
    exact ⟨.ref r, _, rfl, d, ex, hw ns' (hp.trans hp1) hs r hn⟩
  refine sorted_snd ?_
  obtain ⟨p, ha, hk⟩ := Option.bind_eq_some_iff.mp hk
  obtain ⟨tg, ob⟩ := p
  cases ob with
  | list xs =>
    obtain ⟨vs, n, g, z, r⟩ := list_of dy ha
    have hi := ints_are hk r
    have hl := ints_len hi
    have hsz : vs.toList.length ≤ sizeLine := by have := sizeLine_big; omega
    refine collect_list (vs := vs.toList) ⟨_, g, rfl, n, by simp⟩ ⟨ns, hi, by omega, fun h' r' out ns' e a1 a2 a3 k hr he => ?_⟩ hsz
    refine fin ns (.refl _) _ h' s.toks s.drawn r' out ns' e (fun b o z => ?_) a1 a2 a3 k hr he
    exact (Heap.get?_update_other _ _ (Nat.ne_of_gt (Heap.lt_size z))).trans (Heap.get?_push_of_some _ z)
  | set xs =>
    cases (show xs = ns from Option.some.inj hk)
    obtain ⟨es, ep, tb, S, hmem, hsz, hnd⟩ := sat_of dy ha
    refine set_collect (by simp [hh]) S fun h' tk dr acc kp hp => ?_
    obtain ⟨ns₁, hi, hin⟩ := ints_of_all acc fun v hv => by
      obtain ⟨e, he, rfl⟩ := List.mem_map.mp (hp.mem_iff.mp hv)
      obtain ⟨⟨k, hk, _⟩, _⟩ := S.el e he
      exact ⟨k, hk⟩
    have hl := ints_len hi
    have hl2 := hp.length_eq
    simp only [List.length_map, Array.length_toList] at hl2
    have hpm : ns₁.Perm ns := perm_of_sub ns ns₁ hnd (fun k hk => by
      obtain ⟨e, he, h⟩ := (hmem k).mp hk
      exact hin k ⟨e.2, hp.mem_iff.mpr (List.mem_map.mpr ⟨e, he, rfl⟩), h⟩) (by omega)
    exact ⟨ns₁, hi, by omega, fun h'' r' out ns' e a1 a2 a3 k hr he => fin ns₁ hpm h' h'' tk dr r' out ns' e kp a1 a2 a3 k hr he⟩
  | dict ep es =>
    cases (show es.map (·.1) = ns from Option.some.inj hk)
    obtain ⟨kvs, ⟨_, hm⟩, hkeys, _, hl⟩ := dictOf_of dy ha
    have hsz : kvs.length ≤ sizeLine := by have := sizeLine_big; simp at h64; omega
    refine W.kdu_collect (W.kdl_dict (knd := intKind c.prog c.w) (not_mods L dy ha)) (by simp [hh]) hm hsz fun h' tk acc kp hi => ?_
    have hI : IntsAre acc.toList (kvs.map (·.1)) := by
      have : ∀ (l : List Value) (ks : List (Int × Value)), l.length = ks.length → (∀ (j : Nat) v, l[j]? = some v → ∃ k x, ks[j]? = some (k, x) ∧ Value.isInt k v = true) → IntsAre l (ks.map (·.1)) := by
        intro l
        induction l with
        | nil => intro ks hl _; cases ks with | nil => exact .nil | cons _ _ => simp at hl
        | cons v l ih =>
          intro ks hl h
          cases ks with
          | nil => simp at hl
          | cons kx ks =>
            obtain ⟨k, x, e, hv⟩ := h 0 v rfl
            simp at e; subst e
            cases v with
            | int i t =>
              simp [Value.isInt] at hv; subst hv
              exact .cons i t (ih ks (by simpa using hl) fun j w hw => by
                obtain ⟨k', x', e', h'⟩ := h (j + 1) w (by simpa using hw)
                exact ⟨k', x', by simpa using e', h'⟩)
            | _ => simp [Value.isInt] at hv
      refine this _ _ (by simp [hi.1]) fun j v hv => ?_
      exact hi.2 j v (by simpa using hv)
    refine ⟨kvs.map (·.1), hI, ?_, fun h'' r' out ns' e a1 a2 a3 k hr he => fin (kvs.map (·.1)) (by rw [hkeys]) h' h'' tk s.drawn r' out ns' e kp a1 a2 a3 k hr he⟩
    have := ints_len hI; simp at this h64; simp; omega
  | _ => exact no hk

theorem max_bi {a : Addr} {t : Tag} {xs : List MVal} {ns : List Int} {Q : MVal → MH → Prop} {Z : Value → Shared → Prop} (dy : Dyn c.h₀ c.P fr H s) (hh : A.handled = none) (ha : H a = some (t, .list xs)) (hk : intsOf xs = some ns) (hne : ns ≠ [])
    (hw : ∀ M, M ∈ ns → (∀ a ∈ ns, a ≤ M) → Q (.int M) H) : wpAny c.M A (call (.builtin "max") [.ref a]) (QV c fr noX H s Q) Z s := by
  obtain ⟨vs, n, g, z, r⟩ := list_of dy ha
  have hi := ints_are hk r
  obtain ⟨its, e⟩ := hi.allInts.items
  have hns : ns = its.toList.map (·.1) := by rw [← hi.numsOf, ← nums_intItems, ← e]
  have hpos : 0 < ns.length := List.length_pos_iff.mpr hne
  have hsz : 0 < its.size := by rw [hns, List.length_map, Array.length_toList] at hpos; exact hpos
  have hl : s.heap.IsList a (intItems its) := by rw [← e]; exact ⟨_, g, rfl, n, rfl⟩
  refine max_intList hh hl hsz fun v h' tk hv hk' => ?_
  obtain ⟨u, rfl⟩ := intItems_at hv
  obtain ⟨h1, h2⟩ := argBest_gt (numAt its) (its.size - 1)
  refine ⟨.int _, H, ⟨u, rfl⟩, dy.of_keep hk', .of_keep hk', hw _ ?_ fun a ha => ?_⟩
  · rw [hns, numAt_eq]; exact getD_mem (by rw [List.length_map, Array.length_toList]; omega)
  · rw [hns] at ha
    obtain ⟨j, hj, rfl⟩ := mem_getD ha
    rw [List.length_map, Array.length_toList] at hj
    rw [← numAt_eq]; exact h2 j (by omega)

theorem len_snd (L : Link c) {m : MVal} {v : Value} {k : Nat} {Q : MVal → MH → Prop} {Z : Value → Shared → Prop} (dy : Dyn c.h₀ c.P fr H s) (r : VR s.heap m v) (e : lenM c H m = some k) (hw : Q (.int k) H) : wpAny c.M A (call (.builtin "len") [v]) (QV c fr noX H s Q) Z s := by
  cases m with
  | ref a =>
    simp only [VR] at r; subst r
    obtain ⟨p, ha, e⟩ := Option.bind_eq_some_iff.mp e
    obtain ⟨t, ob⟩ := p
    cases ob with
    | list xs =>
      cases (show xs.length = k from Option.some.inj e)
      obtain ⟨vs, n, g, z, r⟩ := list_of dy ha
      have l := r.length
      refine call_entry_len g z fun t u => ?_
      rw [show vs.size = _ from l]
      exact .int dy hw
    | dict ep es =>
      cases (show es.length = k from Option.some.inj e)
      obtain ⟨kvs, ⟨hm, _⟩, _, _, hl⟩ := dictOf_of dy ha
      obtain ⟨rs, g, z, r, _⟩ := dict_of dy ha
      have l1 := r.length
      refine call_len_dict (not_mods L dy ha) hm (by rw [hl, ← l1]; simp only [Array.length_toList]; have := BIG_eq; omega) ?_
      rw [hl]; exact .int dy hw
    | set xs =>
      cases (show xs.length = k from Option.some.inj e)
      obtain ⟨_, ob, e, es, ep, t', rfl, r1, r2, r3, r4, r5, _⟩ := dy.obj _ t _ ha
      refine call_len_set e ⟨rfl, rfl, rfl⟩ rfl r4 (by have : scanBound ≤ 9223372036854775807 := by decide
                                                       omega) ?_
      rw [r5]; exact .int dy hw
    | _ => exact no e
  | ro a =>
    simp only [VR] at r; subst r
    obtain ⟨xs, ha, rfl⟩ := Option.map_eq_some_iff.mp e
    obtain ⟨vs, n, g, z, r⟩ := L.ros _ _ ha
    have g : IsL s.heap _ vs n := dy.keep _ _ g
    have l := r.length
    refine call_entry_len g z fun t u => ?_
    rw [show vs.size = _ from l]
    exact .int dy hw
  | _ => exact no e

theorem bi_snd (L : Link c) {id : String} {ms : List MVal} {vals : List Value} {Q : MVal → MH → Prop} {Z : Value → Shared → Prop} (dy : Dyn c.h₀ c.P fr H s) (hh : q = true → A.handled = none) (hv : VRs s.heap ms vals) (hw : BiW c q id ms H Q) : wpAny c.M A (call (.builtin id) vals) (QV c fr noX H s Q) Z s := by
  have one : ∀ {k : MVal → Prop}, on (arg1 ms) k → ∃ m v, vals = [v] ∧ VR s.heap m v ∧ k m := fun h => by
    obtain ⟨m, e, h⟩ := on1 h
    rw [e] at hv
    obtain ⟨v, e', r⟩ := hv.one
    exact ⟨m, v, e', r, h⟩
  have two : ∀ {k : MVal × MVal → Prop}, on (arg2 ms) k → ∃ m m' v v', vals = [v, v'] ∧ VR s.heap m v ∧ VR s.heap m' v' ∧ k (m, m') := fun h => by
    obtain ⟨m, m', e, h⟩ := on2 h
    rw [e] at hv
    obtain ⟨v, v', e', r, r'⟩ := hv.two
    exact ⟨m, m', v, v', e', r, r', h⟩
  have ref : ∀ {m : MVal} {v : Value} {k : Addr → Prop}, VR s.heap m v → on (asR m) k → ∃ a, v = .ref a ∧ k a := fun r h => by
    obtain ⟨a, e, h⟩ := onR h
    rw [e] at r
    simp only [VR] at r
    exact ⟨a, r, h⟩
  have int : ∀ {m : MVal} {v : Value} {k : Int → Prop}, VR s.heap m v → on (asI m) k → ∃ a t, v = .int a t ∧ k a := fun r h => by
    obtain ⟨a, e, h⟩ := onI h
    rw [e] at r
    obtain ⟨t, r⟩ := r
    exact ⟨a, t, r, h⟩
  unfold BiW at hw
  by_cases h1 : id = "len"
  · subst h1; rw [if_pos rfl] at hw
    obtain ⟨m, v, rfl, r, hw⟩ := one hw
    obtain ⟨k, e, hw⟩ := on_inv hw
    exact len_snd L dy r e hw
  rw [if_neg h1] at hw
  by_cases h1 : id = "abs"
  · subst h1; rw [if_pos rfl] at hw
    obtain ⟨m, v, rfl, r, hw⟩ := one hw
    obtain ⟨i, t, rfl, hw⟩ := int r hw
    refine call_abs_int fun u tk => ?_
    rw [show (if i < 0 then -i else i) = (i.natAbs : Int) by split <;> omega]
    exact .int dy hw
  rw [if_neg h1] at hw
  by_cases h1 : id = "list.append"
  · subst h1; rw [if_pos rfl] at hw
    obtain ⟨m, m', v, v', rfl, r, r', hw⟩ := two hw
    obtain ⟨a, rfl, hw⟩ := ref r hw
    obtain ⟨tg, xs, ha, hw⟩ := onL hw
    have hz0 : xs.length < BIG := hw.1
    obtain ⟨vs, n, g, z, r⟩ := list_of dy ha
    have l := r.length
    refine call_meets F.slot_list_append ⟨_, g, rfl⟩ F.entry_list_append (F.args_list_append_2 _ _) (list_append _ vs n v' (by have := sizeLine_big; have := BIG_eq; omega)) ⟨g, ?_⟩
    exact QV.putList dy ha g (by simp only [Array.size_push]; simp only [← Array.length_toList]; omega) (by simp only [Array.toList_push]; exact r.append (by simp only [VRs]; exact ⟨v', _, rfl, r', rfl⟩)) (m := .none) rfl hw.2
  rw [if_neg h1] at hw
  by_cases h1 : id = "list.pop"
  · subst h1; rw [if_pos rfl] at hw
    obtain ⟨m, v, rfl, r, hw⟩ := one hw
    obtain ⟨a, rfl, hw⟩ := ref r hw
    obtain ⟨tg, xs, ha, hw⟩ := onL hw
    have hw : ∃ h : xs ≠ [], Q (xs.getLast h) (upd H a tg (.list xs.dropLast)) := hw
    obtain ⟨vs, n, g, z, r⟩ := list_of dy ha
    obtain ⟨hne, hw⟩ := hw
    have l := r.length
    obtain ⟨y, hy, ry⟩ := r.last hne
    have hy' : vs[vs.size - 1]? = some y := by rw [← hy]; simp
    refine call_meets F.slot_list_pop ⟨_, g, rfl⟩ F.entry_list_pop (F.args_list_pop_1 _) (MeetsSeq.list_pop_last _ vs n y hy' (by have := sizeLine_big; have := BIG_eq; omega)) ⟨g, ?_⟩
    have e1 : (vs.eraseIdxIfInBounds (vs.size - 1)).toList = vs.toList.dropLast := by
      have hp : 0 < vs.size := by
        have := List.length_pos_iff.mpr hne
        simp only [← Array.length_toList]; omega
      rw [Array.eraseIdxIfInBounds, dif_pos (by omega), Array.toList_eraseIdx, List.eraseIdx_eq_dropLast]
      simp only [Array.length_toList]; omega
    exact QV.putList (f := fun x => x.eraseIdxIfInBounds (vs.size - 1)) dy ha g (by rw [← Array.length_toList, e1]; simp; omega) (by rw [e1]; exact r.dropLast) ry hw
  rw [if_neg h1] at hw
  by_cases h1 : id = "set.add"
  · subst h1; rw [if_pos rfl] at hw
    obtain ⟨m, m', v, v', rfl, r, r', hw⟩ := two hw
    obtain ⟨a, rfl, hw⟩ := ref r hw
    obtain ⟨i, t', rfl, hw⟩ := int r' hw
    obtain ⟨p, ha, hw⟩ := on_inv hw
    obtain ⟨t, xs⟩ := p
    have ha : H a = some (t, .set xs) := atS ha
    have hw : xs.length < 1000 ∧ Q .none (upd H a t (.set (if xs.contains i then xs else xs ++ [i]))) := hw
    have S := sat_of dy ha
    obtain ⟨es, ep, tb, S, hmem, hsz, hnd⟩ := S
    have hin : xs.contains i = true ↔ ∃ e ∈ es.toList, Value.isInt i e.2 = true := by rw [List.contains_iff_mem]; exact hmem i
    refine call_set_add_at (tk := t') S (by have : scanBound = 4096 := rfl; omega) (fun hex => ?_) (fun hno h' es' ep' tb' hsb S' hp => ?_)
    · rw [if_pos (hin.mpr hex), upd_id ha] at hw
      exact .plain (m := .none) dy rfl hw.2
    · have hc : ¬ (xs.contains i = true) := fun hc => by
        obtain ⟨e, he, h2⟩ := hin.mp hc
        rw [hno e he] at h2; cases h2
      rw [if_neg hc] at hw
      have hni : i ∉ xs := fun h => hc (List.contains_iff_mem.mpr h)
      have sr : SetR c.P (xs ++ [i]) ⟨.type "set", none, .set es' ep' tb', #[]⟩ := by
        refine ⟨es', ep', tb', rfl, S'.el, fun k => ?_, S'.sz, S'.fit, ?_, S'.tab.up, S'.tab.dm, S'.led, ?_⟩
        · rw [List.mem_append, hmem k]
          constructor
          · rintro (⟨e, he, h⟩ | h)
            · exact ⟨e, hp.mem_iff.mpr (List.mem_append_left _ he), h⟩
            · simp at h; subst h; exact ⟨_, hp.mem_iff.mpr (List.mem_append_right _ (List.mem_singleton.mpr rfl)), isInt_self _ t'⟩
          · rintro ⟨e, he, h⟩
            rcases List.mem_append.mp (hp.mem_iff.mp he) with he | he
            · exact .inl ⟨e, he, h⟩
            · rw [List.mem_singleton] at he; subst he
              right; simp [Value.isInt] at h; simp [h]
        · have := hp.length_eq; simp at this; simp; omega
        · rw [List.nodup_append]
          refine ⟨hnd, by simp, fun a ha b hb => ?_⟩
          simp at hb; subst hb
          rintro rfl; exact hni ha
      obtain ⟨d', e2⟩ := dy.put (t' := t) (o' := .set (xs ++ [i])) (s' := { s with heap := h', toks := s.toks + 1 }) ha hsb.extBut S'.get (fun sf => sr)
      exact ⟨.none, _, rfl, d', e2, hw.2⟩
  rw [if_neg h1] at hw
  by_cases h1 : id = "sorted"
  · subst h1; rw [if_pos rfl] at hw
    obtain ⟨m, v, rfl, r, hw⟩ := one hw
    obtain ⟨a, rfl, hq, hw⟩ := ref r hw
    obtain ⟨ns, hk, hw⟩ := on_inv hw
    exact sorted_bi L dy (hh hq) hk hw.1 hw.2
  rw [if_neg h1] at hw
  by_cases h1 : id = "max"
  · subst h1; rw [if_pos rfl] at hw
    obtain ⟨m, v, rfl, r, hw⟩ := one hw
    obtain ⟨a, rfl, hq, hw⟩ := ref r hw
    obtain ⟨tg, xs, ha, hw⟩ := onL hw
    obtain ⟨ns, hk, hw⟩ := on_inv hw
    exact max_bi dy (hh hq) ha hk hw.1 hw.2
  rw [if_neg h1] at hw
  by_cases h1 : id = "ValueError.__init__"
  · subst h1; rw [if_pos rfl] at hw
    obtain ⟨m, m', v, v', rfl, r, r', hw⟩ := two hw
    obtain ⟨a, rfl, hw⟩ := ref r hw
    obtain ⟨p, ha, hm, hq⟩ := on_inv hw
    obtain ⟨dx, ha⟩ := atX ha
    exact vinit_snd L dy ha hm hq
  rw [if_neg h1] at hw
  exact False.elim hw
end
end Mine
end
section
set_option autoImplicit false
set_option linter.unusedVariables false
set_option linter.unusedSimpArgs false
namespace Mine
open PySem PySem.Calls PyProof.Rows

/-- an iterator at its i-th place -/
noncomputable def ItSt (H : MH) (h : Heap) (I : Addr) (u : MVal) (its : List MVal) (i : Nat) : Prop :=
  match u with
  | .rng lo hi => its = (List.range (hi - lo).toNat).map (fun (i : Nat) => MVal.int (lo + (i : Int))) ∧ IsRangeIter h I (lo + i) ((its.length : Int) - i) 1
  | .ref a => (∃ t, H a = some (t, .list its) ∧ h.IsListIter I a i) ∨ ∃ t n es, H a = some (t, .dict n es) ∧ its = es.map (fun e => .int e.1) ∧ h.IsKeyIter I a i es.length n
  | _ => False

theorem srcObj_ref {H H' : MH} {a : Addr} {t : Tag} {o : MObj} (e : srcObj H' (.ref a) = srcObj H (.ref a)) (h : H a = some (t, o)) : ∃ t', H' a = some (t', o) := by
  simp only [srcObj, h, Option.map_some] at e
  cases q : H' a with
  | none => rw [q] at e; cases e
  | some p => obtain ⟨t', o'⟩ := p; rw [q] at e; simp only [Option.map_some, Option.some.injEq] at e; subst e; exact ⟨t', rfl⟩

section
variable {c : Cfg} {A : Around} {fr : List Env} {H : MH} {s : Shared} {X : Addr → Prop} {d : Nat} {q : Bool} {I : Addr} {u : MVal} {its : List MVal} {i : Nat}

/-- the iterator stands where a run on the side leaves it -/
theorem ItSt.keep {H' : MH} {s' : Shared} (st : ItSt H s.heap I u its i) (e : Ext X H s H' s') (hI : H I = none) (nx : ¬ X I) (so : srcObj H' u = srcObj H u) : ItSt H' s'.heap I u its i := by
  have tv : ∀ {x y : String}, x ≠ y → Value.type x ≠ Value.type y := fun h z => h (by injection z)
  cases u with
  | rng lo hi => exact ⟨st.1, e.old _ _ st.2 hI nx (tv (by decide)) (tv (by decide))⟩
  | ref a =>
    rcases st with ⟨t, ha, oi, o1, o2, o3⟩ | ⟨t, n, es, ha, hi, oi, o1, o2, o3⟩
    · obtain ⟨t', ha'⟩ := srcObj_ref so ha
      exact .inl ⟨t', ha', oi, e.old _ _ o1 hI nx (by rw [o2]; exact tv (by decide)) (by rw [o2]; exact tv (by decide)), o2, o3⟩
    · obtain ⟨t', ha'⟩ := srcObj_ref so ha
      exact .inr ⟨t', n, es, ha', hi, oi, e.old _ _ o1 hI nx (by rw [o2]; exact tv (by decide)) (by rw [o2]; exact tv (by decide)), o2, o3⟩
  | _ => exact False.elim st

/-- the turn of an iterator object itself -/
theorem Dyn.turn {h' : Heap} {t : Nat} {o o' : Obj} (dy : Dyn c.h₀ c.P fr H s) (hs : Heap.SameBut I s.heap h') (hI : H I = none) (n₀ : c.h₀.get? I = none) (e : s.heap.get? I = some o) (e' : h'.get? I = some o') (hc : o'.cls = o.cls) (hn : ¬ softCls o.cls) :
    Dyn c.h₀ c.P fr H { s with heap := h', toks := t } ∧ Ext (· = I) H s H { s with heap := h', toks := t } :=
  dy.own (X := (· = I)) (s' := { s with heap := h', toks := t }) hs.extBut rfl hI n₀ e e' hc (.inl hn) (fun a z => z ▸ hI)
/-- an iterator at its end: nothing is known of it behind -/
theorem Dyn.ended {h' : Heap} {t : Nat} {o : Obj} (dy : Dyn c.h₀ c.P fr H s) (k : Heap.ExtBut I s.heap h') (hI : H I = none) (n₀ : c.h₀.get? I = none) (e : s.heap.get? I = some o) (hn : ¬ softCls o.cls) :
    Dyn c.h₀ c.P fr H { s with heap := h', toks := t } ∧ Ext (· = I) H s H { s with heap := h', toks := t } := by
  have sf : Soft s.heap h' := .of_but k fun o2 q => by rw [e] at q; cases q; exact hn
  refine ⟨⟨fun b o2 q => k b o2 (fun z => by subst z; rw [n₀] at q; cases q) (dy.keep b o2 q), fun env he => ?_, fun b t2 o2 q => ?_⟩, ?_⟩
  · obtain ⟨hk, L, oL, b1, c1, d1, e1, f1, f2⟩ := dy.ff env he
    obtain ⟨oL', g1, g2, g3⟩ := sf.fr L oL e1 f1 f2
    exact ⟨hk, L, oL', b1, c1, d1, g1, g2, g3⟩
  · obtain ⟨a1, ob2, b1, c1⟩ := dy.obj b t2 o2 q
    exact ⟨a1, ob2, k _ _ (fun z => by subst z; rw [hI] at q; cases q) b1, c1.soft sf⟩
  · refine ⟨fun b o2 q n nx _ _ => k b o2 nx q, fun b o2 q n nx _ => ⟨o2.slots, k b o2 nx q⟩, sf, fun b nx h => ?_, fun _ h => h, fun _ h h' => absurd h h', fun a z => z ▸ hI, ⟨[], by simp, fun _ h => (by cases h)⟩, rfl⟩
    cases q : s.heap.get? b with
    | none => exact absurd q h
    | some o2 => show h'.get? b ≠ none; rw [k b o2 nx q]; simp

theorem iter_start (L : Link c) {v : Value} {K : Value → Shared → Prop} {Z : Value → Shared → Prop} (dy : Dyn c.h₀ c.P fr H s) (hv : VR s.heap u v) (e : itemsOf H u = some its) (hl : its.length ≤ 2 ^ 20)
    (k : ∀ I s', Dyn c.h₀ c.P fr H s' → Ext noX H s H s' → s.heap.get? I = none → H I = none → c.h₀.get? I = none → ItSt H s'.heap I u its 0 → K (.ref I) s') : wpAny c.M A (pyIter v) K Z s := by
  have fin : ∀ (o : Obj), o.isFreed = false → ItSt H (s.heap.push o) s.heap.objs.size u its 0 → K (.ref s.heap.objs.size) { s with heap := s.heap.push o } := by
    intro o ho st
    have n₀ : c.h₀.get? s.heap.objs.size = none := by
      cases q : c.h₀.get? s.heap.objs.size with
      | none => rfl
      | some z => have := dy.keep _ _ q; rw [size_fresh] at this; cases this
    have hn : H s.heap.objs.size = none := by
      cases q : H s.heap.objs.size with
      | none => rfl
      | some z => obtain ⟨t, o⟩ := z; obtain ⟨_, ob, e, _⟩ := dy.obj _ t o q; rw [size_fresh] at e; cases e
    exact k _ _ (dy.of_keep (push_keep _ _)) (.of_keep (push_keep _ _)) (size_fresh _) hn n₀ st
  cases u with
  | ref a =>
    simp only [VR] at hv; subst hv
    obtain ⟨p, ha, e⟩ := Option.bind_eq_some_iff.mp e
    obtain ⟨t, ob⟩ := p
    cases ob with
    | list xs =>
      cases (show xs = its from Option.some.inj e)
      obtain ⟨vs, n, g, z, r⟩ := list_of dy ha
      exact wpAny_pyIter_list (items := vs) ⟨_, g, rfl, n, rfl⟩ (fin _ rfl (.inl ⟨t, ha, _, Heap.get?_push_size _ rfl, rfl, rfl⟩))
    | dict n es =>
      cases (show es.map (fun e => MVal.int e.1) = its from Option.some.inj e)
      obtain ⟨kvs, ⟨_, hm⟩, hf, _, hl'⟩ := dictOf_of dy ha
      exact wpAny_pyIter_dict (not_mods L dy ha) hm (fin _ rfl (.inr ⟨t, n, es, ha, rfl, _, Heap.get?_push_size _ rfl, rfl, by rw [hl']; rfl⟩))
    | _ => exact no e
  | rng lo hi =>
    cases (show (List.range (hi - lo).toNat).map (fun (i : Nat) => MVal.int (lo + (i : Int))) = its from Option.some.inj e)
    simp only [VR] at hv; obtain ⟨a, t, w, x, rfl, ⟨b1, b2⟩, g⟩ := hv
    have sz : Builtin.Range.rangeSize lo hi 1 = ((hi - lo).toNat : Int) := by
      unfold Builtin.Range.rangeSize
      simp; omega
    have sm : Builtin.Range.small lo hi 1 = true := by
      simp only [Builtin.Range.small, sz, Builtin.Range.rangeFitsLong]
      simp; omega
    refine wpAny_pyIter_range g sm (fin _ rfl ⟨rfl, ?_⟩)
    rw [sz]
    have := Heap.get?_push_size s.heap (o := { cls := .type "range_iterator", data := .fields #[rawInt lo, rawInt ((hi - lo).toNat : Int), rawInt 1] }) rfl
    simpa using this
  | _ => exact no e

theorem it_item {m : MVal} {K : Option Value → Shared → Prop} {Z : Value → Shared → Prop} (dy : Dyn c.h₀ c.P fr H s) (st : ItSt H s.heap I u its i) (hI : H I = none) (n₀ : c.h₀.get? I = none) (hm : its[i]? = some m)
    (k : ∀ v s', VR s'.heap m v → Dyn c.h₀ c.P fr H s' → Ext (· = I) H s H s' → ItSt H s'.heap I u its (i + 1) → K (some v) s') : wpAny c.M A (pyNext (.ref I)) K Z s := by
  have hi : i < its.length := by rw [List.getElem?_eq_some_iff] at hm; exact hm.1
  cases u with
  | ref a =>
    rcases st with ⟨t, ha, oi, o1, o2, o3⟩ | ⟨t, n, es, ha, hi', oi, o1, o2, o3⟩
    · obtain ⟨vs, n, g, z, r⟩ := list_of dy ha
      obtain ⟨v, hv, rv⟩ := r.get hm
      refine wpAny_pyNext_list_item (items := vs) ⟨oi, o1, o2, o3⟩ ⟨_, g, rfl, n, rfl⟩ (x := v) (by rw [← hv]; simp) fun h' it' hs => ?_
      obtain ⟨o', p1, p2, p3⟩ := it'
      obtain ⟨d', e'⟩ := dy.turn (t := s.toks) hs hI n₀ o1 p1 (p2.trans o2.symm) (by rw [o2]; simp [softCls])
      exact k v _ (rv.soft e'.soft) d' e' (.inl ⟨t, ha, o', p1, p2, p3⟩)
    · obtain ⟨kvs, ⟨_, hm'⟩, hf, _, hl'⟩ := dictOf_of dy ha
      subst hi'
      have hk : ∃ x, es[i]? = some x ∧ m = .int x.1 := by
        rw [List.getElem?_map] at hm
        cases q : es[i]? with
        | none => rw [q] at hm; cases hm
        | some x => rw [q] at hm; simp at hm; exact ⟨x, rfl, hm.symm⟩
      obtain ⟨x, hx, rfl⟩ := hk
      have hk2 : ∃ y, kvs[i]? = some (x.1, y) := by
        have : (kvs.map (·.1))[i]? = some x.1 := by rw [hf, List.getElem?_map, hx]; rfl
        rw [List.getElem?_map] at this
        cases q : kvs[i]? with
        | none => rw [q] at this; cases this
        | some y => obtain ⟨a, b⟩ := y; rw [q] at this; simp at this; subst this; exact ⟨b, rfl⟩
      obtain ⟨y, hy⟩ := hk2
      refine wpAny_pyNext_dict_item (knd := intKind c.prog c.w) (kvs := kvs) (ep := n) ⟨oi, o1, o2, by rw [hl']; exact o3⟩ hm' hy fun key h' hkey it' hs => ?_
      obtain ⟨o', p1, p2, p3⟩ := it'
      obtain ⟨d', e'⟩ := dy.turn (t := s.toks) hs hI n₀ o1 p1 (p2.trans o2.symm) (by rw [o2]; simp [softCls])
      obtain ⟨tk, rfl⟩ := Value.isInt_shape hkey
      exact k _ _ ⟨tk, rfl⟩ d' e' (.inr ⟨t, n, es, ha, rfl, o', p1, p2, by rw [← hl']; exact p3⟩)
  | rng lo hi' =>
    obtain ⟨e1, g⟩ := st
    refine wpAny_pyNext_range_item g (by omega) fun h' it' hs => ?_
    obtain ⟨d', e'⟩ := dy.turn (t := s.toks + 1) hs hI n₀ g it' rfl (by simp [softCls])
    have em : m = .int (lo + i) := by
      rw [e1, List.getElem?_map, List.getElem?_range (by rw [e1] at hi; simpa using hi)] at hm
      simp at hm; exact hm.symm
    subst em
    exact k _ _ ⟨_, rfl⟩ d' e' ⟨e1, by rw [show lo + ((i + 1 : Nat) : Int) = lo + i + 1 from by omega, show (its.length : Int) - ((i + 1 : Nat) : Int) = its.length - i - 1 from by omega]; exact it'⟩
  | _ => exact False.elim st

theorem it_end {K : Option Value → Shared → Prop} {Z : Value → Shared → Prop} (hh : A.handled = none) (dy : Dyn c.h₀ c.P fr H s) (st : ItSt H s.heap I u its i) (hI : H I = none) (n₀ : c.h₀.get? I = none) (hm : its.length ≤ i)
    (k : ∀ s', Dyn c.h₀ c.P fr H s' → Ext (· = I) H s H s' → K none s') : wpAny c.M A (pyNext (.ref I)) K Z s := by
  cases u with
  | ref a =>
    rcases st with ⟨t, ha, oi, o1, o2, o3⟩ | ⟨t, n, es, ha, hi', oi, o1, o2, o3⟩
    · obtain ⟨vs, n, g, z, r⟩ := list_of dy ha
      have l := r.length
      refine wpAny_pyNext_list_end (items := vs) hh ⟨oi, o1, o2, o3⟩ ⟨_, g, rfl, n, rfl⟩ (by rw [Array.getElem?_eq_none]; simp only [← Array.length_toList]; omega) fun h' hs => ?_
      obtain ⟨d', e'⟩ := dy.ended (t := s.toks) hs hI n₀ o1 (by rw [o2]; simp [softCls])
      exact k _ d' e'
    · obtain ⟨kvs, ⟨_, hm'⟩, hf, _, hl'⟩ := dictOf_of dy ha
      subst hi'
      refine wpAny_pyNext_dict_end (knd := intKind c.prog c.w) (kvs := kvs) (ep := n) hh ⟨oi, o1, o2, by rw [hl']; exact o3⟩ hm' (by rw [List.getElem?_eq_none]; simp at hm; omega) fun h' hs => ?_
      obtain ⟨d', e'⟩ := dy.ended (t := s.toks) hs hI n₀ o1 (by rw [o2]; simp [softCls])
      exact k _ d' e'
  | rng lo hi =>
    obtain ⟨e1, g⟩ := st
    refine wpAny_pyNext_range_end hh g (by omega) fun h' hs => ?_
    obtain ⟨d', e'⟩ := dy.ended (t := s.toks) hs hI n₀ g (by simp [softCls])
    exact k _ d' e'
  | _ => exact False.elim st
end
end Mine
end
section
set_option autoImplicit false
set_option linter.unusedVariables false
set_option linter.unusedSimpArgs false
namespace Mine
open PySem PySem.Calls PyProof.Rows

section
variable {c : Cfg} {A : Around} {fr : List Env} {H : MH} {s : Shared} {X : Addr → Prop} {d : Nat} {q : Bool}

theorem QV.alloc' {Q : MVal → MH → Prop} {o : MObj} {ob : Obj} {t : Nat} {h' : Heap} {D : Addr} (dy : Dyn c.h₀ c.P fr H s) (hD : s.heap.get? D = none) (k : ∀ b o', s.heap.get? b = some o' → h'.get? b = some o') (e : h'.get? D = some ob) (r : Soft s.heap h' → OR c.h₀ c.P h' o ob) (q : allocW o H Q) :
    QV c fr noX H s Q (.ref D) { s with heap := h', toks := t } := by
  obtain ⟨hn, d, e⟩ := dy.new (s' := { s with heap := h', toks := t }) (t' := t0) (o' := o) (ob' := ob) hD k e r
  exact ⟨.ref D, _, rfl, d, e, q _ hn⟩

theorem QV.rng {Q : MVal → MH → Prop} {a b : Int} {u v w t : Nat} (dy : Dyn c.h₀ c.P fr H s) (hb : a.natAbs < 2 ^ 60 ∧ b.natAbs < 2 ^ 60) (q : Q (.rng a b) H) :
    QV c fr noX H s Q (.ref s.heap.objs.size) { s with heap := s.heap.push { cls := .type "range", data := .fields #[.int a u, .int b v, .int 1 w] }, toks := t } :=
  ⟨.rng a b, H, ⟨_, u, v, w, rfl, hb, Heap.get?_push_size _ rfl⟩, dy.of_keep (push_keep _ _), .of_keep (push_keep _ _), q⟩

theorem ty_snd (L : Link c) {n : String} {ms : List MVal} {vals : List Value} {Q : MVal → MH → Prop} {Z : Value → Shared → Prop} (hh : q = true → A.handled = none) (dy : Dyn c.h₀ c.P fr H s) (hv : VRs s.heap ms vals) (hw : TyW q n ms H Q) : wpAny c.M A (call (.type n) vals) (QV c fr noX H s Q) Z s := by
  have one : ∀ {k : MVal → Prop}, on (arg1 ms) k → ∃ m v, vals = [v] ∧ VR s.heap m v ∧ k m := fun h => by
    obtain ⟨m, e, h⟩ := on1 h
    rw [e] at hv
    obtain ⟨v, e', r⟩ := hv.one
    exact ⟨m, v, e', r, h⟩
  have ref : ∀ {m : MVal} {v : Value} {k : Addr → Prop}, VR s.heap m v → on (asR m) k → ∃ a, v = .ref a ∧ k a := fun r h => by
    obtain ⟨a, e, h⟩ := onR h
    rw [e] at r
    simp only [VR] at r
    exact ⟨a, r, h⟩
  have int : ∀ {m : MVal} {v : Value} {k : Int → Prop}, VR s.heap m v → on (asI m) k → ∃ a t, v = .int a t ∧ k a := fun r h => by
    obtain ⟨a, e, h⟩ := onI h
    rw [e] at r
    obtain ⟨t, r⟩ := r
    exact ⟨a, t, r, h⟩
  unfold TyW at hw
  by_cases h1 : n = "range"
  · subst h1; rw [if_pos rfl] at hw
    by_cases h2 : ms.length = 1
    · rw [if_pos h2] at hw
      obtain ⟨m, v, rfl, r, hw⟩ := one hw
      obtain ⟨i, t, rfl, hw⟩ := int r hw
      exact call_range_1 (.rng dy ⟨by decide, hw.1⟩ hw.2)
    · rw [if_neg h2] at hw
      obtain ⟨m, m', e, hw⟩ := on2 hw
      rw [e] at hv
      obtain ⟨v, v', rfl, r, r'⟩ := hv.two
      obtain ⟨i, t, rfl, hw⟩ := int r hw
      obtain ⟨j, t', rfl, hw⟩ := int r' hw
      exact call_range_2 (.rng dy hw.1 hw.2)
  rw [if_neg h1] at hw
  by_cases h1 : n = "int"
  · subst h1; rw [if_pos rfl] at hw
    obtain ⟨m, v, rfl, r, hw⟩ := one hw
    obtain ⟨b, e, hw⟩ := on_inv hw
    rw [asB_inv e] at r
    simp only [VR] at r; subst r
    exact call_int_bool (.int dy hw)
  rw [if_neg h1] at hw
  by_cases h1 : n = "list"
  · subst h1; rw [if_pos rfl] at hw
    obtain ⟨m, v, rfl, r, hw⟩ := one hw
    obtain ⟨a, rfl, hw⟩ := ref r hw
    obtain ⟨tg, xs, ha, hw⟩ := onL hw
    obtain ⟨vs, n, g, z, r⟩ := list_of dy ha
    refine call_list_seq (items := vs) _ (.inl rfl) g rfl rfl (fun h' c' k e => ?_) (by have := sizeLine_big; have := BIG_eq; omega)
    exact QV.alloc' (o := .list _) (t := s.toks) dy (size_fresh _) k e (fun sf => ⟨vs, c', rfl, z, r.soft sf⟩) hw
  rw [if_neg h1] at hw
  by_cases h1 : n = "set"
  · subst h1; rw [if_pos rfl] at hw
    obtain ⟨m, v, rfl, r, hw⟩ := one hw
    obtain ⟨a, rfl, hw⟩ := ref r hw
    obtain ⟨tg, xs, ha, hx, hw⟩ := onL hw
    cases (show xs = [] from hx)
    obtain ⟨vs, n, g, z, r⟩ := list_of dy ha
    have l := r.length
    have hz : vs = #[] := by simp at l; exact l
    subst hz
    refine call_set_empty (hh hw.1) ⟨_, g, rfl, n, rfl⟩ fun h' tk e' k => ?_
    exact QV.alloc' (o := .set []) dy (size_fresh _) (fun b o e => k b o (Heap.lt_size e) e) e' (fun sf => ⟨#[], 0, _, rfl, fun e he => (by simp at he), fun k => (by simp), by decide, by simp [SetTable.fits, SetTable.fresh, SetTable.fill], rfl, by simp [SetTable.fresh], rfl, by simp only [SetTable.fresh]; cases c.w.params.followText "set-order" <;> simp, .nil⟩) hw.2
  rw [if_neg h1] at hw
  by_cases h1 : n = "str"
  · subst h1; rw [if_pos rfl] at hw
    obtain ⟨m, v, rfl, r, hw⟩ := one hw
    obtain ⟨i, t, rfl, hb, hw⟩ := int r hw
    refine str_of_int_fit (N := 10 ^ 18) (by split <;> omega) (by decide) fun _ => ?_
    exact .str dy (hw _ rfl (str_len hb))
  rw [if_neg h1] at hw
  by_cases h1 : n = "type"
  · subst h1; rw [if_pos rfl] at hw
    obtain ⟨m, v, rfl, r, hw⟩ := one hw
    obtain ⟨m', e, hw⟩ := on_inv hw
    cases m with
    | int i =>
      cases (show MVal.ty "int" = m' from Option.some.inj e)
      obtain ⟨t, rfl⟩ := r
      exact call_type_of (typeIs_int _ _ _) rfl (.same (m := .ty "int") dy rfl hw)
    | none =>
      cases (show MVal.ty "NoneType" = m' from Option.some.inj e)
      simp only [VR] at r; subst r
      exact call_type_of (typeIs_none _) rfl (.same (m := .ty "NoneType") dy rfl hw)
    | ref a =>
      obtain ⟨p, ha, rfl⟩ := Option.map_eq_some_iff.mp e
      simp only [VR] at r; subst r
      obtain ⟨vs, n, g, z, r⟩ := list_of dy (atL ha)
      exact call_type_of ⟨_, g, rfl⟩ rfl (.same (m := .ty "list") dy rfl hw)
    | _ => exact no e
  rw [if_neg h1] at hw
  exact False.elim hw
end
end Mine
end
section
set_option autoImplicit false
set_option linter.unusedVariables false
set_option linter.unusedSimpArgs false
namespace Mine
open PySem PySem.Calls PyProof.Rows

theorem idx_cases {n : Nat} {k : Int} {j : Nat} (h : idx? n k = some j) : (0 ≤ k ∧ k < n ∧ j = k.toNat) ∨ (k < 0 ∧ 0 ≤ k + n ∧ j = (k + n).toNat) := by
  unfold idx? at h
  by_cases h1 : 0 ≤ k ∧ k < n
  · rw [if_pos h1] at h; exact .inl ⟨h1.1, h1.2, (Option.some.inj h).symm⟩
  · rw [if_neg h1] at h
    obtain ⟨h2, h⟩ := ite_some h
    exact .inr ⟨h2.1, h2.2, (Option.some.inj h).symm⟩
theorem idx_seqIndex {n : Nat} {k : Int} {j : Nat} (h : idx? n k = some j) : seqIndex? k n = some j := by
  unfold seqIndex?
  rcases idx_cases h with ⟨a, b, rfl⟩ | ⟨a, b, rfl⟩
  · simp only [show ¬ k < 0 from by omega, if_false]
    rw [if_pos (by simp; omega)]
  · simp only [a, if_true]
    rw [if_pos (by simp; omega)]

section
variable {c : Cfg} {A : Around} {fr : List Env} {H : MH} {s : Shared} {X : Addr → Prop} {d : Nat} {q : Bool}

theorem getItem_idx {l : Addr} {items : Array Value} {n : Nat} {k : Int} {t : Tok} {j : Nat} {x : Value} {Q Z : Value → Shared → Prop} (g : IsL s.heap l items n) (hb : items.size ≤ BIG) (hj : idx? items.size k = some j) (hx : items[j]? = some x) (h : Q x s) : wpAny c.M A (getItem (.ref l) (.int k t)) Q Z s := by
  have := BIG_eq
  rcases idx_cases hj with ⟨a, b, rfl⟩ | ⟨a, b, rfl⟩
  · exact wpAny_getItem_list (items := items) ⟨_, g, rfl, n, rfl⟩ a (by omega) hx h
  · exact wpAny_getItem_list_neg (items := items) ⟨_, g, rfl, n, rfl⟩ a (by omega) (by omega) hx h

theorem valueAt_of {h : Heap} {k : Int} : ∀ {kvs : List (Int × Value)} {es : List (Int × MVal)} {x : Int × MVal}, kvs.map (·.1) = es.map (·.1) → VRs h (es.map (·.2)) (kvs.map (·.2)) → es.find? (fun e => decide (e.1 = k)) = some x → ∃ y, valueAt kvs k = some y ∧ VR h x.2 y
  | [], [], x, _, _, e => by simp at e
  | (a, b) :: kvs, (a', m) :: es, x, hk, hr, e => by
    simp only [List.map_cons, List.cons.injEq] at hk
    simp only [List.map_cons, VRs] at hr
    obtain ⟨v, r, e1, rv, hr⟩ := hr
    simp only [List.cons.injEq] at e1
    obtain ⟨rfl, rfl⟩ := e1
    obtain ⟨rfl, hk⟩ := hk
    simp only [List.find?_cons] at e
    unfold valueAt
    simp only [List.find?_cons]
    by_cases h : a = k
    · simp only [h, decide_true] at e ⊢; cases e; exact ⟨b, rfl, rv⟩
    · simp only [h, decide_false] at e ⊢; exact valueAt_of hk hr e
  | [], _ :: _, _, hk, _, _ => by simp at hk
  | _ :: _, [], _, hk, _, _ => by simp at hk

theorem sub_snd (L : Link c) {Z : Value → Shared → Prop} {value e : Expr} (he : ∀ o j, subscripted e false o j = operate [o, j] (getItem o j)) {m1 m2 : MVal} {u v : Value} {Q : MVal → MH → Prop} (dy : Dyn c.h₀ c.P fr H s) (hu : VR s.heap m1 u) (hv : VR s.heap m2 v) (hw : SubW c m1 m2 H Q) :
    wpAny c.M A (subscriptTail value e u v) (QV c fr noX H s Q) Z s := by
  obtain ⟨k, e1, hw⟩ := onI hw
  rw [e1] at hv
  obtain ⟨t, rfl⟩ := hv
  have lst : ∀ {a : Addr} {vs : Array Value} {n : Nat} {xs : List MVal}, IsL s.heap a vs n → vs.size ≤ BIG → VRs s.heap xs vs.toList → (on (nth? xs k) fun v => Q v H) → wpAny c.M A (subscriptTail value e (.ref a) (.int k t)) (QV c fr noX H s Q) Z s := fun {a vs n xs} g z r hw => by
    have l := r.length
    obtain ⟨x, hx, hw⟩ := on_inv hw
    obtain ⟨j, h1, h2⟩ := Option.bind_eq_some_iff.mp hx
    obtain ⟨y, hy, ry⟩ := r.get h2
    refine tail_any ⟨_, g, rfl⟩ F.slot_list_getitem.lookup (getItem_idx g z (j := j) (x := y) (by rw [show vs.size = _ from l]; exact h1) (by rw [← hy]; simp) (.same dy ry hw)) (he _ _)
  cases m1 with
  | ro a =>
    simp only [VR] at hu; subst hu
    obtain ⟨xs, ha, hw⟩ := on_inv (show on (c.ro a) _ from hw)
    obtain ⟨vs, n, g, z, r⟩ := L.ros _ _ ha
    exact lst (dy.keep _ _ g) z (r.soft (Soft.of_keep dy.keep)) hw
  | tup ms =>
    simp only [VR] at hu; obtain ⟨a, vs, n, rfl, z, g, r⟩ := hu
    obtain ⟨x, hx, hw⟩ := on_inv (show on (nth? ms k) _ from hw)
    obtain ⟨j, h1, h2⟩ := Option.bind_eq_some_iff.mp hx
    obtain ⟨y, hy, ry⟩ := r.get h2
    have l := r.length
    have l' : vs.size = _ := l
    have := BIG_eq
    refine tail_any ⟨_, g, rfl⟩ F.slot_tuple_getitem.lookup (getItem_tuple (items := vs) (j := j) (x := y) ⟨_, g, rfl, n, rfl⟩ ?_ ?_ (by rw [l']; exact idx_seqIndex h1) (by rw [← hy]; simp) (.same dy ry hw)) (he _ _)
    · rcases idx_cases h1 with h | h <;> omega
    · rcases idx_cases h1 with h | h <;> omega
  | ref a =>
    simp only [VR] at hu; subst hu
    obtain ⟨p, ha, hw⟩ := on_inv (show on (H a) _ from hw)
    obtain ⟨tg, ob⟩ := p
    cases ob with
    | list xs =>
      obtain ⟨vs, n, g, z, r⟩ := list_of dy ha
      exact lst g z r hw
    | dict ep es =>
      obtain ⟨kvs, ⟨hm, _⟩, hf, hr, hl'⟩ := dictOf_of dy ha
      obtain ⟨x, hx, hw⟩ := on_inv (show on (es.find? _) _ from hw)
      obtain ⟨y, hy, ry⟩ := valueAt_of hf hr hx
      exact tail_any hm.typeIs F.slot_dict_getitem.lookup (wpAny_getItem_of (knd := intKind c.prog c.w) (isInt_self _ t) hm.mapOf hy (.plain dy ry hw)) (he _ _)
    | _ => exact False.elim hw
  | _ => exact False.elim hw
end
end Mine
end
section
set_option autoImplicit false
set_option linter.unusedVariables false
set_option linter.unusedSimpArgs false
namespace Mine
open PySem PySem.Calls PyProof.Rows

noncomputable def partOf : MVal → Option (Option Int)
  | .none => some Option.none
  | .int i => some (some i)
  | _ => Option.none
theorem part_of {h : Heap} {m : MVal} {v : Value} {n d i : Nat} (r : VR h m v) (e : slb n m d = some i) : ∃ k, IsPart v k ∧ partOf m = some k := by
  cases m with
  | none => simp only [VR] at r; subst r; exact ⟨_, .none, rfl⟩
  | int k => obtain ⟨t, rfl⟩ := r; exact ⟨_, .int _ t, rfl⟩
  | _ => exact no e
noncomputable def clipI (k : Option Int) (dflt n : Int) : Int := match k with
  | Option.none => dflt
  | some i => max 0 (min (if i < 0 then i + n else i) n)
theorem slb_clip {n d i : Nat} {m : MVal} {k : Option Int} (h : partOf m = some k) (e : slb n m d = some i) : clipI k d n = (i : Int) := by
  cases m with
  | none =>
    cases (show Option.none = k from Option.some.inj h)
    cases (show d = i from Option.some.inj e); rfl
  | int x =>
    cases (show some x = k from Option.some.inj h)
    obtain ⟨_, e⟩ := ite_some (show (if x.natAbs < 2 ^ 60 then some (if x < 0 then (max 0 (x + n)).toNat else min n x.toNat) else Option.none) = some i from e)
    cases (show (if x < 0 then (max 0 (x + n)).toNat else min n x.toNat) = i from Option.some.inj e)
    show max 0 (min (if x < 0 then x + n else x) n) = _
    by_cases hx : x < 0
    · rw [if_pos hx, if_pos hx]; omega
    · rw [if_neg hx, if_neg hx]; omega
  | _ => exact no e
theorem slice_pick {items : Array Value} {ml mh : MVal} {lo hi : Option Int} {i j : Nat} (h1 : partOf ml = some lo) (h2 : partOf mh = some hi) (e1 : slb items.size ml 0 = some i) (e2 : slb items.size mh items.size = some j) :
    slicePick items lo hi Option.none = ((items.toList.take j).drop i).toArray := by
  have b : sliceBounds lo hi Option.none items.size = (clipI lo (0 : Nat) items.size, clipI hi items.size items.size, 1) := by
    unfold sliceBounds clipI
    simp only [Option.getD_none, show (1 : Int) > 0 from by decide, if_true]
    cases lo <;> cases hi <;> rfl
  unfold slicePick
  rw [b, slb_clip h1 e1, slb_clip h2 e2]
  simp only [sliceRange_one, pick_run]
  rw [List.drop_take]

section
variable {c : Cfg} {A : Around} {fr : List Env} {H : MH} {s : Shared} {X : Addr → Prop} {d : Nat} {q : Bool}

theorem VRs.drop {h : Heap} : ∀ (n : Nat) {ms : List MVal} {vs : List Value}, VRs h ms vs → VRs h (ms.drop n) (vs.drop n)
  | 0, _, _, r => r
  | n + 1, [], _, r => by simp only [VRs] at r; subst r; simp [VRs]
  | n + 1, m :: ms, _, r => by simp only [VRs] at r; obtain ⟨v, r', rfl, _, q⟩ := r; simp only [List.drop_succ_cons]; exact VRs.drop n q
theorem VRs.take {h : Heap} : ∀ (n : Nat) {ms : List MVal} {vs : List Value}, VRs h ms vs → VRs h (ms.take n) (vs.take n)
  | 0, _, _, r => by simp [VRs]
  | n + 1, [], _, r => by simp only [VRs] at r; subst r; simp [VRs]
  | n + 1, m :: ms, _, r => by simp only [VRs] at r; obtain ⟨v, r', rfl, a, q⟩ := r; simp only [List.take_succ_cons, VRs]; exact ⟨v, _, rfl, a, VRs.take n q⟩

/-- the slice object made, the slice taken -/
theorem slice_snd {Z : Value → Shared → Prop} {value : Expr} {lower upper : Option Expr} {p : Pos} {m ml mh : MVal} {u vl vh : Value} {Q : MVal → MH → Prop} (dy : Dyn c.h₀ c.P fr H s) (hu : VR s.heap m u) (hl : VR s.heap ml vl) (hh : VR s.heap mh vh) (hw : SliceW m ml mh H Q) :
    wpAny c.M A (newFields "slice" [vl, vh, .none]) (fun i s₁ => wpAny c.M A (subscriptTail value (.Slice lower upper Option.none p) u i) (QV c fr noX H s Q) Z s₁) Z s := by
  obtain ⟨a, e0, hw⟩ := onR hw
  rw [e0] at hu
  simp only [VR] at hu; subst hu
  obtain ⟨tg, xs, ha, hw⟩ := onL hw
  obtain ⟨vs, n, g, z, r⟩ := list_of dy ha
  have l := r.length
  have l' : vs.size = _ := l
  obtain ⟨i, e1, hw⟩ := on_inv hw
  obtain ⟨j, e2, hw⟩ := on_inv hw
  have e1 : slb xs.length ml 0 = some i := e1
  have e2 : slb xs.length mh xs.length = some j := e2
  rw [← l'] at e1 e2
  obtain ⟨k1, p1, q1⟩ := part_of hl e1
  obtain ⟨k2, p2, q2⟩ := part_of hh e2
  unfold newFields
  refine wpAny_newObj_type ?_
  refine tail_any (ops := [.ref s.heap.objs.size, _]) (T := "list") ⟨_, Heap.get?_push_of_some _ g, rfl⟩ F.slot_list_getitem.lookup (wpAny_getItem_list_slice (items := vs) (vl := vl) (vu := vh) (vs := .none) ⟨_, Heap.get?_push_of_some _ g, rfl, n, rfl⟩ ⟨_, Heap.get?_push_size _ rfl, rfl, rfl⟩ p1 p2 .none (by simp) ?_ (by have := sizeLine_big; have := BIG_eq; omega)) rfl
  rw [slice_pick q1 q2 e1 e2]
  have dy' : Dyn c.h₀ c.P fr H { s with heap := s.heap.push { cls := .type "slice", data := .fields #[vl, vh, .none] } } := dy.of_keep (push_keep _ _)
  refine QV.step (.of_keep (push_keep _ _)) (QV.alloc (t := s.toks) (s := { s with heap := s.heap.push { cls := .type "slice", data := .fields #[vl, vh, .none] } }) (o := .list _) dy' ⟨_, _, rfl, ?_, ?_⟩ rfl hw)
  · simp only [List.size_toArray, List.length_drop, List.length_take, Array.length_toList]; omega
  · exact ((r.take j).drop i).soft ((Soft.push _ _).trans (Soft.push _ _))

theorem meth_snd (L : Link c) {Z : Value → Shared → Prop} {K : Value × List Value → Shared → Prop} {pl : Sem Bool} {m fv : MVal} {first : List MVal} {u : Value} {n : Str} (dy : Dyn c.h₀ c.P fr H s) (hu : VR s.heap m u) (e : MethR c H m n = some (fv, first))
    (k : ∀ f vs tk, VR s.heap fv f → VRs s.heap first vs → K (f, vs) { s with toks := tk }) : wpAny c.M A (getMethod u n pl) K Z s := by
  obtain ⟨a, e0, e⟩ := Option.bind_eq_some_iff.mp e
  rw [asR_inv e0] at hu
  simp only [VR] at hu; subst hu
  have one : VRs s.heap [.ref a] [.ref a] := ⟨_, _, rfl, by simp only [VR], by simp only [VRs]⟩
  cases ha : H a with
  | none =>
    rw [ha] at e
    obtain ⟨id, hid, e1⟩ := Option.map_eq_some_iff.mp e
    cases e1
    obtain ⟨h1, h2, h3, h4⟩ := Cfg.clsm_inv hid
    exact W.method_cls (L.K.keeps dy.keep) h2 (W.cls_value (L.K.keeps dy.keep) h1 h3 h4 (k _ _ _ rfl (by simp only [VRs])))
  | some p =>
    rw [ha] at e
    obtain ⟨t, ob⟩ := p
    cases ob with
    | list xs =>
      obtain ⟨vs, j, g, z, r⟩ := list_of dy ha
      have il : s.heap.IsList a vs := ⟨_, g, rfl, j, rfl⟩
      have nd : s.heap.NoDictAt (.ref a) := ⟨_, g, rfl⟩
      have e : (if n = "append" then some (MVal.bi "list.append", [MVal.ref a]) else if n = "pop" then some (.bi "list.pop", [.ref a]) else Option.none) = some (fv, first) := e
      by_cases hn : n = "append"
      · rw [if_pos hn] at e; subst hn; cases e; exact getMethod_list_of F.slot_list_append F.type_list_append il nd (k _ _ s.toks rfl one)
      · rw [if_neg hn] at e
        obtain ⟨hn, e⟩ := ite_some e
        subst hn; cases e; exact getMethod_list_of F.slot_list_pop F.type_list_pop il nd (k _ _ s.toks rfl one)
    | set xs =>
      obtain ⟨hn, e⟩ := ite_some (show (if n = "add" then some (MVal.bi "set.add", [MVal.ref a]) else Option.none) = some (fv, first) from e)
      subst hn; cases e; exact getMethod_set_add (set_of dy ha) (k _ _ s.toks rfl one)
    | inst C dx =>
      obtain ⟨p, hd, e⟩ := Option.bind_eq_some_iff.mp e
      obtain ⟨t', fs⟩ := p
      have hd : H dx = some (t', .ns fs) := atN hd
      obtain ⟨rs, j, I, e', r⟩ := inst_of dy ha hd
      have lk := lookIn_ns (k := j) r n
      obtain ⟨hf, e⟩ := ite_some e
      rw [show fget fs n = Option.none from hf] at lk
      obtain ⟨f, hm, e1⟩ := Option.map_eq_some_iff.mp e
      cases e1
      obtain ⟨⟨h1, h2, h3⟩, hg, h4, h5, h6⟩ := Cfg.meth_inv hm
      exact W.method_fn (L.K.keeps dy.keep) I (W.plainGet_of h1).1 (W.plainGet_of h1).2 hg (beq_iff_eq.mp h4) (by show (W.lookIn _ _).map _ = _; rw [lk]; rfl) (k _ _ s.toks rfl one)
    | _ => exact no e
end
end Mine
end
section
set_option autoImplicit false
set_option linter.unusedVariables false
set_option linter.unusedSimpArgs false
namespace Mine
open PySem PySem.Calls PyProof.Rows

section
variable {c : Cfg} {A : Around} {fr : List Env} {H : MH} {s : Shared} {X : Addr → Prop} {d : Nat} {q : Bool}

theorem method_call {p f x : Addr} {vals : List Value} {R : Result → Shared → Prop} (hp : s.heap.get? p = some ⟨.type "method", none, .fields #[.ref f, .ref x], #[]⟩)
    (h : codeAny c.M A (.call (.ref f) ⟨.ref x :: vals, []⟩) R s) : codeAny c.M A (.call (.ref p) ⟨vals, []⟩) R s := by
  refine codeAny_of_tree ?_
  show wpAny _ _ (callAny (.ref p) ⟨vals, []⟩) _ _ _
  unfold callAny
  refine wpAny_bind (wpAny_load hp ?_)
  dsimp only
  rw [if_pos (by rfl)]
  exact wpAny_pure ⟨rfl, h⟩

theorem call_snd (L : Link c) {fv : MVal} {ms : List MVal} {f : Value} {vals : List Value} {Q : MVal → MH → Prop} {Z : Addr → MH → Prop} (st : Stat A fr d q) (dy : Dyn c.h₀ c.P fr H s) (hf : VR s.heap fv f) (hv : VRs s.heap ms vals) (hw : CallW c d q fv ms H Q Z) :
    wpAny c.M A (call f vals) (QV c fr noX H s Q) (QE c fr noX H s Z) s := by
  cases fv with
  | ref a =>
    simp only [VR] at hf; subst hf
    refine wpAny_call (codeAny_mono (hw.2 A fr s vals st dy hv) fun r s' z => ?_)
    rcases r with e | (_ | _ | _ | v) <;> first | exact z | exact z.elim
  | meth f q =>
    simp only [VR] at hf; obtain ⟨a, rfl, g⟩ := hf
    refine wpAny_call (method_call g (codeAny_mono (hw.2 A fr s _ st dy (by simp only [VRs]; exact ⟨_, _, rfl, rfl, hv⟩)) fun r s' z => ?_))
    rcases r with e | (_ | _ | _ | v) <;> first | exact z | exact z.elim
  | bi id => simp only [VR] at hf; subst hf; exact bi_snd L dy st.quiet hv hw
  | ty n => simp only [VR] at hf; subst hf; exact ty_snd L st.quiet dy hv hw
  | _ => exact False.elim hw

theorem plain_cons {env : Env} {e : Expr} {es : List Expr} (hs : ∀ es env, starEach (e :: es) env = (false, eval e env) :: starEach es env) (ih : starEach es env = es.map fun e => (false, eval e env)) : starEach (e :: es) env = (e :: es).map fun e => (false, eval e env) := (hs es env).trans (congrArg _ ih)
theorem backTo_plain {pos : Pos} {env : Env} : ∀ es : List Expr, backTo pos (es.map fun e => (false, eval e env)) = es.map fun e => (false, eval e env)
  | [] => rfl
  | e :: es => by
    have ih := backTo_plain (pos := pos) (env := env) es
    simp only [backTo, List.map_cons, List.map_map] at ih ⊢
    rw [ih]
    rfl

theorem args_snd {es : List Expr} {env : Env} {pos : Pos} {f : Value} {Q : Args → Shared → Prop} {Z : Value → Shared → Prop} (hp : starEach es env = es.map fun e => (false, eval e env))
    (h : wpAny c.M A (spliced (backTo pos (starEach es env))) (fun vs s₁ => Q ⟨vs, []⟩ s₁) Z s) : wpAny c.M A (evalArgs f true (backTo pos (starEach es env)) []) Q Z s := by
  rw [hp, backTo_plain] at h ⊢
  cases es with
  | nil =>
    unfold evalArgs
    show wpAny c.M A (spliced [] >>= _) Q Z s
    refine wpAny_bind (wpAny_mono h (fun vs s' h' => ?_) fun _ _ x => x)
    refine wpAny_bind (wpAny_pure (wpAny_holding ?_))
    exact wpAny_bind (wpAny_pure (wpAny_bind (wpAny_pure (wpAny_pure h'))))
  | cons e es => exact evalArgs_plain h

theorem callWith_snd (L : Link c) {H₀ : MH} {s₀ : Shared} {fv : MVal} {fms : List MVal} {f : Value} {first : List Value} {es : List Expr} {env : Env} {pos : Pos} {Q : MVal → MH → Prop} {Z : Addr → MH → Prop} (st : Stat A fr d q) (hf : VR s.heap fv f) (hfi : VRs s.heap fms first)
    (hp : starEach es env = es.map fun e => (false, eval e env))
    (ls : wpAny c.M A (spliced (backTo pos (starEach es env))) (fun vs s₁ => ∃ ms H₁, VRs s₁.heap ms vs ∧ Dyn c.h₀ c.P fr H₁ s₁ ∧ Ext noX H₀ s₀ H₁ s₁ ∧ Soft s.heap s₁.heap ∧ CallW c d q fv (fms ++ ms) H₁ Q Z) (QE c fr noX H₀ s₀ Z) s) :
    wpAny c.M A (callWith pos f first (backTo pos (starEach es env)) []) (QV c fr noX H₀ s₀ Q) (QE c fr noX H₀ s₀ Z) s := by
  have hplain : (backTo pos (starEach es env)).any (·.1) = false := by
    rw [hp, backTo_plain]
    simp
  have fin : ∀ vs s₁ ms H₁, VRs s₁.heap ms vs → Dyn c.h₀ c.P fr H₁ s₁ → Ext noX H₀ s₀ H₁ s₁ → Soft s.heap s₁.heap → CallW c d q fv (fms ++ ms) H₁ Q Z → wpAny c.M A (call f (first ++ vs)) (QV c fr noX H₀ s₀ Q) (QE c fr noX H₀ s₀ Z) s₁ :=
    fun vs s₁ ms H₁ a b e sf w => wpAny_mono (call_snd L st b (hf.soft sf) ((hfi.soft sf).append a) w) (fun v s' h => h.step e) fun v s' h => h.step e
  have bad : (∀ ms H₁, CallW c d q fv ms H₁ Q Z → False) → wpAny c.M A (callWith pos f first (backTo pos (starEach es env)) []) (QV c fr noX H₀ s₀ Q) (QE c fr noX H₀ s₀ Z) s := fun no => by
    unfold callWith
    exact wpAny_bind (wpAny_holding (args_snd hp (wpAny_mono ls (fun vs s₁ ⟨ms, H₁, a, b, e, sf, w⟩ => (no _ _ w).elim) fun _ _ h => h)))
  cases fv with
  | ty n =>
    simp only [VR] at hf; subst hf
    exact PySem.callWith_type hplain (args_snd hp (wpAny_mono ls (fun vs s₁ ⟨ms, H₁, a, b, e, sf, w⟩ => fin vs s₁ ms H₁ a b e sf w) fun _ _ h => h))
  | bi n =>
    simp only [VR] at hf; subst hf
    exact callWith_builtin hplain (args_snd hp (wpAny_mono ls (fun vs s₁ ⟨ms, H₁, a, b, e, sf, w⟩ => fin vs s₁ ms H₁ a b e sf w) fun _ _ h => h))
  | ref a =>
    simp only [VR] at hf; subst hf
    refine W.callWith_of (P := fun h => c.K.In h ∧ W.keepIn c.K (.ref a) = true) (by rw [hplain]; rfl) (fun h x => W.keeps_K x.2 h x.1) (args_snd hp (wpAny_mono ls (fun vs s₁ ⟨ms, H₁, a, b, e, sf, w⟩ => ⟨⟨L.K.keeps b.keep, w.1⟩, fin vs s₁ ms H₁ a b e sf w⟩) fun _ _ h => h))
  | meth g x =>
    simp only [VR] at hf; obtain ⟨a, rfl, hg⟩ := hf
    refine W.callWith_of (P := fun h => W.MethP c.K a g (.ref x) h ∧ W.fnIn c.K g = true) (by rw [hplain]; rfl) (fun h x => W.keeps_M x.2 h x.1) (args_snd hp (wpAny_mono ls (fun vs s₁ ⟨ms, H₁, a, b, e, sf, w⟩ => ⟨⟨⟨sf.imm _ _ hg (.inr (.inl rfl)), L.K.keeps b.keep⟩, w.1⟩, fin vs s₁ ms H₁ a b e sf w⟩) fun _ _ h => h))
  | _ => exact bad fun _ _ w => w
end
end Mine
end
section
set_option autoImplicit false
set_option linter.unusedVariables false
set_option linter.unusedSimpArgs false
namespace Mine
open PySem PySem.Calls PyProof.Rows

section
variable {c : Cfg} {A : Around} {fr : List Env} {vm : VM} {env : Env} {d : Nat} {q : Bool}

noncomputable def Both (c : Cfg) (A : Around) (env : Env) (fr : List Env) (vm : VM) (e : Expr) (w : VT × BT) : Prop :=
  EvOK c A env fr vm (eval e env) w.1 ∧ TsOK c A env fr vm (isTrue e env (eval e env)) w.2

theorem ts_of {t : Sem Value} {w : VT} (x : EvOK c A env fr vm t w) {b : Sem Bool} (hb : ∀ (s : Shared) (Q : Bool → Shared → Prop) (Z : Value → Shared → Prop), wpAny c.M A t (fun v s₁ => wpAny c.M A (truthy v) Q Z s₁) Z s → wpAny c.M A b Q Z s) : TsOK c A env fr vm b (testV w) := by
  intro σ H s Q Z f dy hw
  refine hb s _ _ (x.then (Q := fun u H₁ => match Truth H₁ u with | some r => Q r H₁ | Option.none => False) (.rfl0 _ _) f dy hw fun m v H' s' r f' dy' e' sf hq => ?_)
  cases ht : Truth H' m with
  | none => rw [ht] at hq; exact hq.elim
  | some b => rw [ht] at hq; exact truth_snd dy' r ht fun t => ⟨H', dy'.tok t, e'.trans (.tok _ _ _), hq⟩
theorem both_of {e : Expr} {v : VT} (x : EvOK c A env fr vm (eval e env) v) (he : isTrue e env (eval e env) = (do let v ← eval e env; standAt e.pos; holding [v] (truthy v)) := by rfl) : Both c A env fr vm e (pk v) :=
  ⟨x, ts_of x fun s Q Z h => wpAny_isTrue_value h he⟩

theorem snd_BinOp {l r : Expr} {op : Operator} {o : BOp} {pos : Pos} {a b : E} (ho : trOp op = some o) (x : EvOK c A env fr vm (eval l env) (wpX c d q a).1) (y : EvOK c A env fr vm (eval r env) (wpX c d q b).1) :
    EvOK c A env fr vm (eval (.BinOp l op r pos) env) (wpX c d q (.bin o a b)).1 := fun σ H s Q Z f dy hw =>
  wpAny_BinOp (x.then (.rfl0 _ _) f dy hw fun m v H' s' r f' dy' e' _ hq => y.then e' f' dy' hq fun m2 v2 H2 s2 r2 f2 dy2 e2 sf hq2 =>
    wpAny_mono (snd_Bin (Z := QE c fr noX H s Z) ho dy2 (r.soft sf) r2 hq2) (fun _ _ h => h.step e2) fun _ _ h => h)

theorem snd_neg {x : Expr} {pos : Pos} {a : E} (h : EvOK c A env fr vm (eval x env) (wpX c d q a).1) : EvOK c A env fr vm (eval (.UnaryOp .USub x pos) env) (wpX c d q (.neg a)).1 := fun σ H s Q Z f dy hw =>
  wpAny_UnaryOp (h.then (.rfl0 _ _) f dy hw fun m v H' s' r f' dy' e' _ hq => by
    cases m <;> try exact hq.elim
    simp only [VR] at r; obtain ⟨t, rfl⟩ := r
    exact neg_int ((QV.int dy' hq).step e'))

theorem snd_cmp (L : Link c) (st : Stat A fr d q) {l r : Expr} {op : CmpOp} {pos : Pos} {a b : E} (hb : behindInMarks op r = false) (x : EvOK c A env fr vm (eval l env) (wpX c d q a).1) (y : EvOK c A env fr vm (eval r env) (wpX c d q b).1) :
    Both c A env fr vm (.Compare l [op] [r] pos) (wpX c d q (.cmp (trCmp op) a b)) := by
  have un : A.units < 9000 := by have := st.units; omega
  have ev : EvOK c A env fr vm (eval (.Compare l [op] [r] pos) env) (wpX c d q (.cmp (trCmp op) a b)).1 := fun σ H s Q Z f dy hw =>
    wpAny_Compare1 (x.then (.rfl0 _ _) f dy hw fun m v H' s' r f' dy' e' _ hq => y.then e' f' dy' hq fun m2 v2 H2 s2 r2 f2 dy2 e2 sf hq2 => by
      cases hc : cmpM H2 (trCmp op) m m2 with
      | none => rw [hc] at hq2; exact hq2.elim
      | some b => rw [hc] at hq2; exact cmp_snd L dy2 (r.soft sf) r2 un hc fun t => (QV.bool (s := { s2 with toks := t }) (dy2.tok t) hq2).step (e2.trans (.tok _ _ _))) hb
  refine ⟨ev, fun σ H s Q Z f dy hw => wpAny_isTrue_Compare1 (x.then (.rfl0 _ _) f dy hw fun m v H' s' r f' dy' e' _ hq => y.then e' f' dy' hq fun m2 v2 H2 s2 r2 f2 dy2 e2 sf hq2 => ?_) hb⟩
  cases hc : cmpM H2 (trCmp op) m m2 with
  | none => rw [hc] at hq2; exact hq2.elim
  | some b => rw [hc] at hq2; exact cmp_snd L dy2 (r.soft sf) r2 un hc fun t => wpAny_truthy_bool ⟨H2, dy2.tok t, e2.trans (.tok _ _ _), hq2⟩

theorem snd_attr (L : Link c) {v : Expr} {n : Str} {pos : Pos} {a : E} (hs : ∀ n env w, attributeBase v n env w = w) (x : EvOK c A env fr vm (eval v env) (wpX c d q a).1) : EvOK c A env fr vm (eval (.Attribute v n pos) env) (wpX c d q (.attr a n)).1 := fun σ H s Q Z f dy hw => by
  rw [arm_eval_Attribute, hs]
  exact wpAny_bind (x.then (.rfl0 _ _) f dy hw fun m v H' s' r f' dy' e' _ hq => wpAny_bind (wpAny_standAt (wpAny_bind (wpAny_holding (wpAny_mono (attr_snd (Z := QE c fr noX H s Z) L dy' r hq) (fun _ _ h => wpAny_bind (wpAny_letTemporaryGo (wpAny_pure (h.step e')))) fun _ _ h => h)))))

theorem snd_sub (L : Link c) {v i : Expr} {pos : Pos} {a b : E} (hs : ∀ o j, subscripted i false o j = operate [o, j] (getItem o j)) (x : EvOK c A env fr vm (eval v env) (wpX c d q a).1) (y : EvOK c A env fr vm (eval i env) (wpX c d q b).1) : EvOK c A env fr vm (eval (.Subscript v i pos) env) (wpX c d q (.sub a b)).1 := fun σ H s Q Z f dy hw =>
  Subscript_ (x.then (.rfl0 _ _) f dy hw fun m v H' s' r f' dy' e' _ hq => y.then e' f' dy' hq fun m2 v2 H2 s2 r2 f2 dy2 e2 sf hq2 => wpAny_mono (sub_snd (Z := QE c fr noX H s Z) L hs dy2 (r.soft sf) r2 hq2) (fun _ _ h => h.step e2) fun _ _ h => h)

theorem snd_slice {v : Expr} {lo hi : Option Expr} {p pos : Pos} {a b e : E} (x : EvOK c A env fr vm (eval v env) (wpX c d q a).1) (y : EvOK c A env fr vm (valueOrNone (evalOpt lo env)) (wpX c d q b).1) (z : EvOK c A env fr vm (valueOrNone (evalOpt hi env)) (wpX c d q e).1) :
    EvOK c A env fr vm (eval (.Subscript v (.Slice lo hi Option.none p) pos) env) (wpX c d q (.slice a b e)).1 := fun σ H s Q Z f dy hw => by
  refine Subscript_ (x.then (.rfl0 _ _) f dy hw fun m v H' s' r f' dy' e' _ hq => ?_)
  rw [arm_eval_Slice]
  refine wpAny_bind (y.then e' f' dy' hq fun m2 v2 H2 s2 r2 f2 dy2 e2 sf hq2 => wpAny_bind (wpAny_holding (z.then e2 f2 dy2 hq2 fun m3 v3 H3 s3 r3 f3 dy3 e3 sf3 hq3 => wpAny_bind (wpAny_holding (wpAny_pure ?_)))))
  exact wpAny_mono (slice_snd (Z := QE c fr noX H s Z) dy3 ((r.soft sf).soft sf3) (r2.soft sf3) r3 hq3) (fun _ _ h => wpAny_mono h (fun _ _ h => h.step e3) fun _ _ h => h) fun _ _ h => h

theorem snd_list {es : List Expr} {pos : Pos} {as : List E} (x : LsOK c A env fr vm (spliced (backTo pos (starEach es env))) (wpXs c d q as).1) : EvOK c A env fr vm (eval (.List es pos) env) (wpX c d q (.list as)).1 := fun σ H s Q Z f dy hw =>
  wpAny_List (x.then (.rfl0 _ _) f dy hw fun ms vs H' s' r f' dy' e' _ hq => by
    have l := r.length
    have := sizeLine_big; have := BIG_eq
    refine ⟨by omega, (QV.alloc (t := s'.toks) (o := .list ms) dy' ⟨_, _, rfl, ?_, ?_⟩ rfl hq.2).step e'⟩
    · simp only [List.size_toArray]; omega
    · exact r.soft (.push _ _))
theorem snd_tup {es : List Expr} {k : Nat} {pos : Pos} {as : List E} (x : LsOK c A env fr vm (spliced (backTo pos (starEach es env))) (wpXs c d q as).1) : EvOK c A env fr vm (eval (.Tuple es k pos) env) (wpX c d q (.tup as)).1 := fun σ H s Q Z f dy hw =>
  wpAny_Tuple (x.then (.rfl0 _ _) f dy hw fun ms vs H' s' r f' dy' e' _ hq => by
    have l := r.length
    have := sizeLine_big; have := BIG_eq
    refine ⟨by omega, .tup ms, H', ?_, dy'.of_keep (push_keep _ _), e'.trans (.of_keep (push_keep _ _)), hq.2⟩
    exact ⟨_, _, _, rfl, by simp only [List.size_toArray]; omega, Heap.get?_push_size _ rfl, r.soft (.push _ _)⟩)

theorem snd_dict {pos : Pos} : EvOK c A env fr vm (eval (.Dict [] [] pos) env) (wpX c d q (.dict [] [])).1 := fun σ H s Q Z f dy hw => by
  have hw : allocW (.dict 0 []) H Q := hw
  rw [arm_eval_Dict]
  refine wpAny_bind (wpAny_standAt ?_)
  show wpAny c.M A (dictDisplay []) _ _ _
  unfold dictDisplay
  simp only [List.forIn_nil]
  refine wpAny_bind (wpAny_pure (wpAny_bind (wpAny_pure ?_)))
  unfold newDict
  refine wpAny_newObj_type ?_
  exact QV.alloc (t := s.toks) (o := .dict 0 []) dy ⟨_, rfl, by decide, by simp [DictR], by simp⟩ rfl hw

theorem snd_call (L : Link c) (st : Stat A fr d q) {f : Expr} {es : List Expr} {pos : Pos} {a : E} {as : List E} (hev : eval (.Call f es [] pos) env = (do callWith pos (← eval f env) [] (backTo pos (starEach es env)) (backToKw pos (keywordEach [] env))))
    (hp : starEach es env = es.map fun e => (false, eval e env)) (x : EvOK c A env fr vm (eval f env) (wpX c d q a).1) (y : LsOK c A env fr vm (spliced (backTo pos (starEach es env))) (wpXs c d q as).1) :
    EvOK c A env fr vm (eval (.Call f es [] pos) env) (wpX c d q (.call a as)).1 := fun σ H s Q Z g dy hw => by
  rw [hev]
  refine wpAny_bind (x.then (.rfl0 _ _) g dy hw fun m v H' s' r f' dy' e' _ hq => ?_)
  exact callWith_snd (fms := []) L st r (by simp [VRs]) hp (y.then e' f' dy' hq fun ms vs H2 s2 r2 f2 dy2 e2 sf hq2 => ⟨ms, H2, r2, dy2, e2, sf, hq2⟩)

theorem snd_mcall (L : Link c) (st : Stat A fr d q) {o : Expr} {n : Str} {es : List Expr} {apos pos : Pos} {a : E} {as : List E} (hs : ∀ n env w, attributeBase o n env w = w) (hl : (apos.endLine == pos.line) = true) (hn : es.length < 29)
    (hp : starEach es env = es.map fun e => (false, eval e env)) (x : EvOK c A env fr vm (eval o env) (wpX c d q a).1) (y : LsOK c A env fr vm (spliced (backTo pos (starEach es env))) (wpXs c d q as).1) :
    EvOK c A env fr vm (eval (.Call (.Attribute o n apos) es [] pos) env) (wpX c d q (.mcall a n as)).1 := fun σ H s Q Z g dy hw => by
  rw [arm_eval_Call, hs]
  refine wpAny_bind (x.then (.rfl0 _ _) g dy hw fun m v H' s' r f' dy' e' _ hq => wpAny_bind (wpAny_standAt ?_))
  have few : methodCallForm (es.length + ([] : List Keyword).length) (backTo pos (starEach es env)) (backToKw pos (keywordEach [] env)) = true := by
    rw [hp, backTo_plain]
    show ((es.map fun e => (false, eval e env)).all (fun x => !x.1) && true && decide (es.length + 0 + 0 < 30)) = true
    simp; omega
  unfold methodCall
  rw [few]
  refine wpAny_bind (wpAny_holding ?_)
  show wpAny c.M A (getMethod v n _) _ _ _
  cases hm : MethR c H' m n with
  | none => rw [hm] at hq; exact hq.elim
  | some p =>
    obtain ⟨fv, fms⟩ := p
    rw [hm] at hq
    refine meth_snd L dy' r hm fun fval first tk rf rfi => ?_
    dsimp only
    refine wpAny_bind (m := methodCallPos true o env apos pos) ?_
    unfold methodCallPos
    rw [if_pos (by rw [hl]; rfl)]
    refine wpAny_pure ?_
    exact callWith_snd (s := { s' with toks := tk }) L st rf rfi hp (y.then (s := { s' with toks := tk }) (e'.trans (.tok _ _ _)) f' (dy'.tok tk) hq fun ms vs H2 s2 r2 f2 dy2 e2 sf hq2 => ⟨ms, H2, r2, dy2, e2, sf, hq2⟩)
end
end Mine
end
section
set_option autoImplicit false
set_option linter.unusedVariables false
set_option linter.unusedSimpArgs false
namespace Mine
open PySem PySem.Calls PyProof.Rows

/-- what a comprehension closes over -/
noncomputable def closeOver (names : List (Str × NameKind)) (env : Env) : List (Str × Addr) → List (Str × Addr)
  := names.foldl (fun acc p => if p.2 == .free then (match env.cells.lookup p.1 with | some c => (p.1, c) :: acc | none => acc) else acc)

theorem closureFor_eq {scope : Scope} {env : Env} (h : ∀ p ∈ scope.names, p.2 = .free → (env.cells.lookup p.1).isSome = true) : closureFor scope env = pure (closeOver scope.names env []) := by
  unfold closureFor
  suffices ∀ (names : List (Str × NameKind)) (acc : List (Str × Addr)), (∀ p ∈ names, p.2 = .free → (env.cells.lookup p.1).isSome = true) →
      (forIn names acc fun x r => (match x with | (name, kind) => if (kind == .free) = true then (do let __do_lift ← cellOf env name; pure (ForInStep.yield ((name, __do_lift) :: r))) else pure (ForInStep.yield r) : Sem _)) = pure (names.foldl (fun acc p => if p.2 == .free then (match env.cells.lookup p.1 with | some c => (p.1, c) :: acc | none => acc) else acc) acc) by
    have := this scope.names [] h
    simp only [closeOver]
    exact congrArg (fun t => t >>= fun r => pure r) this
  intro names
  induction names with
  | nil => intro acc _; rfl
  | cons p r ih =>
    intro acc hp
    obtain ⟨n, k⟩ := p
    rw [List.forIn_cons]
    by_cases hk : k = .free
    · subst hk
      have := hp (n, .free) (.head _) rfl
      obtain ⟨c, hc⟩ := Option.isSome_iff_exists.mp this
      simp only [beq_self_eq_true, if_true, cellOf, hc, List.foldl_cons]
      exact ih _ fun q hq => hp q (.tail _ hq)
    · have hk' : (k == NameKind.free) = false := beq_eq_false_iff_ne.mpr hk
      simp only [hk', Bool.false_eq_true, if_false, List.foldl_cons]
      exact ih _ fun q hq => hp q (.tail _ hq)

theorem closeOver_lookup {env : Env} {y : Str} {c : Addr} (hc : env.cells.lookup y = some c) : ∀ (names : List (Str × NameKind)) (acc : List (Str × Addr)),
    ((∃ p ∈ names, p.1 = y ∧ p.2 = .free) ∨ acc.lookup y = some c) → (closeOver names env acc).lookup y = some c
  | [], acc, h => by
    rcases h with ⟨p, hp, _⟩ | h
    · cases hp
    · exact h
  | (n, k) :: r, acc, h => by
    unfold closeOver
    simp only [List.foldl_cons]
    by_cases hk : k = .free
    · subst hk
      simp only [beq_self_eq_true, if_true]
      by_cases hn : n = y
      · subst hn
        rw [hc]
        exact closeOver_lookup hc r _ (.inr (by simp))
      · refine closeOver_lookup hc r _ ?_
        rcases h with ⟨p, hp, h1, h2⟩ | h
        · rcases List.mem_cons.mp hp with rfl | hp
          · exact absurd h1 hn
          · exact .inl ⟨p, hp, h1, h2⟩
        · refine .inr ?_
          cases hl : env.cells.lookup n with
          | none => exact h
          | some c' => simp only [List.lookup_cons, show (y == n) = false from beq_eq_false_iff_ne.mpr fun z => hn z.symm]; exact h
    · have hk' : (k == NameKind.free) = false := beq_eq_false_iff_ne.mpr hk
      simp only [hk', Bool.false_eq_true, if_false]
      refine closeOver_lookup hc r _ ?_
      rcases h with ⟨p, hp, h1, h2⟩ | h
      · rcases List.mem_cons.mp hp with rfl | hp
        · exact absurd h2 hk
        · exact .inl ⟨p, hp, h1, h2⟩
      · exact .inr h
theorem closeOver_mem {env : Env} : ∀ (names : List (Str × NameKind)) (acc : List (Str × Addr)) (x : Str) (c : Addr), (closeOver names env acc).lookup x = some c → acc.lookup x = some c ∨ env.cells.lookup x = some c
  | [], acc, x, c, h => .inl h
  | (n, k) :: r, acc, x, c, h => by
    unfold closeOver at h
    simp only [List.foldl_cons] at h
    rcases closeOver_mem r _ x c h with h | h
    · split at h
      · split at h
        · rename_i c' hc'
          rw [List.lookup_cons] at h
          split at h
          · rename_i hx
            cases h
            rw [eq_of_beq hx]; exact .inr hc'
          · exact .inl h
        · exact .inl h
      · exact .inl h
    · exact .inr h

section
variable {c : Cfg} {A : Around} {fr : List Env} {vm : VM} {env : Env} {d : Nat} {q : Bool} {H : MH} {s : Shared}

theorem it_self {I : Addr} {u : MVal} {its : List MVal} {i : Nat} {K : Value → Shared → Prop} {Z : Value → Shared → Prop} (st : ItSt H s.heap I u its i) (k : K (.ref I) s) : wpAny c.M A (pyIter (.ref I)) K Z s := by
  cases u with
  | ref a =>
    rcases st with ⟨t, ha, h⟩ | ⟨t, n, es, ha, hi', h⟩
    · exact wpAny_pyIter_listiter h k
    · exact wpAny_pyIter_keyiter h k
  | rng lo hi => exact wpAny_pyIter_rangeiter st.2 k
  | _ => exact False.elim st

/-- an object of the call's own that was not tracked so far -/
theorem Dyn.track {a : Addr} {t : Tag} {o : MObj} {ob : Obj} (x : Dyn c.h₀ c.P fr H s) (n₀ : c.h₀.get? a = none) (e : s.heap.get? a = some ob) (r : OR c.h₀ c.P s.heap o ob) (hf : ∀ env ∈ fr, env.frame ≠ some a) : Dyn c.h₀ c.P fr (upd H a t o) s := by
  refine ⟨x.keep, fun env he => ?_, fun b t2 o2 q => ?_⟩
  · obtain ⟨hk, L, oL, b1, c1, d1, e1, f1⟩ := x.ff env he
    have ne : L ≠ a := fun z => hf env he (by rw [b1, z])
    exact ⟨hk, L, oL, b1, c1, (upd_ne H t o ne).trans d1, e1, f1⟩
  · by_cases z : b = a
    · subst z; rw [upd_same] at q; cases q; exact ⟨n₀, ob, e, r⟩
    · rw [upd_ne H t o z] at q; exact x.obj b t2 o2 q

theorem bs_false {es : List Expr} {env : Env} : (forIn es false fun c r => if r = true then do let ok ← isTrue c env (eval c env); pure (ForInStep.yield ok) else pure (ForInStep.yield r) : Sem Bool) = pure false := by
  induction es with
  | nil => rfl
  | cons e es ih =>
    rw [List.forIn_cons]
    simp only [Bool.false_eq_true, if_false]
    exact ih

noncomputable abbrev testsOf (es : List Expr) (env : Env) : Sem Bool := forIn es true fun c r => if r = true then do let ok ← isTrue c env (eval c env); pure (ForInStep.yield ok) else pure (ForInStep.yield r)

theorem tests_nil : TsOK c A env fr vm (testsOf [] env) (wpXs c d q []).2 := fun σ H s Q Z f dy hw => wpAny_pure ⟨H, dy, .rfl0 _ _, hw⟩
theorem tests_cons {e : Expr} {es : List Expr} {a : E} {as : List E} (x : TsOK c A env fr vm (isTrue e env (eval e env)) (wpX c d q a).2) (y : TsOK c A env fr vm (testsOf es env) (wpXs c d q as).2) : TsOK c A env fr vm (testsOf (e :: es) env) (wpXs c d q (a :: as)).2 := fun σ H s Q Z f dy hw => by
  unfold testsOf
  rw [List.forIn_cons]
  simp only [if_true]
  refine wpAny_bind (wpAny_bind (x.then (.rfl0 _ _) f dy hw fun b H' s' f' dy' e' _ hq => wpAny_pure ?_))
  dsimp only
  cases b with
  | true => exact y.then e' f' dy' hq fun b H2 s2 f2 dy2 e2 _ hq2 => ⟨H2, dy2, e2, hq2⟩
  | false => rw [bs_false]; exact wpAny_pure ⟨H', dy', e', hq⟩
end
end Mine
end
section
set_option autoImplicit false
set_option linter.unusedVariables false
set_option linter.unusedSimpArgs false
set_option genSizeOf false
set_option genInjectivity false
namespace Mine
open PySem PySem.Calls PyProof.Rows

theorem Ext.adopt {H H' : MH} {s s' : Shared} {D : Addr} {t : Tag} {o : MObj} (x : Ext noX H s H' s') (h : s.heap.get? D = none) : Ext noX H s (upd H' D t o) s' := by
  refine ⟨x.old, x.frm, x.soft, x.alive, fun a ha => ?_, fun a ha ha' => ?_, fun _ z => z.elim, x.gens, x.os⟩
  · by_cases z : a = D
    · subst z; rw [upd_same]; simp
    · rw [upd_ne _ _ _ z]; exact x.dom a ha
  · by_cases z : a = D
    · subst z; exact h
    · rw [upd_ne _ _ _ z] at ha'; exact x.new a ha ha'

noncomputable def VMlt (vm : VM) (k : Nat) : Prop := ∀ x i, vm.lookup x = some i → i < k

theorem lookup_filter {vm : VM} {P : Str → Bool} {x : Str} {i : Nat} (h : (vm.filter fun p => P p.1).lookup x = some i) : vm.lookup x = some i ∧ P x = true := by
  induction vm with
  | nil => cases h
  | cons p r ih =>
    obtain ⟨y, j⟩ := p
    simp only [List.filter_cons] at h
    by_cases hp : P y = true
    · rw [if_pos hp] at h
      rw [List.lookup_cons] at h ⊢
      cases hx : x == y with
      | true => rw [hx] at h; simp only at h ⊢; exact ⟨h, by rw [eq_of_beq hx]; exact hp⟩
      | false => rw [hx] at h; exact ih h
    · rw [if_neg hp] at h
      obtain ⟨a, b⟩ := ih h
      refine ⟨?_, b⟩
      rw [List.lookup_cons]
      cases hx : x == y with
      | true => rw [← eq_of_beq hx] at hp; exact absurd b hp
      | false => exact a


theorem relab_free {sc names : Sc} {x : Str} (h : names.lookup x = some .free) : (relab sc names).lookup x = some .free ∨ (relab sc names).lookup x = some .cell := by
  induction names with
  | nil => cases h
  | cons p r ih =>
    obtain ⟨y, k⟩ := p
    rw [List.lookup_cons] at h
    simp only [relab, List.map_cons]
    cases hx : x == y with
    | true =>
      rw [hx] at h; simp only [Option.some.injEq] at h; subst h
      split <;> simp [List.lookup_cons, hx]
    | false =>
      rw [hx] at h
      have := ih h
      split <;> (rw [List.lookup_cons]; simp only [hx]; exact this)
theorem relab_local {sc names : Sc} {x : Str} (h : names.lookup x = some .local) : (relab sc names).lookup x = some .local := by
  induction names with
  | nil => cases h
  | cons p r ih =>
    obtain ⟨y, k⟩ := p
    rw [List.lookup_cons] at h
    simp only [relab, List.map_cons]
    cases hx : x == y with
    | true =>
      rw [hx] at h; simp only [Option.some.injEq] at h; subst h
      simp [List.lookup_cons, hx]
    | false =>
      rw [hx] at h
      have := ih h
      split <;> (rw [List.lookup_cons]; simp only [hx]; exact this)

section
variable {c : Cfg} {A : Around} {fr : List Env} {vm : VM} {env : Env} {d : Nat} {q : Bool} {H : MH} {s : Shared} {sc : Sc}

structure CompOK (sc : Sc) (vm : VM) (k : Nat) (scope : Scope) (x : Str) : Prop where
  kind : scope.kind = .function
  nocell : ∀ p ∈ scope.names, p.2 ≠ .cell
  xloc : scope.names.lookup x = some .local
  locs : ∀ p ∈ scope.names, p.2 = .local → scope.names.lookup p.1 = some .local
  free : ∀ p ∈ scope.names, p.2 = .free → (vm.lookup p.1).isSome = true ∧ sc.lookup p.1 ≠ some .local ∧ p.1 ≠ x
  lt : VMlt vm k


theorem comp_env0 {scope : Scope} {cl : List (Str × Addr)} {C : Addr} {k : Nat} {x : Str} (e0 : Env0 env sc fr) (ok : CompOK sc vm k scope x) : Env0 (compEnvC scope cl C env) (relab sc scope.names) fr := by
  refine ⟨ok.kind, ?_, e0.glob, e0.buil, e0.top, ?_⟩
  · show (relabel scope env).names = _
    simp only [relabel, relab]
    refine List.map_congr_left fun p _ => ?_
    simp [e0.kind, Env.kindOf, e0.names]
  · show interactive _ = false
    simp [interactive, compEnvC, relabel, ok.kind]

theorem mem_of_lookup {α : Type} {l : List (Str × α)} {x : Str} {v : α} (h : l.lookup x = some v) : (x, v) ∈ l := by
  induction l with
  | nil => cases h
  | cons p r ih =>
    obtain ⟨y, w⟩ := p
    rw [List.lookup_cons] at h
    cases hx : x == y with
    | true => rw [hx] at h; simp only [Option.some.injEq] at h; subst h; rw [eq_of_beq hx]; exact .head _
    | false => rw [hx] at h; exact .tail _ (ih h)

theorem comp_fr {scope : Scope} {C : Addr} {k : Nat} {x : Str} {σ : Lcs} {m : MVal} {v : Value} {o : Obj} {es : Array DictEntry} {n : Nat} {mm : Str → Option Value} (e0 : Env0 env sc fr) (ok : CompOK sc vm k scope x) (f : FrOK c.h₀ env vm σ H s.heap)
    (hC : s.heap.get? C = some o) (hc : o.cls = .type "dict") (hd : o.data = .dict es n) (hn : s.heap.Ns C mm) (hx : mm x = some v) (hv : VR s.heap m v) (hH : H C = none) (n₀ : c.h₀.get? C = none) (hk : k < σ.length) :
    FrOK c.h₀ (compEnvC scope (closeOver scope.names env []) C env) (compVM vm k scope x) (ls σ k (some m)) H s.heap := by
  have e0' : Env0 (compEnvC scope (closeOver scope.names env []) C env) (relab sc scope.names) fr := comp_env0 e0 ok
  have kd : ∀ y, (compEnvC scope (closeOver scope.names env []) C env).kindOf y = (relab sc scope.names).lookup y := fun y => by unfold Env.kindOf; rw [e0'.names]
  have key : ∀ y i, (compVM vm k scope x).lookup y = some i → (y = x ∧ i = k) ∨ (y ≠ x ∧ vm.lookup y = some i ∧ scope.names.lookup y = some .free) := by
    intro y i h
    rw [List.lookup_cons] at h
    cases hy : y == x with
    | true => rw [hy] at h; simp only [Option.some.injEq] at h; exact .inl ⟨eq_of_beq hy, h.symm⟩
    | false =>
      rw [hy] at h
      obtain ⟨a, b⟩ := lookup_filter (P := fun z => scope.names.lookup z == some .free) h
      exact .inr ⟨fun z => by rw [z] at hy; simp at hy, a, eq_of_beq b⟩
  refine ⟨⟨mm, o, es, n, hC, .inr hc, hd, hn, fun y i a b => ?_⟩, fun y i a b => ?_, fun a ha => ?_, fun y i a => ?_⟩
  · rcases key y i a with ⟨rfl, rfl⟩ | ⟨_, _, hf⟩
    · rw [lg_ls _ _ _ _ hk, if_pos rfl]; exact ⟨v, hx, hv⟩
    · rw [kd] at b
      rcases relab_free (sc := sc) hf with z | z <;> rw [z] at b <;> cases b
  · rcases key y i a with ⟨rfl, rfl⟩ | ⟨hne, hvm, hf⟩
    · exact absurd (by rw [kd]; exact relab_local ok.xloc) b
    · have hfree := ok.free (y, .free) (mem_of_lookup hf) rfl
      obtain ⟨_, cc, oc, vv, l1, l2, l3, l4, l5⟩ := f.cel y i hvm (by unfold Env.kindOf; rw [e0.names]; exact hfree.2.1)
      refine ⟨by rw [kd]; exact (relab_free (sc := sc) hf).symm, cc, oc, vv, closeOver_lookup l1 _ _ (.inl ⟨_, mem_of_lookup hf, rfl, rfl⟩), l2, l3, l4, ?_⟩
      have : i ≠ k := Nat.ne_of_lt (ok.lt y i hvm)
      rw [lg_ls _ _ _ _ hk, if_neg this]; exact l5
  · rcases ha with ha | ⟨y, hy⟩
    · have ha : a = C := ha
      subst ha; exact ⟨hH, n₀, by rw [hC]; simp⟩
    · rcases closeOver_mem scope.names [] y a hy with z | z
      · cases z
      · exact f.own a (.inr ⟨y, z⟩)
  · rw [ls_length]
    rcases key y i a with ⟨rfl, rfl⟩ | ⟨_, hvm, _⟩
    · exact hk
    · exact f.size y i hvm
end
end Mine
end
section
set_option autoImplicit false
set_option linter.unusedVariables false
set_option linter.unusedSimpArgs false
namespace Mine
open PySem PySem.Calls PyProof.Rows
open Sem (wp)

theorem putName_shape (name : Str) (h : Int) (key v : Value) {o : Obj} {es : Array DictEntry} {n : Nat} (hd : o.data = .dict es n) : ∃ es' n', Obj.putName name h key v o = { o with data := .dict es' n' } := by
  obtain ⟨a, b, dt, sl⟩ := o
  simp only at hd; subst hd
  simp only [Obj.putName_eq, Obj.putNameByArray]
  split
  · exact ⟨_, _, rfl⟩
  · exact ⟨_, _, rfl⟩

/-- a name is set in a namespace: the object changes in its entries alone -/
theorem nsSet_at {M : Model} {A : Around} {E : Value → Shared → Prop} {s : Shared} {a : Addr} {m : Str → Option Value} {o : Obj} {name : Str} {v : Value} {Q : Unit → Shared → Prop} (ho : s.heap.get? a = some o) (hn : s.heap.Ns a m)
    (h : ∀ h' es n, h'.get? a = some { o with data := .dict es n } → h'.Ns a (fun x => if x = name then some v else m x) → Heap.SameBut a s.heap h' → Q () { s with heap := h', toks := s.toks + 1 }) : wpAny M A (nsSet a name v) Q E s := by
  intro Γ p hΓ
  obtain ⟨o', es, ep, ho', hd, hk, hm⟩ := hn
  rw [ho] at ho'; cases ho'
  have hn : s.heap.Ns a m := ⟨o, es, ep, ho, hd, hk, hm⟩
  have hany : es.any (·.refKey) = false := by
    rw [Array.any_eq_false']; intro e he; obtain ⟨n, t, h⟩ := hk e he; simp [DictEntry.refKey, h]
  have key : ∃ hs : Int, ∀ (E' : Value → Pos → Shared → Prop) (Q' : Unit → Pos → Shared → Prop), wp M Γ (nsSet a name v) Q' E' p s = ((s.heap.get? a).isSome = true ∧ Q' () p { s with heap := s.heap.update a (Obj.putName name hs (.str name s.toks) v), toks := s.toks + 1 }) := by
    refine ⟨if name.cps.isEmpty then 0 else reduceHash (M.w.params.strHash name.cps), fun E' Q' => ?_⟩
    simp only [nsSet, strHash, Sem.wp_bind', Sem.wp_cmd_ask, Sem.wp_pure', Sem.wp_cmd_mkText]
    rw [Sem.wp_loadPart_of M Γ E' p { s with toks := s.toks + 1 } (o := o) _ ho]
    simp only [hd, aRefKeyMayBeTheName_eq, aRefKeyMayBeTheNameByArray, hany, Bool.and_false, Bool.false_eq_true, if_false, Sem.wp_cmd_updatePart]
  obtain ⟨hs, key⟩ := key
  have two := Sem.wp_nsSet M Γ (fun _ _ _ => True) p s hn name v (fun _ _ s' => s'.heap.Ns a (fun x => if x = name then some v else m x) ∧ Heap.SameBut a s.heap s'.heap) fun h' x y => ⟨x, y⟩
  rw [key] at two
  rw [key]
  obtain ⟨es', n', e⟩ := putName_shape name hs (.str name s.toks) v hd
  refine ⟨two.1, h _ es' n' ?_ two.2.1 two.2.2⟩
  rw [Heap.get?_update_self _ ho (by rw [e]; rfl), e]

theorem cellSet_at {M : Model} {A : Around} {E : Value → Shared → Prop} {s : Shared} {a : Addr} {o : Obj} {v₀ v : Option Value} {Q : Unit → Shared → Prop} (ho : s.heap.get? a = some o) (hd : o.data = .cell v₀)
    (h : ∀ h', h'.get? a = some { o with data := .cell v } → Heap.SameBut a s.heap h' → Q () { s with heap := h' }) : wpAny M A (cellSet a v) Q E s := by
  unfold cellSet
  refine wpAny_bind (wpAny_load ho ?_)
  rw [hd]
  exact wpAny_update ho (h _ (Heap.get?_update_self _ ho rfl) (Heap.SameBut.update ..))

theorem FrOK.extX {h₀ : Heap} {env : Env} {vm : VM} {σ : Lcs} {H H' : MH} {s s' : Shared} {X : Addr → Prop} (x : FrOK h₀ env vm σ H s.heap) (e : Ext X H s H' s') (nx : ∀ a, X a → ¬ owns env a) : FrOK h₀ env vm σ H' s'.heap := by
  obtain ⟨⟨m, o, es, n, ho, hc, hd, hn, hv⟩, hcel, hown, hsz⟩ := x
  have nL : ¬ X env.locals := fun z => nx _ z (.inl rfl)
  have hL : ∃ sl, s'.heap.get? env.locals = some { o with slots := sl } := by
    rcases hc with hc | hc
    · exact e.frm _ _ ho (hown _ (.inl rfl)).1 nL hc
    · exact ⟨o.slots, e.old _ _ ho (hown _ (.inl rfl)).1 nL (by rw [hc]; simp) (by rw [hc]; simp)⟩
  obtain ⟨sl, hL⟩ := hL
  refine ⟨⟨m, _, es, n, hL, hc, hd, ?_, fun y i a b => (hv y i a b).soft e.soft⟩, fun y i a b => ?_, fun a ha => ?_, hsz⟩
  · obtain ⟨o2, es2, ep, g1, g2, g3, g4⟩ := hn
    rw [ho] at g1; cases g1
    exact ⟨_, es2, ep, hL, g2, g3, g4⟩
  · obtain ⟨k, c, oc, v, l1, l2, l3, l4, l5⟩ := hcel y i a b
    exact ⟨k, c, oc, v, l1, e.old _ _ l2 (hown _ (.inr ⟨y, l1⟩)).1 (fun z => nx _ z (.inr ⟨y, l1⟩)) (by rw [l3]; simp) (by rw [l3]; simp), l3, l4, l5.soft e.soft⟩
  · obtain ⟨a1, a2, a3⟩ := hown a ha
    exact ⟨e.un a3 a1, a2, e.alive a (fun z => nx _ z ha) a3⟩

noncomputable def VMinj (vm : VM) : Prop := ∀ x y i, vm.lookup x = some i → vm.lookup y = some i → x = y
noncomputable def Apart (env : Env) : Prop := ∀ x y a, env.cells.lookup x = some a → env.cells.lookup y = some a → x = y

section
variable {c : Cfg} {A : Around} {fr : List Env} {vm : VM} {env : Env} {H : MH} {s : Shared} {sc : Sc} {σ : Lcs} {Q : Unit → Shared → Prop} {Z : Value → Shared → Prop}

theorem store_snd {x : Str} {i : Nat} {m : MVal} {v : Value} (e0 : Env0 env sc fr) (inj : VMinj vm) (ap : Apart env) (f : FrOK c.h₀ env vm σ H s.heap) (dy : Dyn c.h₀ c.P fr H s) (hv : vm.lookup x = some i) (r : VR s.heap m v)
    (k : ∀ s', FrOK c.h₀ env vm (ls σ i (some m)) H s'.heap → Dyn c.h₀ c.P fr H s' → Ext (owns env) H s H s' → Q () s') : wpAny c.M A (storeName env x v) Q Z s := by
  have hi : i < σ.length := f.size x i hv
  obtain ⟨mm, o, es, n, ho, hc, hd, hn, hvl⟩ := f.loc
  obtain ⟨hHL, h₀L, haL⟩ := f.own _ (.inl rfl)
  have hox : ∀ a, owns env a → H a = none := fun a ha => (f.own a ha).1
  by_cases hk : env.kindOf x = some .local
  · rw [storeName_local hk (by rw [e0.kind]; rfl)]
    refine nsSet_at ho hn fun h' es' n' g hn' hs => ?_
    obtain ⟨dy', ex⟩ := dy.own (X := owns env) (s' := { s with heap := h', toks := s.toks + 1 }) hs.extBut (.inl rfl) hHL h₀L ho g rfl (by
      rcases hc with hc | hc
      · exact .inr ⟨hc, _, _, rfl⟩
      · left; rw [hc]; simp [softCls]) hox
    refine k _ ⟨⟨_, _, es', n', g, hc, rfl, hn', fun y j a b => ?_⟩, fun y j a b => ?_, fun a ha => ⟨hox a ha, (f.own a ha).2.1, ?_⟩, fun y j a => by rw [ls_length]; exact f.size y j a⟩ dy' ex
    · rw [lg_ls _ _ _ _ hi]
      by_cases hj : j = i
      · subst hj
        obtain rfl := inj y x j a hv
        rw [if_pos rfl, if_pos rfl]
        exact ⟨v, rfl, r.soft ex.soft⟩
      · have hy : y ≠ x := fun z => by subst z; rw [hv] at a; cases a; exact hj rfl
        rw [if_neg hj, if_neg hy]
        exact (hvl y j a b).soft ex.soft
    · obtain ⟨kd, cc, oc, vv, l1, l2, l3, l4, l5⟩ := f.cel y j a b
      have hy : y ≠ x := fun z => by subst z; exact b hk
      have hj : j ≠ i := fun z => by subst z; exact hy (inj y x j a hv)
      have ne : cc ≠ env.locals := fun z => by subst z; rw [ho] at l2; cases l2; rw [hd] at l4; cases l4
      refine ⟨kd, cc, oc, vv, l1, hs.extBut _ _ ne l2, l3, l4, ?_⟩
      rw [lg_ls _ _ _ _ hi, if_neg hj]; exact l5.soft ex.soft
    · by_cases z : a = env.locals
      · subst z; show h'.get? _ ≠ none; rw [g]; simp
      · show h'.get? _ ≠ none; rw [hs.2 a z]; exact (f.own a ha).2.2
  · obtain ⟨kd, cc, oc, vv, l1, l2, l3, l4, l5⟩ := f.cel x i hv hk
    have hown : owns env cc := .inr ⟨x, l1⟩
    obtain ⟨hHc, h₀c, hac⟩ := f.own _ hown
    have ne : env.locals ≠ cc := fun z => by rw [z] at ho; rw [ho] at l2; cases l2; rw [hd] at l4; cases l4
    have fin : ∀ h', h'.get? cc = some { oc with data := .cell (some v) } → Heap.SameBut cc s.heap h' → Q () { s with heap := h' } := by
      intro h' g hs
      obtain ⟨dy', ex⟩ := dy.own (X := owns env) (s' := { s with heap := h' }) hs.extBut hown hHc h₀c l2 g rfl (by left; rw [l3]; simp [softCls]) hox
      have ho' : h'.get? env.locals = some o := hs.extBut _ _ ne ho
      refine k _ ⟨⟨mm, o, es, n, ho', hc, hd, hn.sameBut hs ne, fun y j a b => ?_⟩, fun y j a b => ?_, fun a ha => ⟨hox a ha, (f.own a ha).2.1, ?_⟩, fun y j a => by rw [ls_length]; exact f.size y j a⟩ dy' ex
      · have hy : y ≠ x := fun z => by subst z; exact hk b
        have hj : j ≠ i := fun z => by subst z; exact hy (inj y x j a hv)
        rw [lg_ls _ _ _ _ hi, if_neg hj]; exact (hvl y j a b).soft ex.soft
      · obtain ⟨kd2, c2, o2, v2, p1, p2, p3, p4, p5⟩ := f.cel y j a b
        rw [lg_ls _ _ _ _ hi]
        by_cases hj : j = i
        · subst hj
          obtain rfl := inj y x j a hv
          exact ⟨kd, cc, _, some v, l1, g, l3, rfl, by rw [if_pos rfl]; exact ⟨v, rfl, r.soft ex.soft⟩⟩
        · have hy : y ≠ x := fun z => by subst z; rw [hv] at a; cases a; exact hj rfl
          have ne2 : c2 ≠ cc := fun z => by subst z; exact hy (ap y x c2 p1 l1)
          exact ⟨kd2, c2, o2, v2, p1, hs.extBut _ _ ne2 p2, p3, p4, by rw [if_neg hj]; exact p5.soft ex.soft⟩
      · by_cases z : a = cc
        · subst z; show h'.get? _ ≠ none; rw [g]; simp
        · show h'.get? _ ≠ none; rw [hs.2 a z]; exact (f.own a ha).2.2
    rcases kd with kd | kd
    · unfold storeName
      simp only [kd, e0.kind]
      exact wpAny_bind (wpAny_cellOf l1 (cellSet_at l2 l4 fin))
    · unfold storeName
      simp only [kd, e0.kind]
      exact wpAny_bind (wpAny_cellOf l1 (cellSet_at l2 l4 fin))
end
end Mine
end
section
set_option autoImplicit false
set_option genSizeOf false
set_option genInjectivity false
set_option linter.unusedVariables false
set_option linter.unusedSimpArgs false
namespace Mine
open PySem PySem.Calls PyProof.Rows

section
variable {c : Cfg} {A : Around} {fr : List Env} {vm : VM} {env : Env} {d : Nat} {q : Bool} {H : MH} {s : Shared} {sc : Sc} {σ : Lcs}

theorem ItSt.alive {h : Heap} {I : Addr} {u : MVal} {its : List MVal} {i : Nat} (st : ItSt H h I u its i) : h.get? I ≠ none := by
  cases u with
  | ref a => rcases st with ⟨t, ha, oi, o1, _⟩ | ⟨t, n, es, ha, hi', oi, o1, _⟩ <;> exact fun z => no (z.symm.trans o1)
  | rng lo hi => exact fun z => no (z.symm.trans st.2)
  | _ => exact False.elim st

noncomputable abbrev three (I C D : Addr) : Addr → Prop := fun a => a = I ∨ a = C ∨ a = D

noncomputable abbrev turnW (c : Cfg) (d : Nat) (q : Bool) (elt : E) (x : Nat) (cs : List E) (σ : Lcs) (v : MVal) (H' : MH) (k : Option MVal → MH → Prop) : Prop :=
  (wpXs c d q cs).2 (ls σ x (some v)) H' (fun r H'' => if r then (wpX c d q elt).1 (ls σ x (some v)) H'' (fun y H₃ => k (some y) H₃) (fun _ _ => False) else k Option.none H'') (fun _ _ => False)

/-- what holds at each turn of a comprehension -/
inductive CInv (c : Cfg) (fr : List Env) (I C D : Addr) (u : MVal) (its : List MVal) (H : MH) (s : Shared) (W : List MVal → List MVal → MH → Prop) (n : Nat) (s' : Shared) : Prop
  | mk (i : Nat) (H' : MH) (acc : List MVal) (vs : Array Value) (nn : Nat) (mm : Str → Option Value) (oC : Obj) (es : Array DictEntry) (m : Nat) (hn : n = its.length + 1 - i) (hi : i ≤ its.length) (dy : Dyn c.h₀ c.P fr H' s') (ex : Ext (three I C D) H s H' s') (st : ItSt H' s'.heap I u its i)
    (gD : s'.heap.get? D = some ⟨.type "list", none, .seq vs nn, #[]⟩) (sz : vs.size ≤ i) (r : VRs s'.heap acc vs.toList) (gC : s'.heap.get? C = some oC) (cC : oC.cls = .type "dict") (dC : oC.data = .dict es m) (ns : s'.heap.Ns C mm) (hw : W (its.drop i) acc H') : CInv c fr I C D u its H s W n s'

theorem comp_loop {elt iter : Expr} {ifs : List Expr} {scope : Scope} {pos px : Pos} {x : Str} {k : Nat} {I C D : Addr} {u : MVal} {its : List MVal} {e' : E} {cs : List E} {R : Result → Shared → Prop} {o : Option MObj} {Q' : List MVal → MH → Prop}
    {oC : Obj} {esC : Array DictEntry} {nC nD : Nat} {mC : Str → Option Value} (hh : A.handled = none) (e0 : Env0 env sc fr) (ok : CompOK sc vm k scope x)
    (ts : TsOK c A (compEnvC scope (closeOver scope.names env []) C env) fr (compVM vm k scope x) (testsOf ifs (compEnvC scope (closeOver scope.names env []) C env)) (wpXs c d q cs).2)
    (ev : EvOK c A (compEnvC scope (closeOver scope.names env []) C env) fr (compVM vm k scope x) (eval elt (compEnvC scope (closeOver scope.names env []) C env)) (wpX c d q e').1)
    (f : FrOK c.h₀ env vm σ H s.heap) (dy : Dyn c.h₀ c.P fr H s) (hk : k < σ.length) (hl : its.length ≤ 2 ^ 20) (st : ItSt H s.heap I u its 0)
    (hX : ∀ a, three I C D a → H a = none ∧ c.h₀.get? a = none ∧ ¬ owns env a) (nIC : I ≠ C) (nID : I ≠ D) (nCD : C ≠ D)
    (gC : s.heap.get? C = some oC) (cC : oC.cls = .type "dict") (dC : oC.data = .dict esC nC) (nsC : s.heap.Ns C mC)
    (gD : s.heap.get? D = some ⟨.type "list", none, .seq #[] nD, #[]⟩) (so : o = srcObj H u)
    (hw : compW u o (turnW c d q e' k cs σ) its [] H Q')
    (fin : ∀ H' s' ys vs n mm oC', Dyn c.h₀ c.P fr H' s' → Ext (three I C D) H s H' s' → s'.heap.get? D = some ⟨.type "list", none, .seq vs n, #[]⟩ → vs.size ≤ BIG → VRs s'.heap ys vs.toList → s'.heap.get? C = some oC' → oC'.cls = .type "dict" → s'.heap.Ns C mm → Q' ys H' → R (.ok .next) s') :
    codeAny c.M A (.compLoop (.ListComp elt [⟨.Name x px, iter, ifs, 0⟩] scope pos) 0 (.ref I) (.ref D) (compEnvC scope (closeOver scope.names env []) C env)) R s := by
  have hXn : ∀ {H' : MH} {s' : Shared}, Ext (three I C D) H s H' s' → ∀ a, three I C D a → H' a = none := fun e a ha => e.xno a ha
  refine codeAny_compLoop_tests (CInv c fr I C D u its H s fun l acc H' => compW u o (turnW c d q e' k cs σ) l acc H' Q') ?_ (its.length + 1)
    ⟨0, H, [], #[], nD, mC, oC, esC, nC, rfl, Nat.zero_le _, dy, .refl _ _ (fun a ha => (hX a ha).1), st, gD, by simp, by simp [VRs], gC, cC, dC, nsC, hw⟩
  rintro n s₁ ⟨i, H₁, acc, vs, nn, mm, oC₁, es₁, n₁, rfl, hi, dy₁, ex₁, st₁, gD₁, sz₁, r₁, gC₁, cC₁, dC₁, nsC₁, hw₁⟩
  by_cases hlt : i < its.length
  · obtain ⟨m, hm⟩ : ∃ m, its[i]? = some m := ⟨_, List.getElem?_eq_getElem hlt⟩
    have hdrop : its.drop i = m :: its.drop (i + 1) := by rw [List.drop_eq_getElem_cons hlt]; rw [List.getElem?_eq_getElem hlt] at hm; cases hm; rfl
    have hw₁ : compW u o (turnW c d q e' k cs σ) (its.drop i) acc H₁ Q' := hw₁
    rw [hdrop] at hw₁
    obtain ⟨so₁, hw₁⟩ := hw₁
    refine it_item dy₁ st₁ (hXn ex₁ _ (.inl rfl)) (hX _ (.inl rfl)).2.1 hm fun v s₂ rv dy₂ ex₂ st₂ => ?_
    have ex₂' : Ext (three I C D) H s H₁ s₂ := ex₁.trans (ex₂.widen (fun a z => .inl z) (hXn ex₁))
    have gC₂ : s₂.heap.get? C = some oC₁ := ex₂.old _ _ gC₁ (hXn ex₁ _ (.inr (.inl rfl))) (fun z => nIC z.symm) (by rw [cC₁]; simp) (by rw [cC₁]; simp)
    have gD₂ : s₂.heap.get? D = some ⟨.type "list", none, .seq vs nn, #[]⟩ := ex₂.old _ _ gD₁ (hXn ex₁ _ (.inr (.inr rfl))) (fun z => nID z.symm) (by simp) (by simp)
    have nsC₂ : s₂.heap.Ns C mm := nsC₁.at' fun o' e => by rw [gC₁] at e; cases e; exact gC₂
    have kx : (compEnvC scope (closeOver scope.names env []) C env).kindOf x = some .local := by unfold Env.kindOf; rw [(comp_env0 (cl := closeOver scope.names env []) (C := C) e0 ok).names]; exact relab_local ok.xloc
    refine wpAny_assign_Name ?_
    rw [storeName_local kx (by show (_ || _) = false; simp [compEnvC, relabel, ok.kind])]
    refine nsSet_at (a := C) (o := oC₁) gC₂ nsC₂ fun h₃ es₃ n₃ g₃ ns₃ hs₃ => ?_
    obtain ⟨dy₃, ex₃⟩ := dy₂.own (X := three I C D) (s' := { s₂ with heap := h₃, toks := s₂.toks + 1 }) hs₃.extBut (.inr (.inl rfl)) (hXn ex₁ _ (.inr (.inl rfl))) (hX _ (.inr (.inl rfl))).2.1 gC₂ g₃ rfl (by left; rw [cC₁]; simp [softCls]) (hXn ex₁)
    have ex₃' := ex₂'.trans ex₃
    have f₃ : FrOK c.h₀ env vm σ H₁ h₃ := f.extX (s' := { s₂ with heap := h₃, toks := s₂.toks + 1 }) ex₃' fun a ha => (hX a ha).2.2
    have fc := comp_fr (s := { s₂ with heap := h₃, toks := s₂.toks + 1 }) (v := v) e0 ok f₃ g₃ cC₁ rfl ns₃ (by rw [if_pos rfl]) (rv.soft ex₃.soft) (hXn ex₁ _ (.inr (.inl rfl))) (hX _ (.inr (.inl rfl))).2.1 hk
    have st₃ : ItSt H₁ h₃ I u its (i + 1) := by
      have := st₂
      have e3 : Ext (· = C) H₁ s₂ H₁ { s₂ with heap := h₃, toks := s₂.toks + 1 } := (dy₂.own (X := (· = C)) (s' := { s₂ with heap := h₃, toks := s₂.toks + 1 }) hs₃.extBut rfl (hXn ex₁ _ (.inr (.inl rfl))) (hX _ (.inr (.inl rfl))).2.1 gC₂ g₃ rfl (by left; rw [cC₁]; simp [softCls]) (fun a z => hXn ex₁ a (.inr (.inl z)))).2
      exact this.keep e3 (hXn ex₁ _ (.inl rfl)) nIC rfl
    have gD₃ : h₃.get? D = some ⟨.type "list", none, .seq vs nn, #[]⟩ := hs₃.extBut _ _ (fun z => nCD z.symm) gD₂
    have step : ∀ {H₅ : MH} {s₅ : Shared}, Ext noX H₁ { s₂ with heap := h₃, toks := s₂.toks + 1 } H₅ s₅ → Ext (three I C D) H s H₅ s₅ := fun e => ex₃'.trans (e.weaken fun a ha => ⟨hXn ex₁ a ha, by
      rcases ha with rfl | rfl | rfl
      · exact st₃.alive
      · show h₃.get? _ ≠ none; rw [g₃]; simp
      · show h₃.get? _ ≠ none; rw [gD₃]; simp⟩)
    have keepC : ∀ {H₅ : MH} {s₅ : Shared}, Ext noX H₁ { s₂ with heap := h₃, toks := s₂.toks + 1 } H₅ s₅ → s₅.heap.get? C = some { oC₁ with data := .dict es₃ n₃ } := fun e => e.old _ _ g₃ (hXn ex₁ _ (.inr (.inl rfl))) (fun z => z) (by show oC₁.cls ≠ _; rw [cC₁]; simp) (by show oC₁.cls ≠ _; rw [cC₁]; simp)
    have keepD : ∀ {H₅ : MH} {s₅ : Shared}, Ext noX H₁ { s₂ with heap := h₃, toks := s₂.toks + 1 } H₅ s₅ → s₅.heap.get? D = some ⟨.type "list", none, .seq vs nn, #[]⟩ := fun e => e.old _ _ gD₃ (hXn ex₁ _ (.inr (.inr rfl))) (fun z => z) (by simp) (by simp)
    have keepI : ∀ {H₅ : MH} {s₅ : Shared}, Ext noX H₁ { s₂ with heap := h₃, toks := s₂.toks + 1 } H₅ s₅ → srcObj H₅ u = o → ItSt H₅ s₅.heap I u its (i + 1) := fun e z => st₃.keep e (hXn ex₁ _ (.inl rfl)) (fun z => z) (z.trans so₁.symm)
    have headsrc : ∀ {l : List MVal} {a : List MVal} {H₅ : MH}, compW u o (turnW c d q e' k cs σ) l a H₅ Q' → srcObj H₅ u = o := fun {l a H₅} h => by cases l <;> exact h.1
    have ns₃' : ∀ {H₅ : MH} {s₅ : Shared}, Ext noX H₁ { s₂ with heap := h₃, toks := s₂.toks + 1 } H₅ s₅ → s₅.heap.Ns C (fun z => if z = x then some v else mm z) := fun e => ns₃.at' fun o' e' => by rw [g₃] at e'; cases e'; exact keepC e
    refine wpAny_mono (ts _ _ _ _ _ fc dy₃ hw₁) (fun b s₄ ⟨H₄, dy₄, ex₄, hq⟩ => ?_) (fun _ _ ⟨_, _, _, _, _, _, z⟩ => z.elim)
    cases b with
    | false =>
      rw [if_neg (by decide)] at hq
      rw [if_neg (by decide)]
      exact ⟨its.length + 1 - (i + 1), by omega, i + 1, H₄, acc, vs, nn, _, _, es₃, n₃, rfl, hlt, dy₄, step ex₄, keepI ex₄ (headsrc hq), keepD ex₄, by omega, (r₁.soft (ex₂.soft.trans ex₃.soft)).soft ex₄.soft, keepC ex₄, cC₁, rfl, ns₃' ex₄, hq⟩
    | true =>
      rw [if_pos rfl] at hq
      rw [if_pos rfl]
      refine wpAny_mono (ev _ _ _ _ _ (fc.ext ex₄) dy₄ hq) (fun y s₅ ⟨my, H₅, ry, dy₅, ex₅, hq₅⟩ => ?_) (fun _ _ ⟨_, _, _, _, _, _, z⟩ => z.elim)
      have ex45 := ex₄.trans ex₅
      have big := sizeLine_big
      refine append_at (hsz := by omega) (keepD ex45) fun h₆ hs₆ g₆ => ?_
      obtain ⟨dy₆, ex₆⟩ := dy₅.own (X := three I C D) (s' := { s₅ with heap := h₆ }) hs₆.extBut (.inr (.inr rfl)) (hXn (step ex45) _ (.inr (.inr rfl))) (hX _ (.inr (.inr rfl))).2.1 (keepD ex45) g₆ rfl (by left; simp [softCls]) (hXn (step ex45))
      have e6 : Ext (· = D) H₅ s₅ H₅ { s₅ with heap := h₆ } := (dy₅.own (X := (· = D)) (s' := { s₅ with heap := h₆ }) hs₆.extBut rfl (hXn (step ex45) _ (.inr (.inr rfl))) (hX _ (.inr (.inr rfl))).2.1 (keepD ex45) g₆ rfl (by left; simp [softCls]) (fun a z => hXn (step ex45) a (.inr (.inr z)))).2
      refine ⟨its.length + 1 - (i + 1), by omega, i + 1, H₅, acc ++ [my], vs.push y, nn + 1, _, _, es₃, n₃, rfl, hlt, dy₆, (step ex45).trans ex₆, (keepI ex45 (headsrc hq₅)).keep e6 (hXn (step ex45) _ (.inl rfl)) nID rfl, g₆, by simp; omega, ?_,
        hs₆.extBut _ _ nCD (keepC ex45), cC₁, rfl, (ns₃' ex45).sameBut hs₆ nCD, hq₅⟩
      rw [Array.toList_push]
      exact ((((r₁.soft (ex₂.soft.trans ex₃.soft)).soft ex45.soft).soft ex₆.soft)).append (by simp only [VRs]; exact ⟨y, [], rfl, ry.soft ex₆.soft, rfl⟩)
  · obtain rfl : i = its.length := Nat.le_antisymm hi (Nat.not_lt.mp hlt)
    have hw₁ : compW u o (turnW c d q e' k cs σ) (its.drop its.length) acc H₁ Q' := hw₁
    rw [List.drop_length] at hw₁
    obtain ⟨so₁, hq⟩ := hw₁
    refine it_end hh dy₁ st₁ (hXn ex₁ _ (.inl rfl)) (hX _ (.inl rfl)).2.1 (Nat.le_refl _) fun s₂ dy₂ ex₂ => ?_
    have gC₂ : s₂.heap.get? C = some oC₁ := ex₂.old _ _ gC₁ (hXn ex₁ _ (.inr (.inl rfl))) (fun z => nIC z.symm) (by rw [cC₁]; simp) (by rw [cC₁]; simp)
    exact fin H₁ s₂ acc vs nn mm oC₁ dy₂ (ex₁.trans (ex₂.widen (fun a z => .inl z) (hXn ex₁))) (ex₂.old _ _ gD₁ (hXn ex₁ _ (.inr (.inr rfl))) (fun z => nID z.symm) (by simp) (by simp))
      (by have := BIG_eq; omega) (r₁.soft ex₂.soft) gC₂ cC₁ (nsC₁.at' fun o' e => by rw [gC₁] at e; cases e; exact gC₂) hq
end
end Mine
end
section
set_option autoImplicit false
set_option linter.unusedVariables false
set_option linter.unusedSimpArgs false
set_option genSizeOf false
set_option genInjectivity false
namespace Mine
open PySem PySem.Calls PyProof.Rows

section
variable {c : Cfg} {A : Around} {fr : List Env} {vm : VM} {env : Env} {d : Nat} {q : Bool} {H : MH} {s : Shared} {sc : Sc} {σ : Lcs}

theorem newEnv_comp {M : Model} {E : Value → Shared → Prop} {scope : Scope} {globals : Addr} {cl : List (Str × Addr)} {qual : Str} {Q : Env → Shared → Prop} (hc : ∀ x ∈ scope.names, x.2 ≠ .cell)
    (hQ : Q (newEnv scope s.heap.objs.size globals cl qual none .none (some env) builtinsNs) { s with heap := s.heap.push { cls := .type "dict", data := .dict #[] } }) : wpAny M A (newFunctionEnv scope globals cl [] qual none .none (some env)) Q E s := by
  simp only [newFunctionEnv, Option.isSome_some, if_true]
  refine wpAny_bind (wpAny_alloc ?_)
  rw [forIn_yield_id cl (fun x hx c => by
    obtain ⟨name, kind⟩ := x
    have : (kind == NameKind.cell) = false := by simpa using hc _ hx
    simp only [this, Bool.false_eq_true, if_false])]
  refine wpAny_bind (wpAny_pure ?_)
  simp only [List.forIn_nil]
  exact wpAny_bind (wpAny_pure (wpAny_pure hQ))

theorem FrOK.adopt {h₀ h : Heap} {D : Addr} {t : Tag} {o : MObj} (f : FrOK h₀ env vm σ H h) (nD : ¬ owns env D) : FrOK h₀ env vm σ (upd H D t o) h :=
  ⟨f.loc, f.cel, fun a ha => ⟨(upd_ne H t o (fun (z : a = D) => nD (z ▸ ha))).trans (f.own a ha).1, (f.own a ha).2⟩, f.size⟩

theorem fresh_own {h₀ h h' : Heap} {a : Addr} (f : FrOK h₀ env vm σ H h) (e : h.get? a = none) : ¬ owns env a := fun z => (f.own a z).2.2 e
theorem fresh_facts {h₀ : Heap} {P : Params} {a : Addr} (dy : Dyn h₀ P fr H s) (e : s.heap.get? a = none) : H a = none ∧ h₀.get? a = none := by
  constructor
  · cases q : H a with
    | none => rfl
    | some z => obtain ⟨t, o⟩ := z; obtain ⟨_, ob, e', _⟩ := dy.obj _ t o q; rw [e] at e'; cases e'
  · cases q : h₀.get? a with
    | none => rfl
    | some z => have := dy.keep _ _ q; rw [e] at this; cases this


/-- the heap behind a comprehension's turns -/
structure CompEnd (c : Cfg) (fr : List Env) (env : Env) (vm : VM) (σ : Lcs) (H : MH) (s : Shared) (ys : List MVal) (D C : Addr) (H' : MH) (s' : Shared) : Prop where
  dy : Dyn c.h₀ c.P fr H' s'
  ex : Ext noX H s H' s'
  fok : FrOK c.h₀ env vm σ H' s'.heap
  nD : s.heap.get? D = none
  nC : s.heap.get? C = none
  hD : H' D = none
  hC : H' C = none
  bD : c.h₀.get? D = none
  bC : c.h₀.get? C = none
  ne : C ≠ D
  oD : ¬ owns env D
  oC : ¬ owns env C
  gD : ∃ vs n, s'.heap.get? D = some ⟨.type "list", none, .seq vs n, #[]⟩ ∧ vs.size ≤ BIG ∧ VRs s'.heap ys vs.toList
  gC : ∃ o mm, s'.heap.get? C = some o ∧ o.cls = .type "dict" ∧ s'.heap.Ns C mm

theorem comp_run (L : Link c) {elt iter : Expr} {ifs : List Expr} {scope : Scope} {pos px p₂ : Pos} {x : Str} {k : Nat} {src e' : E} {cs : List E} {use : Option (Value → Sem Unit)} {Z : Addr → MH → Prop} {Qv : Value → Shared → Prop} {Q' : List MVal → MH → Prop}
    (hh : A.handled = none) (e0 : Env0 env sc fr) (ok : CompOK sc vm k scope x) (hset : ∀ env x, foldedSetIterable iter env x = pure x)
    (xi : EvOK c A env fr vm (eval iter env) (wpX c d q src).1)
    (ts : ∀ C, TsOK c A (compEnvC scope (closeOver scope.names env []) C env) fr (compVM vm k scope x) (testsOf ifs (compEnvC scope (closeOver scope.names env []) C env)) (wpXs c d q cs).2)
    (ev : ∀ C, EvOK c A (compEnvC scope (closeOver scope.names env []) C env) fr (compVM vm k scope x) (eval elt (compEnvC scope (closeOver scope.names env []) C env)) (wpX c d q e').1)
    (f : FrOK c.h₀ env vm σ H s.heap) (dy : Dyn c.h₀ c.P fr H s) (hk : k < σ.length)
    (hw : (wpX c d q src).1 σ H (fun u H₁ => match itemsOf H₁ u with
      | some its => its.length ≤ 2 ^ 20 ∧ compW u (srcObj H₁ u) (turnW c d q e' k cs σ) its [] H₁ Q'
      | Option.none => False) Z)
    (fin : ∀ ys D C H' s', CompEnd c fr env vm σ H s ys D C H' s' → Q' ys H' → compPost c.M A (QE c fr noX H s Z) use Qv (.ref D) C (.ok .next) s') :
    wpAny c.M A (comprehension (.ListComp elt [⟨.Name x px, iter, ifs, 0⟩] scope pos) scope env p₂ (newList []) false (eval iter env) use) Qv (QE c fr noX H s Z) s := by
  refine wpAny_comprehension_free (cl := closeOver scope.names env []) rfl (hset env) (closureFor_eq fun p hp hf => ?_) ok.kind ok.locs ?_
  · obtain ⟨a1, a2, a3⟩ := ok.free p hp hf
    obtain ⟨i, hi⟩ := Option.isSome_iff_exists.mp a1
    obtain ⟨_, cc, _, _, l1, _⟩ := f.cel p.1 i hi (by unfold Env.kindOf; rw [e0.names]; exact a2)
    rw [l1]; rfl
  refine xi.then (.rfl0 _ _) f dy hw fun u v H₁ s₁ rv f₁ dy₁ ex₁ _ hq => ?_
  cases hits : itemsOf H₁ u with
  | none => rw [hits] at hq; exact hq.elim
  | some its =>
    rw [hits] at hq
    obtain ⟨hlen, hcw⟩ := hq
    refine iter_start L dy₁ rv hits hlen fun I s₂ dy₂ ex₂ nI hI bI st₂ => ?_
    refine wpAny_newList ?_ (by decide)
    refine newEnv_comp ok.nocell ?_
    show codeAny c.M A (.compStart _ 0 (.ref I) _ (compEnvC scope (closeOver scope.names env []) _ env)) _ _
    have exD : Ext noX H₁ s₂ H₁ { s₂ with heap := s₂.heap.push { cls := .type "list", data := .seq ([] : List Value).toArray } } := .of_keep (push_keep _ _)
    generalize hs₃ : ({ s₂ with heap := s₂.heap.push { cls := .type "list", data := .seq ([] : List Value).toArray } } : Shared) = s₃ at *
    have gD₃ : s₃.heap.get? s₂.heap.objs.size = some ⟨.type "list", none, .seq #[] 0, #[]⟩ := by subst hs₃; exact Heap.get?_push_size _ rfl
    have dy₃ : Dyn c.h₀ c.P fr H₁ s₃ := by subst hs₃; exact dy₂.of_keep (push_keep _ _)
    have exC : Ext noX H₁ s₃ H₁ { s₃ with heap := s₃.heap.push { cls := .type "dict", data := .dict #[] } } := .of_keep (push_keep _ _)
    have dy₄ : Dyn c.h₀ c.P fr H₁ { s₃ with heap := s₃.heap.push { cls := .type "dict", data := .dict #[] } } := dy₃.of_keep (push_keep _ _)
    have gC₄ : (s₃.heap.push { cls := .type "dict", data := .dict #[] }).get? s₃.heap.objs.size = some { cls := .type "dict", data := .dict #[] } := Heap.get?_push_size _ rfl
    have nC₄ : (s₃.heap.push { cls := .type "dict", data := .dict #[] }).Ns s₃.heap.objs.size (fun _ => none) := Heap.Ns.new ..
    have gD₄ : (s₃.heap.push { cls := .type "dict", data := .dict #[] }).get? s₂.heap.objs.size = some ⟨.type "list", none, .seq #[] 0, #[]⟩ := push_keep _ _ _ _ gD₃
    have nD₂ : s₂.heap.get? s₂.heap.objs.size = none := size_fresh _
    have nC₃ : s₃.heap.get? s₃.heap.objs.size = none := size_fresh _
    have nD₁ : s₁.heap.get? s₂.heap.objs.size = none := by
      cases z : s₁.heap.get? s₂.heap.objs.size with
      | none => rfl
      | some o => exact absurd nD₂ (ex₂.alive _ (fun z => z) (by rw [z]; simp))
    have nC₁ : s₁.heap.get? s₃.heap.objs.size = none := by
      cases z : s₁.heap.get? s₃.heap.objs.size with
      | none => rfl
      | some o => exact absurd nC₃ ((ex₂.trans exD).alive _ (fun z => z) (by rw [z]; simp))
    have st₄ : ItSt H₁ (s₃.heap.push { cls := .type "dict", data := .dict #[] }) I u its 0 := st₂.keep (exD.trans exC) hI (fun z => z) rfl
    have nID : I ≠ s₂.heap.objs.size := fun z => st₂.alive (z ▸ nD₂)
    have nIC : I ≠ s₃.heap.objs.size := fun z => (st₂.keep exD hI (fun z => z) rfl).alive (z ▸ nC₃)
    have nCD : s₃.heap.objs.size ≠ s₂.heap.objs.size := fun z => by rw [z, gD₃] at nC₃; cases nC₃
    have hX : ∀ a, three I s₃.heap.objs.size s₂.heap.objs.size a → s₁.heap.get? a = none := by
      rintro a (rfl | rfl | rfl)
      · exact nI
      · exact nC₁
      · exact nD₁
    have loop : codeAny c.M A (.compLoop (.ListComp elt [⟨.Name x px, iter, ifs, 0⟩] scope pos) 0 (.ref I) (.ref s₂.heap.objs.size) (compEnvC scope (closeOver scope.names env []) s₃.heap.objs.size env)) (compPost c.M A (QE c fr noX H s Z) use Qv (.ref s₂.heap.objs.size) s₃.heap.objs.size)
        { s₃ with heap := s₃.heap.push { cls := .type "dict", data := .dict #[] } } := by
      have ex₁₄ : Ext noX H₁ s₁ H₁ { s₃ with heap := s₃.heap.push { cls := .type "dict", data := .dict #[] } } := (ex₂.trans exD).trans exC
      refine comp_loop hh e0 ok (ts _) (ev _) (f₁.ext ex₁₄) dy₄ hk hlen st₄ (fun a ha => ⟨(fresh_facts dy₁ (hX a ha)).1, (fresh_facts dy₁ (hX a ha)).2, fresh_own (h' := s.heap) f₁ (hX a ha)⟩) nIC nID nCD gC₄ rfl rfl nC₄ gD₄ rfl hcw
        fun H' s' ys vs n mm oC' dy' ex' gD' sz' r' gC' cC' ns' hq' => ?_
      have exx : Ext noX H₁ s₁ H' s' := Ext.drop0 (X := three I s₃.heap.objs.size s₂.heap.objs.size) ((ex₁₄.widen (Y := three I s₃.heap.objs.size s₂.heap.objs.size) (fun _ z => z.elim) fun a ha => (fresh_facts dy₁ (hX a ha)).1).trans ex') hX
      have back : ∀ a, s₁.heap.get? a = none → s.heap.get? a = none := fun a ha => by
        cases z : s.heap.get? a with
        | none => rfl
        | some o => exact absurd ha (ex₁.alive _ (fun z => z) (by rw [z]; simp))
      exact fin ys _ _ H' s' ⟨dy', ex₁.trans exx, f₁.ext exx, back _ nD₁, back _ nC₁, ex'.xno _ (.inr (.inr rfl)), ex'.xno _ (.inr (.inl rfl)), (fresh_facts dy₁ nD₁).2, (fresh_facts dy₁ nC₁).2, nCD, fresh_own (h' := s.heap) f₁ nD₁, fresh_own (h' := s.heap) f₁ nC₁,
        ⟨vs, n, gD', sz', r'⟩, ⟨oC', mm, gC', cC', ns'⟩⟩ hq'
    exact codeAny_compStart_list loop (it_self st₄ loop)
end
end Mine
end
section
set_option autoImplicit false
set_option linter.unusedVariables false
set_option linter.unusedSimpArgs false
namespace Mine
open PySem PySem.Calls PyProof.Rows

section
variable {c : Cfg} {A : Around} {fr : List Env} {vm : VM} {env : Env} {d : Nat} {q : Bool} {H : MH} {s : Shared} {sc : Sc} {σ : Lcs}

theorem Dyn.frame_ne {a : Addr} {ob : Obj} (dy : Dyn c.h₀ c.P fr H s) (e : s.heap.get? a = some ob) (h : ob.cls ≠ .type "frame") : ∀ env ∈ fr, env.frame ≠ some a := fun env he z => by
  obtain ⟨_, L, o, b1, _, _, e1, f1, _⟩ := dy.ff env he
  rw [b1] at z; cases z; rw [e] at e1; cases e1; exact h f1

theorem CompEnd.tracked {ys : List MVal} {D C : Addr} {H' : MH} {s' : Shared} (x : CompEnd c fr env vm σ H s ys D C H' s') : Dyn c.h₀ c.P fr (upd H' D t0 (.list ys)) s' ∧ Ext noX H s (upd H' D t0 (.list ys)) s' ∧ FrOK c.h₀ env vm σ (upd H' D t0 (.list ys)) s'.heap := by
  obtain ⟨vs, n, g, z, r⟩ := x.gD
  exact ⟨x.dy.track x.bD g ⟨vs, n, rfl, z, r⟩ (x.dy.frame_ne g (by simp)), x.ex.adopt x.nD, x.fok.adopt x.oD⟩

theorem snd_comp (L : Link c) (st : Stat A fr d q) {elt iter : Expr} {ifs : List Expr} {scope : Scope} {pos px : Pos} {x : Str} {k : Nat} {src e' : E} {cs : List E} (e0 : Env0 env sc fr) (ok : CompOK sc vm k scope x) (hset : ∀ env x, foldedSetIterable iter env x = pure x)
    (xi : EvOK c A env fr vm (eval iter env) (wpX c d q src).1)
    (ts : ∀ C, TsOK c A (compEnvC scope (closeOver scope.names env []) C env) fr (compVM vm k scope x) (testsOf ifs (compEnvC scope (closeOver scope.names env []) C env)) (wpXs c d q cs).2)
    (ev : ∀ C, EvOK c A (compEnvC scope (closeOver scope.names env []) C env) fr (compVM vm k scope x) (eval elt (compEnvC scope (closeOver scope.names env []) C env)) (wpX c d q e').1) :
    EvOK c A env fr vm (eval (.ListComp elt [⟨.Name x px, iter, ifs, 0⟩] scope pos) env) (wpX c d q (.comp e' k src cs)).1 := fun σ H s Q Z f dy hw => by
  obtain ⟨⟨hq, hk⟩, hw⟩ := hw
  rw [eval_ListComp]
  refine comp_run (use := none) (Q' := fun ys H' => allocW (.list ys) H' Q) L (st.quiet hq) e0 ok hset xi ts ev f dy hk hw fun ys D C H' s' ce hq' => ?_
  obtain ⟨o, mm, gC, cC, nsC⟩ := ce.gC
  refine ⟨mm, nsC, fun h' hs => ?_⟩
  obtain ⟨dy', ex', _⟩ := ce.tracked
  have hC' : upd H' D t0 (.list ys) C = none := (upd_ne _ _ _ ce.ne).trans ce.hC
  obtain ⟨dy₂, ex₂⟩ := dy'.ended (t := s'.toks) hs.extBut hC' ce.bC gC (by rw [cC]; simp [softCls])
  refine ⟨.ref D, _, rfl, dy₂, ?_, hq' D ce.hD⟩
  exact Ext.drop0 (X := (· = C)) ((ex'.widen (fun _ z => z.elim) fun a (z : a = C) => z ▸ hC').trans ex₂) fun a (z : a = C) => z ▸ ce.nC

/-- a list comprehension that is stored under a name of the frame -/
theorem assign_comp (L : Link c) (st : Stat A fr d q) {elt iter : Expr} {ifs : List Expr} {scope : Scope} {pos px py spos : Pos} {x y : Str} {k j : Nat} {src e' : E} {cs : List E} (e0 : Env0 env sc fr) (inj : VMinj vm) (ap : Apart env) (ok : CompOK sc vm k scope x) (hset : ∀ env x, foldedSetIterable iter env x = pure x)
    (hsw : swapsWith (.ListComp elt [⟨.Name x px, iter, ifs, 0⟩] scope pos) (some (.Name y py)) spos.line env = pure true) (hy : vm.lookup y = some j)
    (xi : EvOK c A env fr vm (eval iter env) (wpX c d q src).1)
    (ts : ∀ C, TsOK c A (compEnvC scope (closeOver scope.names env []) C env) fr (compVM vm k scope x) (testsOf ifs (compEnvC scope (closeOver scope.names env []) C env)) (wpXs c d q cs).2)
    (ev : ∀ C, EvOK c A (compEnvC scope (closeOver scope.names env []) C env) fr (compVM vm k scope x) (eval elt (compEnvC scope (closeOver scope.names env []) C env)) (wpX c d q e').1)
    {K : Flow → Shared → Prop} {Q : MVal → MH → Prop} {Z : Addr → MH → Prop} (f : FrOK c.h₀ env vm σ H s.heap) (dy : Dyn c.h₀ c.P fr H s) (hw : (wpX c d q (.comp e' k src cs)).1 σ H Q Z)
    (fin : ∀ m H' s', FrOK c.h₀ env vm (ls σ j (some m)) H' s'.heap → Dyn c.h₀ c.P fr H' s' → Ext (owns env) H s H' s' → Q m H' → K .next s') :
    wpAny c.M A (exec (.Assign [.Name y py] (.ListComp elt [⟨.Name x px, iter, ifs, 0⟩] scope pos) spos) env) K (QE c fr noX H s Z) s := by
  obtain ⟨⟨hq, hk⟩, hw⟩ := hw
  rw [exec_Assign_Name_used _ _ _ _ hsw]
  refine wpAny_bind (wpAny_standAt (wpAny_bind ?_))
  show wpAny _ A (do let _ ← comprehension (.ListComp elt [⟨.Name x px, iter, ifs, 0⟩] scope pos) scope env _ (newList []) false (eval iter env) (some (assign (.Name y py) env))) _ _ s
  refine wpAny_bind (wpAny_mono (comp_run (use := some (assign (.Name y py) env)) (Qv := fun _ s' => K .next s') (Q' := fun ys H' => allocW (.list ys) H' Q) L (st.quiet hq) e0 ok hset xi ts ev f dy hk hw fun ys D C H' s' ce hq' => ?_) (fun _ s' hq => wpAny_pure (wpAny_pure hq)) fun _ _ e => e)
  obtain ⟨o, mm, gC, cC, nsC⟩ := ce.gC
  obtain ⟨dy', ex', f'⟩ := ce.tracked
  have hC' : upd H' D t0 (.list ys) C = none := (upd_ne _ _ _ ce.ne).trans ce.hC
  show wpAny _ A (assign (.Name y py) env (.ref D)) _ _ _
  refine wpAny_assign_Name (store_snd (m := .ref D) e0 inj ap f' dy' hy rfl fun s₂ f₂ dy₂ ex₂ => ?_)
  have gC₂ : s₂.heap.get? C = some o := ex₂.old _ _ gC hC' ce.oC (by rw [cC]; simp) (by rw [cC]; simp)
  refine ⟨mm, nsC.at' fun o' e => by rw [gC] at e; cases e; exact gC₂, fun h' hs => ?_⟩
  obtain ⟨dy₃, ex₃⟩ := dy₂.ended (t := s₂.toks) hs.extBut hC' ce.bC gC₂ (by rw [cC]; simp [softCls])
  refine fin (.ref D) _ _ (f₂.extX ex₃ fun a z => by have z : a = C := z; exact z ▸ ce.oC) dy₃ ?_ (hq' D ce.hD)
  have e1 : Ext (owns env) H s (upd H' D t0 (.list ys)) s₂ := (ex'.weaken fun a ha => ⟨(f.own a ha).1, (f.own a ha).2.2⟩).trans ex₂
  have w : ∀ a, owns env a ∨ a = C → upd H' D t0 (.list ys) a = none := fun a ha => ha.elim (fun z => (f'.own a z).1) fun z => z ▸ hC'
  exact Ext.drop (X := fun a => owns env a ∨ a = C) ((e1.widen (fun a z => .inl z) w).trans (ex₃.widen (fun a z => .inr z) w)) (fun a ha hn => by rcases ha with ha | rfl; exact absurd ha hn; exact ce.nC) fun a z => w a (.inl z)
end
end Mine
end
section
set_option autoImplicit false
set_option linter.unusedVariables false
set_option linter.unusedSimpArgs false
set_option genSizeOf false
set_option genInjectivity false
namespace Mine
open PySem PySem.Calls PyProof.Rows

section
variable {c : Cfg} {A : Around} {fr : List Env} {d : Nat} {q : Bool} {sc : Sc} {vm : VM} {k : Nat}

/-- a place in the run -/
structure Here (A : Around) (fr : List Env) (d : Nat) (q : Bool) (env : Env) (sc : Sc) (vm : VM) (k : Nat) : Prop where
  st : Stat A fr d q
  e0 : Env0 env sc fr
  lt : VMlt vm k
/-- sound, whatever the frame -/
structure Good (c : Cfg) (sc : Sc) (vm : VM) (k : Nat) (e : Expr) (a : E) : Prop where
  h : ∀ {A : Around} {fr : List Env} {d : Nat} {q : Bool} {env : Env}, Here A fr d q env sc vm k → Both c A env fr vm e (wpX c d q a)
structure GoodL (c : Cfg) (sc : Sc) (vm : VM) (k : Nat) (es : List Expr) (as : List E) : Prop where
  p : ∀ env, starEach es env = es.map fun e => (false, eval e env)
  h : ∀ {A : Around} {fr : List Env} {d : Nat} {q : Bool} {env : Env}, Here A fr d q env sc vm k → (∀ pos, LsOK c A env fr vm (spliced (backTo pos (starEach es env))) (wpXs c d q as).1) ∧ TsOK c A env fr vm (testsOf es env) (wpXs c d q as).2
structure GoodO (c : Cfg) (sc : Sc) (vm : VM) (k : Nat) (o : Option Expr) (a : E) : Prop where
  h : ∀ {A : Around} {fr : List Env} {d : Nat} {q : Bool} {env : Env}, Here A fr d q env sc vm k → EvOK c A env fr vm (valueOrNone (evalOpt o env)) (wpX c d q a).1
structure GoodB (c : Cfg) (sc : Sc) (vm : VM) (k : Nat) (op : BoolOp) (es : List Expr) (a : E) : Prop where
  h : ∀ {A : Around} {fr : List Env} {d : Nat} {q : Bool} {env : Env} (pos : Pos), Here A fr d q env sc vm k → EvOK c A env fr vm (boolOp pos op (evalEach es env)) (wpX c d q a).1 ∧ TsOK c A env fr vm (allTrue op es env) (wpX c d q a).2

theorem Trs.nil : GoodL c sc vm k [] [] := ⟨fun _ => rfl, fun _ => ⟨fun pos σ H s Q Z f dy hw => Calls.spliced_nil ⟨[], H, by simp [VRs], dy, .rfl0 _ _, hw⟩, tests_nil⟩⟩
theorem Trs.cons {e : Expr} {es : List Expr} {a : E} {as : List E} (t : ∀ es env, starEach (e :: es) env = (false, eval e env) :: starEach es env) (g : Good c sc vm k e a) (gs : GoodL c sc vm k es as) : GoodL c sc vm k (e :: es) (a :: as) := ⟨fun env => plain_cons t (gs.p env), fun {A fr d q env} at_ => by
  have x := g.h at_
  have y := gs.h at_
  refine ⟨fun pos => ?_, tests_cons x.2 y.2⟩
  have y1 := y.1 pos
  rw [gs.p, backTo_plain] at y1
  rw [plain_cons t (gs.p env), backTo_plain]
  intro σ H s Q Z f dy hw
  refine Calls.spliced_cons (x.1.then (.rfl0 _ _) f dy hw fun m v H' s' r f' dy' e' _ hq => y1.then e' f' dy' hq fun ms vs H2 s2 r2 f2 dy2 e2 sf hq2 => ⟨m :: ms, H2, ?_, dy2, e2, hq2⟩)
  simp only [VRs]
  exact ⟨v, vs, rfl, r.soft sf, r2⟩⟩
theorem TrB.one {op : BoolOp} {e : Expr} {a : E} (g : Good c sc vm k e a) : GoodB c sc vm k op [e] a := ⟨fun {A fr d q env} pos at_ => by
  have x := g.h at_
  refine ⟨x.1, fun σ H s Q Z f dy hw => ?_⟩
  show wpAny c.M A (do match op, ← isTrue e env (eval e env) with | .And, false => pure false | .Or, true => pure true | _, _ => allTrue op [] env) _ _ _
  refine wpAny_bind (x.2.then (.rfl0 _ _) f dy hw fun b H' s' f' dy' e' _ hq => ?_)
  cases op <;> cases b <;> exact wpAny_pure ⟨H', dy', e', hq⟩⟩
theorem TrB.and {e e₂ : Expr} {es : List Expr} {a₁ b₁ : E} (g : Good c sc vm k e a₁) (gb : GoodB c sc vm k .And (e₂ :: es) b₁) : GoodB c sc vm k .And (e :: e₂ :: es) (.and a₁ b₁) := ⟨fun {A fr d q env} pos at_ => by
  have x := g.h at_
  have y := gb.h pos at_
  constructor
  · intro σ H s Q Z f dy hw
    show wpAny c.M A (do let v ← eval e env; standAt pos; let t ← holding [v] (truthy v); match BoolOp.And, t with | .And, false | .Or, true => pure v | _, _ => boolOp pos .And (evalEach (e₂ :: es) env)) _ _ _
    refine wpAny_bind (x.1.then (Q := fun u H₁ => match Truth H₁ u with | some true => (wpX c d q b₁).1 σ H₁ Q Z | some false => Q u H₁ | Option.none => False) (.rfl0 _ _) f dy hw fun m v H' s' r f' dy' e' _ hq => wpAny_bind (wpAny_standAt (wpAny_bind (wpAny_holding ?_))))
    cases ht : Truth H' m with
    | none => rw [ht] at hq; exact hq.elim
    | some b =>
      rw [ht] at hq
      refine truth_snd dy' r ht fun t => ?_
      cases b with
      | true => exact y.1.then (s := { s' with toks := t }) (e'.trans (.tok _ _ _)) f' (dy'.tok t) hq fun m v H2 s2 r2 f2 dy2 e2 _ hq2 => ⟨m, H2, r2, dy2, e2, hq2⟩
      | false => exact wpAny_pure ⟨m, H', r, dy'.tok t, e'.trans (.tok _ _ _), hq⟩
  · intro σ H s Q Z f dy hw
    show wpAny c.M A (do match BoolOp.And, ← isTrue e env (eval e env) with | .And, false => pure false | .Or, true => pure true | _, _ => allTrue .And (e₂ :: es) env) _ _ _
    refine wpAny_bind (x.2.then (.rfl0 _ _) f dy hw fun b H' s' f' dy' e' _ hq => ?_)
    cases b with
    | true => exact y.2.then e' f' dy' hq fun b H2 s2 f2 dy2 e2 _ hq2 => ⟨H2, dy2, e2, hq2⟩
    | false => exact wpAny_pure ⟨H', dy', e', hq⟩⟩
theorem TrB.or {e e₂ : Expr} {es : List Expr} {a₁ b₁ : E} (g : Good c sc vm k e a₁) (gb : GoodB c sc vm k .Or (e₂ :: es) b₁) : GoodB c sc vm k .Or (e :: e₂ :: es) (.or a₁ b₁) := ⟨fun {A fr d q env} pos at_ => by
  have x := g.h at_
  have y := gb.h pos at_
  constructor
  · intro σ H s Q Z f dy hw
    show wpAny c.M A (do let v ← eval e env; standAt pos; let t ← holding [v] (truthy v); match BoolOp.Or, t with | .And, false | .Or, true => pure v | _, _ => boolOp pos .Or (evalEach (e₂ :: es) env)) _ _ _
    refine wpAny_bind (x.1.then (Q := fun u H₁ => match Truth H₁ u with | some false => (wpX c d q b₁).1 σ H₁ Q Z | some true => Q u H₁ | Option.none => False) (.rfl0 _ _) f dy hw fun m v H' s' r f' dy' e' _ hq => wpAny_bind (wpAny_standAt (wpAny_bind (wpAny_holding ?_))))
    cases ht : Truth H' m with
    | none => rw [ht] at hq; exact hq.elim
    | some b =>
      rw [ht] at hq
      refine truth_snd dy' r ht fun t => ?_
      cases b with
      | false => exact y.1.then (s := { s' with toks := t }) (e'.trans (.tok _ _ _)) f' (dy'.tok t) hq fun m v H2 s2 r2 f2 dy2 e2 _ hq2 => ⟨m, H2, r2, dy2, e2, hq2⟩
      | true => exact wpAny_pure ⟨m, H', r, dy'.tok t, e'.trans (.tok _ _ _), hq⟩
  · intro σ H s Q Z f dy hw
    show wpAny c.M A (do match BoolOp.Or, ← isTrue e env (eval e env) with | .And, false => pure false | .Or, true => pure true | _, _ => allTrue .Or (e₂ :: es) env) _ _ _
    refine wpAny_bind (x.2.then (.rfl0 _ _) f dy hw fun b H' s' f' dy' e' _ hq => ?_)
    cases b with
    | false => exact y.2.then e' f' dy' hq fun b H2 s2 f2 dy2 e2 _ hq2 => ⟨H2, dy2, e2, hq2⟩
    | true => exact wpAny_pure ⟨H', dy', e', hq⟩⟩
theorem compTest_ok {scope : Scope} {x : Str} (vl : VMlt vm k) (h : compTest sc vm scope x = false) : CompOK sc vm k scope x := by
  unfold compTest at h
  simp only [Bool.or_eq_false_iff] at h
  obtain ⟨⟨⟨⟨h2, h3⟩, h4⟩, h5⟩, h6⟩ := h
  refine ⟨by simpa using h2, fun p hp z => ?_, by simpa using h4, fun p hp z => ?_, fun p hp z => ?_, vl⟩
  · rw [List.any_eq_false] at h3
    have := h3 p hp
    rw [z] at this; simp at this
  · have h5 : scope.names.all (fun p => p.2 != .local || scope.names.lookup p.1 == some .local) = true := by simpa using h5
    have := List.all_eq_true.mp h5 p hp
    rw [z] at this; simpa using this
  · have h6 : scope.names.all (fun p => p.2 != .free || ((vm.lookup p.1).isSome && sc.lookup p.1 != some .local && p.1 != x)) = true := by simpa using h6
    have := List.all_eq_true.mp h6 p hp
    rw [z] at this
    simpa [and_assoc] using this

theorem compVM_lt {scope : Scope} {x : Str} (vl : VMlt vm k) : VMlt (compVM vm k scope x) (k + 1) := by
  intro y i h
  rw [List.lookup_cons] at h
  cases hy : y == x with
  | true => rw [hy] at h; simp only [Option.some.injEq] at h; omega
  | false =>
    rw [hy] at h
    have := vl y i (lookup_filter (P := fun z => scope.names.lookup z == some .free) h).1
    omega

/-- a comprehension, each part sound in its own frame -/
structure CompP (c : Cfg) (A : Around) (fr : List Env) (d : Nat) (q : Bool) (env : Env) (sc : Sc) (vm : VM) (k : Nat) (elt iter : Expr) (ifs : List Expr) (scope : Scope) (x : Str) (src a : E) (cs : List E) : Prop where
  set : ∀ env x, foldedSetIterable iter env x = pure x
  ok : CompOK sc vm k scope x
  i : EvOK c A env fr vm (eval iter env) (wpX c d q src).1
  t : ∀ C, TsOK c A (compEnvC scope (closeOver scope.names env []) C env) fr (compVM vm k scope x) (testsOf ifs (compEnvC scope (closeOver scope.names env []) C env)) (wpXs c d q cs).2
  e : ∀ C, EvOK c A (compEnvC scope (closeOver scope.names env []) C env) fr (compVM vm k scope x) (eval elt (compEnvC scope (closeOver scope.names env []) C env)) (wpX c d q a).1
theorem comp_parts {elt iter : Expr} {ifs : List Expr} {scope : Scope} {x : Str} {src a : E} {cs : List E} (hs : ∀ env x, foldedSetIterable iter env x = pure x) (h : compTest sc vm scope x = false) (gi : Good c sc vm k iter src) (gs : GoodL c (relab sc scope.names) (compVM vm k scope x) (k + 1) ifs cs) (ge : Good c (relab sc scope.names) (compVM vm k scope x) (k + 1) elt a)
    {env : Env} (at_ : Here A fr d q env sc vm k) : CompP c A fr d q env sc vm k elt iter ifs scope x src a cs :=
  have h := compTest_ok (k := k) at_.lt h
  ⟨hs, h, (gi.h at_).1, fun C => (gs.h ⟨at_.st, comp_env0 at_.e0 h, compVM_lt at_.lt⟩).2, fun C => (ge.h ⟨at_.st, comp_env0 at_.e0 h, compVM_lt at_.lt⟩).1⟩

theorem sp1 {x : Str} (h : special x = false) : (x == ("__debug__" : Str)) = false ∧ (x == ("__classdict__" : Str)) = false := by
  unfold special at h; rw [Bool.or_eq_false_iff] at h; exact h

theorem Tr.none {n : Nat} {p : Pos} : Good c sc vm k (.Constant .none n p) .none := ⟨fun {A fr d q env} _ => both_of (snd_none (d := d) (q := q))⟩
theorem Tr.bool {b : Bool} {n : Nat} {p : Pos} : Good c sc vm k (.Constant (.bool b) n p) (.bool b) := ⟨fun {A fr d q env} _ => both_of (snd_bool (d := d) (q := q))⟩
theorem Tr.int {i : Int} {n : Nat} {p : Pos} : Good c sc vm k (.Constant (.int i) n p) (.int i) := ⟨fun {A fr d q env} _ => both_of (snd_int (d := d) (q := q))⟩
theorem Tr.str {x : Str} {n : Nat} {p : Pos} : Good c sc vm k (.Constant (.str x) n p) (.str x) := ⟨fun {A fr d q env} _ => both_of (snd_str (d := d) (q := q))⟩
theorem Tr.loc {x : Str} {p : Pos} {i : Nat} (h : special x = false) (hv : vm.lookup x = some i) : Good c sc vm k (.Name x p) (.loc i) := ⟨fun {A fr d q env} o => both_of (snd_loc (d := d) (q := q) o.e0 (sp1 h).1 (sp1 h).2 hv)⟩
theorem Tr.glob (L : Link c) {x : Str} {p : Pos} (h : special x = false) (hg : sc.lookup x = some .globalImplicit) : Good c sc vm k (.Name x p) (.glob x) := ⟨fun {A fr d q env} o => both_of (snd_glob (d := d) (q := q) L o.e0 (sp1 h).1 hg)⟩
theorem Tr.bin {l r : Expr} {op : Operator} {p : Pos} {o : BOp} {a b : E} (ho : trOp op = some o) (x : Good c sc vm k l a) (y : Good c sc vm k r b) : Good c sc vm k (.BinOp l op r p) (.bin o a b) := ⟨fun o => both_of (snd_BinOp ho (x.h o).1 (y.h o).1)⟩
theorem Tr.neg {e : Expr} {p : Pos} {a : E} (x : Good c sc vm k e a) : Good c sc vm k (.UnaryOp .USub e p) (.neg a) := ⟨fun o => both_of (snd_neg (x.h o).1)⟩
theorem Tr.bools {op : BoolOp} {vs : List Expr} {p : Pos} {a : E} (x : GoodB c sc vm k op vs a) : Good c sc vm k (.BoolOp op vs p) a := ⟨fun o => have y := x.h p o; ⟨y.1, y.2⟩⟩
theorem Tr.cmp (L : Link c) {l r : Expr} {op : CmpOp} {p : Pos} {a b : E} (hs : behindInMarks op r = false) (x : Good c sc vm k l a) (y : Good c sc vm k r b) : Good c sc vm k (.Compare l [op] [r] p) (.cmp (trCmp op) a b) := ⟨fun o => snd_cmp L o.st hs (x.h o).1 (y.h o).1⟩
theorem Tr.attr (L : Link c) {v : Expr} {n : Str} {p : Pos} {a : E} (hs : ∀ n env w, attributeBase v n env w = w) (x : Good c sc vm k v a) : Good c sc vm k (.Attribute v n p) (.attr a n) := ⟨fun o => both_of (snd_attr L hs (x.h o).1)⟩
theorem Tr.slice {v : Expr} {lo hi : Option Expr} {p p' : Pos} {a b e : E} (x : Good c sc vm k v a) (y : GoodO c sc vm k lo b) (z : GoodO c sc vm k hi e) : Good c sc vm k (.Subscript v (.Slice lo hi Option.none p) p') (.slice a b e) := ⟨fun o => both_of (snd_slice (x.h o).1 (y.h o) (z.h o))⟩
theorem Tr.sub (L : Link c) {v i : Expr} {p : Pos} {a b : E} (hs : ∀ o j, subscripted i false o j = operate [o, j] (getItem o j)) (x : Good c sc vm k v a) (y : Good c sc vm k i b) : Good c sc vm k (.Subscript v i p) (.sub a b) := ⟨fun o => both_of (snd_sub L hs (x.h o).1 (y.h o).1)⟩
theorem Tr.list {es : List Expr} {p : Pos} {as : List E} (x : GoodL c sc vm k es as) : Good c sc vm k (.List es p) (.list as) := ⟨fun o => both_of (snd_list ((x.h o).1 p))⟩
theorem Tr.tup {es : List Expr} {n : Nat} {p : Pos} {as : List E} (x : GoodL c sc vm k es as) : Good c sc vm k (.Tuple es n p) (.tup as) := ⟨fun o => both_of (snd_tup ((x.h o).1 p))⟩
theorem Tr.dict {p : Pos} : Good c sc vm k (.Dict [] [] p) (.dict [] []) := ⟨fun {A fr d q env} _ => both_of (snd_dict (d := d) (q := q))⟩
theorem Tr.mcall (L : Link c) {v : Expr} {n : Str} {ap p : Pos} {args : List Expr} {a : E} {as : List E} (h1 : ∀ n env w, attributeBase v n env w = w) (h2 : (ap.endLine == p.line) = true) (h3 : args.length < 29) (x : Good c sc vm k v a) (y : GoodL c sc vm k args as) : Good c sc vm k (.Call (.Attribute v n ap) args [] p) (.mcall a n as) := ⟨fun {A fr d q env} o => both_of (snd_mcall L o.st h1 h2 h3 (y.p env) (x.h o).1 ((y.h o).1 p))⟩
theorem Tr.call (L : Link c) {f : Expr} {args : List Expr} {p : Pos} {a : E} {as : List E} (h : ∀ env, eval (.Call f args [] p) env = (do callWith p (← eval f env) [] (backTo p (starEach args env)) (backToKw p (keywordEach [] env)))) (x : Good c sc vm k f a) (y : GoodL c sc vm k args as) : Good c sc vm k (.Call f args [] p) (.call a as) := ⟨fun {A fr d q env} o => both_of (snd_call L o.st (h env) (y.p env) (x.h o).1 ((y.h o).1 p))⟩
theorem Tr.comp (L : Link c) {elt iter : Expr} {x : Str} {px p : Pos} {ifs : List Expr} {scope : Scope} {src a : E} {cs : List E} (hs : ∀ env x, foldedSetIterable iter env x = pure x) (h : compTest sc vm scope x = false) (gi : Good c sc vm k iter src) (gs : GoodL c (relab sc scope.names) (compVM vm k scope x) (k + 1) ifs cs) (ge : Good c (relab sc scope.names) (compVM vm k scope x) (k + 1) elt a) :
    Good c sc vm k (.ListComp elt [⟨.Name x px, iter, ifs, 0⟩] scope p) (.comp a k src cs) := ⟨fun o => have p := comp_parts hs h gi gs ge o; both_of (snd_comp L o.st o.e0 p.ok p.set p.i p.t p.e)⟩
theorem TrO.none : GoodO c sc vm k Option.none .none := ⟨fun _ σ H s Q Z f dy hw => wpAny_pure ⟨.none, H, rfl, dy, .rfl0 _ _, hw⟩⟩
theorem TrO.some {e : Expr} {a : E} (x : Good c sc vm k e a) : GoodO c sc vm k (Option.some e) a := ⟨fun o => (x.h o).1⟩
end
end Mine
end
section
set_option autoImplicit false
set_option linter.unusedVariables false
set_option linter.unusedSimpArgs false
namespace Mine
open PySem PySem.Calls PyProof.Rows

section
variable {c : Cfg} {A : Around} {fr : List Env} {H : MH} {s : Shared} {Z : Value → Shared → Prop} {K : Unit → Shared → Prop}

theorem VRs.set {h : Heap} : ∀ {ms : List MVal} {vs : List Value}, VRs h ms vs → ∀ (i : Nat) {m : MVal} {v : Value}, VR h m v → VRs h (ms.set i m) (vs.set i v)
  | [], _, x, i, m, v, y => by simp only [VRs] at x; subst x; simp [VRs]
  | a :: ms, _, x, 0, m, v, y => by
    simp only [VRs] at x; obtain ⟨w, r, rfl, p, q⟩ := x
    simp only [List.set_cons_zero, VRs]; exact ⟨v, r, rfl, y, q⟩
  | a :: ms, _, x, i + 1, m, v, y => by
    simp only [VRs] at x; obtain ⟨w, r, rfl, p, q⟩ := x
    simp only [List.set_cons_succ, VRs]; exact ⟨w, _, rfl, p, VRs.set q i y⟩
theorem VRs.eraseIdx {h : Heap} : ∀ {ms : List MVal} {vs : List Value}, VRs h ms vs → ∀ (i : Nat), VRs h (ms.eraseIdx i) (vs.eraseIdx i)
  | [], _, x, i => by simp only [VRs] at x; subst x; simp [VRs]
  | a :: ms, _, x, 0 => by
    simp only [VRs] at x; obtain ⟨w, r, rfl, p, q⟩ := x
    simpa using q
  | a :: ms, _, x, i + 1 => by
    simp only [VRs] at x; obtain ⟨w, r, rfl, p, q⟩ := x
    simp only [List.eraseIdx_cons_succ, VRs]; exact ⟨w, _, rfl, p, VRs.eraseIdx q i⟩

theorem DictR.of_pairs {h : Heap} {prog : Program} {w : World} : ∀ {rs : List DictEntry} {kvs : List (Int × Value)} {es : List (Int × MVal)}, Pairs (intKind prog w) rs kvs → (∀ e ∈ rs, ∃ k, (intKind prog w).is k e.key = true ∧ e.hash = (intKind prog w).hash k) →
    kvs.map (·.1) = es.map (·.1) → VRs h (es.map (·.2)) (kvs.map (·.2)) → DictR h es rs
  | [], _, es, .nil, _, e, _ => by
    cases es with
    | nil => rfl
    | cons x r => simp at e
  | r :: rs, kv :: kvs, es, .cons a b d, hk, e, v => by
    cases es with
    | nil => simp at e
    | cons x xs =>
      obtain ⟨k, m⟩ := x
      simp only [List.map_cons, List.cons.injEq] at e
      simp only [List.map_cons, VRs, List.cons.injEq] at v
      obtain ⟨v1, r1, ⟨e1, e2⟩, v2, v3⟩ := v
      subst e1; subst e2
      obtain ⟨k', p, q⟩ := hk r (.head _)
      have a' : Value.isInt kv.1 r.key = true := a
      have p' : Value.isInt k' r.key = true := p
      obtain ⟨t, ht⟩ := Value.isInt_shape a'
      have : k' = kv.1 := by rw [ht] at p'; exact (by simpa [Value.isInt] using p' : kv.1 = k').symm
      subst this
      refine ⟨r, rs, rfl, ⟨t, by rw [ht, e.1]⟩, by rw [← e.1]; exact q, by rw [b]; exact v2, DictR.of_pairs d (fun e he => hk e (.tail _ he)) e.2 v3⟩

theorem stored_keys {kvs : List (Int × Value)} {es : List (Int × MVal)} {k : Int} {v : Value} {m : MVal} (e : kvs.map (·.1) = es.map (·.1)) : (stored kvs k v).map (·.1) = (putD es k m).map (·.1) := by
  have ea : kvs.any (fun kv => decide (kv.1 = k)) = es.any (fun kv => decide (kv.1 = k)) := by
    have := congrArg (fun l => l.any fun x => decide (x = k)) e
    simpa [List.any_map, Function.comp_def] using this
  unfold stored putD
  rw [ea]
  split
  · simp only [List.map_map]
    have f1 : ((fun kv : Int × Value => kv.1) ∘ fun kv => if kv.1 = k then (kv.1, v) else kv) = fun kv => kv.1 := by funext x; simp only [Function.comp]; split <;> rfl
    have f2 : ((fun kv : Int × MVal => kv.1) ∘ fun kv => if kv.1 = k then (kv.1, m) else kv) = fun kv => kv.1 := by funext x; simp only [Function.comp]; split <;> rfl
    rw [f1, f2, e]
  · simp [e]
theorem stored_vals {h : Heap} {k : Int} {v : Value} {m : MVal} (hv : VR h m v) : ∀ {kvs : List (Int × Value)} {es : List (Int × MVal)}, kvs.map (·.1) = es.map (·.1) → VRs h (es.map (·.2)) (kvs.map (·.2)) →
    VRs h ((es.map (fun e => if e.1 = k then (e.1, m) else e)).map (·.2)) ((kvs.map (fun e => if e.1 = k then (e.1, v) else e)).map (·.2))
  | [], [], _, _ => by simp [VRs]
  | [], _ :: _, e, _ => by simp at e
  | _ :: _, [], e, _ => by simp at e
  | x :: r, y :: q, e, z => by
    simp only [List.map_cons, List.cons.injEq] at e
    simp only [List.map_cons, VRs, List.cons.injEq] at z ⊢
    obtain ⟨v1, r1, ⟨e1, e2⟩, v2, v3⟩ := z
    subst e1; subst e2
    refine ⟨_, _, ⟨rfl, rfl⟩, ?_, stored_vals hv e.2 v3⟩
    rw [e.1]
    split
    · exact hv
    · exact v2

theorem list_setitem {l : Addr} {items : Array Value} {n : Nat} {k : Int} {t : Tok} {v : Value} (g : s.heap.get? l = some ⟨.type "list", none, .seq items n, #[]⟩) (h0 : 0 ≤ k) (hfit : k < 2 ^ 63) (hn : k < items.size)
    (hQ : ∀ n' h', h'.get? l = some ⟨.type "list", none, .seq (items.setIfInBounds k.toNat v) n', #[]⟩ → Heap.SameBut l s.heap h' → K () { s with heap := h' }) :
    wpAny c.M A (setItem (.ref l) (.int k t) v) K Z s := by
  have hl : s.heap.IsList l items := ⟨_, g, rfl, n, rfl⟩
  unfold setItem
  try with_reducible refine wpAny_holding ?_
  first | refine wpAny_bind (wpAny_pure ?_) | skip
  refine wpAny_bind (wpAny_sequenceKey hl.typeIs (by decide) ?_)
  refine wpAny_bind (wpAny_callSpecial?_slot (name := Str.ofString "__setitem__") hl.typeIs slot_list_setitem
    (wpAny_call_entry slot_list_setitem hl.typeIs entry_list_setitem ?_ (args_list_setitem _ _ _)))
  show wpAny _ _ (Builtin.List.listSubscript? (.int k t) >>= _) _ _ s
  refine wpAny_bind (wpAny_listSubscript_int (fitsIndex_of h0 hfit) ?_)
  clear hfit
  obtain ⟨j, rfl⟩ := Int.eq_ofNat_of_zero_le h0
  have hj : j < items.size := by omega
  have hx' : items[j]? = some items[j] := Array.getElem?_eq_getElem hj
  show wpAny _ _ ((seqItemAt l j >>= fun r => pure (r.map (j, ·))) >>= _) _ _ s
  refine wpAny_bind (wpAny_bind (wpAny_seqItemAt g rfl (wpAny_pure ?_)))
  rw [hx']
  show wpAny _ _ (setSeqItemAt l j v >>= _) _ _ s
  have fin := hQ _ (s.heap.update l (Obj.mapSeq (·.setIfInBounds j v))) (Heap.get?_update_self _ g rfl) (Heap.SameBut.update ..)
  refine wpAny_bind (wpAny_setSeqItemAt g rfl ?_)
  first
    | exact wpAny_bind (wpAny_pure (wpAny_pure ⟨.none, rfl, wpAny_pure fin⟩))
    | exact wpAny_pure ⟨.none, rfl, wpAny_pure fin⟩

theorem setItem_snd (L : Link c) {m mi mv : MVal} {u i v : Value} {Q : MH → Prop} (dy : Dyn c.h₀ c.P fr H s) (hu : VR s.heap m u) (hi : VR s.heap mi i) (hv : VR s.heap mv v) (hw : SetItemW m mi mv H Q)
    (k : ∀ H' s', Dyn c.h₀ c.P fr H' s' → Ext noX H s H' s' → Q H' → K () s') : wpAny c.M A (setItem u i v) K Z s := by
  obtain ⟨a, e1, hw⟩ := onR hw
  obtain ⟨j, e2, hw⟩ := onI hw
  rw [e1] at hu; rw [e2] at hi
  simp only [VR] at hu
  subst hu
  obtain ⟨t, rfl⟩ := hi
  obtain ⟨p, ha, hw⟩ := on_inv hw
  obtain ⟨tg, ob⟩ := p
  cases ob with
  | list xs =>
    obtain ⟨⟨h0, h1⟩, hq⟩ := hw
    obtain ⟨vs, n, g, z, r⟩ := list_of dy ha
    have l := r.length
    simp only [Array.length_toList] at l
    have := BIG_eq
    refine list_setitem g h0 (by omega) (by omega) fun n' h' g' hs => ?_
    obtain ⟨d', e'⟩ := dy.put (t' := tg) (o' := .list (xs.set j.toNat mv)) (s' := { s with heap := h' }) ha hs.extBut g' (fun sf => ⟨_, _, rfl, by simpa using z, by
      rw [Array.toList_setIfInBounds]
      exact (r.soft sf).set _ (hv.soft sf)⟩)
    exact k _ _ d' e' hq
  | dict ep es =>
    obtain ⟨h1, hq⟩ := hw
    obtain ⟨kvs, ⟨hm, _⟩, hf, hr, hl⟩ := dictOf_of dy ha
    have := BIG_eq; have := sizeLine_big
    refine wpAny_setItem_pairs (knd := intKind c.prog c.w) (k := j) (isInt_self _ t) hm (fun h' hm' hs => ?_) (by omega)
    obtain ⟨o, rs, ep', g', ⟨x1, x2, x3⟩, dd, ko, pr, nd⟩ := hm'
    obtain ⟨cls, dct, dt, sl⟩ := o
    simp only at x1 x2 x3 dd; subst x1; subst x2; subst x3; subst dd
    have ek := stored_keys (k := j) (v := v) (m := mv) hf
    have vv : Soft s.heap h' → VRs h' ((putD es j mv).map (·.2)) ((stored kvs j v).map (·.2)) := fun sf => by
      have ea : kvs.any (fun kv => decide (kv.1 = j)) = es.any (fun kv => decide (kv.1 = j)) := by
        have := congrArg (fun l => l.any fun x => decide (x = j)) hf
        simpa [List.any_map, Function.comp_def] using this
      unfold stored putD
      rw [ea]
      split
      · exact stored_vals (hv.soft sf) hf (hr.soft sf)
      · simp only [List.map_append, List.map_cons, List.map_nil]
        exact (hr.soft sf).append (by simp only [VRs]; exact ⟨v, [], rfl, hv.soft sf, rfl⟩)
    obtain ⟨d', e'⟩ := dy.put (t' := tg) (o' := .dict ep' (putD es j mv)) (s' := { s with heap := h', toks := s.toks + 1 }) ha hs.extBut g' (fun sf => ⟨rs, rfl, by
        have := pr.length
        have e2 := congrArg List.length ek
        simp only [List.length_map] at e2
        rw [Array.length_toList] at this
        have : (putD es j mv).length ≤ es.length + 1 := by unfold putD; split <;> simp
        omega, DictR.of_pairs pr (fun e he => ko e (Array.mem_toList_iff.mp he)) ek (vv sf), by rw [← ek]; exact nd⟩)
    exact k _ _ d' e' (hq ep')
  | _ => exact False.elim hw
end
end Mine
end
section
set_option autoImplicit false
set_option linter.unusedVariables false
set_option linter.unusedSimpArgs false
set_option genSizeOf false
set_option genInjectivity false
namespace Mine
open PySem PySem.Calls PyProof.Rows

inductive TrN (vm : VM) : List Expr → List Nat → Prop
  | nil : TrN vm [] []
  | cons {x p r i is} : vm.lookup x = some i → TrN vm r is → TrN vm (.Name x p :: r) (i :: is)

end Mine
end
section
set_option autoImplicit false
set_option genSizeOf false
set_option genInjectivity false
set_option linter.unusedVariables false
set_option linter.unusedSimpArgs false
namespace Mine
open PySem PySem.Calls PyProof.Rows

noncomputable def FlowR (h : Heap) : MFlow → Flow → Prop
  | .next, f => f = .next
  | .brk, f => f = .brk
  | .cont, f => f = .cont
  | .ret m, f => ∃ v, f = .ret v ∧ VR h m v
  | .exc _, _ => False

section
variable {c : Cfg} {A : Around} {fr : List Env} {vm : VM} {env : Env} {d : Nat} {q : Bool} {sc : Sc}

inductive QS (c : Cfg) (fr : List Env) (env : Env) (vm : VM) (H : MH) (s : Shared) (K : MFlow → Lcs → MH → Prop) (f : Flow) (s' : Shared) : Prop
  | mk (mf : MFlow) (σ' : Lcs) (H' : MH) (r : FlowR s'.heap mf f) (o : FrOK c.h₀ env vm σ' H' s'.heap) (dy : Dyn c.h₀ c.P fr H' s') (e : Ext (owns env) H s H' s') (q : K mf σ' H') : QS c fr env vm H s K f s'
inductive QX (c : Cfg) (fr : List Env) (env : Env) (vm : VM) (H : MH) (s : Shared) (K : MFlow → Lcs → MH → Prop) (v : Value) (s' : Shared) : Prop
  | mk (x : Addr) (σ' : Lcs) (H' : MH) (r : v = .ref x) (o : ∃ t C dx, H' x = some (t, .exc C dx)) (fo : FrOK c.h₀ env vm σ' H' s'.heap) (dy : Dyn c.h₀ c.P fr H' s') (e : Ext (owns env) H s H' s') (q : K (.exc x) σ' H') : QX c fr env vm H s K v s'
noncomputable def StOK (c : Cfg) (A : Around) (env : Env) (fr : List Env) (vm : VM) (t : Sem Flow) (w : ST) : Prop :=
  ∀ (σ : Lcs) (H : MH) (s : Shared) (K : MFlow → Lcs → MH → Prop), FrOK c.h₀ env vm σ H s.heap → Dyn c.h₀ c.P fr H s → w σ H K → wpAny c.M A t (QS c fr env vm H s K) (QX c fr env vm H s K) s

variable {σ : Lcs} {H : MH} {s : Shared} {K : MFlow → Lcs → MH → Prop}

theorem FrOK.w (f : FrOK c.h₀ env vm σ H s.heap) {H' : MH} {s' : Shared} (e : Ext noX H s H' s') : Ext (owns env) H s H' s' := e.weaken fun a ha => ⟨(f.own a ha).1, (f.own a ha).2.2⟩

/-- an expression's exception leaves the statement -/
theorem QE.out {Z : Addr → MH → Prop} {v : Value} {s' : Shared} (f : FrOK c.h₀ env vm σ H s.heap) (hz : ∀ e H', Z e H' → K (.exc e) σ H') (x : QE c fr noX H s Z v s') : QX c fr env vm H s K v s' :=
  let ⟨e, H', a, b, dy, ex, z⟩ := x; ⟨e, σ, H', a, b, f.ext ex, dy, f.w ex, hz e H' z⟩

theorem QS.step {H₁ : MH} {s₁ : Shared} {f : Flow} {s' : Shared} (e : Ext (owns env) H s H₁ s₁) (x : QS c fr env vm H₁ s₁ K f s') : QS c fr env vm H s K f s' :=
  let ⟨a, b, d, x1, x2, x3, x4, x5⟩ := x; ⟨a, b, d, x1, x2, x3, e.trans x4, x5⟩
theorem QX.step {H₁ : MH} {s₁ : Shared} {f : Value} {s' : Shared} (e : Ext (owns env) H s H₁ s₁) (x : QX c fr env vm H₁ s₁ K f s') : QX c fr env vm H s K f s' :=
  let ⟨a, b, d, x1, x2, x3, x4, x5, x6⟩ := x; ⟨a, b, d, x1, x2, x3, x4, e.trans x5, x6⟩

/-- run on behind a statement -/
theorem StOK.then {t : Sem Flow} {w : ST} (x : StOK c A env fr vm t w) {K' : MFlow → Lcs → MH → Prop} {R : Flow → Shared → Prop} {Y : Value → Shared → Prop} {H₀ : MH} {s₀ : Shared} (e₀ : Ext (owns env) H₀ s₀ H s) (f : FrOK c.h₀ env vm σ H s.heap) (dy : Dyn c.h₀ c.P fr H s) (hw : w σ H K')
    (k : ∀ mf fl σ' H' s', FlowR s'.heap mf fl → FrOK c.h₀ env vm σ' H' s'.heap → Dyn c.h₀ c.P fr H' s' → Ext (owns env) H₀ s₀ H' s' → K' mf σ' H' → R fl s') (kx : ∀ v s', QX c fr env vm H₀ s₀ K' v s' → Y v s') : wpAny c.M A t R Y s :=
  wpAny_mono (x σ H s K' f dy hw) (fun v s' ⟨mf, σ', H', a, b, e, ex, q⟩ => k mf v σ' H' s' a b e (e₀.trans ex) q) fun v s' h => kx v s' (h.step e₀)

theorem st_nil : StOK c A env fr vm (execs [] env) (wpSs c d q []) := fun σ H s K f dy hw => wpAny_pure ⟨.next, σ, H, rfl, f, dy, .refl _ _ (fun a ha => (f.own a ha).1), hw⟩
theorem FrOK.r (f : FrOK c.h₀ env vm σ H s.heap) : Ext (owns env) H s H s := .refl _ _ (fun a ha => (f.own a ha).1)

theorem st_cons {st : Stmt} {r : List Stmt} {a : S} {as : List S} (x : StOK c A env fr vm (exec st env) (wpS c d q a)) (y : StOK c A env fr vm (execs r env) (wpSs c d q as)) : StOK c A env fr vm (execs (st :: r) env) (wpSs c d q (a :: as)) := fun σ H s K f dy hw => by
  show wpAny c.M A (do match ← exec st env with | .next => execs r env | f => pure f) _ _ _
  refine wpAny_bind (x.then f.r f dy hw (fun mf fl σ' H' s' fl' f' dy' ex' hq => ?_) fun v s' h => ?_)
  · cases mf with
    | next => simp only [FlowR] at fl'; subst fl'; exact y.then ex' f' dy' hq (fun mf fl σ2 H2 s2 fl2 f2 dy2 ex2 hq2 => ⟨mf, σ2, H2, fl2, f2, dy2, ex2, hq2⟩) fun _ _ h => h
    | brk => simp only [FlowR] at fl'; subst fl'; exact wpAny_pure ⟨.brk, σ', H', rfl, f', dy', ex', hq⟩
    | cont => simp only [FlowR] at fl'; subst fl'; exact wpAny_pure ⟨.cont, σ', H', rfl, f', dy', ex', hq⟩
    | ret m => simp only [FlowR] at fl'; obtain ⟨v, rfl, r⟩ := fl'; exact wpAny_pure ⟨.ret m, σ', H', ⟨v, rfl, r⟩, f', dy', ex', hq⟩
    | exc e => exact fl'.elim
  · obtain ⟨x, σ', H', a1, a2, a3, a4, a5, a6⟩ := h; exact ⟨x, σ', H', a1, a2, a3, a4, a5, a6⟩

theorem st_expr {e : Expr} {pos : Pos} {a : E} (e0 : Env0 env sc fr) (hc : ∀ env, swapsWith e none pos.line env = pure false) (x : EvOK c A env fr vm (eval e env) (wpX c d q a).1) : StOK c A env fr vm (exec (.Expr e pos) env) (wpS c d q (.expr a)) := fun σ H s K f dy hw => by
  show wpAny c.M A (do standAt pos; if interactive env then printExpr (eval e env) else if ← swapsWith e none pos.line env then do evalThenUse e env fun _ => point; pure Flow.next else do dropValue e pos (← eval e env)) _ _ _
  refine wpAny_bind (wpAny_standAt ?_)
  rw [e0.noin]
  simp only [Bool.false_eq_true, if_false]
  refine wpAny_bind (wpAny_of_eq (hc env) ?_)
  simp only [Bool.false_eq_true, if_false]
  refine wpAny_bind (wpAny_mono (x σ H s _ _ f dy hw) (fun v s' ⟨m, H', r, dy', ex, hq⟩ => wpAny_dropValue ⟨.next, σ, H', rfl, f.ext ex, dy', f.w ex, hq⟩) fun v s' h => h.out f fun _ _ z => z)

theorem st_ret {e : Expr} {pos : Pos} {a : E} (x : EvOK c A env fr vm (eval e env) (wpX c d q a).1) : StOK c A env fr vm (exec (.Return (some e) pos) env) (wpS c d q (.ret a)) := fun σ H s K f dy hw => by
  show wpAny c.M A (do standAt pos; return Flow.ret (← eval e env)) _ _ _
  exact wpAny_bind (wpAny_standAt (wpAny_bind (wpAny_mono (x σ H s _ _ f dy hw) (fun v s' ⟨m, H', r, dy', ex, hq⟩ => wpAny_pure ⟨.ret m, σ, H', ⟨v, rfl, r⟩, f.ext ex, dy', f.w ex, hq⟩) fun v s' h => h.out f fun _ _ z => z)))

theorem st_if {t : Expr} {b o : List Stmt} {pos : Pos} {a : E} {bs os : List S} (x : TsOK c A env fr vm (isTrue t env (eval t env)) (wpX c d q a).2) (y : StOK c A env fr vm (execs b env) (wpSs c d q bs)) (z : StOK c A env fr vm (execs o env) (wpSs c d q os)) :
    StOK c A env fr vm (exec (.If t b o pos) env) (wpS c d q (.ite a bs os)) := fun σ H s K f dy hw => by
  show wpAny c.M A (do standAt pos; if ← isTrue t env (eval t env) then execs b env else execs o env) _ _ _
  refine wpAny_bind (wpAny_standAt (wpAny_bind (wpAny_mono (x σ H s _ _ f dy hw) (fun r s' ⟨H', dy', ex, hq⟩ => ?_) fun v s' h => h.out f fun _ _ z => z)))
  cases r with
  | true => exact y.then (f.w ex) (f.ext ex) dy' hq (fun mf fl σ2 H2 s2 fl2 f2 dy2 ex2 hq2 => ⟨mf, σ2, H2, fl2, f2, dy2, ex2, hq2⟩) fun _ _ h => h
  | false => exact z.then (f.w ex) (f.ext ex) dy' hq (fun mf fl σ2 H2 s2 fl2 f2 dy2 ex2 hq2 => ⟨mf, σ2, H2, fl2, f2, dy2, ex2, hq2⟩) fun _ _ h => h
end
end Mine
end
section
set_option autoImplicit false
set_option linter.unusedVariables false
set_option linter.unusedSimpArgs false
namespace Mine
open PySem PySem.Calls PyProof.Rows

section
variable {c : Cfg} {A : Around} {fr : List Env} {vm : VM} {env : Env} {d : Nat} {q : Bool} {sc : Sc} {σ : Lcs} {H : MH} {s : Shared} {K : MFlow → Lcs → MH → Prop}

theorem assign_plain {M : Model} {E : Value → Shared → Prop} {t e : Expr} {pos : Pos} {Q : Flow → Shared → Prop} (h1 : swapsWith e (some t) pos.line env = pure false) (h2 : swappedStores [t] e env = pure none) (h3 : (assignEach [t] env).map (·.2) = [assign t env])
    (h : wpAny M A (eval e env) (fun v s₁ => wpAny M A (assign t env v) (fun _ s₂ => Q .next s₂) E s₁) E s) : wpAny M A (exec (.Assign [t] e pos) env) Q E s := by
  show wpAny M A (do standAt pos; if ← swapsWithSole [t] e pos.line env then do { evalThenUse e env fun v => assignAll v ((assignEach [t] env).map (·.2)); pure Flow.next } else do { let v ← eval e env; assignStores env v (← swappedStores [t] e env) ((assignEach [t] env).map (·.2)) }) _ _ _
  refine wpAny_bind (wpAny_standAt ?_)
  show wpAny M A (do if ← swapsWith e (some t) pos.line env then do { evalThenUse e env fun v => assignAll v ((assignEach [t] env).map (·.2)); pure Flow.next } else do { let v ← eval e env; assignStores env v (← swappedStores [t] e env) ((assignEach [t] env).map (·.2)) }) _ _ _
  refine wpAny_bind (wpAny_of_eq h1 ?_)
  simp only [Bool.false_eq_true, if_false]
  refine wpAny_bind (wpAny_mono h (fun v s₁ h' => wpAny_bind (wpAny_of_eq h2 ?_)) fun _ _ z => z)
  rw [h3]
  show wpAny M A (do assignAll v [assign t env]; pure Flow.next) _ _ _
  exact wpAny_bind (wpAny_mono h' (fun _ _ z => wpAny_pure z) fun _ _ z => z)

theorem st_assign {e : Expr} {y : Str} {py pos : Pos} {j : Nat} {a : E} (e0 : Env0 env sc fr) (inj : VMinj vm) (ap : Apart env) (hy : vm.lookup y = some j) (hsw : swapsWith e (some (.Name y py)) pos.line env = pure false) (hst : swappedStores [.Name y py] e env = pure none) (x : EvOK c A env fr vm (eval e env) (wpX c d q a).1) :
    StOK c A env fr vm (exec (.Assign [.Name y py] e pos) env) (wpS c d q (.assign j a)) := fun σ H s K f dy hw => by
  refine assign_plain hsw hst rfl ?_
  refine wpAny_mono (x σ H s _ _ f dy hw) (fun v s' ⟨m, H', r, dy', ex, hq⟩ => ?_) fun v s' h => h.out f fun _ _ z => z
  exact wpAny_assign_Name (store_snd e0 inj ap (f.ext ex) dy' hy r fun s₂ f₂ dy₂ ex₂ => ⟨.next, _, H', rfl, f₂, dy₂, (f.w ex).trans ex₂, hq⟩)

theorem st_assignC (L : Link c) (st : Stat A fr d q) {elt iter : Expr} {ifs : List Expr} {scope : Scope} {x y : Str} {px py cp pos : Pos} {j k : Nat} {src a : E} {cs : List E} (e0 : Env0 env sc fr) (inj : VMinj vm) (ap : Apart env) (hy : vm.lookup y = some j) (p : CompP c A fr d q env sc vm k elt iter ifs scope x src a cs) :
    StOK c A env fr vm (exec (.Assign [.Name y py] (.ListComp elt [⟨.Name x px, iter, ifs, 0⟩] scope cp) pos) env) (wpS c d q (.assign j (.comp a k src cs))) := by
  have hsw : ∃ z : Bool, swapsWith (.ListComp elt [⟨.Name x px, iter, ifs, 0⟩] scope cp) (some (.Name y py)) pos.line env = pure z := ⟨_, rfl⟩
  obtain ⟨z, hsw⟩ := hsw
  cases z with
  | false => exact st_assign e0 inj ap hy hsw rfl (snd_comp L st e0 p.ok p.set p.i p.t p.e)
  | true => exact fun σ H s K f dy hw => wpAny_mono (assign_comp (Q := fun v H₁ => K .next (ls σ j (some v)) H₁) (Z := fun x H₁ => K (.exc x) σ H₁) (K := fun fl s' => QS c fr env vm H s K fl s') L st e0 inj ap p.ok p.set hsw hy p.i p.t p.e f dy hw fun m H' s' f' dy' ex hq => ⟨.next, _, H', rfl, f', dy', ex, hq⟩) (fun _ _ h => h) fun v s' h => h.out f fun _ _ z => z

theorem st_assignAttr (L : Link c) {e o : Expr} {n : Str} {p pos : Pos} {a b : E} (hsw : ∀ env, swapsWith e (some (.Attribute o n p)) pos.line env = pure false) (hst : ∀ env, swappedStores [.Attribute o n p] e env = pure none) (x : EvOK c A env fr vm (eval e env) (wpX c d q a).1) (y : EvOK c A env fr vm (eval o env) (wpX c d q b).1) :
    StOK c A env fr vm (exec (.Assign [.Attribute o n p] e pos) env) (wpS c d q (.assignAttr b n a)) := fun σ H s K f dy hw => by
  refine assign_plain (hsw env) (hst env) rfl ?_
  refine wpAny_mono (x σ H s _ _ f dy hw) (fun v s' ⟨m, H', r, dy', ex, hq⟩ => ?_) fun v s' h => h.out f fun _ _ z => z
  show wpAny c.M A (do let ov ← holding [v] (eval o env); standAt p.atName; holding [v, ov] (setAttr ov n v); release [v, ov] []) _ _ _
  refine wpAny_bind (wpAny_holding (wpAny_mono (y σ H' s' _ _ (f.ext ex) dy' hq) (fun ov s₂ ⟨m2, H2, r2, dy2, ex2, hq2⟩ => ?_) fun v s' h => (h.step ex).out f fun _ _ z => z))
  refine wpAny_bind (wpAny_standAt (wpAny_bind (wpAny_holding (setAttr_snd L dy2 r2 (r.soft ex2.soft) hq2 fun H3 s3 dy3 ex3 hq3 => wpAny_release ?_))))
  exact ⟨.next, σ, H3, rfl, f.ext ((ex.trans ex2).trans ex3), dy3, f.w ((ex.trans ex2).trans ex3), hq3⟩

theorem assign_sub_eq (o i : Expr) (p : Pos) (v : Value) : ∃ l : Value → Value → List Value, assign (.Subscript o i p) env v = (do let ov ← holding [v] (eval o env); let iv ← holding [v, ov] (eval i env); standAt p; holding [v, ov, iv] (setItem ov iv v); release (l ov iv) []) := ⟨_, rfl⟩

theorem st_assignSub (L : Link c) {e o i : Expr} {p pos : Pos} {a b k : E} (hsw : ∀ env, swapsWith e (some (.Subscript o i p)) pos.line env = pure false) (hst : ∀ env, swappedStores [.Subscript o i p] e env = pure none) (x : EvOK c A env fr vm (eval e env) (wpX c d q a).1) (y : EvOK c A env fr vm (eval o env) (wpX c d q b).1) (z : EvOK c A env fr vm (eval i env) (wpX c d q k).1) :
    StOK c A env fr vm (exec (.Assign [.Subscript o i p] e pos) env) (wpS c d q (.assignSub b k a)) := fun σ H s K f dy hw => by
  refine assign_plain (hsw env) (hst env) rfl ?_
  refine wpAny_mono (x σ H s _ _ f dy hw) (fun v s' ⟨m, H', r, dy', ex, hq⟩ => ?_) fun v s' h => h.out f fun _ _ z => z
  obtain ⟨l, hl⟩ := assign_sub_eq (env := env) o i p v
  rw [hl]
  refine wpAny_bind (wpAny_holding (wpAny_mono (y σ H' s' _ _ (f.ext ex) dy' hq) (fun ov s₂ ⟨m2, H2, r2, dy2, ex2, hq2⟩ => ?_) fun v s' h => (h.step ex).out f fun _ _ z => z))
  refine wpAny_bind (wpAny_holding (wpAny_mono (z σ H2 s₂ _ _ (f.ext (ex.trans ex2)) dy2 hq2) (fun iv s₃ ⟨m3, H3, r3, dy3, ex3, hq3⟩ => ?_) fun v s' h => (h.step (ex.trans ex2)).out f fun _ _ z => z))
  refine wpAny_bind (wpAny_standAt (wpAny_bind (wpAny_holding (setItem_snd L dy3 (r2.soft ex3.soft) r3 (r.soft (ex2.soft.trans ex3.soft)) hq3 fun H4 s4 dy4 ex4 hq4 => wpAny_release ?_))))
  exact ⟨.next, σ, H4, rfl, f.ext (((ex.trans ex2).trans ex3).trans ex4), dy4, f.w (((ex.trans ex2).trans ex3).trans ex4), hq4⟩
end
end Mine
end
section
set_option autoImplicit false
set_option genSizeOf false
set_option genInjectivity false
set_option linter.unusedVariables false
set_option linter.unusedSimpArgs false
namespace Mine
open PySem PySem.Calls PyProof.Rows

section
variable {c : Cfg} {A : Around} {fr : List Env} {vm : VM} {env : Env} {d : Nat} {q : Bool} {sc : Sc} {σ : Lcs} {H : MH} {s : Shared} {K : MFlow → Lcs → MH → Prop}

theorem st_while {t : Expr} {b : List Stmt} {pos : Pos} {a : E} {bs : List S} (x : TsOK c A env fr vm (isTrue t env (eval t env)) (wpX c d q a).2) (y : StOK c A env fr vm (execs b env) (wpSs c d q bs)) :
    StOK c A env fr vm (exec (.While t b [] pos) env) (wpS c d q (.whil a bs)) := fun σ H s K f dy hw => by
  obtain ⟨I, n, h0, hI⟩ := hw
  refine wpAny_While (codeAny_whileLoop (fun n s' => ∃ σ' H', I n σ' H' ∧ FrOK c.h₀ env vm σ' H' s'.heap ∧ Dyn c.h₀ c.P fr H' s' ∧ Ext (owns env) H s H' s') ?_ n ⟨σ, H, h0, f, dy, f.r⟩)
  rintro n s₁ ⟨σ₁, H₁, h1, f₁, dy₁, ex₁⟩
  refine wpAny_mono (x σ₁ H₁ s₁ _ _ f₁ dy₁ (hI n σ₁ H₁ h1)) (fun r s₂ ⟨H₂, dy₂, ex₂, hq⟩ => ?_) (fun _ _ ⟨_, _, _, _, _, _, z⟩ => z.elim)
  cases r with
  | true =>
    simp only [if_true] at hq ⊢
    refine y.then (ex₁.trans (f₁.w ex₂)) (f₁.ext ex₂) dy₂ hq (fun mf fl σ3 H3 s3 fl3 f3 dy3 ex3 hq3 => ?_) (fun v s' ⟨_, _, _, _, _, _, _, _, z⟩ => z.elim)
    cases mf with
    | next => simp only [FlowR] at fl3; subst fl3; obtain ⟨m, hm, hi⟩ := hq3; exact ⟨m, hm, σ3, H3, hi, f3, dy3, ex3⟩
    | cont => simp only [FlowR] at fl3; subst fl3; obtain ⟨m, hm, hi⟩ := hq3; exact ⟨m, hm, σ3, H3, hi, f3, dy3, ex3⟩
    | brk => simp only [FlowR] at fl3; subst fl3; exact ⟨.next, σ3, H3, rfl, f3, dy3, ex3, hq3⟩
    | ret m => simp only [FlowR] at fl3; obtain ⟨v, rfl, rv⟩ := fl3; exact ⟨.ret m, σ3, H3, ⟨v, rfl, rv⟩, f3, dy3, ex3, hq3⟩
    | exc e => exact fl3.elim
  | false =>
    simp only [Bool.false_eq_true, if_false] at hq ⊢
    exact wpAny_pure ⟨.next, σ₁, H₂, rfl, f₁.ext ex₂, dy₂, ex₁.trans (f₁.w ex₂), hq⟩

/-- what holds at each turn of a loop -/
inductive FInv (c : Cfg) (fr : List Env) (env : Env) (vm : VM) (I : Addr) (u : MVal) (its : List MVal) (H : MH) (s : Shared) (W : List MVal → Lcs → MH → Prop) (n : Nat) (s' : Shared) : Prop
  | mk (i : Nat) (σ' : Lcs) (H' : MH) (hn : n = its.length + 1 - i) (hi : i ≤ its.length) (f : FrOK c.h₀ env vm σ' H' s'.heap) (dy : Dyn c.h₀ c.P fr H' s') (ex : Ext (fun a => owns env a ∨ a = I) H s H' s') (st : ItSt H' s'.heap I u its i) (hw : W (its.drop i) σ' H') : FInv c fr env vm I u its H s W n s'

theorem st_for (L : Link c) (st : Stat A fr d q) {x : Str} {j : Nat} {px pos : Pos} {it : Expr} {b : List Stmt} {a : E} {bs : List S} (e0 : Env0 env sc fr) (inj : VMinj vm) (ap : Apart env) (hset : ∀ env x, foldedSetIterable it env x = pure x) (hx : vm.lookup x = some j)
    (xi : EvOK c A env fr vm (eval it env) (wpX c d q a).1) (y : StOK c A env fr vm (execs b env) (wpSs c d q bs)) : StOK c A env fr vm (exec (.For (.Name x px) it b [] pos) env) (wpS c d q (.forr [j] a bs)) := fun σ H s K f dy hw => by
  obtain ⟨hq, hw⟩ := hw
  have hh := st.quiet hq
  refine wpAny_For (wpAny_mono (xi σ H s _ _ f dy hw) (fun v s₁ ⟨u, H₁, rv, dy₁, ex₁, hq₁⟩ => ?_) fun v s' h => h.out f fun _ _ z => z) (hset env)
  cases hits : itemsOf H₁ u with
  | none => rw [hits] at hq₁; exact hq₁.elim
  | some its =>
    rw [hits] at hq₁
    obtain ⟨hlen, hfw⟩ := hq₁
    refine iter_start L dy₁ rv hits hlen fun I s₂ dy₂ ex₂ nI hI bI st₂ => ?_
    have f₁ := f.ext ex₁
    have f₂ := f₁.ext ex₂
    have nown : ¬ owns env I := fresh_own (h' := s.heap) f₁ nI
    have ex02 : Ext (owns env) H s H₁ s₂ := f.w (ex₁.trans ex₂)
    have nIs : s.heap.get? I = none := by
      cases z : s.heap.get? I with
      | none => rfl
      | some o => exact absurd nI (ex₁.alive _ (fun z => z) (by rw [z]; simp))
    have hw2 : ∀ {H' : MH}, (∀ a, owns env a → H' a = none) → H' I = none → ∀ a, (owns env a ∨ a = I) → H' a = none := fun h1 h2 a ha => ha.elim (h1 a) fun z => z ▸ h2
    have done : ∀ {H' : MH} {s' : Shared}, Ext (fun a => owns env a ∨ a = I) H s H' s' → Ext (owns env) H s H' s' := fun e => e.drop (fun a ha hn => by rcases ha with ha | rfl; exact absurd ha hn; exact nIs) fun a ha => e.xno a (.inl ha)
    refine codeAny_forLoop (FInv c fr env vm I u its H s (fun l σ' H' => forW u (srcObj H₁ u) (fun v σ' H' k => match bindXs [j] v σ' with | some σ'' => wpSs c d q bs σ'' H' k | Option.none => False) l σ' H' K)) ?_ (its.length + 1)
      ⟨0, σ, H₁, rfl, Nat.zero_le _, f₂, dy₂, ex02.widen (fun a z => .inl z) (hw2 (fun a ha => (f₂.own a ha).1) hI), st₂, hfw⟩
    rintro n s₃ ⟨i, σ₃, H₃, rfl, hi, f₃, dy₃, ex₃, st₃, hfw₃⟩
    have hI₃ : H₃ I = none := ex₃.xno I (.inr rfl)
    by_cases hlt : i < its.length
    · obtain ⟨m, hm⟩ : ∃ m, its[i]? = some m := ⟨_, List.getElem?_eq_getElem hlt⟩
      have hdrop : its.drop i = m :: its.drop (i + 1) := by rw [List.drop_eq_getElem_cons hlt]; rw [List.getElem?_eq_getElem hlt] at hm; cases hm; rfl
      have hfw₃ : (forW u (srcObj H₁ u) (fun v σ' H' k => match bindXs [j] v σ' with | some σ'' => wpSs c d q bs σ'' H' k | Option.none => False) (its.drop i) σ₃ H₃ K) := hfw₃
      rw [hdrop] at hfw₃
      obtain ⟨so, hfw₃⟩ := hfw₃
      refine it_item dy₃ st₃ hI₃ bI hm fun v s₄ rv₄ dy₄ ex₄ st₄ => ?_
      have f₄ : FrOK c.h₀ env vm σ₃ H₃ s₄.heap := f₃.extX ex₄ fun a z => by have z : a = I := z; exact z ▸ nown
      refine wpAny_assign_Name (store_snd e0 inj ap f₄ dy₄ hx rv₄ fun s₅ f₅ dy₅ ex₅ => ?_)
      have wX := hw2 (fun a ha => (f₄.own a ha).1) hI₃
      have ex35 : Ext (fun a => owns env a ∨ a = I) H s H₃ s₅ := (ex₃.trans (ex₄.widen (fun a z => .inr z) wX)).trans (ex₅.widen (fun a z => .inl z) wX)
      have st₅ : ItSt H₃ s₅.heap I u its (i + 1) := st₄.keep ex₅ hI₃ nown rfl
      refine y.then (H₀ := H₃) (s₀ := s₅) f₅.r f₅ dy₅ hfw₃ (fun mf fl σ6 H6 s6 fl6 f6 dy6 ex6 hq6 => ?_) (fun v s' ⟨_, _, _, _, _, _, _, _, z⟩ => z.elim)
      have hI6 : H6 I = none := ex6.un st₅.alive hI₃
      have ex06 : Ext (fun a => owns env a ∨ a = I) H s H6 s6 := ex35.trans (ex6.widen (fun a z => .inl z) (hw2 (fun a ha => (f6.own a ha).1) hI6))
      have again : (forW u (srcObj H₁ u) (fun v σ' H' k => match bindXs [j] v σ' with | some σ'' => wpSs c d q bs σ'' H' k | Option.none => False) (its.drop (i + 1)) σ6 H6 K) → ∃ m, m < its.length + 1 - i ∧ FInv c fr env vm I u its H s (fun l σ' H' => forW u (srcObj H₁ u) (fun v σ' H' k => match bindXs [j] v σ' with | some σ'' => wpSs c d q bs σ'' H' k | Option.none => False) l σ' H' K) m s6 := fun hf => by
        have so6 : srcObj H6 u = srcObj H₁ u := by cases hd : its.drop (i + 1) <;> rw [hd] at hf <;> exact hf.1
        exact ⟨its.length + 1 - (i + 1), by omega, i + 1, σ6, H6, rfl, hlt, f6, dy6, ex06, st₅.keep ex6 hI₃ nown (so6.trans so.symm), hf⟩
      cases mf with
      | next => simp only [FlowR] at fl6; subst fl6; exact again hq6
      | cont => simp only [FlowR] at fl6; subst fl6; exact again hq6
      | brk => simp only [FlowR] at fl6; subst fl6; exact ⟨.next, σ6, H6, rfl, f6, dy6, done ex06, hq6⟩
      | ret m => simp only [FlowR] at fl6; obtain ⟨v, rfl, rv⟩ := fl6; exact ⟨.ret m, σ6, H6, ⟨v, rfl, rv⟩, f6, dy6, done ex06, hq6⟩
      | exc e => exact fl6.elim
    · obtain rfl : i = its.length := Nat.le_antisymm hi (Nat.not_lt.mp hlt)
      have hfw₃ : (forW u (srcObj H₁ u) (fun v σ' H' k => match bindXs [j] v σ' with | some σ'' => wpSs c d q bs σ'' H' k | Option.none => False) (its.drop its.length) σ₃ H₃ K) := hfw₃
      rw [List.drop_length] at hfw₃
      obtain ⟨so, hk⟩ := hfw₃
      refine it_end hh dy₃ st₃ hI₃ bI (Nat.le_refl _) fun s₄ dy₄ ex₄ => wpAny_pure ?_
      have wX := hw2 (fun a ha => (f₃.own a ha).1) hI₃
      exact ⟨.next, σ₃, H₃, rfl, f₃.extX ex₄ fun a z => by { have z : a = I := z; exact z ▸ nown }, dy₄, done (ex₃.trans (ex₄.widen (fun a z => .inr z) wX)), hk⟩
end
end Mine
end
section
set_option autoImplicit false
set_option linter.unusedVariables false
set_option linter.unusedSimpArgs false
namespace Mine
open PySem PySem.Calls PyProof.Rows

noncomputable def hasTb (h : Heap) (e : Addr) : Prop := ∃ o vs T, h.get? e = some o ∧ o.data = .fields vs ∧ vs[1]? = some (.ref T)

section
variable {c : Cfg} {A : Around} {fr : List Env} {vm : VM} {env : Env} {H : MH} {s : Shared} {Z : Value → Shared → Prop} {K : Unit → Shared → Prop}

theorem Dyn.frames (dy : Dyn c.h₀ c.P fr H s) : s.heap.FunFrames c.h₀ fr := by
  have : ∀ l : List Env, (∀ e ∈ l, e ∈ fr) → s.heap.FunFrames c.h₀ l := by
    intro l
    induction l with
    | nil => intro _; trivial
    | cons e r ih =>
      intro h
      obtain ⟨hk, L, o, b1, c1, d1, e1, f1, es, n, f2⟩ := dy.ff e (h e (.head _))
      exact ⟨by rw [hk]; simp, ⟨L, o, b1, c1, e1, fun vs => by rw [f2]; simp⟩, ih fun x hx => h x (.tail _ hx)⟩
  exact this fr fun _ h => h

/-- frames get their slots -/
theorem Dyn.slotted {h' : Heap} (dy : Dyn c.h₀ c.P fr H s) (x : Heap.SlotsOnly (fr.filterMap (·.frame)) s.heap h') : Dyn c.h₀ c.P fr H { s with heap := h' } ∧ Ext noX H s H { s with heap := h' } := by
  have isfr : ∀ b o, b ∈ fr.filterMap (·.frame) → s.heap.get? b = some o → o.cls = .type "frame" ∧ H b = none ∧ c.h₀.get? b = none := by
    intro b o hb e
    obtain ⟨env, he, hf⟩ := List.mem_filterMap.mp hb
    obtain ⟨hk, L, o', b1, c1, d1, e1, f1, _⟩ := dy.ff env he
    rw [b1] at hf; cases hf; rw [e] at e1; cases e1; exact ⟨f1, d1, c1⟩
  have keep : ∀ b o, s.heap.get? b = some o → o.cls ≠ .type "frame" → h'.get? b = some o := fun b o e hc => by
    by_cases hb : b ∈ fr.filterMap (·.frame)
    · exact absurd (isfr b o hb e).1 hc
    · rw [x.2.1 b hb]; exact e
  have sf : Soft s.heap h' := by
    refine ⟨fun b o e hc => keep b o e ?_, fun b d ts sl e => ⟨ts, keep b _ e (by simp), rfl⟩, fun b o e hc hd => ?_⟩
    · rcases hc with hc | hc | hc <;> rw [hc] <;> simp
    · obtain ⟨sl, e'⟩ := x.2.2 b o e
      exact ⟨_, e', hc, hd⟩
  refine ⟨⟨fun b o e => ?_, fun env he => ?_, fun a t o e => ?_⟩, ⟨fun a o e n nx c1 c2 => keep a o e c2, fun a o e n nx hc => x.2.2 a o e, sf, fun a nx h => ?_, fun _ h => h, fun _ h h' => absurd h h', fun _ z => z.elim, ⟨[], by simp, fun _ h => (by cases h)⟩, rfl⟩⟩
  · by_cases hb : b ∈ fr.filterMap (·.frame)
    · have := (isfr b o hb (dy.keep b o e)).2.2; rw [this] at e; cases e
    · show h'.get? b = some o
      rw [x.2.1 b hb]; exact dy.keep b o e
  · obtain ⟨hk, L, o, b1, c1, d1, e1, f1, f2⟩ := dy.ff env he
    obtain ⟨sl, e'⟩ := x.2.2 L o e1
    exact ⟨hk, L, _, b1, c1, d1, e', f1, f2⟩
  · obtain ⟨a1, ob, b1, c1⟩ := dy.obj a t o e
    exact ⟨a1, ob, keep _ _ b1 (fun z => c1.hard (by simp [softCls, z])), c1.soft sf⟩
  · cases q : s.heap.get? a with
    | none => exact absurd q h
    | some o => obtain ⟨sl, e'⟩ := x.2.2 a o q; show h'.get? a ≠ none; rw [e']; simp

/-- a traceback's cell is set -/
theorem Dyn.tbset {T : Addr} {dd : Option Addr} {ts : Array Value} {sl : Array (Option Value)} {i : Nat} {v : Value} (dy : Dyn c.h₀ c.P fr H s) (e : s.heap.get? T = some ⟨.type "traceback", dd, .fields ts, sl⟩) (n₀ : c.h₀.get? T = none) :
    Dyn c.h₀ c.P fr H { s with heap := s.heap.update T (Obj.mapFields (·.setIfInBounds i v)) } ∧ Ext noX H s H { s with heap := s.heap.update T (Obj.mapFields (·.setIfInBounds i v)) } := by
  have g : (s.heap.update T (Obj.mapFields (·.setIfInBounds i v))).get? T = some ⟨.type "traceback", dd, .fields (ts.setIfInBounds i v), sl⟩ := Heap.get?_update_self _ e rfl
  have k : Heap.ExtBut T s.heap (s.heap.update T (Obj.mapFields (·.setIfInBounds i v))) := (Heap.SameBut.update ..).extBut
  generalize s.heap.update T (Obj.mapFields (·.setIfInBounds i v)) = h' at *
  have sf : Soft s.heap h' := by
    refine ⟨fun b o q hc => k b o (fun z => ?_) q, fun b d ts' sl' q => ?_, fun b o q hc hd => ⟨o, k b o (fun z => ?_) q, hc, hd⟩⟩
    · subst z; rw [e] at q; cases q; simp at hc
    · by_cases z : b = T
      · subst z; rw [e] at q; cases q; exact ⟨_, g, by simp⟩
      · exact ⟨ts', k b _ z q, rfl⟩
    · subst z; rw [e] at q; cases q; simp at hc
  refine ⟨⟨fun b o q => k b o (fun z => by subst z; rw [n₀] at q; cases q) (dy.keep b o q), fun env he => ?_, fun a t o q => ?_⟩, ⟨fun a o q n nx c1 c2 => k a o (fun z => by subst z; rw [e] at q; cases q; exact c1 rfl) q, fun a o q n nx hc => ⟨o.slots, k a o (fun z => by subst z; rw [e] at q; cases q; simp at hc) q⟩, sf, fun a nx h => ?_, fun _ h => h, fun _ h h' => absurd h h', fun _ z => z.elim, ⟨[], by simp, fun _ h => (by cases h)⟩, rfl⟩⟩
  · obtain ⟨hk, L, oL, b1, c1, d1, e1, f1, f2⟩ := dy.ff env he
    obtain ⟨oL', g1, g2, g3⟩ := sf.fr L oL e1 f1 f2
    exact ⟨hk, L, oL', b1, c1, d1, g1, g2, g3⟩
  · obtain ⟨a1, ob, b1, c1⟩ := dy.obj a t o q
    exact ⟨a1, ob, k _ _ (fun z => by subst z; rw [e] at b1; cases b1; exact c1.hard (by simp [softCls])) b1, c1.soft sf⟩
  · by_cases z : a = T
    · subst z; show h'.get? _ ≠ none; rw [g]; simp
    · cases q : s.heap.get? a with
      | none => exact absurd q h
      | some o => show h'.get? _ ≠ none; rw [k a o z q]; simp

theorem exc_of {e : Addr} {t : Tag} {C : Addr} {dx : Option Addr} (dy : Dyn c.h₀ c.P fr H s) (he : H e = some (t, .exc C dx)) : c.h₀.get? e = none ∧ ∃ vs, s.heap.get? e = some ⟨.ref C, dx, .fields vs, #[]⟩ ∧ 5 ≤ vs.size ∧
    (vs[1]? = some .none ∨ ∃ T d ts tsl, vs[1]? = some (.ref T) ∧ c.h₀.get? T = none ∧ s.heap.get? T = some ⟨.type "traceback", d, .fields ts, tsl⟩ ∧ 4 ≤ ts.size) := by
  obtain ⟨n, ob, g, vs, rfl, z, r⟩ := dy.obj _ _ _ he
  exact ⟨n, vs, g, z, r⟩

theorem flight_snd {e : Addr} {t : Tag} {C : Addr} {dx : Option Addr} {f : Option Addr} (dy : Dyn c.h₀ c.P fr H s) (he : H e = some (t, .exc C dx)) (k : ∀ s', Dyn c.h₀ c.P fr H s' → Ext noX H s H s' → (hasTb s.heap e → hasTb s'.heap e) → K () s') : wpAny c.M A (setFlight (.ref e) f) K Z s := by
  obtain ⟨n, vs, g, z, r⟩ := exc_of dy he
  unfold setFlight
  rcases r with h1 | ⟨T, d, ts, tsl, h1, nT, gT, z4⟩
  · refine wpAny_bind (wpAny_field g rfl h1 ?_)
    rw [if_neg (by simp)]
    exact wpAny_pure (k s dy (.rfl0 _ _) fun h => h)
  · refine wpAny_bind (wpAny_field g rfl h1 ?_)
    rw [if_pos (by simp)]
    refine wpAny_setField gT rfl (by omega) ?_
    obtain ⟨d', e'⟩ := dy.tbset (i := 3) (v := f.elim .none fun f => rawInt f) gT nT
    refine k _ d' e' fun _ => ?_
    obtain ⟨_, vs', g', _, r'⟩ := exc_of d' he
    have ne : e ≠ T := fun q => by subst q; rw [g] at gT; cases gT
    have : (s.heap.update T (Obj.mapFields (·.setIfInBounds 3 (f.elim .none fun f => rawInt f)))).get? e = some ⟨.ref C, dx, .fields vs, #[]⟩ := (Heap.SameBut.update ..).extBut _ _ ne g
    exact ⟨_, vs, T, this, rfl, h1⟩

theorem entry_snd {e : Addr} {t : Tag} {C : Addr} {dx : Option Addr} {head : Value} {b : Bool} {L : Addr} {r : List Env} (hfr : A.frames = some fr) (hd : fr = env :: r) (hL : env.frame = some L) (dy : Dyn c.h₀ c.P fr H s) (he : H e = some (t, .exc C dx))
    (k : ∀ s', Dyn c.h₀ c.P fr H s' → Ext noX H s H s' → hasTb s'.heap e → K () s') :
    wpAny c.M A (do let a ← frameOf env; let pl ← entryPlaceOf L b; let x ← EntryCells.newEntry head a .none (rawInt L) .none pl; setField (.ref e) 1 x) K Z s := by
  refine wpAny_bind (wpAny_frameOf_fun (base := c.h₀) (outer := r) (by rw [hfr, hd]) (by rw [← hd]; exact dy.frames) hL fun h₁ hs₁ => ?_)
  rw [← hd] at hs₁
  obtain ⟨dy₁, ex₁⟩ := dy.slotted hs₁
  refine wpAny_bind (wpAny_entryPlaceOf fun pl hpl => ?_)
  unfold EntryCells.newEntry newFields
  refine wpAny_bind (wpAny_newObj_type ?_ (hpl.sizeOk5 _ _ _ _ _))
  have sz : 4 ≤ ([head, Value.ref L, .none, rawInt L, .none] ++ (if pl.isEmpty then List.replicate 6 Value.none else pl)).toArray.size := by simp
  generalize ([head, Value.ref L, .none, rawInt L, .none] ++ (if pl.isEmpty then List.replicate 6 Value.none else pl)).toArray = ts at *
  have dy₂ : Dyn c.h₀ c.P fr H { s with heap := h₁.push { cls := .type "traceback", dict := none, data := .fields ts } } := dy₁.of_keep (push_keep _ _)
  have ex₂ : Ext noX H { s with heap := h₁ } H { s with heap := h₁.push { cls := .type "traceback", dict := none, data := .fields ts } } := .of_keep (push_keep _ _)
  obtain ⟨n, vs, g, z, rr⟩ := exc_of dy₂ he
  refine wpAny_setField g rfl (by omega) ?_
  have gT : (h₁.push { cls := .type "traceback", dict := none, data := .fields ts }).get? h₁.objs.size = some ⟨.type "traceback", none, .fields ts, #[]⟩ := Heap.get?_push_size _ rfl
  have nT : c.h₀.get? h₁.objs.size = none := (fresh_facts dy₁ (size_fresh _)).2
  have ne : h₁.objs.size ≠ e := fun q => by rw [q] at gT; rw [g] at gT; cases gT
  have g' : ((h₁.push { cls := .type "traceback", dict := none, data := .fields ts }).update e (Obj.mapFields (·.setIfInBounds 1 (.ref h₁.objs.size)))).get? e = some ⟨.ref C, dx, .fields (vs.setIfInBounds 1 (.ref h₁.objs.size)), #[]⟩ := Heap.get?_update_self _ g rfl
  have hv : (vs.setIfInBounds 1 (.ref h₁.objs.size))[1]? = some (.ref h₁.objs.size) := Array.getElem?_setIfInBounds_self_of_lt (by omega)
  obtain ⟨dy₃, ex₃⟩ := dy₂.put (t' := t) (o' := .exc C dx) (s' := { s with heap := (h₁.push { cls := .type "traceback", dict := none, data := .fields ts }).update e (Obj.mapFields (·.setIfInBounds 1 (.ref h₁.objs.size))) }) he (Heap.SameBut.update ..).extBut g' (fun sf => ⟨_, rfl, by simpa using z, .inr ⟨_, none, ts, #[], hv, nT, (Heap.SameBut.update ..).extBut _ _ ne gT, sz⟩⟩)
  rw [upd_id he] at dy₃ ex₃
  exact k _ dy₃ ((ex₁.trans ex₂).trans ex₃) ⟨_, _, _, g', rfl, hv⟩

theorem note_snd {e : Addr} {t : Tag} {C : Addr} {dx : Option Addr} {r : List Env} (hfr : A.frames = some fr) (hd : fr = env :: r) (dy : Dyn c.h₀ c.P fr H s) (he : H e = some (t, .exc C dx))
    (k : ∀ s', Dyn c.h₀ c.P fr H s' → Ext noX H s H s' → hasTb s'.heap e → K () s') : wpAny c.M A (noteFrame (.ref e) env) K Z s := by
  obtain ⟨hk, L, oL, b1, c1, d1, e1, f1, f2⟩ := dy.ff env (by rw [hd]; exact .head _)
  obtain ⟨n, vs, g, z, rr⟩ := exc_of dy he
  unfold noteFrame
  rw [b1]
  dsimp only
  rcases rr with h1 | ⟨T, d, ts, tsl, h1, nT, gT, z4⟩
  · refine wpAny_bind (wpAny_field g rfl h1 ?_)
    rw [if_neg (by simp)]
    exact entry_snd hfr hd b1 dy he k
  · refine wpAny_bind (wpAny_field g rfl h1 ?_)
    rw [if_pos (by simp)]
    obtain ⟨x, hx⟩ : ∃ x, ts[3]? = some x := ⟨_, Array.getElem?_eq_getElem (by omega)⟩
    refine wpAny_bind (wpAny_field gT rfl hx ?_)
    by_cases hb : (x == rawInt L) = true
    · rw [if_pos hb]
      exact wpAny_pure (k s dy (.rfl0 _ _) ⟨_, vs, T, g, rfl, h1⟩)
    · rw [if_neg hb]
      refine wpAny_bind (wpAny_setField gT rfl (by omega) ?_)
      obtain ⟨d', e'⟩ := dy.tbset (i := 3) (v := .none) gT nT
      exact entry_snd hfr hd b1 d' he fun s' a b h => k s' a (e'.trans b) h

theorem leaving_snd {e : Addr} {t : Tag} {C : Addr} {dx : Option Addr} {r : List Env} (hfr : A.frames = some fr) (hd : fr = env :: r) (dy : Dyn c.h₀ c.P fr H s) (he : H e = some (t, .exc C dx))
    (k : ∀ s', Dyn c.h₀ c.P fr H s' → Ext noX H s H s' → hasTb s'.heap e → K () s') : wpAny c.M A (leaving env (.ref e)) K Z s := by
  unfold leaving
  exact wpAny_bind (note_snd hfr hd dy he fun s₁ dy₁ ex₁ h₁ => flight_snd dy₁ he fun s₂ dy₂ ex₂ h₂ => k s₂ dy₂ (ex₁.trans ex₂) (h₂ h₁))
end
end Mine
end
section
set_option autoImplicit false
set_option linter.unusedVariables false
set_option linter.unusedSimpArgs false
namespace Mine
open PySem PySem.Calls PyProof.Rows
open Sem (wp)

theorem dropName_shape (name : Str) {o : Obj} {es : Array DictEntry} {n : Nat} (hd : o.data = .dict es n) : ∃ es' n', Obj.dropName name o = { o with data := .dict es' n' } := by
  obtain ⟨a, b, dt, sl⟩ := o
  simp only at hd; subst hd
  simp only [Obj.dropName_eq, Obj.dropNameByArray]
  split <;> exact ⟨_, _, rfl⟩

theorem nsDel_at {M : Model} {A : Around} {E : Value → Shared → Prop} {s : Shared} {a : Addr} {m : Str → Option Value} {o : Obj} {name : Str} {v : Value} {Q : Bool → Shared → Prop} (ho : s.heap.get? a = some o) (hn : s.heap.Ns a m) (hv : m name = some v)
    (h : ∀ h' es n u, h'.get? a = some { o with data := .dict es n } → h'.Ns a (fun x => if x = name then u else m x) → Heap.SameBut a s.heap h' → Q true { s with heap := h' }) : wpAny M A (nsDel a name) Q E s := by
  intro Γ p hΓ
  obtain ⟨o', es, ep, ho', hd, hk, hm⟩ := id hn
  rw [ho] at ho'; cases ho'
  have hany : es.any (·.refKey) = false := by
    rw [Array.any_eq_false']; intro e he; obtain ⟨n, t, h⟩ := hk e he; simp [DictEntry.refKey, h]
  have hsome : es.any (·.key.isStr name) = true := by
    have : (nsFind es name).isSome = true := by rw [hm, hv]; rfl
    simp only [nsFind, findBy, Option.isSome_map] at this
    rw [Array.any_eq_true]
    obtain ⟨x, hx, hp⟩ := Array.find?_isSome.mp this
    obtain ⟨i, hi, rfl⟩ := Array.mem_iff_getElem.mp hx
    exact ⟨i, hi, hp⟩
  have hhas : nsHas name o = pure true := by
    rw [nsHas_eq]; unfold nsHasByArray; rw [hd]
    show (if (es.any fun x => x.key.isStr name) = true then _ else _) = _
    rw [if_pos hsome]
  have key : ∀ (E' : Value → Pos → Shared → Prop) (Q' : Bool → Pos → Shared → Prop), wp M Γ (nsDel a name) Q' E' p s = ((s.heap.get? a).isSome = true ∧ Q' true p { s with heap := s.heap.update a (Obj.dropName name) }) := by
    intro E' Q'
    simp only [nsDel, Sem.wp_bind']
    rw [Sem.wp_loadPart_of M Γ E' p s (o := o) _ ho]
    simp only [hhas, Sem.wp_pure', if_true, Sem.wp_bind', Sem.wp_cmd_updatePart]
  have two := wpAny_nsDel_keeps (M := M) (A := A) (E := fun _ _ => True) (name := name) (Q := fun _ s' => ∃ u, s'.heap.Ns a (fun x => if x = name then u else m x) ∧ Heap.SameBut a s.heap s'.heap) hn (fun h' v x y => ⟨v, x, y⟩) Γ p hΓ
  rw [key] at two
  rw [key]
  obtain ⟨es', n', e⟩ := dropName_shape name hd
  obtain ⟨u, t1, t2⟩ := two.2
  refine ⟨two.1, h _ es' n' u ?_ t1 t2⟩
  rw [Heap.get?_update_self _ ho (by rw [e]; rfl), e]

section
variable {c : Cfg} {A : Around} {fr : List Env} {vm : VM} {env : Env} {H : MH} {s : Shared} {sc : Sc} {σ : Lcs} {Q : Unit → Shared → Prop} {Z : Value → Shared → Prop}

/-- a local name is taken out -/
theorem unbind_snd {x : Str} {i : Nat} {m : MVal} (e0 : Env0 env sc fr) (inj : VMinj vm) (f : FrOK c.h₀ env vm σ H s.heap) (dy : Dyn c.h₀ c.P fr H s) (hv : vm.lookup x = some i) (hk : env.kindOf x = some .local) (hm : lg σ i = some m)
    (k : ∀ s', FrOK c.h₀ env vm (ls σ i Option.none) H s'.heap → Dyn c.h₀ c.P fr H s' → Ext (owns env) H s H s' → Q () s') : wpAny c.M A (unbindName env x) Q Z s := by
  have hi : i < σ.length := f.size x i hv
  obtain ⟨mm, o, es, n, ho, hc, hd, hn, hvl⟩ := f.loc
  obtain ⟨hHL, h₀L, haL⟩ := f.own _ (.inl rfl)
  have hox : ∀ a, owns env a → H a = none := fun a ha => (f.own a ha).1
  obtain ⟨v, hv', _⟩ := hm ▸ hvl x i hv hk
  unfold unbindName
  refine wpAny_bind (wpAny_point (wpAny_bind ?_))
  unfold deleteName
  have hp : (env.scope.kind == .class || (env.scope.kind == .module && env.locals != env.globals)) = false := by rw [e0.kind]; rfl
  simp only [hk, hp]
  rw [if_neg (by decide)]
  refine wpAny_bind (nsDel_at ho hn hv' fun h' es' n' u g hn' hs => ?_)
  simp only [Bool.not_true, Bool.false_eq_true, if_false]
  refine wpAny_pure (wpAny_point ?_)
  obtain ⟨dy', ex⟩ := dy.own (X := owns env) (s' := { s with heap := h' }) hs.extBut (.inl rfl) hHL h₀L ho g rfl (by
    rcases hc with hc | hc
    · exact .inr ⟨hc, _, _, rfl⟩
    · left; rw [hc]; simp [softCls]) hox
  refine k _ ⟨⟨_, _, es', n', g, hc, rfl, hn', fun y j a b => ?_⟩, fun y j a b => ?_, fun a ha => ⟨hox a ha, (f.own a ha).2.1, ?_⟩, fun y j a => by rw [ls_length]; exact f.size y j a⟩ dy' ex
  · rw [lg_ls _ _ _ _ hi]
    by_cases hj : j = i
    · subst hj; rw [if_pos rfl]; trivial
    · have hy : y ≠ x := fun z => by subst z; rw [hv] at a; cases a; exact hj rfl
      rw [if_neg hj, if_neg hy]
      exact (hvl y j a b).soft ex.soft
  · obtain ⟨kd, cc, oc, vv, l1, l2, l3, l4, l5⟩ := f.cel y j a b
    have ne : cc ≠ env.locals := fun z => by subst z; rw [ho] at l2; cases l2; rw [hd] at l4; cases l4
    refine ⟨kd, cc, oc, vv, l1, hs.extBut _ _ ne l2, l3, l4, ?_⟩
    rw [lg_ls _ _ _ _ hi]
    split
    · trivial
    · exact l5.soft ex.soft
  · by_cases z : a = env.locals
    · subst z; show h'.get? _ ≠ none; rw [g]; simp
    · show h'.get? _ ≠ none; rw [hs.2 a z]; exact (f.own a ha).2.2
end
end Mine
end
section
set_option autoImplicit false
set_option linter.unusedVariables false
set_option linter.unusedSimpArgs false
namespace Mine
open PySem PySem.Calls PyProof.Rows W

section
variable {c : Cfg} {A : Around} {fr : List Env} {vm : VM} {env : Env} {d : Nat} {q : Bool} {sc : Sc} {σ : Lcs} {H : MH} {s : Shared} {K : MFlow → Lcs → MH → Prop}

theorem exc_facts {C : Addr} (h : c.exc C = true) : mroIn c.K C (.type "BaseException") = some true ∧ typeIn c.K (.ref C) = some (.type "type") ∧ ∃ cd, clsIn c.K C = some cd := by
  unfold Cfg.exc at h
  simp only [Bool.and_eq_true] at h
  obtain ⟨⟨h1, h2⟩, h3⟩ := h
  exact ⟨eq_of_beq h1, eq_of_beq h2, Option.isSome_iff_exists.mp h3⟩

theorem typeOf_ref {M : Model} {E : Value → Shared → Prop} {a : Addr} {o : Obj} {Q : Value → Shared → Prop} (g : s.heap.get? a = some o) (k : Q o.cls s) : wpAny M A (typeOf (.ref a)) Q E s := by
  simp only [typeOf]; exact wpAny_bind (wpAny_load g (wpAny_pure k))
theorem isType_fields {M : Model} {E : Value → Shared → Prop} {a : Addr} {o : Obj} {vs : Array Value} {Q : Bool → Shared → Prop} (g : s.heap.get? a = some o) (hd : o.data = .fields vs) (k : Q false s) : wpAny M A (isType (.ref a)) Q E s := by
  unfold isType loadHead
  refine wpAny_bind (wpAny_loadPart g ?_)
  rw [hd]
  exact wpAny_pure k
theorem isType_cls {M : Model} {E : Value → Shared → Prop} {C : Addr} {cd : ClassData} {Q : Bool → Shared → Prop} {K : Frag} (X : K.In s.heap) (e : clsIn K C = some cd) (k : Q true s) : wpAny M A (isType (.ref C)) Q E s := by
  unfold clsIn at e
  split at e
  · rename_i hl
    unfold isType loadHead
    exact wpAny_bind (wpAny_loadPart (X _ _ hl) (wpAny_pure k))
  · cases e

theorem st_raise (L : Link c) (st : Stat A fr d q) {e : Expr} {pos : Pos} {a : E} (x : EvOK c A env fr vm (eval e env) (wpX c d q a).1) : StOK c A env fr vm (exec (.Raise (some e) none pos) env) (wpS c d q (.raise a)) := fun σ H s K f dy hw => by
  obtain ⟨hq, hw⟩ := hw
  have hh := st.quiet hq
  rw [arm_exec_Raise]
  refine wpAny_bind (wpAny_standAt ?_)
  show wpAny c.M A (raiseStmt env (some (do let v ← eval e env; standAt pos; pure v)) none) _ _ _
  unfold raiseStmt
  refine wpAny_bind (wpAny_bind (wpAny_mono (x σ H s _ _ f dy hw) (fun v s' ⟨m, H', r, dy', ex, hq⟩ => ?_) fun v s' h => h.out f fun _ _ z => z))
  refine wpAny_bind (wpAny_standAt (wpAny_pure ?_))
  obtain ⟨b, e1, hq⟩ := onR hq
  rw [e1] at r
  simp only [VR] at r; subst r
  obtain ⟨p, hb, hc, hk⟩ := on_inv hq
  obtain ⟨t, C⟩ := p
  obtain ⟨dx, hb⟩ := atX hb
  obtain ⟨n, vs, g, z, rr⟩ := exc_of dy' hb
  obtain ⟨m1, m2, cd, m3⟩ := exc_facts hc
  have KX := L.K.keeps dy'.keep
  refine wpAny_bind (wpAny_pure (wpAny_bind (wpAny_holding ?_)))
  unfold excFromValue isExcClass
  refine wpAny_bind (wpAny_bind (isType_fields g rfl ?_))
  rw [if_neg (by decide)]
  refine wpAny_pure ?_
  rw [if_neg (by decide)]
  unfold isInstance
  refine wpAny_bind (wpAny_bind (typeOf_ref g ((looks_mroIn KX m1).here ?_)))
  rw [if_pos rfl]
  refine wpAny_pure ?_
  dsimp only
  refine wpAny_bind (isType_fields g rfl ?_)
  rw [if_neg (by decide)]
  unfold raisedInstance
  refine wpAny_bind (wpAny_bind (typeOf_ref g (wpAny_bind ((looks_typeIn KX m2).here ?_))))
  rw [if_pos (by decide)]
  refine wpAny_pure (wpAny_bind (flight_snd dy' hb fun s₂ dy₂ ex₂ _ => wpAny_raiseNew_none hh ?_))
  exact ⟨b, σ, H', rfl, ⟨t, C, dx, hb⟩, f.ext (ex.trans ex₂), dy₂, f.w (ex.trans ex₂), hk⟩

theorem matches_snd (L : Link c) {e D : Addr} {t : Tag} {C : Addr} {dx : Option Addr} {b : Bool} {Q : Bool → Shared → Prop} {Z : Value → Shared → Prop} (dy : Dyn c.h₀ c.P fr H s) (he : H e = some (t, .exc C dx)) (hD : c.exc D = true) (hs : c.sub C D = some b) (k : Q b s) :
    wpAny c.M A (excMatches (.ref e) (.ref D)) Q Z s := by
  obtain ⟨n, vs, g, z, rr⟩ := exc_of dy he
  obtain ⟨m1, m2, cd, m3⟩ := exc_facts hD
  have KX := L.K.keeps dy.keep
  have ti : Looks c.M s.heap (isSubtype (.type "type") (.type "tuple")) false := looks_subIn KX (t := .type "type") (by rfl)
  unfold excMatches
  refine wpAny_bind (m := isInstance (.ref D) (.type "tuple")) ?_
  unfold isInstance
  refine wpAny_bind ((looks_typeIn KX m2).here (ti.here ?_))
  rw [if_neg (by decide)]
  refine wpAny_bind (wpAny_pure ?_)
  simp only [List.forIn_cons, List.forIn_nil]
  refine wpAny_bind (wpAny_bind ?_)
  unfold isExcClass
  refine wpAny_bind (wpAny_bind (isType_cls KX m3 ?_))
  rw [if_pos rfl]
  refine (looks_mroIn KX m1).here ?_
  rw [if_neg (by decide)]
  refine wpAny_pure (wpAny_pure (wpAny_bind (typeOf_ref g (wpAny_bind (wpAny_bind (wpAny_bind ((looks_mroIn KX hs).here ?_)))))))
  cases b with
  | true => rw [if_pos rfl]; exact wpAny_pure (wpAny_pure (wpAny_pure k))
  | false => rw [if_neg (by decide)]; exact wpAny_pure (wpAny_pure (wpAny_pure k))

theorem Stat.mark (st : Stat A fr d q) (x : Option Value) : Stat (A.mark x) fr d false :=
  ⟨st.frames, st.depth, st.units, fun h => by cases h⟩

theorem ls_ls : ∀ (σ : Lcs) (i : Nat) (u v : Option MVal), ls (ls σ i u) i v = ls σ i v
  | [], _, _, _ => rfl
  | _ :: _, 0, _, _ => rfl
  | x :: r, i + 1, u, v => congrArg (x :: ·) (ls_ls r i u v)

theorem bindUnbind {n : Str} {i : Nat} {pos : Pos} {Q : Unit → Shared → Prop} {Z : Value → Shared → Prop} (e0 : Env0 env sc fr) (inj : VMinj vm) (ap : Apart env) (f : FrOK c.h₀ env vm σ H s.heap) (dy : Dyn c.h₀ c.P fr H s) (hv : vm.lookup n = some i) (hk : env.kindOf n = some .local)
    (k : ∀ s', FrOK c.h₀ env vm (ls σ i Option.none) H s'.heap → Dyn c.h₀ c.P fr H s' → Ext (owns env) H s H s' → Q () s') : wpAny c.M A (do bindName env n .none; unbindBehindTheSuite env n pos) Q Z s := by
  have hi : i < σ.length := f.size n i hv
  refine wpAny_bind (wpAny_bindName (store_snd (m := .none) e0 inj ap f dy hv rfl fun s₁ f₁ dy₁ ex₁ => ?_))
  unfold unbindBehindTheSuite
  refine wpAny_onRaise (unbind_snd (m := .none) e0 inj f₁ dy₁ hv hk (by rw [lg_ls _ _ _ _ hi, if_pos rfl]) fun s₂ f₂ dy₂ ex₂ => k s₂ ?_ dy₂ (ex₁.trans ex₂))
  rw [ls_ls] at f₂; exact f₂

/-- one clause, and a suite that raises nothing -/
theorem st_try (L : Link c) (st : Stat A fr d q) {body hb : List Stmt} {t : Expr} {x : Option Str} {j : Option Nat} {hp pos : Pos} {bs hs : List S} {a : E} {b₀ : Stmt} {r : List Env} (e0 : Env0 env sc fr) (inj : VMinj vm) (ap : Apart env) (hd : fr = env :: r)
    (hj : match x, j with | some n, some i => vm.lookup n = some i ∧ env.kindOf n = some .local | none, none => True | _, _ => False)
    (y : StOK c A env fr vm (execs body env) (wpSs c d q bs)) (ht : ∀ e, EvOK c (A.mark (some e)) env fr vm (eval t env) (wpX c d false a).1) (z : ∀ e, StOK c (A.mark (some e)) env fr vm (execs (b₀ :: hb) env) (wpSs c d false hs)) :
    StOK c A env fr vm (exec (.Try body [.ExceptHandler (some t) x (b₀ :: hb) hp] [] [] pos) env) (wpS c d q (.tryx bs [.hand a j hs] [])) := fun σ H s K f dy hw => by
  refine wpAny_Try_except (y.then f.r f dy hw (fun mf fl σ1 H1 s1 fl1 f1 dy1 ex1 hq1 => ?_) fun v s1 h1 => ?_)
  · cases mf with
    | next => simp only [FlowR] at fl1; subst fl1; exact wpAny_pure ⟨.next, σ1, H1, rfl, f1, dy1, ex1, hq1⟩
    | brk => simp only [FlowR] at fl1; subst fl1; exact ⟨.brk, σ1, H1, rfl, f1, dy1, ex1, hq1⟩
    | cont => simp only [FlowR] at fl1; subst fl1; exact ⟨.cont, σ1, H1, rfl, f1, dy1, ex1, hq1⟩
    | ret m => simp only [FlowR] at fl1; obtain ⟨v, rfl, rv⟩ := fl1; exact ⟨.ret m, σ1, H1, ⟨v, rfl, rv⟩, f1, dy1, ex1, hq1⟩
    | exc e => exact fl1.elim
  · obtain ⟨e, σ1, H1, rfl, ⟨tg, C, dx, he⟩, f1, dy1, ex1, hq1⟩ := h1
    refine note_snd st.frames hd dy1 he fun s2 dy2 ex2 _ => flight_snd dy2 he fun s3 dy3 ex3 _ => ?_
    have ex13 := ex2.trans ex3
    have f3 := f1.ext ex13
    refine wpAny_handleBy_cons (codeAny_handlers_test (wpAny_mono (ht (.ref e) σ1 H1 s3 _ _ f3 dy3 hq1) (fun v s4 ⟨m, H4, r4, dy4, ex4, hq4⟩ => ?_) (fun _ _ ⟨_, _, _, _, _, _, z⟩ => z.elim))) (by intro q; cases q)
    have f4 := f3.ext ex4
    have ex04 : Ext (owns env) H s H4 s4 := ex1.trans (f1.w (ex13.trans ex4))
    obtain ⟨D, e1, hq4⟩ := onR hq4
    rw [e1] at r4
    simp only [VR] at r4; subst r4
    obtain ⟨pr, heq, hD, hsub, hq4⟩ := on_inv hq4
    obtain ⟨tg', C'⟩ := pr
    obtain ⟨dx', heq⟩ := atX heq
    refine matches_snd L dy4 heq hD hsub ?_
    try dsimp only at hq4 ⊢
    cases x with
    | none =>
      cases j with
      | some i => exact hj.elim
      | none =>
        refine codeAny_handlers_suite (flight_snd dy4 heq fun s5 dy5 ex5 _ => ?_)
        refine (z (.ref e)).then (ex04.trans (f4.w ex5)) (f4.ext ex5) dy5 hq4 (fun mf fl σ6 H6 s6 fl6 f6 dy6 ex6 hq6 => ?_) (fun v s' ⟨_, _, _, _, _, _, _, _, z⟩ => z.elim)
        cases mf with
        | exc e => exact fl6.elim
        | next => exact ⟨_, σ6, H6, fl6, f6, dy6, ex6, hq6⟩
        | brk => exact ⟨_, σ6, H6, fl6, f6, dy6, ex6, hq6⟩
        | cont => exact ⟨_, σ6, H6, fl6, f6, dy6, ex6, hq6⟩
        | ret m => exact ⟨_, σ6, H6, fl6, f6, dy6, ex6, hq6⟩
    | some n =>
      cases j with
      | none => exact hj.elim
      | some i =>
        obtain ⟨hv, hk⟩ := hj
        refine codeAny_handlers_suite_as (flight_snd dy4 heq fun s5 dy5 ex5 _ => ?_)
        have f5 := f4.ext ex5
        refine store_snd (m := .ref e) e0 inj ap f5 dy5 hv rfl fun s6 f6 dy6 ex6 => ?_
        refine (z (.ref e)).then ((ex04.trans (f4.w ex5)).trans ex6) f6 dy6 hq4 (fun mf fl σ7 H7 s7 fl7 f7 dy7 ex7 hq7 => ?_) (fun v s' ⟨_, _, _, _, _, _, _, _, z⟩ => z.elim)
        dsimp only
        refine bindUnbind e0 inj ap f7 dy7 hv hk fun s8 f8 dy8 ex8 => ?_
        cases mf with
        | exc e => exact fl7.elim
        | next => exact ⟨.next, _, H7, fl7, f8, dy8, ex7.trans ex8, hq7⟩
        | brk => exact ⟨.brk, _, H7, fl7, f8, dy8, ex7.trans ex8, hq7⟩
        | cont => exact ⟨.cont, _, H7, fl7, f8, dy8, ex7.trans ex8, hq7⟩
        | ret m => obtain ⟨v, e1, rv⟩ := fl7; exact ⟨.ret m, _, H7, ⟨v, e1, rv.soft ex8.soft⟩, f8, dy8, ex7.trans ex8, hq7⟩
end
end Mine
end
section
set_option autoImplicit false
set_option linter.unusedVariables false
set_option linter.unusedSimpArgs false
namespace Mine
open PySem PySem.Calls PyProof.Rows W

section
variable {c : Cfg} {A : Around} {fr : List Env} {vm : VM} {env : Env} {d : Nat} {q : Bool} {sc : Sc} {σ : Lcs} {H : MH} {s : Shared} {K : MFlow → Lcs → MH → Prop}

/-- what a slice from a place on leaves -/
theorem filter_tail {α : Type} (a : Int) (i n : Nat) (ha : a = i) : ∀ (xs : List α) (k : Nat), (∀ j, k ≤ j → j < k + xs.length → (j < n)) → (xs.zipIdx k).filterMap (fun x => if (decide (a ≤ x.2) && decide ((x.2 : Int) < n) && (((x.2 : Int) - a) % 1 == 0)) = true then Option.none else some x.1) = xs.take (i - k)
  | [], k, _ => by simp
  | x :: xs, k, h => by
    simp only [List.zipIdx_cons, List.filterMap_cons]
    have hk : k < n := h k (Nat.le_refl _) (by simp)
    have ih := filter_tail a i n ha xs (k + 1) (fun j h1 h2 => h j (by omega) (by simp at h2 ⊢; omega))
    have m1 : (((k : Int) - a) % 1 == 0) = true := by simp [Int.emod_one]
    by_cases hik : i ≤ k
    · have : (decide (a ≤ (k : Int)) && decide ((k : Int) < (n : Int)) && (((k : Int) - a) % 1 == 0)) = true := by
        rw [m1]; simp; omega
      rw [if_pos this, ih]
      have e1 : i - (k + 1) = 0 := by omega
      have e2 : i - k = 0 := by omega
      simp [e1, e2]
    · have : ¬ (decide (a ≤ (k : Int)) && decide ((k : Int) < (n : Int)) && (((k : Int) - a) % 1 == 0)) = true := by
        rw [m1]; simp; omega
      rw [if_neg this, ih]
      obtain ⟨m, hm⟩ : ∃ m, i - k = m + 1 := ⟨i - k - 1, by omega⟩
      rw [hm, show i - (k + 1) = m by omega]; rfl

theorem upd_to {M : Model} {E : Value → Shared → Prop} {l : Addr} {items ys : Array Value} {n : Nat} {f : Array Value → Array Value} {Q : Unit → Shared → Prop} (g : s.heap.get? l = some ⟨.type "list", none, .seq items n, #[]⟩) (hs : items.size ≤ sizeLine) (hy : ys.size ≤ sizeLine + 1) (hf : f items = ys)
    (k : ∀ n' h', h'.get? l = some ⟨.type "list", none, .seq ys n', #[]⟩ → Heap.SameBut l s.heap h' → Q () { s with heap := h' }) : wpAny M A (Builtin.List.listUpdate (.ref l) f) Q E s := by
  subst hf
  exact wpAny_updateSeq g rfl (k _ _ (IsL.update (n := n) g f) (Heap.SameBut.update ..)) hs hy

theorem delSlice_list {l sl : Addr} {items : Array Value} {n : Nat} {vl : Value} {i : Nat} {KK : Unit → Shared → Prop} {Z : Value → Shared → Prop} (g : s.heap.get? l = some ⟨.type "list", none, .seq items n, #[]⟩)
    (hs : s.heap.IsSliceOf sl vl .none .none) (pl : IsPart vl (some (i : Int))) (hsz : items.size ≤ sizeLine)
    (k : ∀ n' h', h'.get? l = some ⟨.type "list", none, .seq (items.toList.take i).toArray n', #[]⟩ → Heap.SameBut l s.heap h' → KK () { s with heap := h' }) :
    wpAny c.M A (delItem (.ref l) (.ref sl)) KK Z s := by
  have hl : s.heap.IsList l items := ⟨_, g, rfl, n, rfl⟩
  obtain ⟨os, hos, hcs, hds⟩ := id hs
  have hTs : s.TypeIs (.ref sl) "slice" := ⟨os, hos, hcs⟩
  refine wpAny_delItem_slot hl.typeIs (by decide) F.slot_list_delitem ?_
  refine wpAny_call_entry F.slot_list_delitem hl.typeIs F.entry_list_delitem ?_ (F.args_list_delitem_2 _ _)
  show wpAny _ _ (Builtin.List.listSubscript? (.ref sl) >>= _) _ _ s
  refine wpAny_bind ?_
  unfold Builtin.List.listSubscript?
  refine wpAny_bind (wpAny_specialOf hTs slice_no_index ?_)
  simp only [Option.isNone_none, if_true]
  refine wpAny_pure ?_
  show wpAny _ _ (typeOf (.ref sl) >>= _) _ _ s
  refine wpAny_bind (wpAny_typeOf hTs ?_)
  rw [if_neg (by decide)]
  rw [listSliceParts_eq]
  refine wpAny_bind (wpAny_bind (wpAny_field hos hds (x := .none) rfl (wpAny_bind (wpAny_listPart .none ?_))))
  rw [if_neg (by decide)]
  refine wpAny_bind (wpAny_field hos hds (x := vl) rfl (wpAny_bind (wpAny_listPart pl ?_)))
  refine wpAny_bind (wpAny_field hos hds (x := .none) rfl (wpAny_bind (wpAny_listPart .none (wpAny_pure ?_))))
  refine wpAny_bind (m := Builtin.List.listItems (.ref l)) ?_
  unfold Builtin.List.listItems
  refine wpAny_bind (wpAny_seqItems g rfl (wpAny_pure ?_))
  refine wpAny_bind (wpAny_of_eq (sliceIndices_raw (some (i : Int)) none none items.size (by simp)) ?_)
  refine wpAny_bind (wpAny_rule (wpAny_bind ?_))
  have ha : (sliceBounds (some (i : Int)) none none items.size).1 = ((min i items.size : Nat) : Int) := by
    simp [sliceBounds]; omega
  have e := filter_tail (sliceBounds (some (i : Int)) none none items.size).1 (min i items.size) items.size ha items.toList 0 (fun j _ h => by simpa using h)
  have e2 : items.toList.take (min i items.size - 0) = items.toList.take i := by
    rw [Nat.sub_zero, ← Array.length_toList, List.take_eq_take_iff]; omega
  rw [e2] at e
  refine upd_to (ys := (items.toList.take i).toArray) g hsz (by simp; omega) ?_ fun n' h' g' hs' => wpAny_bind (wpAny_letGo (wpAny_pure ⟨.none, rfl, k n' h' g' hs'⟩))
  rw [← e]
  rfl

theorem st_delSlice {o : Expr} {lo hi : Option Expr} {sp p pos : Pos} {a b e : E} (x : EvOK c A env fr vm (eval o env) (wpX c d q a).1) (y : EvOK c A env fr vm (valueOrNone (evalOpt lo env)) (wpX c d q b).1) (z : EvOK c A env fr vm (valueOrNone (evalOpt hi env)) (wpX c d q e).1) :
    StOK c A env fr vm (exec (.Delete [.Subscript o (.Slice lo hi Option.none sp) p] pos) env) (wpS c d q (.delSlice a b e)) := fun σ H s K f dy hw => by
  refine wpAny_Delete (wpAny_deleteEach_cons ?_)
  show wpAny c.M A (do let ov ← eval o env; let iv ← holding [ov] (eval (.Slice lo hi Option.none sp) env); standAt p; holding [ov, iv] (delItem ov iv); release [ov, iv] []) _ _ _
  refine wpAny_bind (wpAny_mono (x σ H s _ _ f dy hw) (fun ov s₁ ⟨m1, H1, r1, dy1, ex1, hq1⟩ => ?_) fun v s' h => h.out f fun _ _ z => z)
  refine wpAny_bind (wpAny_holding ?_)
  rw [arm_eval_Slice]
  refine wpAny_bind (wpAny_mono (y σ H1 s₁ _ _ (f.ext ex1) dy1 hq1) (fun vl s₂ ⟨m2, H2, r2, dy2, ex2, hq2⟩ => ?_) fun v s' h => (h.step ex1).out f fun _ _ z => z)
  refine wpAny_bind (wpAny_holding (wpAny_mono (z σ H2 s₂ _ _ (f.ext (ex1.trans ex2)) dy2 hq2) (fun vh s₃ ⟨m3, H3, r3, dy3, ex3, hq3⟩ => ?_) fun v s' h => (h.step (ex1.trans ex2)).out f fun _ _ z => z))
  refine wpAny_bind (wpAny_holding (wpAny_pure ?_))
  obtain ⟨l, e1, hq3⟩ := onR hq3
  have r1' := (r1.soft ex2.soft).soft ex3.soft
  rw [e1] at r1'
  simp only [VR] at r1'; subst r1'
  obtain ⟨tg, xs, ha, hq3⟩ := onL hq3
  obtain ⟨i, e2, hn, ⟨h0, h1⟩, hk⟩ := onI hq3
  have r2' := r2.soft ex3.soft
  rw [e2] at r2'
  obtain ⟨t, rfl⟩ := r2'
  rw [hn] at r3
  simp only [VR] at r3; subst r3
  obtain ⟨vs, n, g, zz, r⟩ := list_of dy3 ha
  unfold newFields
  refine wpAny_newObj_type ?_
  have exs : Ext noX H3 s₃ H3 { s₃ with heap := s₃.heap.push { cls := .type "slice", data := .fields #[.int i t, .none, .none] } } := .of_keep (push_keep _ _)
  have dys : Dyn c.h₀ c.P fr H3 { s₃ with heap := s₃.heap.push { cls := .type "slice", data := .fields #[.int i t, .none, .none] } } := dy3.of_keep (push_keep _ _)
  have := BIG_eq; have := sizeLine_big
  refine wpAny_bind (wpAny_standAt (wpAny_bind (wpAny_holding (delSlice_list (i := i.toNat) (push_keep _ _ _ _ g) (Heap.IsSliceOf.new ..) (by rw [show ((i.toNat : Nat) : Int) = i by omega]; exact .int _ t) (by omega) fun n' h' g' hs => wpAny_release (wpAny_deleteEach_nil ?_)))))
  obtain ⟨d', e'⟩ := dys.put (t' := tg) (o' := .list (xs.take i.toNat)) (s' := { s₃ with heap := h' }) ha hs.extBut g' (fun sf => ⟨_, _, rfl, by simp; omega, ((r.soft exs.soft).soft sf).take _⟩)
  have exx := ((ex1.trans ex2).trans (ex3.trans exs)).trans e'
  exact ⟨.next, σ, _, rfl, f.ext exx, d', f.w exx, hk⟩

theorem inOrder (e0 : Env0 env sc fr) (inj : VMinj vm) (ap : Apart env) {Z : Value → Shared → Prop} {R : Unit → Shared → Prop} {H₀ : MH} {s₀ : Shared} : ∀ {ts : List Expr} {xs : List Nat} {ms : List MVal} {vs : List Value} {σ : Lcs} {H : MH} {s : Shared}, TrN vm ts xs → xs.length = ms.length → VRs s.heap ms vs →
    FrOK c.h₀ env vm σ H s.heap → Dyn c.h₀ c.P fr H s → Ext (owns env) H₀ s₀ H s →
    (∀ s', FrOK c.h₀ env vm ((xs.zip ms).foldl (fun σ p => ls σ p.1 (some p.2)) σ) H s'.heap → Dyn c.h₀ c.P fr H s' → Ext (owns env) H₀ s₀ H s' → R () s') →
    wpAny c.M A (assignInOrder ((assignEach ts env).map (·.2)) vs) R Z s
  | [], _, ms, vs, σ, H, s, e, hl, hv, f, dy, ex, k => by
    cases e
    cases ms with
    | cons _ _ => simp at hl
    | nil => exact wpAny_pure (k s f dy ex)
  | t :: ts, xs, ms, vs, σ, H, s, e, hl, hv, f, dy, ex, k => by
    cases e
    rename_i x px i is hi his
    cases ms with
    | nil => simp at hl
    | cons m ms =>
      simp only [VRs] at hv
      obtain ⟨v, vr, rfl, rv, rvs⟩ := hv
      have tl : ∀ s', FrOK c.h₀ env vm (ls σ i (some m)) H s'.heap → Dyn c.h₀ c.P fr H s' → Ext (owns env) H s H s' → wpAny c.M A (assignInOrder ((assignEach ts env).map (·.2)) vr) R Z s' := fun s' f' dy' ex' =>
        inOrder e0 inj ap his (by simpa using hl) (rvs.soft ex'.soft) f' dy' (ex.trans ex') k
      show wpAny c.M A (do holding vr (assign (.Name x px) env v); assignInOrder ((assignEach ts env).map (·.2)) vr) _ _ _
      exact wpAny_bind (wpAny_holding (wpAny_assign_Name (store_snd e0 inj ap f dy hi rv fun s' f' dy' ex' => tl s' f' dy' ex')))

theorem names_len : ∀ {ts : List Expr} {xs : List Nat}, TrN vm ts xs → ts.length = xs.length
  | [], _, .nil => rfl
  | _ :: _, _, .cons _ his => congrArg (· + 1) (names_len his)

theorem names_each : ∀ {ts : List Expr} {xs : List Nat}, TrN vm ts xs → (assignEach ts env).length = xs.length ∧ ∀ p ∈ assignEach ts env, p.1 = false
  | [], _, .nil => ⟨rfl, fun p hp => by cases hp⟩
  | t :: ts, xs, e => by
    cases e
    rename_i x px i is hi his
    obtain ⟨a, b⟩ := names_each his
    refine ⟨?_, fun p hp => ?_⟩
    · show (assignEach ts env).length + 1 = is.length + 1
      rw [a]
    · have hp : p ∈ (false, assign (.Name x px) env) :: assignEach ts env := hp
      rcases List.mem_cons.mp hp with rfl | hp
      · rfl
      · exact b p hp

theorem st_unpack (st : Stat A fr d q) {e : Expr} {ts : List Expr} {kk : Nat} {p pos : Pos} {a : E} {xs : List Nat} (e0 : Env0 env sc fr) (inj : VMinj vm) (ap : Apart env) (hsw : ∀ env, swapsWith e (some (.Tuple ts kk p)) pos.line env = pure false) (hst : ∀ env, swappedStores [.Tuple ts kk p] e env = pure none) (h3 : 2 ≤ ts.length) (hx : TrN vm ts xs)
    (x : EvOK c A env fr vm (eval e env) (wpX c d q a).1) : StOK c A env fr vm (exec (.Assign [.Tuple ts kk p] e pos) env) (wpS c d q (.unpack xs a)) := fun σ H s K f dy hw => by
  obtain ⟨hq, hw⟩ := hw
  have hh := st.quiet hq
  refine assign_plain (hsw env) (hst env) rfl ?_
  refine wpAny_mono (x σ H s _ _ f dy hw) (fun v s₁ ⟨m, H₁, r, dy₁, ex₁, hq₁⟩ => ?_) fun v s' h => h.out f fun _ _ z => z
  obtain ⟨n1, n2⟩ := names_each (env := env) hx
  have f₁ := f.ext ex₁
  have hxl : 2 ≤ xs.length := by
    have := names_len hx
    omega
  cases hb : bindXs xs m σ with
  | none => rw [hb] at hq₁; exact hq₁.elim
  | some σ' =>
    rw [hb] at hq₁
    have : ∃ ms, m = .tup ms ∧ xs.length = ms.length ∧ σ' = (xs.zip ms).foldl (fun σ p => ls σ p.1 (some p.2)) σ := by
      unfold bindXs at hb
      rw [if_neg (by omega)] at hb
      obtain ⟨ms, e1, hb⟩ := Option.bind_eq_some_iff.mp hb
      obtain ⟨hl, hb⟩ := ite_some hb
      exact ⟨ms, asT_inv e1, hl, (Option.some.inj hb).symm⟩
    obtain ⟨ms, rfl, hl, rfl⟩ := this
    simp only [VR] at r
    obtain ⟨tp, vs, nn, rfl, _, g, rvs⟩ := r
    show wpAny c.M A (do standAt p; unpack (.ref tp) (assignEach ts env)) _ _ _
    refine wpAny_bind (wpAny_standAt (wpAny_unpack_tuple (items := vs) hh ⟨_, g, rfl, nn, rfl⟩ ?_ ?_ fun h' hs => ?_))
    · have := rvs.length; rw [Array.length_toList] at this; omega
    · rw [List.findIdx?_eq_none_iff]; intro p hp; exact n2 p hp
    · have kp : ∀ b o, s₁.heap.get? b = some o → h'.get? b = some o := fun b o e => hs b o (fun z => by subst z; rw [size_fresh] at e; cases e) e
      have exk : Ext noX H₁ s₁ H₁ { s₁ with heap := h' } := .of_keep kp
      refine inOrder e0 inj ap hx hl (rvs.soft exk.soft) (f₁.ext exk) (dy₁.of_keep kp) (f.w (ex₁.trans exk)) fun s' f' dy' ex' => ⟨.next, _, H₁, rfl, f', dy', ex', hq₁⟩
end
end Mine
end
section
set_option autoImplicit false
set_option linter.unusedVariables false
set_option linter.unusedSimpArgs false
set_option genSizeOf false
set_option genInjectivity false
namespace Mine
open PySem PySem.Calls PyProof.Rows W

section
variable {c : Cfg} {fr : List Env} {sc : Sc} {vm : VM} {k : Nat}

structure StEnv (fr : List Env) (A : Around) (d : Nat) (q : Bool) (env : Env) (sc : Sc) (vm : VM) (k : Nat) : Prop extends Here A fr d q env sc vm k where
  inj : VMinj vm
  ap : Apart env
  top : ∃ r, fr = env :: r

theorem StEnv.mark {A : Around} {d : Nat} {q : Bool} {env : Env} (x : StEnv fr A d q env sc vm k) (e : Value) : StEnv fr (A.mark (some e)) d false env sc vm k := ⟨⟨x.st.mark _, x.e0, x.lt⟩, x.inj, x.ap, x.top⟩

structure GoodS (c : Cfg) (sc : Sc) (vm : VM) (k : Nat) (st : Stmt) (a : S) : Prop where
  h : ∀ {A : Around} {fr : List Env} {d : Nat} {q : Bool} {env : Env}, StEnv fr A d q env sc vm k → StOK c A env fr vm (exec st env) (wpS c d q a)
structure GoodSs (c : Cfg) (sc : Sc) (vm : VM) (k : Nat) (st : List Stmt) (a : List S) : Prop where
  h : ∀ {A : Around} {fr : List Env} {d : Nat} {q : Bool} {env : Env}, StEnv fr A d q env sc vm k → StOK c A env fr vm (execs st env) (wpSs c d q a)

theorem TrSs.nil : GoodSs c sc vm k [] [] := ⟨fun _ => st_nil⟩
theorem TrSs.cons {s : Stmt} {r : List Stmt} {a : S} {as : List S} (x : GoodS c sc vm k s a) (y : GoodSs c sc vm k r as) : GoodSs c sc vm k (s :: r) (a :: as) := ⟨fun o => st_cons (x.h o) (y.h o)⟩
theorem TrS.expr {e : Expr} {p : Pos} {a : E} (hc : ∀ env, swapsWith e none p.line env = pure false) (x : Good c sc vm k e a) : GoodS c sc vm k (.Expr e p) (.expr a) := ⟨fun o => st_expr o.e0 hc (x.h o.1).1⟩
theorem TrS.ret {e : Expr} {p : Pos} {a : E} (x : Good c sc vm k e a) : GoodS c sc vm k (.Return (some e) p) (.ret a) := ⟨fun o => st_ret (x.h o.1).1⟩
theorem TrS.assign {y : Str} {py p : Pos} {e : Expr} {j : Nat} {a : E} (hy : vm.lookup y = some j) (hsw : ∀ env, swapsWith e (some (.Name y py)) p.line env = pure false) (hst : ∀ env, swappedStores [.Name y py] e env = pure none) (x : Good c sc vm k e a) : GoodS c sc vm k (.Assign [.Name y py] e p) (.assign j a) := ⟨fun {A fr d q env} o => st_assign o.e0 o.inj o.ap hy (hsw env) (hst env) (x.h o.1).1⟩
theorem TrS.assignC (L : Link c) {y : Str} {py p px cp : Pos} {j : Nat} {elt iter : Expr} {x : Str} {ifs : List Expr} {scope : Scope} {src a : E} {cs : List E} (hy : vm.lookup y = some j) (hs : ∀ env x, foldedSetIterable iter env x = pure x) (h : compTest sc vm scope x = false) (gi : Good c sc vm k iter src) (gs : GoodL c (relab sc scope.names) (compVM vm k scope x) (k + 1) ifs cs) (ge : Good c (relab sc scope.names) (compVM vm k scope x) (k + 1) elt a) :
    GoodS c sc vm k (.Assign [.Name y py] (.ListComp elt [⟨.Name x px, iter, ifs, 0⟩] scope cp) p) (.assign j (.comp a k src cs)) := ⟨fun o => st_assignC L o.st o.e0 o.inj o.ap hy (comp_parts hs h gi gs ge o.1)⟩
theorem TrS.assignAttr (L : Link c) {v : Expr} {n : Str} {p p' : Pos} {e : Expr} {a b : E} (hsw : ∀ env, swapsWith e (some (.Attribute v n p')) p.line env = pure false) (hst : ∀ env, swappedStores [.Attribute v n p'] e env = pure none) (x : Good c sc vm k e a) (y : Good c sc vm k v b) : GoodS c sc vm k (.Assign [.Attribute v n p'] e p) (.assignAttr b n a) := ⟨fun o => st_assignAttr L hsw hst (x.h o.1).1 (y.h o.1).1⟩
theorem TrS.assignSub (L : Link c) {v i e : Expr} {p p' : Pos} {a b b' : E} (hsw : ∀ env, swapsWith e (some (.Subscript v i p')) p.line env = pure false) (hst : ∀ env, swappedStores [.Subscript v i p'] e env = pure none) (x : Good c sc vm k e a) (y : Good c sc vm k v b) (z : Good c sc vm k i b') : GoodS c sc vm k (.Assign [.Subscript v i p'] e p) (.assignSub b b' a) := ⟨fun o => st_assignSub L hsw hst (x.h o.1).1 (y.h o.1).1 (z.h o.1).1⟩
theorem TrS.unpack {ts : List Expr} {n : Nat} {p p' : Pos} {e : Expr} {xs : List Nat} {a : E} (hsw : ∀ env, swapsWith e (some (.Tuple ts n p')) p.line env = pure false) (hst : ∀ env, swappedStores [.Tuple ts n p'] e env = pure none) (h3 : 2 ≤ ts.length) (hx : TrN vm ts xs) (x : Good c sc vm k e a) : GoodS c sc vm k (.Assign [.Tuple ts n p'] e p) (.unpack xs a) := ⟨fun o => st_unpack o.st o.e0 o.inj o.ap hsw hst h3 hx (x.h o.1).1⟩
theorem TrS.ite {t : Expr} {r r' : List Stmt} {p : Pos} {a : E} {b b' : List S} (x : Good c sc vm k t a) (y : GoodSs c sc vm k r b) (z : GoodSs c sc vm k r' b') : GoodS c sc vm k (.If t r r' p) (.ite a b b') := ⟨fun o => st_if (x.h o.1).2 (y.h o) (z.h o)⟩
theorem TrS.whil {t : Expr} {r : List Stmt} {p : Pos} {a : E} {b : List S} (x : Good c sc vm k t a) (y : GoodSs c sc vm k r b) : GoodS c sc vm k (.While t r [] p) (.whil a b) := ⟨fun o => st_while (x.h o.1).2 (y.h o)⟩
theorem TrS.forr (L : Link c) {n : Str} {p p' : Pos} {t : Expr} {r : List Stmt} {j : Nat} {a : E} {b : List S} (hs : ∀ env x, foldedSetIterable t env x = pure x) (hj : vm.lookup n = some j) (x : Good c sc vm k t a) (y : GoodSs c sc vm k r b) : GoodS c sc vm k (.For (.Name n p') t r [] p) (.forr [j] a b) := ⟨fun o => st_for L o.st o.e0 o.inj o.ap hs hj (x.h o.1).1 (y.h o)⟩
theorem TrS.raise (L : Link c) {e : Expr} {p : Pos} {a : E} (x : Good c sc vm k e a) : GoodS c sc vm k (.Raise (some e) none p) (.raise a) := ⟨fun o => st_raise L o.st (x.h o.1).1⟩
theorem TrS.tryN (L : Link c) {r hb : List Stmt} {h : Stmt} {t : Expr} {p p' : Pos} {b b' : List S} {a : E} (x : GoodSs c sc vm k r b) (y : Good c sc vm k t a) (z : GoodSs c sc vm k (h :: hb) b') : GoodS c sc vm k (.Try r [.ExceptHandler (some t) none (h :: hb) p'] [] [] p) (.tryx b [.hand a none b'] []) :=
  ⟨fun o => let ⟨r, hr⟩ := o.top; st_try (x := none) (j := none) L o.st o.e0 o.inj o.ap hr trivial (x.h o) (fun e => (y.h (o.mark e).1).1) fun e => z.h (o.mark e)⟩
theorem TrS.tryX (L : Link c) {r hb : List Stmt} {h : Stmt} {t : Expr} {p p' : Pos} {b b' : List S} {a : E} {n : Str} {j : Nat} (x : GoodSs c sc vm k r b) (y : Good c sc vm k t a) (hj : vm.lookup n = some j) (hl : sc.lookup n = some .local) (z : GoodSs c sc vm k (h :: hb) b') : GoodS c sc vm k (.Try r [.ExceptHandler (some t) (some n) (h :: hb) p'] [] [] p) (.tryx b [.hand a (some j) b'] []) :=
  ⟨fun o => let ⟨r, hr⟩ := o.top; st_try (x := some n) (j := some j) L o.st o.e0 o.inj o.ap hr ⟨hj, by unfold Env.kindOf; rw [o.e0.names]; exact hl⟩ (x.h o) (fun e => (y.h (o.mark e).1).1) fun e => z.h (o.mark e)⟩
theorem TrS.delSlice {v : Expr} {lo hi : Option Expr} {p p' p'' : Pos} {a b b' : E} (x : Good c sc vm k v a) (y : GoodO c sc vm k lo b) (z : GoodO c sc vm k hi b') : GoodS c sc vm k (.Delete [.Subscript v (.Slice lo hi none p) p'] p'') (.delSlice a b b') := ⟨fun o => st_delSlice (x.h o.1).1 (y.h o.1) (z.h o.1)⟩
end
end Mine
end
section
set_option autoImplicit false
set_option linter.unusedVariables false
set_option linter.unusedSimpArgs false
set_option genSizeOf false
set_option genInjectivity false
namespace Mine
open PySem PySem.Calls PyProof.Rows W

/-- the locals at a function's start: the arguments, the rest unknown -/
noncomputable def init (n : Nat) (vm : VM) (ps : List Str) (vs : List MVal) : Lcs := (ps.zip vs).foldl (fun σ p => match vm.lookup p.1 with | some i => ls σ i (some p.2) | Option.none => σ) (List.replicate n Option.none)

theorem lg_none (n i : Nat) : lg (List.replicate n Option.none) i = Option.none := by
  induction n generalizing i with
  | zero => rfl
  | succ n ih => cases i with
    | zero => rfl
    | succ i => simp only [List.replicate_succ, lg]; exact ih i

section
variable {c : Cfg} {fr : List Env}

/-- what is known of a function of the text -/
structure FnOK (c : Cfg) (f : Addr) (fd : FuncData) (body : List Stmt) (vm : VM) (k n : Nat) (ss : List S) : Prop where
  obj : ∃ o, c.h₀.get? f = some o ∧ o.data = .func fd
  code : c.h₀.CodeRec fd.code fd.qualname
  bod : fd.body = .stmts body
  clo : fd.closure = []
  glob : fd.globals = mainGlobals
  buil : fd.builtins = builtinsNs
  kind : fd.scope.kind = .function
  co : fd.scope.isCoroutine = false
  gen : fd.scope.isGenerator = false
  vms : ∀ x i, vm.lookup x = some i → i < n ∧ i < k ∧ (fd.scope.names.lookup x = some .local ∨ (fd.scope.names.lookup x = some .cell))
  inj : VMinj vm
  cells : ∀ x, fd.scope.names.lookup x = some .cell → ∀ m, ((cellsFrom m fd.scope.names []).lookup x).isSome = true
  tr : GoodSs c fd.scope.names vm k body ss

theorem pushCells_new : ∀ (names : List (Str × NameKind)) (h : Heap) (acc : List (Str × Addr)) (lo : Nat), lo ≤ h.objs.size → (∀ x a, (x, a) ∈ acc → (pushCells h names).get? a = some { cls := .type "cell", data := .cell none } ∧ lo ≤ a) → ∀ x a, (x, a) ∈ cellsFrom h.objs.size names acc → (pushCells h names).get? a = some { cls := .type "cell", data := .cell none } ∧ lo ≤ a
  | [], h, acc, lo, hl, ha, x, a, hm => ha x a hm
  | (name, kind) :: r, h, acc, lo, hl, ha, x, a, hm => by
    unfold pushCells cellsFrom at *
    split at hm
    · rename_i hk
      rw [if_pos hk] at *
      have := pushCells_new r (h.push { cls := .type "cell", data := .cell none }) ((name, h.objs.size) :: acc) lo (by rw [Heap.size_push]; omega) (fun y b hb => by
        rcases List.mem_cons.mp hb with e | hb
        · cases e; exact ⟨pushCells_keeps _ _ _ _ (Heap.get?_push_size _ rfl), hl⟩
        · exact ha y b hb) x a (by rw [Heap.size_push]; exact hm)
      exact this
    · rename_i hk
      rw [if_neg hk] at *
      exact pushCells_new r h acc lo hl ha x a hm

theorem bind_all {A : Around} {vm : VM} {env : Env} {sc : Sc} (e0 : Env0 env sc fr) (inj : VMinj vm) (ap : Apart env) {H : MH} {Z : Value → Shared → Prop} {R : PUnit → Shared → Prop} {H₀ : MH} {s₀ : Shared} (g : Str × Value → PUnit → Sem (ForInStep PUnit)) (hg : ∀ n v u, g (n, v) u = (do storeName env n v; pure (.yield ⟨⟩))) :
    ∀ {ps : List Str} {ms : List MVal} {vs : List Value} {σ : Lcs} {s : Shared}, (∀ p ∈ ps, (vm.lookup p).isSome = true) → ps.length = ms.length → VRs s.heap ms vs → FrOK c.h₀ env vm σ H s.heap → Dyn c.h₀ c.P fr H s → Ext (owns env) H₀ s₀ H s →
    (∀ s', FrOK c.h₀ env vm ((ps.zip ms).foldl (fun σ p => match vm.lookup p.1 with | some i => ls σ i (some p.2) | Option.none => σ) σ) H s'.heap → Dyn c.h₀ c.P fr H s' → Ext (owns env) H₀ s₀ H s' → R ⟨⟩ s') → wpAny c.M A (forIn (ps.zip vs) ⟨⟩ g) R Z s
  | [], ms, vs, σ, s, hp, hl, hv, f, dy, ex, k => by
    cases ms with
    | cons _ _ => simp at hl
    | nil => exact wpAny_pure (k s f dy ex)
  | p :: ps, ms, vs, σ, s, hp, hl, hv, f, dy, ex, k => by
    cases ms with
    | nil => simp at hl
    | cons m ms =>
      simp only [VRs] at hv
      obtain ⟨v, r, rfl, rv, rvs⟩ := hv
      obtain ⟨i, hi⟩ := Option.isSome_iff_exists.mp (hp p (.head _))
      simp only [List.zip_cons_cons, List.forIn_cons]
      rw [hg]
      refine wpAny_bind (wpAny_bind (store_snd e0 inj ap f dy hi rv fun s' f' dy' ex' => wpAny_pure ?_))
      refine bind_all e0 inj ap g hg (fun q hq => hp q (.tail _ hq)) (by simpa using hl) (rvs.soft ex'.soft) f' dy' (ex.trans ex') fun s'' f'' dy'' ex'' => k s'' ?_ dy'' ex''
      simp only [List.zip_cons_cons, List.foldl_cons, hi]
      exact f''

/-- a call of a function of the text -/
theorem call_fn (L : Link c) {f : Addr} {fd : FuncData} {body : List Stmt} {vm : VM} {k n d : Nat} {q : Bool} {ss : List S} {ps : List Str} {vs : List MVal} {H : MH} {Q : MVal → MH → Prop} {Z : Addr → MH → Prop} (F : FnOK c f fd body vm k n ss)
    (hps : ∀ p ∈ ps, (vm.lookup p).isSome = true) (hl : ps.length = vs.length) (hb : ∀ vals : List Value, vals.length = ps.length → bindArgs fd ⟨vals, []⟩ = pure (ps.zip vals))
    (hw : wpSs c d q ss (init n vm ps vs) H fun fl _ H' => match fl with | .next => Q .none H' | .ret v => Q v H' | .exc e => Z e H' | _ => False) : CallOK c (d + 1) q f vs H Q Z := by
  intro A fr s vals st dy hv
  obtain ⟨o, ho, hdata⟩ := F.obj
  have hdp := st.depth
  refine codeAny_call_function (by show A.depth < 1000; omega) (dy.keep _ _ ho) hdata F.co F.gen F.bod (F.code.keeps dy.keep) ?_
  rw [hb vals (by rw [hv.length, hl]), F.clo]
  refine wpAny_pure ?_
  simp only [newFunctionEnv, Option.isSome_none, Bool.false_eq_true, if_false]
  refine wpAny_bind (wpAny_alloc ?_)
  refine wpAny_bind (wpAny_layCells _ (fun name kind cells => by cases hkc : kind == NameKind.cell <;> simp [hkc]) _ _ _ _ ?_)
  have ok := cellsFrom_ok fd.scope.names (s.heap.push { cls := .type "frame", data := .dict #[] }) (s.heap.objs.size + 1) [] ⟨fun _ _ hm => (nomatch hm), List.Pairwise.nil⟩ (by rw [Heap.size_push]; exact Nat.le_refl _)
  have cn := pushCells_new fd.scope.names (s.heap.push { cls := .type "frame", data := .dict #[] }) [] (s.heap.objs.size + 1) (by rw [Heap.size_push]; exact Nat.le_refl _) (fun _ _ hm => nomatch hm)
  rw [Heap.size_push] at ok cn
  rw [show ({ s with heap := s.heap.push { cls := .type "frame", data := .dict #[] } } : Shared).heap.objs.size = s.heap.objs.size + 1 from Heap.size_push ..]
  have keep : ∀ b o, s.heap.get? b = some o → (pushCells (s.heap.push { cls := .type "frame", data := .dict #[] }) fd.scope.names).get? b = some o := fun b o e => pushCells_keeps _ _ b o (Heap.get?_push_of_some _ e)
  have gL : (pushCells (s.heap.push { cls := .type "frame", data := .dict #[] }) fd.scope.names).get? s.heap.objs.size = some { cls := .type "frame", data := .dict #[] } := pushCells_keeps _ _ _ _ (Heap.get?_push_size _ rfl)
  have nsL : (pushCells (s.heap.push { cls := .type "frame", data := .dict #[] }) fd.scope.names).Ns s.heap.objs.size (fun _ => none) := (Heap.Ns.new s.heap (.type "frame")).keeps (pushCells_keeps _ _)
  generalize hcs : cellsFrom (s.heap.objs.size + 1) fd.scope.names [] = cs at *
  generalize pushCells (s.heap.push { cls := .type "frame", data := .dict #[] }) fd.scope.names = h₁ at *
  let env : Env := { scope := fd.scope, locals := s.heap.objs.size, globals := fd.globals, cells := cs, qual := fd.qualname ++ ".<locals>.", func := some f, code := fd.code, frame := some s.heap.objs.size, builtins := fd.builtins }
  have fresh : ∀ a, owns env a → s.heap.get? a = none ∧ h₁.get? a ≠ none := by
    rintro a (ha | ⟨x, hx⟩)
    · have ha : a = s.heap.objs.size := ha
      subst ha; exact ⟨size_fresh _, by rw [gL]; simp⟩
    · have := cn x a (mem_of_lookup hx)
      refine ⟨?_, by rw [this.1]; simp⟩
      cases z : s.heap.get? a with
      | none => rfl
      | some o => have h2 := Heap.lt_size z; have h3 := this.2; exact absurd h2 (Nat.not_lt.mpr (Nat.le_of_succ_le h3))
  have dy₁ : Dyn c.h₀ c.P fr H { s with heap := h₁ } := dy.of_keep keep
  have dyE : Dyn c.h₀ c.P (env :: fr) H { s with heap := h₁ } := ⟨dy₁.keep, fun e he => by
    rcases List.mem_cons.mp he with rfl | he
    · exact ⟨F.kind, s.heap.objs.size, _, rfl, (fresh_facts dy (size_fresh _)).2, (fresh_facts dy (size_fresh _)).1, gL, rfl, _, _, rfl⟩
    · exact dy₁.ff e he, dy₁.obj⟩
  have e0 : Env0 env fd.scope.names (env :: fr) := ⟨F.kind, rfl, F.glob, F.buil, ⟨env, fr, rfl, rfl⟩, by simp [interactive, env, F.kind]⟩
  have ap : Apart env := fun x y a hx hy => name_of_addr ok.apart (mem_of_lookup hx) (mem_of_lookup hy)
  have fok : FrOK c.h₀ env vm (List.replicate n Option.none) H h₁ := by
    refine ⟨⟨_, _, _, _, gL, .inl rfl, rfl, nsL, fun x i a b => by rw [lg_none]; trivial⟩, fun x i a b => ?_, fun a ha => ⟨(fresh_facts dy (fresh a ha).1).1, (fresh_facts dy (fresh a ha).1).2, (fresh a ha).2⟩, fun x i a => by simpa using (F.vms x i a).1⟩
    have kc : fd.scope.names.lookup x = some .cell := ((F.vms x i a).2.2).resolve_left b
    obtain ⟨cc, hcc⟩ := Option.isSome_iff_exists.mp (F.cells x kc (s.heap.objs.size + 1))
    rw [hcs] at hcc
    exact ⟨.inl kc, cc, _, none, hcc, (cn x cc (mem_of_lookup hcc)).1, rfl, rfl, by rw [lg_none]; trivial⟩
  have ex₁ : Ext noX H s H { s with heap := h₁ } := .of_keep keep
  have exw : ∀ {H' : MH} {s' : Shared}, Ext (owns env) H { s with heap := h₁ } H' s' → Ext noX H s H' s' := fun e =>
    Ext.drop0 ((ex₁.widen (Y := owns env) (fun _ z => z.elim) fun a ha => (fresh_facts dy (fresh a ha).1).1).trans e) fun a ha => (fresh a ha).1
  have lessD : ∀ {H' : MH} {s' : Shared}, Dyn c.h₀ c.P (env :: fr) H' s' → Dyn c.h₀ c.P fr H' s' := fun x => ⟨x.keep, fun e he => x.ff e (.tail _ he), x.obj⟩
  refine wpAny_bind (bind_all (H₀ := H) (s₀ := { s with heap := h₁ }) e0 F.inj ap _ (fun _ _ _ => rfl) hps hl (hv.soft ex₁.soft) fok dyE (.refl _ _ fun a ha => (fresh_facts dy (fresh a ha).1).1) fun s₂ f₂ dy₂ ex₂ => wpAny_pure ⟨?_, codeAny_func ?_⟩)
  · exact L.nolimit.keeps dy₂.keep
  · have stE : Stat (A.deeper env) (env :: fr) d q := ⟨by show A.frames.map _ = _; rw [st.frames]; rfl, by show A.depth + 1 + 4 * d < 900; omega, by have := st.units; show A.units + 3 + 16 * d < 9000; omega, st.quiet⟩
    have se : StEnv (env :: fr) (A.deeper env) d q env fd.scope.names vm k := ⟨⟨stE, e0, fun x i a => (F.vms x i a).2.1⟩, F.inj, ap, ⟨fr, rfl⟩⟩
    refine (F.tr.h se).then ex₂ f₂ dy₂ hw (fun mf fl σ3 H3 s3 fl3 f3 dy3 ex3 hq3 => ?_) fun v s3 h3 => ?_
    · cases mf with
      | next => simp only [FlowR] at fl3; subst fl3; exact ⟨.none, H3, rfl, lessD dy3, exw ex3, hq3⟩
      | brk => exact hq3.elim
      | cont => exact hq3.elim
      | ret m => simp only [FlowR] at fl3; obtain ⟨v, rfl, rv⟩ := fl3; exact ⟨m, H3, rv, lessD dy3, exw ex3, hq3⟩
      | exc e => exact fl3.elim
    · obtain ⟨e, σ3, H3, rfl, ⟨tg, C, dx, he⟩, f3, dy3, ex3, hq3⟩ := h3
      refine leaving_snd stE.frames rfl dy3 he fun s4 dy4 ex4 _ => ?_
      exact ⟨e, H3, rfl, ⟨tg, C, dx, he⟩, lessD dy4, (exw ex3).trans ex4, hq3⟩
end
end Mine
end
section
set_option autoImplicit false
set_option linter.unusedVariables false
set_option linter.unusedSimpArgs false
namespace Mine
open PySem PySem.Calls PyProof.Rows W

section
variable {c : Cfg} {fr : List Env}

theorem Stat.make {A : Around} {d : Nat} {q : Bool} {C : Addr} {rest : List Value} (st : Stat A fr (d + 1) q) : Stat (A.under (.builtin "type.__call__" ⟨.ref C :: rest, []⟩)) fr d q := by
  have h1 := st.depth
  have h2 := st.units
  refine ⟨?_, ?_, ?_, st.quiet⟩
  · show PySem.pushEnvs [] A.frames = some fr
    rw [st.frames]; rfl
  · show A.depth + Code.weight (.builtin "type.__call__" ⟨.ref C :: rest, []⟩) + 4 * d < 900
    have : Code.weight (.builtin "type.__call__" ⟨.ref C :: rest, []⟩) ≤ 4 := Nat.le_of_ble_eq_true rfl
    omega
  · show A.units + Code.cUnits (.builtin "type.__call__" ⟨.ref C :: rest, []⟩) + 16 * d < 9000
    have : Code.cUnits (.builtin "type.__call__" ⟨.ref C :: rest, []⟩) ≤ 16 := Nat.le_of_ble_eq_true rfl
    omega

/-- an object of a class of the text is made -/
theorem call_cls (L : Link c) {C fI : Addr} {d : Nat} {q : Bool} {vs : List MVal} {H : MH} {Q : MVal → MH → Prop} {Z : Addr → MH → Prop} (hm : makesIn c.K C = true) (hi : findIn c.K (.ref C) "__init__" = some (some (.ref fI))) (hf : typeIn c.K (.ref fI) = some (.type "function"))
    (h : ∀ x dx, H x = none → H dx = none → x ≠ dx → CallOK c d q fI (.ref x :: vs) (upd (upd H dx t0 (.ns [])) x t0 (.inst C dx)) (fun m H' => m = .none ∧ Q (.ref x) H') Z) : CallOK c (d + 1) q C vs H Q Z := by
  intro A fr s vals st dy hv
  have X := L.K.keeps dy.keep
  obtain ⟨hh, g, dd, t, os⟩ := s
  refine make_core (makes_of X hm) (looks_findIn X hi) (fun self => bind_fn X self hf) (.inl rfl) ?_
  have n1 : hh.get? hh.objs.size = none := size_fresh _
  obtain ⟨hn1, dy1, ex1⟩ := dy.new (s' := ⟨hh.push emptyDict, g, dd, t, os⟩) (t' := t0) (o' := .ns []) (ob' := emptyDict) n1 (push_keep _ _) (Heap.get?_push_size _ rfl) (fun _ => ⟨#[], 0, rfl, rfl⟩)
  have n2 : (hh.push emptyDict).get? (hh.objs.size + 1) = none := by
    have := size_fresh (hh.push emptyDict); rw [Heap.size_push] at this; exact this
  obtain ⟨hn2, dy2, ex2⟩ := dy1.new (s' := ⟨(hh.push emptyDict).push (instObj C hh.objs.size), g, dd, t, os⟩) (t' := t0) (o' := .inst C hh.objs.size) (ob' := instObj C hh.objs.size) n2 (push_keep _ _) (by
    have := Heap.get?_push_size (hh.push emptyDict) (o := instObj C hh.objs.size) rfl; rw [Heap.size_push] at this; exact this) (fun _ => rfl)
  have hx : H (hh.objs.size + 1) = none := by
    have := hn2; unfold upd at this; rw [if_neg (Nat.succ_ne_self _)] at this; exact this
  have ex := ex1.trans ex2
  refine codeAny_mono (h (hh.objs.size + 1) hh.objs.size hx hn1 (Nat.succ_ne_self _) (A.under (.builtin "type.__call__" ⟨.ref C :: vals, []⟩)) fr _ (.ref (hh.objs.size + 1) :: vals) st.make dy2 (by simp only [VRs]; exact ⟨_, _, rfl, rfl, hv.soft ex.soft⟩)) fun r s' y => ?_
  cases r with
  | error e => exact QE.step ex y
  | ok f =>
    cases f <;> first | exact y.elim | skip
    rename_i v
    obtain ⟨m, H', rv, dy', ex', rfl, hq⟩ := y
    simp only [VR] at rv
    exact ⟨rv, .ref (hh.objs.size + 1), H', rfl, dy', ex.trans ex', hq⟩
end
end Mine
end
section
set_option autoImplicit false
set_option linter.unusedVariables false
set_option linter.unusedSimpArgs false
namespace Mine
open PySem PySem.Calls PyProof.Rows W

section
variable {prog : Program} {w : World} {A : Around} {R : Result → Shared → Prop} {h : Heap} {g : Array GenState} {d : Drawn} {t : Nat} {os : OsState}
variable {nm q : Str} {C N : Addr} {bs bm bmB : List Value} {hdct : Bool} {sn : List Str} {sub : List Value} {ab : Bool} {col : Option Bool} {dd : Option Addr} {k0 k1 k2 k3 k5 : Option Value} {B newId initId : String}
theorem exc_code (F : ExcBaseFacts B newId initId bmB) (T : OwnTail h bmB bm) {mN : Str → Option Value} {rest : List Value}
    (hC : h.get? C = some (excClassObj nm q C N bs bm hdct sn sub ab col dd k0 k1 k2 k3 k5 newId)) (hn : h.Ns N mN) (hni : mN "__init__" = none)
    (hq : ∀ h' e, Heap.MadeExcOf h h' e (.ref C) rest → R (.ok (.ret (.ref e))) ⟨h', g, d, t, os⟩) (hrest : rest.length ≤ sizeLine) :
    codeAny (model prog w) A (.call (.ref C) ⟨rest, []⟩) R ⟨h, g, d, t, os⟩ := by
  refine codeAny_of_tree ?_
  show wpAny _ _ (callAny (.ref C) _) _ _ _
  refine nd_load hC ?_
  show wpAny _ _ (callAny.viaDunder (.ref C) _) _ _ _
  unfold callAny.viaDunder specialOf
  refine wpAny_bind (wpAny_bind (typeOf_ref hC (wpAny_of_eq tc_lookup ?_)))
  dsimp only
  rw [tc_bind]
  refine wpAny_bind (wpAny_pure (wpAny_bind (wpAny_pure ?_)))
  refine wpAny_pure (a := Fin.again (.call (.builtin "type.__call__") ⟨.ref C :: rest, []⟩)) (And.intro rfl ?_)
  refine codeAny_call_builtin_at (Code.quiet_builtin _ (by decide +kernel)) entry_typeCall (wpAny_check_type_call_sub hC (wpAny_type_call_exc_subT (hrest := hrest) F T hC hn hni fun h' e hm => ?_))
  exact hq h' e hm
end

section
variable {c : Cfg}
variable {nm q : Str} {C N : Addr} {bs bm bmB : List Value} {hdct : Bool} {sn : List Str} {sub : List Value} {ab : Bool} {col : Option Bool} {dd : Option Addr} {k0 k1 k2 k3 k5 : Option Value} {B newId initId : String}

/-- an exception of a class of the text that has no __init__ of its own -/
theorem call_exc0 (F : ExcBaseFacts B newId initId bmB) {d : Nat} {qq : Bool} {vs : List MVal} {H : MH} {Q : MVal → MH → Prop} {Z : Addr → MH → Prop} {mN : Str → Option Value}
    (hC : c.h₀.get? C = some (excClassObj nm q C N bs bm hdct sn sub ab col dd k0 k1 k2 k3 k5 newId)) (T : OwnTail c.h₀ bmB bm) (hn : c.h₀.Ns N mN) (hni : mN "__init__" = none) (hl : vs.length ≤ 1000)
    (h : ∀ e, H e = none → Q (.ref e) (upd H e t0 (.exc C none))) : CallOK c d qq C vs H Q Z := by
  intro A fr s vals st dy hv
  have hC' := dy.keep _ _ hC
  have hn' := hn.keeps dy.keep
  have T' := T.keeps dy.keep
  have hrest : vals.length ≤ sizeLine := by have := sizeLine_big; have := hv.length; omega
  have fin : ∀ h' e, Heap.MadeExcOf s.heap h' e (.ref C) vals → QR c fr noX H s Q Z (.ok (.ret (.ref e))) { s with heap := h' } := by
    intro h' e m
    obtain ⟨t, g, _, _⟩ := m.there
    obtain ⟨hn1, dy1, ex1⟩ := dy.new (s' := { s with heap := h' }) (t' := t0) (o' := .exc C none) (ob' := _) m.new m.keeps g (fun _ => ⟨_, rfl, by simp, .inl rfl⟩)
    exact ⟨.ref e, _, rfl, dy1, ex1, h e hn1⟩
  obtain ⟨hh, g, dd', t, os⟩ := s
  exact exc_code F T' hC' hn' hni fin hrest
end
end Mine
end
section
set_option autoImplicit false
set_option linter.unusedVariables false
set_option linter.unusedSimpArgs false
namespace Mine
open PySem PySem.Calls PyProof.Rows W

section
variable {prog : Program} {w : World} {A : Around} {R : Result → Shared → Prop} {h : Heap} {g : Array GenState} {d : Drawn} {t : Nat} {os : OsState}
variable {nm q : Str} {C N : Addr} {bs bm bmB : List Value} {hdct : Bool} {sn : List Str} {sub : List Value} {ab : Bool} {col : Option Bool} {dd : Option Addr} {k0 k1 k2 k3 k5 : Option Value} {B newId initId : String}

noncomputable abbrev excObj (C t : Addr) : Obj := { cls := .ref C, data := .fields #[.ref t, .none, .none, .none, .bool false, .none] }
noncomputable abbrev tupObj (rest : List Value) : Obj := { cls := .type "tuple", data := .seq rest.toArray }

theorem exc_code_init (F : ExcBaseFacts B newId initId bmB) (T : OwnTail h bmB bm) {init : Value} {rest : List Value}
    (hC : h.get? C = some (excClassObj nm q C N bs bm hdct sn sub ab col dd k0 k1 k2 k3 k5 newId)) (hi : Looks (model prog w) h (typeLookup (.ref C) "__init__") (some init)) (hb : ∀ self, Looks (model prog w) h (bindSpecial init self) (init, [self]))
    (hq : codeAny (model prog w) (A.under (.builtin "type.__call__" ⟨.ref C :: rest, []⟩)) (.call init ⟨.ref (h.objs.size + 1) :: rest, []⟩) (InitBack (h.objs.size + 1) R) ⟨(h.push (tupObj rest)).push (excObj C h.objs.size), g, d, t, os⟩) (hrest : rest.length ≤ sizeLine) :
    codeAny (model prog w) A (.call (.ref C) ⟨rest, []⟩) R ⟨h, g, d, t, os⟩ := by
  refine codeAny_of_tree ?_
  show wpAny _ _ (callAny (.ref C) _) _ _ _
  refine nd_load hC ?_
  show wpAny _ _ (callAny.viaDunder (.ref C) _) _ _ _
  unfold callAny.viaDunder specialOf
  refine wpAny_bind (wpAny_bind (typeOf_ref hC (wpAny_of_eq tc_lookup ?_)))
  dsimp only
  rw [tc_bind]
  refine wpAny_bind (wpAny_pure (wpAny_bind (wpAny_pure ?_)))
  refine wpAny_pure (a := Fin.again (.call (.builtin "type.__call__") ⟨.ref C :: rest, []⟩)) (And.intro rfl ?_)
  refine codeAny_call_builtin_at (Code.quiet_builtin _ (by decide +kernel)) entry_typeCall (wpAny_check_type_call_sub hC ?_)
  repeat (first | with_reducible refine wpAny_loadPart_at hC ?_ | with_reducible refine wpAny_madeBy_exc hC ?_ | wp_step)
  refine codeAny_call_builtin_code (Code.quiet_builtin _ F.quiet) (wpAny_check_new_subT F T hC ?_)
  refine codeAny_exc_new_subT F T hC ?_ hrest
  show wpAny _ _ _ _ _ _
  have k : ∀ b o, h.get? b = some o → ((h.push (tupObj rest)).push (excObj C h.objs.size)).get? b = some o := fun b o e => Heap.get?_push_of_some _ (Heap.get?_push_of_some _ e)
  have hx : ((h.push (tupObj rest)).push (excObj C h.objs.size)).get? (h.objs.size + 1) = some (excObj C h.objs.size) := by
    have := Heap.get?_push_size (h.push (tupObj rest)) (o := excObj C h.objs.size) rfl
    rw [Heap.size_push] at this; exact this
  have i1 := hi.keeps k
  have b1 := (hb (.ref (h.objs.size + 1))).keeps k
  have hcC : (Value.ref C :: bm).contains (.ref C) = true := by simp
  unfold isInstance
  refine wpAny_bind (wpAny_bind (typeOf_ref hx (wpAny_isSubtype_exc (k _ _ hC) ?_)))
  rw [hcC]
  simp only [Bool.not_true, Bool.false_eq_true, if_false]
  refine wpAny_bind (wpAny_holding ?_)
  unfold callSpecial? specialOf
  refine wpAny_bind (wpAny_bind (typeOf_ref hx (i1.here ?_)))
  dsimp only
  refine wpAny_holding (wpAny_bind (b1.here ?_))
  dsimp only
  refine wpAny_bind (wpAny_call (codeAny_mono hq fun r s' z => ?_))
  rcases r with e | (v | _ | _ | _) <;> first | exact z | exact z.elim | skip
  obtain ⟨rfl, z⟩ := z
  refine wpAny_pure ?_
  dsimp only
  rw [if_neg (by decide)]
  exact wpAny_pure z
end

section
variable {c : Cfg}
variable {nm q : Str} {C N : Addr} {bs bm bmB : List Value} {hdct : Bool} {sn : List Str} {sub : List Value} {ab : Bool} {col : Option Bool} {dd : Option Addr} {k0 k1 k2 k3 k5 : Option Value} {B newId initId : String}

/-- an exception of a class of the text that has an __init__ of its own -/
theorem call_exc1 (L : Link c) (F : ExcBaseFacts B newId initId bmB) {d : Nat} {qq : Bool} {vs : List MVal} {H : MH} {Q : MVal → MH → Prop} {Z : Addr → MH → Prop} {fI : Addr}
    (hC : c.h₀.get? C = some (excClassObj nm q C N bs bm hdct sn sub ab col dd k0 k1 k2 k3 k5 newId)) (T : OwnTail c.h₀ bmB bm) (hi : findIn c.K (.ref C) "__init__" = some (some (.ref fI))) (hf : typeIn c.K (.ref fI) = some (.type "function")) (hl : vs.length ≤ 1000)
    (h : ∀ e, H e = none → CallOK c d qq fI (.ref e :: vs) (upd H e t0 (.exc C none)) (fun m H' => m = .none ∧ Q (.ref e) H') Z) : CallOK c (d + 1) qq C vs H Q Z := by
  intro A fr s vals st dy hv
  have X := L.K.keeps dy.keep
  have hC' := dy.keep _ _ hC
  have T' := T.keeps dy.keep
  have hrest : vals.length ≤ sizeLine := by have := sizeLine_big; have := hv.length; omega
  obtain ⟨hh, g, dd', t, os⟩ := s
  refine exc_code_init F T' hC' (looks_findIn X hi) (fun self => bind_fn X self hf) ?_ hrest
  have k1 : ∀ b o, hh.get? b = some o → (hh.push (tupObj vals)).get? b = some o := push_keep _ _
  have dy1 : Dyn c.h₀ c.P fr H ⟨hh.push (tupObj vals), g, dd', t, os⟩ := dy.of_keep k1
  have ex1 : Ext noX H ⟨hh, g, dd', t, os⟩ H ⟨hh.push (tupObj vals), g, dd', t, os⟩ := .of_keep k1
  have n2 : (hh.push (tupObj vals)).get? (hh.objs.size + 1) = none := by
    have := size_fresh (hh.push (tupObj vals)); rw [Heap.size_push] at this; exact this
  obtain ⟨hn2, dy2, ex2⟩ := dy1.new (s' := ⟨(hh.push (tupObj vals)).push (excObj C hh.objs.size), g, dd', t, os⟩) (t' := t0) (o' := .exc C none) (ob' := excObj C hh.objs.size) n2 (push_keep _ _) (by
    have := Heap.get?_push_size (hh.push (tupObj vals)) (o := excObj C hh.objs.size) rfl; rw [Heap.size_push] at this; exact this) (fun _ => ⟨_, rfl, by simp, .inl rfl⟩)
  have ex := ex1.trans ex2
  refine codeAny_mono (h (hh.objs.size + 1) hn2 (A.under (.builtin "type.__call__" ⟨.ref C :: vals, []⟩)) fr _ (.ref (hh.objs.size + 1) :: vals) st.make dy2 (by simp only [VRs]; exact ⟨_, _, rfl, rfl, hv.soft ex.soft⟩)) fun r s' y => ?_
  cases r with
  | error e => exact QE.step ex y
  | ok f =>
    cases f <;> first | exact y.elim | skip
    rename_i v
    obtain ⟨m, H', rv, dy', ex', rfl, hq⟩ := y
    simp only [VR] at rv
    exact ⟨rv, .ref (hh.objs.size + 1), H', rfl, dy', ex.trans ex', hq⟩
end
end Mine
end
section
set_option autoImplicit false
set_option linter.unusedVariables false
namespace Mine
open PySem

/-- a for loop, by an invariant -/
theorem forW_inv {src : MVal} {o : Option MObj} {turn : MVal → ST} {K : MFlow → Lcs → MH → Prop} (I : Nat → Lcs → MH → Prop) : ∀ (its : List MVal) (i : Nat) {σ : Lcs} {H : MH}, I i σ H →
    (∀ j v σ H (K' : MFlow → Lcs → MH → Prop), its[j]? = some v → I (i + j) σ H → (∀ σ' H', I (i + j + 1) σ' H' → K' .next σ' H') → (∀ σ' H', I (i + j + 1) σ' H' → K' .cont σ' H') →
      (∀ σ' H', K .next σ' H' → K' .brk σ' H') → (∀ v σ' H', K (.ret v) σ' H' → K' (.ret v) σ' H') → srcObj H src = o ∧ turn v σ H K') →
    (∀ σ H, I (i + its.length) σ H → srcObj H src = o ∧ K .next σ H) → forW src o turn its σ H K
  | [], i, σ, H, h0, hs, he => he σ H h0
  | v :: vs, i, σ, H, h0, hs, he => by
    have ih : ∀ σ' H', I (i + 1) σ' H' → forW src o turn vs σ' H' K := fun σ' H' h => forW_inv I vs (i + 1) h (fun j v' σ'' H'' K' hj hI a b c e => by
      refine hs (j + 1) v' σ'' H'' K' (by simpa using hj) (by rw [show i + (j + 1) = i + 1 + j by omega]; exact hI) ?_ ?_ c e
      · rw [show i + (j + 1) + 1 = i + 1 + j + 1 by omega]; exact a
      · rw [show i + (j + 1) + 1 = i + 1 + j + 1 by omega]; exact b) (fun σ'' H'' hI => he σ'' H'' (by rw [show i + (v :: vs).length = i + 1 + vs.length by simp; omega]; exact hI))
    obtain ⟨a, b⟩ := hs 0 v σ H (fun f σ' H' => match f with
      | .next => forW src o turn vs σ' H' K
      | .cont => forW src o turn vs σ' H' K
      | .brk => K .next σ' H'
      | .ret v => K (.ret v) σ' H'
      | .exc e => False) rfl h0 ih ih (fun _ _ h => h) (fun _ _ _ h => h)
    exact ⟨a, b⟩

theorem compW_pure {src : MVal} {o : Option MObj} {turn : MVal → MH → (Option MVal → MH → Prop) → Prop} {H : MH} {Q : List MVal → MH → Prop} (f : MVal → Option MVal) (ho : srcObj H src = o) :
    ∀ (its acc : List MVal), (∀ v ∈ its, ∀ k : Option MVal → MH → Prop, k (f v) H → turn v H k) → Q (acc ++ its.filterMap f) H → compW src o turn its acc H Q
  | [], acc, ht, hq => ⟨ho, by simpa using hq⟩
  | v :: vs, acc, ht, hq => by
    refine ⟨ho, ht v (.head _) _ ?_⟩
    refine compW_pure f ho vs _ (fun w hw => ht w (.tail _ hw)) ?_
    cases hf : f v with
    | none => simpa [hf] using hq
    | some y => simpa [hf] using hq

/-- a comprehension whose turns change the heap -/
theorem compW_inv {src : MVal} {o : Option MObj} {turn : MVal → MH → (Option MVal → MH → Prop) → Prop} {Q : List MVal → MH → Prop} (I : Nat → List MVal → MH → Prop) :
    ∀ (its : List MVal) (i : Nat) {acc : List MVal} {H : MH}, I i acc H →
    (∀ j v acc H (k : Option MVal → MH → Prop), its[j]? = some v → I (i + j) acc H → (∀ y H', I (i + j + 1) (acc ++ [y]) H' → k (some y) H') → (∀ H', I (i + j + 1) acc H' → k none H') → srcObj H src = o ∧ turn v H k) →
    (∀ acc H, I (i + its.length) acc H → srcObj H src = o ∧ Q acc H) → compW src o turn its acc H Q
  | [], i, acc, H, h0, hs, he => he acc H h0
  | v :: vs, i, acc, H, h0, hs, he => by
    have ih : ∀ acc' H', I (i + 1) acc' H' → compW src o turn vs acc' H' Q := fun acc' H' h => compW_inv I vs (i + 1) h (fun j v' acc'' H'' k hj hI a b => by
      refine hs (j + 1) v' acc'' H'' k (by simpa using hj) (by rw [show i + (j + 1) = i + 1 + j by omega]; exact hI) ?_ ?_
      · rw [show i + (j + 1) + 1 = i + 1 + j + 1 by omega]; exact a
      · rw [show i + (j + 1) + 1 = i + 1 + j + 1 by omega]; exact b) (fun acc'' H'' hI => he acc'' H'' (by rw [show i + (v :: vs).length = i + 1 + vs.length by simp; omega]; exact hI))
    exact hs 0 v acc H _ rfl h0 (fun y H' h => ih _ _ h) (fun H' h => ih _ _ h)

/-- the end of a call's body -/
noncomputable def kB (Q : MVal → MH → Prop) (Z : Addr → MH → Prop) : MFlow → Lcs → MH → Prop := fun fl _ H' => match fl with | .next => Q .none H' | .ret v => Q v H' | .exc e => Z e H' | _ => False
theorem kB_n {Q : MVal → MH → Prop} {Z : Addr → MH → Prop} {σ : Lcs} {H : MH} : kB Q Z .next σ H = Q .none H := rfl
theorem kB_r {Q : MVal → MH → Prop} {Z : Addr → MH → Prop} {σ : Lcs} {H : MH} {v : MVal} : kB Q Z (.ret v) σ H = Q v H := rfl
theorem kB_e {Q : MVal → MH → Prop} {Z : Addr → MH → Prop} {σ : Lcs} {H : MH} {e : Addr} : kB Q Z (.exc e) σ H = Z e H := rfl
/-- what a function's body gives, its call gives -/
noncomputable def Body (c : Cfg) (f : Addr) (a n : Nat) (ss : List S) : Prop := c.callee f = true ∧ ∀ (d : Nat) (q : Bool) (vs : List MVal) (H : MH) (Q : MVal → MH → Prop) (Z : Addr → MH → Prop), vs.length = a →
  wpSs c d q ss (vs.map some ++ List.replicate (n - a) none) H (kB Q Z) → CallOK c (d + 1) q f vs H Q Z

/-- the same objects under other tags -/
noncomputable def Same (H H' : MH) : Prop := ∀ a, (H a).map (·.2) = (H' a).map (·.2)
theorem Same.none {H H' : MH} (x : Same H H') (a : Addr) : H a = none ↔ H' a = none := by
  have := x a
  cases h : H a <;> cases h' : H' a <;> simp [h, h'] at this ⊢
theorem Same.get {H H' : MH} (x : Same H H') {a : Addr} {t : Tag} {o : MObj} (h : H' a = some (t, o)) : ∃ t', H a = some (t', o) := by
  have := x a
  rw [h] at this
  cases q : H a with
  | none => rw [q] at this; cases this
  | some z => rw [q] at this; obtain ⟨t', o'⟩ := z; simp at this; subst this; exact ⟨t', rfl⟩
theorem Dyn.same {h₀ : Heap} {P : Params} {fr : List Env} {H H' : MH} {s : Shared} (x : Dyn h₀ P fr H s) (e : Same H H') : Dyn h₀ P fr H' s := by
  refine ⟨x.keep, fun env he => ?_, fun a t o h => ?_⟩
  · obtain ⟨a, L, o, b, c, d, r⟩ := x.ff env he
    exact ⟨a, L, o, b, c, (e.none L).mp d, r⟩
  · obtain ⟨t', h'⟩ := e.get h
    exact x.obj a t' o h'
theorem Ext.same {X : Addr → Prop} {H H' H'' : MH} {s s' : Shared} (x : Ext X H s H' s') (e : Same H' H'') : Ext X H s H'' s' :=
  ⟨x.old, x.frm, x.soft, x.alive, fun a h h' => x.dom a h ((e.none a).mpr h'), fun a h h' => x.new a h fun z => h' ((e.none a).mp z), fun a h => (e.none a).mp (x.xno a h), x.gens, x.os⟩
theorem CallOK.post {c : Cfg} {d : Nat} {q : Bool} {f : Addr} {vs : List MVal} {H : MH} {Q : MVal → MH → Prop} {Z : Addr → MH → Prop} (x : CallOK c d q f vs H (fun v H' => ∃ H'', Same H' H'' ∧ Q v H'') Z) : CallOK c d q f vs H Q Z := fun A fr s vals st dy hv =>
  codeAny_mono (x A fr s vals st dy hv) fun r s' y => by
    cases r with
    | error e => exact y
    | ok f =>
      cases f with
      | ret v =>
        obtain ⟨m, H', a, b, e, H'', sm, hq⟩ := y
        exact ⟨m, H'', a, b.same sm, e.same sm, hq⟩
      | _ => exact y.elim
noncomputable def Cfg.base (c : Cfg) (a : Addr) : Bool := (c.h₀.get? a).isSome
theorem CallOK.base {c : Cfg} {d : Nat} {q : Bool} {f : Addr} {vs : List MVal} {H : MH} {Q : MVal → MH → Prop} {Z : Addr → MH → Prop} (x : (∀ a, c.base a = true → H a = none) → CallOK c d q f vs H Q Z) : CallOK c d q f vs H Q Z := fun A fr s vals st dy hv =>
  x (fun a ha => by
    cases h : H a with
    | none => rfl
    | some z => obtain ⟨t, o⟩ := z; have := (dy.obj a t o h).1; unfold Cfg.base at ha; rw [this] at ha; cases ha) A fr s vals st dy hv

theorem ne_tag {H : MH} {a b : Addr} {t t' : Tag} {o o' : MObj} (h : H a = some (t, o)) (h' : H b = some (t', o')) (n : t ≠ t') : a ≠ b := fun e => by
  subst e; rw [h] at h'; cases h'; exact n rfl
theorem ne_new {H : MH} {a b : Addr} {x : Tag × MObj} (h : H a = some x) (h' : H b = none) : a ≠ b := fun e => by
  subst e; rw [h] at h'; cases h'

/-- what a law's own objects are: unmarked; a call leaves them -/
noncomputable def Fr (H H' : MH) : Prop := ∀ a t o, H a = some (t, o) → t.1 = 0 → H' a = some (t, o)
theorem Fr.rfl' (H : MH) : Fr H H := fun _ _ _ h _ => h
theorem Fr.trans {H₁ H₂ H₃ : MH} (x : Fr H₁ H₂) (y : Fr H₂ H₃) : Fr H₁ H₃ := fun a t o h z => y a t o (x a t o h z) z
theorem Fr.upd {H H' : MH} (x : Fr H H') {b : Addr} {t t' : Tag} {o o' : MObj} (h : H b = some (t, o)) (n : t.1 ≠ 0) : Fr H (upd H' b t' o') := fun a t₁ o₁ e z => by
  have : a ≠ b := fun q => by subst q; rw [e] at h; cases h; exact n z
  rw [upd_ne _ _ _ this]; exact x a t₁ o₁ e z
theorem Fr.new {H H' : MH} (x : Fr H H') {b : Addr} {t' : Tag} {o' : MObj} (h : H' b = none) : Fr H (Mine.upd H' b t' o') := fun a t₁ o₁ e z => by
  have : a ≠ b := fun q => by subst q; rw [x a t₁ o₁ e z] at h; cases h
  rw [upd_ne _ _ _ this]; exact x a t₁ o₁ e z
end Mine
end
section
set_option autoImplicit false
set_option linter.unusedVariables false
namespace Mine
open PySem
section
variable {c : Cfg} {q : Bool} {H : MH} {Q : MVal → MH → Prop}
theorem ty_range1 (b : Int) : TyW q "range" [.int b] H Q = (b.natAbs < 2 ^ 60 ∧ Q (.rng 0 b) H) := rfl
theorem ty_range2 (a b : Int) : TyW q "range" [.int a, .int b] H Q = ((a.natAbs < 2 ^ 60 ∧ b.natAbs < 2 ^ 60) ∧ Q (.rng a b) H) := rfl
theorem ty_int (b : Bool) : TyW q "int" [.bool b] H Q = Q (.int (if b then 1 else 0)) H := rfl
theorem ty_list {a : Addr} {t : Tag} {xs : List MVal} (h : H a = some (t, .list xs)) : TyW q "list" [.ref a] H Q = allocW (.list xs) H Q := on_eq (at_L h)
theorem ty_set {a : Addr} {t : Tag} (h : H a = some (t, .list [])) : TyW q "set" [.ref a] H Q = (q = true ∧ allocW (.set []) H Q) := (on_eq (at_L h)).trans (by simp only [true_and])
theorem ty_str (i : Int) : TyW q "str" [.int i] H Q = (i.natAbs < 10 ^ 18 ∧ ∀ x : Str, x = Str.ofString (toString i) → x.length ≤ 1000 → Q (.str x) H) := rfl
theorem ty_type_int (i : Int) : TyW q "type" [.int i] H Q = Q (.ty "int") H := rfl
theorem ty_type_none : TyW q "type" [.none] H Q = Q (.ty "NoneType") H := rfl
theorem ty_type_list {a : Addr} {t : Tag} {xs : List MVal} (h : H a = some (t, .list xs)) : TyW q "type" [.ref a] H Q = Q (.ty "list") H := by show on ((at? oL H a).map fun _ => MVal.ty "list") (fun m => Q m H) = _; rw [at_L h]; rfl
theorem bi_len_list {a : Addr} {t : Tag} {xs : List MVal} (h : H a = some (t, .list xs)) : BiW c q "len" [.ref a] H Q = Q (.int xs.length) H := by show on ((H a).bind fun p => lenO p.2) _ = _; rw [h]; rfl
theorem bi_len_dict {a : Addr} {t : Tag} {ep : Nat} {xs : List (Int × MVal)} (h : H a = some (t, .dict ep xs)) : BiW c q "len" [.ref a] H Q = Q (.int xs.length) H := by show on ((H a).bind fun p => lenO p.2) _ = _; rw [h]; rfl
theorem bi_len_set {a : Addr} {t : Tag} {xs : List Int} (h : H a = some (t, .set xs)) : BiW c q "len" [.ref a] H Q = Q (.int xs.length) H := by show on ((H a).bind fun p => lenO p.2) _ = _; rw [h]; rfl
theorem bi_abs (i : Int) : BiW c q "abs" [.int i] H Q = Q (.int i.natAbs) H := rfl
theorem bi_append {a : Addr} {v : MVal} {t : Tag} {xs : List MVal} (h : H a = some (t, .list xs)) : BiW c q "list.append" [.ref a, v] H Q = (xs.length < BIG ∧ Q .none (upd H a t (.list (xs ++ [v])))) := on_eq (at_L h)
theorem bi_pop {a : Addr} {t : Tag} {xs : List MVal} {x : MVal} (h : H a = some (t, .list (xs ++ [x]))) : BiW c q "list.pop" [.ref a] H Q = Q x (upd H a t (.list xs)) := (on_eq (at_L h)).trans (by simp)
theorem bi_sadd {a : Addr} {t : Tag} {xs : List Int} {i : Int} (h : H a = some (t, .set xs)) : BiW c q "set.add" [.ref a, .int i] H Q = (xs.length < 1000 ∧ Q .none (upd H a t (.set (if xs.contains i then xs else xs ++ [i])))) := on_eq (at_S h)
theorem bi_sorted {a : Addr} : BiW c q "sorted" [.ref a] H Q = (q = true ∧ on (keysM H a) fun ns => ns.length < 64 ∧ ∀ ns' : List Int, ns'.Perm ns → ns'.Pairwise (· ≤ ·) → allocW (.list (ns'.map .int)) H Q) := rfl
theorem bi_max {a : Addr} {t : Tag} {xs : List MVal} (h : H a = some (t, .list xs)) : BiW c q "max" [.ref a] H Q = (q = true ∧ on (intsOf xs) fun ns => ns ≠ [] ∧ ∀ M, M ∈ ns → (∀ a ∈ ns, a ≤ M) → Q (.int M) H) := congrArg (q = true ∧ ·) (on_eq (at_L h))
theorem bi_vinit {e : Addr} {v : MVal} {t : Tag} {C : Addr} {dx : Option Addr} (h : H e = some (t, .exc C dx)) : BiW c q "ValueError.__init__" [.ref e, v] H Q = (c.ve C = true ∧ Q .none H) := on_eq (at_X h)
theorem m_append {a : Addr} {t : Tag} {xs : List MVal} (h : H a = some (t, .list xs)) : MethR c H (.ref a) "append" = some (.bi "list.append", [.ref a]) := by show MethA c H a _ (H a) = _; rw [h]; rfl
theorem m_pop {a : Addr} {t : Tag} {xs : List MVal} (h : H a = some (t, .list xs)) : MethR c H (.ref a) "pop" = some (.bi "list.pop", [.ref a]) := by show MethA c H a _ (H a) = _; rw [h]; rfl
theorem m_sadd {a : Addr} {t : Tag} {xs : List Int} (h : H a = some (t, .set xs)) : MethR c H (.ref a) "add" = some (.bi "set.add", [.ref a]) := by show MethA c H a _ (H a) = _; rw [h]; rfl
theorem m_inst {a dx : Addr} {t t' : Tag} {C f : Addr} {fs : List (Str × MVal)} {n : Str} (h : H a = some (t, .inst C dx)) (h' : H dx = some (t', .ns fs)) (hn : fget fs n = none) (hm : c.meth C n = some f) : MethR c H (.ref a) n = some (.ref f, [.ref a]) := by
  show MethA c H a _ (H a) = _; rw [h]
  show ((at? oN H dx).bind fun p => if fget p.2 n = Option.none then (c.meth C n).map fun f => (MVal.ref f, [MVal.ref a]) else Option.none) = _
  rw [at_N h', hm]; exact if_pos hn
theorem m_cls {a : Addr} {n : Str} {id : String} (h : H a = none) (hm : c.clsm a n = some id) : MethR c H (.ref a) n = some (.bi id, []) := by show MethA c H a _ (H a) = _; rw [h]; show (c.clsm a n).map _ = _; rw [hm]; rfl
theorem a_fld {a dx : Addr} {t t' : Tag} {C : Addr} {fs : List (Str × MVal)} {n : Str} {v : MVal} (h : H a = some (t, .inst C dx)) (h' : H dx = some (t', .ns fs)) (hn : fget fs n = some v) (hm : c.fld C n = true) (hb : notBi v = true) : AttrW c (.ref a) n H Q = Q v H := (on_eq h).trans ((on_eq (at_N h')).trans (by show AttrI c n H Q a C (fget fs n) = _; rw [hn]; exact (congrArg (· ∧ Q v H) (eq_true ⟨hm, hb⟩)).trans (true_and _)))
theorem a_meth {a dx : Addr} {t t' : Tag} {C f : Addr} {fs : List (Str × MVal)} {n : Str} (h : H a = some (t, .inst C dx)) (h' : H dx = some (t', .ns fs)) (hn : fget fs n = none) (hm : c.meth C n = some f) : AttrW c (.ref a) n H Q = Q (.meth f a) H := (on_eq h).trans ((on_eq (at_N h')).trans (by show AttrI c n H Q a C (fget fs n) = _; rw [hn]; exact on_eq hm))
theorem a_exc {a dx : Addr} {t t' : Tag} {C : Addr} {fs : List (Str × MVal)} {n : Str} {v : MVal} (h : H a = some (t, .exc C (some dx))) (h' : H dx = some (t', .ns fs)) (hn : fget fs n = some v) (hm : c.fldE C n = true) (hb : notBi v = true) : AttrW c (.ref a) n H Q = Q v H := (on_eq h).trans ((on_eq (at_N h')).trans ((on_eq hn).trans ((congrArg (· ∧ Q v H) (eq_true ⟨hm, hb⟩)).trans (true_and _))))
theorem st_fld {a dx : Addr} {t t' : Tag} {C : Addr} {fs : List (Str × MVal)} {n : Str} {v : MVal} {R : MH → Prop} (h : H a = some (t, .inst C dx)) (h' : H dx = some (t', .ns fs)) (hm : c.stf C n = true) (hl : fs.length < 100) : SetAttrW c (.ref a) n v H R = R (upd H dx t' (.ns (fset fs n v))) := (on_eq h).trans ((on_eq (at_N h')).trans ((congrArg (· ∧ R _) (eq_true ⟨hm, hl⟩)).trans (true_and _)))
end
end Mine
namespace Mine
open PySem
section
variable {c : Cfg} {q : Bool} {H : MH} {Q : MVal → MH → Prop}
theorem cm_eq (u v : MVal) : cmpM H .eq u v = eqM H u v := rfl
theorem cm_ne (u v : MVal) : cmpM H .ne u v = (eqM H u v).map (!·) := rfl
theorem cm_is (u v : MVal) : cmpM H .is u v = isM u v := rfl
theorem cm_isnt (u v : MVal) : cmpM H .isnt u v = (isM u v).map (!·) := rfl
theorem cm_in (u v : MVal) : cmpM H .isin u v = inM H u v := rfl
theorem cm_notin (u v : MVal) : cmpM H .notin u v = (inM H u v).map (!·) := rfl
theorem cm_lt (a b : Int) : cmpM H .lt (.int a) (.int b) = some (decide (a < b)) := rfl
theorem cm_le (a b : Int) : cmpM H .le (.int a) (.int b) = some (decide (a ≤ b)) := rfl
theorem cm_gt (a b : Int) : cmpM H .gt (.int a) (.int b) = some (decide (a > b)) := rfl
theorem cm_ge (a b : Int) : cmpM H .ge (.int a) (.int b) = some (decide (a ≥ b)) := rfl
theorem is_nn : isM .none .none = some true := rfl
theorem is_rn (a : Addr) : isM (.ref a) .none = some false := rfl
theorem is_tn (a : List MVal) : isM (.tup a) .none = some false := rfl
theorem is_tt (a b : String) : isM (.ty a) (.ty b) = some (a == b) := rfl
theorem tr_b (b : Bool) : Truth H (.bool b) = some b := rfl
theorem bw_add (a b : Int) : BinW .add (.int a) (.int b) H Q = Q (.int (a + b)) H := rfl
theorem bw_sub (a b : Int) : BinW .sub (.int a) (.int b) H Q = Q (.int (a - b)) H := rfl
theorem bw_mul (a b : Int) : BinW .mul (.int a) (.int b) H Q = ((a.natAbs < 2 ^ 62 ∧ b.natAbs < 2 ^ 62) ∧ Q (.int (a * b)) H) := rfl
theorem bw_fdiv (a b : Int) : BinW .fdiv (.int a) (.int b) H Q = ((0 < b ∧ b < 2 ^ 30) ∧ Q (.int (a / b)) H) := rfl
theorem bw_mod (a b : Int) : BinW .mod (.int a) (.int b) H Q = (0 < b ∧ Q (.int (a % b)) H) := rfl
theorem bw_pow (a b : Int) : BinW .pow (.int a) (.int b) H Q = ((0 ≤ b ∧ b ≤ 1000 ∧ a.natAbs ≤ 16) ∧ Q (.int (a ^ b.toNat)) H) := rfl
theorem bw_str (a b : Str) : BinW .add (.str a) (.str b) H Q = (a.length + b.length ≤ 2 ^ 20 ∧ Q (.str (a ++ b)) H) := rfl
theorem bw_cat {a b : Addr} {t u : Tag} {xs ys : List MVal} (h : H a = some (t, .list xs)) (h' : H b = some (u, .list ys)) : BinW .add (.ref a) (.ref b) H Q = (xs.length + ys.length ≤ BIG ∧ allocW (.list (xs ++ ys)) H Q) := (on_eq (at_L h)).trans (on_eq (at_L h'))
theorem it_list {a : Addr} {t : Tag} {xs : List MVal} (h : H a = some (t, .list xs)) : itemsOf H (.ref a) = some xs := by show (H a).bind _ = _; rw [h]; rfl
theorem it_dict {a : Addr} {t : Tag} {ep : Nat} {es : List (Int × MVal)} (h : H a = some (t, .dict ep es)) : itemsOf H (.ref a) = some (es.map fun e => .int e.1) := by show (H a).bind _ = _; rw [h]; rfl
theorem it_rng (lo hi : Int) : itemsOf H (.rng lo hi) = some ((List.range (hi - lo).toNat).map fun (i : Nat) => MVal.int (lo + (i : Int))) := rfl
theorem so_ref (a : Addr) : srcObj H (.ref a) = (H a).map (·.2) := rfl
theorem so_rng (a b : Int) : srcObj H (.rng a b) = none := rfl
theorem bx1 (x : Nat) (v : MVal) (σ : Lcs) : bindXs [x] v σ = some (ls σ x (some v)) := rfl
theorem nth_at {xs : List MVal} {i : Nat} {k : Int} {v : MVal} (hk : k = i) (hi : xs[i]? = some v) : nth? xs k = some v := by
  have hl : i < xs.length := (List.getElem?_eq_some_iff.mp hi).1
  unfold nth? idx?
  rw [if_pos (by omega), hk]; exact hi
theorem sub_list {a : Addr} {t : Tag} {xs : List MVal} {i : Nat} {k : Int} {v : MVal} (h : H a = some (t, .list xs)) (hk : k = i) (hi : xs[i]? = some v) : SubW c (.ref a) (.int k) H Q = Q v H := (on_eq h).trans (on_eq (nth_at hk hi))
theorem sub_last {a : Addr} {t : Tag} {xs : List MVal} {v : MVal} (h : H a = some (t, .list (xs ++ [v]))) : SubW c (.ref a) (.int (-1)) H Q = Q v H := (on_eq h).trans (on_eq (by
  unfold nth? idx?
  rw [List.length_append, List.length_singleton, if_neg (by omega), if_pos (by omega)]
  show (xs ++ [v])[((-1 : Int) + ((xs.length + 1 : Nat) : Int)).toNat]? = _
  rw [show ((-1 : Int) + ((xs.length + 1 : Nat) : Int)).toNat = xs.length by omega, List.getElem?_concat_length]))
theorem sub_tup {vs : List MVal} {i : Nat} {k : Int} {v : MVal} (hk : k = i) (hi : vs[i]? = some v) : SubW c (.tup vs) (.int k) H Q = Q v H := on_eq (nth_at hk hi)
theorem sub_dict {a : Addr} {t : Tag} {ep : Nat} {es : List (Int × MVal)} {k : Int} {e : Int × MVal} (h : H a = some (t, .dict ep es)) (hi : es.find? (fun e => decide (e.1 = k)) = some e) : SubW c (.ref a) (.int k) H Q = Q e.2 H := (on_eq h).trans (on_eq hi)
theorem sub_ro {a : Addr} {xs : List MVal} {i : Nat} {k : Int} {v : MVal} (h : c.ro a = some xs) (hk : k = i) (hi : xs[i]? = some v) : SubW c (.ro a) (.int k) H Q = Q v H := (on_eq h).trans (on_eq (nth_at hk hi))
theorem bi_len_ro {a : Addr} {xs : List MVal} (h : c.ro a = some xs) : BiW c q "len" [.ro a] H Q = Q (.int xs.length) H := by show on ((c.ro a).map List.length) _ = _; rw [h]; rfl
theorem si_list {a : Addr} {t : Tag} {xs : List MVal} {i : Nat} {k : Int} {v : MVal} {R : MH → Prop} (h : H a = some (t, .list xs)) (hk : k = i) (hi : i < xs.length) : SetItemW (.ref a) (.int k) v H R = R (upd H a t (.list (xs.set i v))) := by
  subst hk
  exact (on_eq h).trans ((congrArg (· ∧ R _) (eq_true ⟨Int.natCast_nonneg i, Int.ofNat_lt.mpr hi⟩)).trans (true_and _))
theorem si_dict {a : Addr} {t : Tag} {ep : Nat} {es : List (Int × MVal)} {k : Int} {v : MVal} {R : MH → Prop} (h : H a = some (t, .dict ep es)) : SetItemW (.ref a) (.int k) v H R = (es.length < BIG ∧ ∀ ep', R (upd H a t (.dict ep' (putD es k v)))) := on_eq h
theorem in_dict {a : Addr} {t : Tag} {ep : Nat} {es : List (Int × MVal)} {i : Int} (h : H a = some (t, .dict ep es)) : inM H (.int i) (.ref a) = some ((es.map (·.1)).contains i) := by show (H a).bind _ = _; rw [h]; rfl
end
end Mine
namespace Mine
open PySem
section
variable {c : Cfg} {d : Nat} {q : Bool} {H : MH} {Q : MVal → MH → Prop} {Z : Addr → MH → Prop}
theorem cw_ref (f : Addr) (vs : List MVal) : CallW c d q (.ref f) vs H Q Z = (c.callee f = true ∧ CallOK c d q f vs H Q Z) := rfl
theorem cw_meth (f s : Addr) (vs : List MVal) : CallW c d q (.meth f s) vs H Q Z = (c.fn f = true ∧ CallOK c d q f (.ref s :: vs) H Q Z) := rfl
theorem cw_bi (id : String) (vs : List MVal) : CallW c d q (.bi id) vs H Q Z = BiW c q id vs H Q := rfl
theorem cw_ty (n : String) (vs : List MVal) : CallW c d q (.ty n) vs H Q Z = TyW q n vs H Q := rfl
theorem wpSs_cons (s : S) (r : List S) (σ : Lcs) (K : MFlow → Lcs → MH → Prop) : wpSs c d q (s :: r) σ H K = wpS c d q s σ H (fun f σ' H' => match f with | .next => wpSs c d q r σ' H' K | f => K f σ' H') := rfl
theorem wpSs_nil (σ : Lcs) (K : MFlow → Lcs → MH → Prop) : wpSs c d q [] σ H K = K .next σ H := rfl
end
theorem ev_n : PyData.eqv .none .none = true := rfl
theorem ev_i (a b : Int) : PyData.eqv (.int a) (.int b) = (a == b) := rfl
theorem ev_b (a b : Bool) : PyData.eqv (.bool a) (.bool b) = (a == b) := rfl
theorem ev_s (a b : Str) : PyData.eqv (.str a) (.str b) = (a == b) := rfl
theorem ev_l (a b : List PyData) : PyData.eqv (.list a) (.list b) = PyData.eqvAll a b := rfl
theorem ea_c (a b : PyData) (l m : List PyData) : PyData.eqvAll (a :: l) (b :: m) = (PyData.eqv a b && PyData.eqvAll l m) := rfl
theorem ea_n : PyData.eqvAll [] [] = true := rfl
theorem rd_n (H : MH) (n : Nat) : rd H (n + 1) .none = some .none := rfl
theorem rd_i (H : MH) (n : Nat) (i : Int) : rd H (n + 1) (.int i) = some (.int i) := rfl
theorem rd_b (H : MH) (n : Nat) (i : Bool) : rd H (n + 1) (.bool i) = some (.bool i) := rfl
theorem rd_l {H : MH} {a : Addr} {t : Tag} {xs : List MVal} (h : H a = some (t, .list xs)) (n : Nat) : rd H (n + 1) (.ref a) = (mapO (rd H n) xs).map .list := by show (at? oL H a).bind _ = _; rw [at_L h]; rfl
theorem mapO_n {α β : Type} (f : α → Option β) : mapO f [] = some [] := rfl
theorem mapO_c {α β : Type} {f : α → Option β} {x : α} {r : List α} {y : β} {ys : List β} (h : f x = some y) (k : mapO f r = some ys) : mapO f (x :: r) = some (y :: ys) := by show (f x).bind _ = _; rw [h]; show (mapO f r).map _ = _; rw [k]; rfl
theorem eqM_t {H : MH} {u v : MVal} {x y : PyData} (h : rd H 60 u = some x) (h' : rd H 60 v = some y) : eqM H u v = some (PyData.eqv x y) := by show (rd H 60 u).bind _ = _; rw [h]; show (rd H 60 v).map _ = _; rw [h']; rfl
end Mine
end
section
set_option autoImplicit false
set_option linter.unusedVariables false
namespace Mine
open PySem
/-! the rules of wpX and wpS with every continuation named: what is not run is not unfolded -/
noncomputable abbrev QV1 := MVal → MH → Prop
noncomputable abbrev QL1 := List MVal → MH → Prop
noncomputable abbrev QB1 := Bool → MH → Prop
noncomputable abbrev ZZ := Addr → MH → Prop
noncomputable abbrev KK1 := MFlow → Lcs → MH → Prop
section
variable (c : Cfg) (d : Nat) (q : Bool)
noncomputable def xv (e : E) (σ : Lcs) (H : MH) (Q : QV1) (Z : ZZ) : Prop := (wpX c d q e).1 σ H Q Z
noncomputable def xb (e : E) (σ : Lcs) (H : MH) (Q : QB1) (Z : ZZ) : Prop := (wpX c d q e).2 σ H Q Z
noncomputable def xl (e : List E) (σ : Lcs) (H : MH) (Q : QL1) (Z : ZZ) : Prop := (wpXs c d q e).1 σ H Q Z
noncomputable def xt (e : List E) (σ : Lcs) (H : MH) (Q : QB1) (Z : ZZ) : Prop := (wpXs c d q e).2 σ H Q Z
noncomputable def oV (o : Option MVal) (H : MH) (Q : QV1) : Prop := match o with | some v => Q v H | Option.none => False
noncomputable def oT (o : Option Bool) (H : MH) (Q : QB1) : Prop := match o with | some r => Q r H | Option.none => False
noncomputable def oM (o : Option Bool) (H : MH) (Q : QV1) : Prop := match o with | some r => Q (.bool r) H | Option.none => False
noncomputable def oI (o : Option (List MVal)) (F : List MVal → Prop) : Prop := match o with | some its => F its | Option.none => False
noncomputable def oA (o : Option Bool) (A B : Prop) : Prop := match o with | some true => A | some false => B | Option.none => False
noncomputable def oO (o : Option Bool) (A B : Prop) : Prop := match o with | some false => A | some true => B | Option.none => False
noncomputable def tv (Q : QB1) : QV1 := fun u H => oT (Truth H u) H Q
noncomputable def k2 (op : BOp) (u : MVal) (Q : QV1) : QV1 := fun v H => BinW op u v H Q
noncomputable def k1 (op : BOp) (b : E) (σ : Lcs) (Q : QV1) (Z : ZZ) : QV1 := fun u H => xv c d q b σ H (k2 op u Q) Z
noncomputable def kn (Q : QV1) : QV1 := fun u H => match u with | .int i => Q (.int (-i)) H | _ => False
noncomputable def ka (b : E) (σ : Lcs) (Q : QV1) (Z : ZZ) : QV1 := fun u H => oA (Truth H u) (xv c d q b σ H Q Z) (Q u H)
noncomputable def ko (b : E) (σ : Lcs) (Q : QV1) (Z : ZZ) : QV1 := fun u H => oO (Truth H u) (xv c d q b σ H Q Z) (Q u H)
noncomputable def kat (b : E) (σ : Lcs) (Q : QB1) (Z : ZZ) : QB1 := fun r H => if r then xb c d q b σ H Q Z else Q false H
noncomputable def kot (b : E) (σ : Lcs) (Q : QB1) (Z : ZZ) : QB1 := fun r H => if r then Q true H else xb c d q b σ H Q Z
noncomputable def kc2 (op : COp) (u : MVal) (Q : QV1) : QV1 := fun v H => oM (cmpM H op u v) H Q
noncomputable def kc1 (op : COp) (b : E) (σ : Lcs) (Q : QV1) (Z : ZZ) : QV1 := fun u H => xv c d q b σ H (kc2 op u Q) Z
noncomputable def kg (n : Str) (Q : QV1) : QV1 := fun u H => AttrW c u n H Q
noncomputable def ks2 (u : MVal) (Q : QV1) : QV1 := fun v H => SubW c u v H Q
noncomputable def ks1 (i : E) (σ : Lcs) (Q : QV1) (Z : ZZ) : QV1 := fun u H => xv c d q i σ H (ks2 c u Q) Z
noncomputable def kz3 (u v : MVal) (Q : QV1) : QV1 := fun x H => SliceW u v x H Q
noncomputable def kz2 (hi : E) (u : MVal) (σ : Lcs) (Q : QV1) (Z : ZZ) : QV1 := fun v H => xv c d q hi σ H (kz3 u v Q) Z
noncomputable def kz1 (lo hi : E) (σ : Lcs) (Q : QV1) (Z : ZZ) : QV1 := fun u H => xv c d q lo σ H (kz2 c d q hi u σ Q Z) Z
noncomputable def kl (Q : QV1) : QL1 := fun vs H => vs.length ≤ BIG ∧ allocW (.list vs) H Q
noncomputable def kt (Q : QV1) : QL1 := fun vs H => vs.length ≤ 2 ^ 20 ∧ Q (.tup vs) H
noncomputable def kw (fv : MVal) (Q : QV1) (Z : ZZ) : QL1 := fun vs H => CallW c d q fv vs H Q Z
noncomputable def kf (as : List E) (σ : Lcs) (Q : QV1) (Z : ZZ) : QV1 := fun fv H => xl c d q as σ H (kw c d q fv Q Z) Z
noncomputable def km3 (fv : MVal) (first : List MVal) (Q : QV1) (Z : ZZ) : QL1 := fun vs H => CallW c d q fv (first ++ vs) H Q Z
noncomputable def km2 (o : Option (MVal × List MVal)) (as : List E) (σ : Lcs) (H : MH) (Q : QV1) (Z : ZZ) : Prop := match o with | some (fv, first) => xl c d q as σ H (km3 c d q fv first Q Z) Z | Option.none => False
noncomputable def km (n : Str) (as : List E) (σ : Lcs) (Q : QV1) (Z : ZZ) : QV1 := fun u H => km2 c d q (MethR c H u n) as σ H Q Z
noncomputable def zF : ZZ := fun _ _ => False
noncomputable def kp3 (k : Option MVal → MH → Prop) : QV1 := fun y H => k (some y) H
noncomputable def kp2 (elt : E) (σ : Lcs) (k : Option MVal → MH → Prop) : QB1 := fun r H => if r then xv c d q elt σ H (kp3 k) zF else k Option.none H
noncomputable def kp1 (elt : E) (x : Nat) (cs : List E) (σ : Lcs) (v : MVal) (H : MH) (k : Option MVal → MH → Prop) : Prop := xt c d q cs (ls σ x (some v)) H (kp2 c d q elt (ls σ x (some v)) k) zF
noncomputable def kpl (Q : QV1) : QL1 := fun ys H => allocW (.list ys) H Q
noncomputable def kp (elt : E) (x : Nat) (cs : List E) (σ : Lcs) (Q : QV1) : QV1 := fun u H => oI (itemsOf H u) fun its => its.length ≤ 2 ^ 20 ∧ compW u (srcObj H u) (kp1 c d q elt x cs σ) its [] H (kpl Q)
noncomputable def xl2 (v : MVal) (Q : QL1) : QL1 := fun vs H => Q (v :: vs) H
noncomputable def xl1 (es : List E) (σ : Lcs) (Q : QL1) (Z : ZZ) : QV1 := fun v H => xl c d q es σ H (xl2 v Q) Z
noncomputable def xt1 (es : List E) (σ : Lcs) (Q : QB1) (Z : ZZ) : QB1 := fun r H => if r then xt c d q es σ H Q Z else Q false H
noncomputable def ze (σ : Lcs) (K : KK1) : ZZ := fun x H => K (.exc x) σ H
noncomputable def ke (σ : Lcs) (K : KK1) : QV1 := fun _ H => K .next σ H
noncomputable def kh (σ : Lcs) (K : KK1) : MH → Prop := fun H => K .next σ H
noncomputable def kas (x : Nat) (σ : Lcs) (K : KK1) : QV1 := fun v H => K .next (ls σ x (some v)) H
noncomputable def kr (σ : Lcs) (K : KK1) : QV1 := fun v H => K (.ret v) σ H
noncomputable def kab (n : Str) (v : MVal) (σ : Lcs) (K : KK1) : QV1 := fun u H => SetAttrW c u n v H (kh σ K)
noncomputable def kaa (o : E) (n : Str) (σ : Lcs) (K : KK1) : QV1 := fun v H => xv c d q o σ H (kab c n v σ K) (ze σ K)
noncomputable def kic (u v : MVal) (σ : Lcs) (K : KK1) : QV1 := fun k H => SetItemW u k v H (kh σ K)
noncomputable def kib (i : E) (v : MVal) (σ : Lcs) (K : KK1) : QV1 := fun u H => xv c d q i σ H (kic u v σ K) (ze σ K)
noncomputable def kia (o i : E) (σ : Lcs) (K : KK1) : QV1 := fun v H => xv c d q o σ H (kib c d q i v σ K) (ze σ K)
noncomputable def kdc (u k : MVal) (σ : Lcs) (K : KK1) : QV1 := fun l H => DelSliceW u k l H (kh σ K)
noncomputable def kdb (hi : E) (u : MVal) (σ : Lcs) (K : KK1) : QV1 := fun k H => xv c d q hi σ H (kdc u k σ K) (ze σ K)
noncomputable def kda (lo hi : E) (σ : Lcs) (K : KK1) : QV1 := fun u H => xv c d q lo σ H (kdb c d q hi u σ K) (ze σ K)
noncomputable def oU (o : Option Lcs) (H : MH) (K : KK1) : Prop := match o with | some σ => K .next σ H | Option.none => False
noncomputable def ku (xs : List Nat) (σ : Lcs) (K : KK1) : QV1 := fun v H => oU (bindXs xs v σ) H K
noncomputable def kif (a b : List S) (σ : Lcs) (K : KK1) : QB1 := fun r H => if r then wpSs c d q a σ H K else wpSs c d q b σ H K
noncomputable def ki1 (x : Nat) (body : List S) (v : MVal) (σ : Lcs) (H : MH) (K : KK1) : Prop := wpSs c d q body (ls σ x (some v)) H K
noncomputable def ki (x : Nat) (body : List S) (σ : Lcs) (K : KK1) : QV1 := fun u H => oI (itemsOf H u) fun its => its.length ≤ 2 ^ 20 ∧ forW u (srcObj H u) (ki1 c d q x body) its σ H K
noncomputable def kx (σ : Lcs) (K : KK1) : QV1 := fun v H => on (asR v) fun a => on (at? oX H a) fun p => c.exc p.2 = true ∧ K (.exc a) σ H
noncomputable def ks (r : List S) (K : KK1) : KK1 := fun f σ H => match f with | .next => wpSs c d q r σ H K | f => K f σ H
noncomputable def ky (hs orelse : List S) (K : KK1) : KK1 := fun f σ H => match f with | .next => wpSs c d q orelse σ H K | .exc e => wpHs c d hs e σ H K | f => K f σ H
noncomputable def kH0 (K : KK1) : KK1 := fun f σ H => match f with | .exc _ => False | f => K f σ H
noncomputable def kH1 (i : Nat) (K : KK1) : KK1 := fun f σ H => match f with | .exc _ => False | f => K f (ls σ i Option.none) H
end
section
variable {c : Cfg} {d : Nat} {q : Bool} {σ : Lcs} {H : MH} {Q : QV1} {R : QB1} {L : QL1} {Z : ZZ} {K : KK1} {e a b o i lo hi f elt src : E} {es as : List E} {n : Str} {u v : MVal} {x : Nat}
theorem oV_ : oV (some v) H Q = Q v H := rfl
theorem oT_ {r : Bool} : oT (some r) H R = R r H := rfl
theorem oM_ {r : Bool} : oM (some r) H Q = Q (.bool r) H := rfl
theorem oI_ {l : List MVal} {F : List MVal → Prop} : oI (some l) F = F l := rfl
theorem oU_ : oU (some σ) H K = K .next σ H := rfl
theorem oA1 {A B : Prop} : oA (some true) A B = A := rfl
theorem oA0 {A B : Prop} : oA (some false) A B = B := rfl
theorem oO1 {A B : Prop} : oO (some true) A B = B := rfl
theorem oO0 {A B : Prop} : oO (some false) A B = A := rfl
theorem v_n : xv c d q .none σ H Q Z = Q .none H := rfl
theorem v_b {r : Bool} : xv c d q (.bool r) σ H Q Z = Q (.bool r) H := rfl
theorem v_i {j : Int} : xv c d q (.int j) σ H Q Z = Q (.int j) H := rfl
theorem v_s {s : Str} : xv c d q (.str s) σ H Q Z = Q (.str s) H := rfl
theorem v_l {j : Nat} : xv c d q (.loc j) σ H Q Z = oV (lg σ j) H Q := rfl
theorem v_g {s : Str} : xv c d q (.glob s) σ H Q Z = oV (c.gl s) H Q := rfl
theorem v_o {op : BOp} : xv c d q (.bin op a b) σ H Q Z = xv c d q a σ H (k1 c d q op b σ Q Z) Z := rfl
theorem v_m : xv c d q (.neg a) σ H Q Z = xv c d q a σ H (kn Q) Z := rfl
theorem v_and : xv c d q (.and a b) σ H Q Z = xv c d q a σ H (ka c d q b σ Q Z) Z := rfl
theorem v_or : xv c d q (.or a b) σ H Q Z = xv c d q a σ H (ko c d q b σ Q Z) Z := rfl
theorem v_c {op : COp} : xv c d q (.cmp op a b) σ H Q Z = xv c d q a σ H (kc1 c d q op b σ Q Z) Z := rfl
theorem v_a : xv c d q (.attr a n) σ H Q Z = xv c d q a σ H (kg c n Q) Z := rfl
theorem v_u : xv c d q (.sub a i) σ H Q Z = xv c d q a σ H (ks1 c d q i σ Q Z) Z := rfl
theorem v_z : xv c d q (.slice a lo hi) σ H Q Z = xv c d q a σ H (kz1 c d q lo hi σ Q Z) Z := rfl
theorem v_li : xv c d q (.list es) σ H Q Z = xl c d q es σ H (kl Q) Z := rfl
theorem v_tu : xv c d q (.tup es) σ H Q Z = xl c d q es σ H (kt Q) Z := rfl
theorem v_di : xv c d q (.dict [] []) σ H Q Z = allocW (.dict 0 []) H Q := rfl
theorem v_f : xv c d q (.call f as) σ H Q Z = xv c d q f σ H (kf c d q as σ Q Z) Z := rfl
theorem v_k : xv c d q (.mcall o n as) σ H Q Z = xv c d q o σ H (km c d q n as σ Q Z) Z := rfl
theorem v_p : xv c d q (.comp elt x src es) σ H Q Z = ((q = true ∧ x < σ.length) ∧ xv c d q src σ H (kp c d q elt x es σ Q) Z) := rfl
theorem b_and : xb c d q (.and a b) σ H R Z = xb c d q a σ H (kat c d q b σ R Z) Z := rfl
theorem b_or : xb c d q (.or a b) σ H R Z = xb c d q a σ H (kot c d q b σ R Z) Z := rfl
theorem b_b {r : Bool} : xb c d q (.bool r) σ H R Z = xv c d q (.bool r) σ H (tv R) Z := rfl
theorem b_l {j : Nat} : xb c d q (.loc j) σ H R Z = xv c d q (.loc j) σ H (tv R) Z := rfl
theorem b_c {op : COp} : xb c d q (.cmp op a b) σ H R Z = xv c d q (.cmp op a b) σ H (tv R) Z := rfl
theorem b_a : xb c d q (.attr a n) σ H R Z = xv c d q (.attr a n) σ H (tv R) Z := rfl
theorem b_u : xb c d q (.sub a i) σ H R Z = xv c d q (.sub a i) σ H (tv R) Z := rfl
theorem b_f : xb c d q (.call f as) σ H R Z = xv c d q (.call f as) σ H (tv R) Z := rfl
theorem b_k : xb c d q (.mcall o n as) σ H R Z = xv c d q (.mcall o n as) σ H (tv R) Z := rfl
theorem l_0 : xl c d q [] σ H L Z = L [] H := rfl
theorem l_1 : xl c d q (e :: es) σ H L Z = xv c d q e σ H (xl1 c d q es σ L Z) Z := rfl
theorem t_0 : xt c d q [] σ H R Z = R true H := rfl
theorem t_1 : xt c d q (e :: es) σ H R Z = xb c d q e σ H (xt1 c d q es σ R Z) Z := rfl
theorem on_some {α : Type} {a : α} {k : α → Prop} : on (some a) k = k a := rfl
theorem tv_ : tv R u H = oT (Truth H u) H R := rfl
theorem k2_ {op : BOp} : k2 op u Q v H = BinW op u v H Q := rfl
theorem k1_ {op : BOp} : k1 c d q op b σ Q Z u H = xv c d q b σ H (k2 op u Q) Z := rfl
theorem kn_ {j : Int} : kn Q (.int j) H = Q (.int (-j)) H := rfl
theorem ka_ : ka c d q b σ Q Z u H = oA (Truth H u) (xv c d q b σ H Q Z) (Q u H) := rfl
theorem ko_ : ko c d q b σ Q Z u H = oO (Truth H u) (xv c d q b σ H Q Z) (Q u H) := rfl
theorem kat1 : kat c d q b σ R Z true H = xb c d q b σ H R Z := rfl
theorem kat0 : kat c d q b σ R Z false H = R false H := rfl
theorem kot1 : kot c d q b σ R Z true H = R true H := rfl
theorem kot0 : kot c d q b σ R Z false H = xb c d q b σ H R Z := rfl
theorem kc2_ {op : COp} : kc2 op u Q v H = oM (cmpM H op u v) H Q := rfl
theorem kc1_ {op : COp} : kc1 c d q op b σ Q Z u H = xv c d q b σ H (kc2 op u Q) Z := rfl
theorem kg_ : kg c n Q u H = AttrW c u n H Q := rfl
theorem ks2_ : ks2 c u Q v H = SubW c u v H Q := rfl
theorem ks1_ : ks1 c d q i σ Q Z u H = xv c d q i σ H (ks2 c u Q) Z := rfl
theorem kz3_ {w : MVal} : kz3 u v Q w H = SliceW u v w H Q := rfl
theorem kz2_ : kz2 c d q hi u σ Q Z v H = xv c d q hi σ H (kz3 u v Q) Z := rfl
theorem kz1_ : kz1 c d q lo hi σ Q Z u H = xv c d q lo σ H (kz2 c d q hi u σ Q Z) Z := rfl
theorem kl_ {vs : List MVal} : kl Q vs H = (vs.length ≤ BIG ∧ allocW (.list vs) H Q) := rfl
theorem kt_ {vs : List MVal} : kt Q vs H = (vs.length ≤ 2 ^ 20 ∧ Q (.tup vs) H) := rfl
theorem kw_ {vs : List MVal} : kw c d q u Q Z vs H = CallW c d q u vs H Q Z := rfl
theorem kf_ : kf c d q as σ Q Z u H = xl c d q as σ H (kw c d q u Q Z) Z := rfl
theorem km3_ {vs ws : List MVal} : km3 c d q u ws Q Z vs H = CallW c d q u (ws ++ vs) H Q Z := rfl
theorem km2_ {vs : List MVal} : km2 c d q (some (u, vs)) as σ H Q Z = xl c d q as σ H (km3 c d q u vs Q Z) Z := rfl
theorem km_ : km c d q n as σ Q Z u H = km2 c d q (MethR c H u n) as σ H Q Z := rfl
theorem kp3_ {k : Option MVal → MH → Prop} : kp3 k u H = k (some u) H := rfl
theorem kp21 {k : Option MVal → MH → Prop} : kp2 c d q elt σ k true H = xv c d q elt σ H (kp3 k) zF := rfl
theorem kp20 {k : Option MVal → MH → Prop} : kp2 c d q elt σ k false H = k Option.none H := rfl
theorem kp1_ {k : Option MVal → MH → Prop} : kp1 c d q elt x es σ v H k = xt c d q es (ls σ x (some v)) H (kp2 c d q elt (ls σ x (some v)) k) zF := rfl
theorem kpl_ {vs : List MVal} : kpl Q vs H = allocW (.list vs) H Q := rfl
theorem kp_ : kp c d q elt x es σ Q u H = oI (itemsOf H u) fun its => its.length ≤ 2 ^ 20 ∧ compW u (srcObj H u) (kp1 c d q elt x es σ) its [] H (kpl Q) := rfl
theorem xl2_ {vs : List MVal} : xl2 v L vs H = L (v :: vs) H := rfl
theorem xl1_ : xl1 c d q es σ L Z v H = xl c d q es σ H (xl2 v L) Z := rfl
theorem xt11 : xt1 c d q es σ R Z true H = xt c d q es σ H R Z := rfl
theorem xt10 : xt1 c d q es σ R Z false H = R false H := rfl
theorem ze_ {r : Addr} : ze σ K r H = K (.exc r) σ H := rfl
theorem ke_ : ke σ K v H = K .next σ H := rfl
theorem kh_ : kh σ K H = K .next σ H := rfl
theorem kas_ : kas x σ K v H = K .next (ls σ x (some v)) H := rfl
theorem kr_ : kr σ K v H = K (.ret v) σ H := rfl
theorem kab_ : kab c n v σ K u H = SetAttrW c u n v H (kh σ K) := rfl
theorem kaa_ : kaa c d q o n σ K v H = xv c d q o σ H (kab c n v σ K) (ze σ K) := rfl
theorem kic_ {w : MVal} : kic u v σ K w H = SetItemW u w v H (kh σ K) := rfl
theorem kib_ : kib c d q i v σ K u H = xv c d q i σ H (kic u v σ K) (ze σ K) := rfl
theorem kia_ : kia c d q o i σ K v H = xv c d q o σ H (kib c d q i v σ K) (ze σ K) := rfl
theorem kdc_ {w : MVal} : kdc u v σ K w H = DelSliceW u v w H (kh σ K) := rfl
theorem kdb_ : kdb c d q hi u σ K v H = xv c d q hi σ H (kdc u v σ K) (ze σ K) := rfl
theorem kda_ : kda c d q lo hi σ K u H = xv c d q lo σ H (kdb c d q hi u σ K) (ze σ K) := rfl
theorem ku_ {xs : List Nat} : ku xs σ K v H = oU (bindXs xs v σ) H K := rfl
theorem kif1 {s t : List S} : kif c d q s t σ K true H = wpSs c d q s σ H K := rfl
theorem kif0 {s t : List S} : kif c d q s t σ K false H = wpSs c d q t σ H K := rfl
theorem ki1_ {s : List S} : ki1 c d q x s v σ H K = wpSs c d q s (ls σ x (some v)) H K := rfl
theorem ki_ {s : List S} : ki c d q x s σ K u H = oI (itemsOf H u) fun its => its.length ≤ 2 ^ 20 ∧ forW u (srcObj H u) (ki1 c d q x s) its σ H K := rfl
theorem ks_n {r : List S} : ks c d q r K .next σ H = wpSs c d q r σ H K := rfl
theorem ks_r {r : List S} : ks c d q r K (.ret v) σ H = K (.ret v) σ H := rfl
theorem ks_e {r : List S} {j : Addr} : ks c d q r K (.exc j) σ H = K (.exc j) σ H := rfl
theorem ky_n {s t : List S} : ky c d q s t K .next σ H = wpSs c d q t σ H K := rfl
theorem ky_r {s t : List S} : ky c d q s t K (.ret v) σ H = K (.ret v) σ H := rfl
theorem ky_e {s t : List S} {j : Addr} : ky c d q s t K (.exc j) σ H = wpHs c d s j σ H K := rfl
theorem kH0n : kH0 K .next σ H = K .next σ H := rfl
theorem kH0r : kH0 K (.ret v) σ H = K (.ret v) σ H := rfl
theorem kH1n : kH1 x K .next σ H = K .next (ls σ x Option.none) H := rfl
theorem kH1r : kH1 x K (.ret v) σ H = K (.ret v) (ls σ x Option.none) H := rfl
theorem w_0 : wpSs c d q [] σ H K = K .next σ H := rfl
theorem w_1 {s : S} {r : List S} : wpSs c d q (s :: r) σ H K = wpS c d q s σ H (ks c d q r K) := rfl
theorem s_e : wpS c d q (.expr e) σ H K = xv c d q e σ H (ke σ K) (ze σ K) := rfl
theorem s_a : wpS c d q (.assign x e) σ H K = xv c d q e σ H (kas x σ K) (ze σ K) := rfl
theorem s_aa : wpS c d q (.assignAttr o n e) σ H K = xv c d q e σ H (kaa c d q o n σ K) (ze σ K) := rfl
theorem s_as : wpS c d q (.assignSub o i e) σ H K = xv c d q e σ H (kia c d q o i σ K) (ze σ K) := rfl
theorem s_u {xs : List Nat} : wpS c d q (.unpack xs e) σ H K = (q = true ∧ xv c d q e σ H (ku xs σ K) (ze σ K)) := rfl
theorem s_i {s t : List S} : wpS c d q (.ite e s t) σ H K = xb c d q e σ H (kif c d q s t σ K) (ze σ K) := rfl
theorem s_w {s : List S} : wpS c d q (.whil e s) σ H K = whileW (xb c d q e) (wpSs c d q s) σ H K := rfl
theorem s_f {s : List S} : wpS c d q (.forr [x] src s) σ H K = (q = true ∧ xv c d q src σ H (ki c d q x s σ K) (ze σ K)) := rfl
theorem s_r : wpS c d q (.ret e) σ H K = xv c d q e σ H (kr σ K) (ze σ K) := rfl
theorem s_x : wpS c d q (.raise e) σ H K = (q = true ∧ xv c d q e σ H (kx c σ K) (ze σ K)) := rfl
theorem s_t {s t r : List S} : wpS c d q (.tryx s t r) σ H K = wpSs c d q s σ H (ky c d q t r K) := rfl
theorem s_d : wpS c d q (.delSlice o lo hi) σ H K = xv c d q o σ H (kda c d q lo hi σ K) (ze σ K) := rfl
-- conditional
theorem hs0 {s t : List S} {j D C : Addr} {tg : Tag} {dx : Option Addr} (h : H j = some (tg, .exc C dx)) (hg : c.gl n = some (.ref D)) (hD : c.exc D = true) (hs : c.sub C D = some true) : wpHs c d (.hand (.glob n) Option.none s :: t) j σ H K = wpSs c d false s σ H (kH0 K) := by
  show (match c.gl n with | some v => on (asR v) fun D => on (at? oX H j) fun p => c.exc D = true ∧ c.sub p.2 D = some true ∧ wpSs c d false s σ H (kH0 K) | Option.none => False) = _
  rw [hg]; exact (on_eq (at_X h)).trans (by simp only [hD, hs, true_and])
theorem hs1 {s t : List S} {j D C : Addr} {tg : Tag} {dx : Option Addr} (h : H j = some (tg, .exc C dx)) (hg : c.gl n = some (.ref D)) (hD : c.exc D = true) (hs : c.sub C D = some true) : wpHs c d (.hand (.glob n) (some x) s :: t) j σ H K = wpSs c d false s (ls σ x (some (.ref j))) H (kH1 x K) := by
  show (match c.gl n with | some v => on (asR v) fun D => on (at? oX H j) fun p => c.exc D = true ∧ c.sub p.2 D = some true ∧ wpSs c d false s (ls σ x (some (.ref j))) H (kH1 x K) | Option.none => False) = _
  rw [hg]; exact (on_eq (at_X h)).trans (by simp only [hD, hs, true_and])
theorem wpSs_append (c : Cfg) (d : Nat) (q : Bool) : ∀ (a b : List S) (σ : Lcs) (H : MH) (K : KK1), wpSs c d q (a ++ b) σ H K = wpSs c d q a σ H (ks c d q b K)
  | [], _, _, _, _ => rfl
  | s :: a, b, σ, H, K => congrArg (wpS c d q s σ H) (funext fun f => funext fun σ' => funext fun H' => match f with | .next => wpSs_append c d q a b σ' H' K | .brk => rfl | .cont => rfl | .ret _ => rfl | .exc _ => rfl)
end
theorem rlen {n : Nat} {l : Int} {f : Nat → MVal} (hl : 0 ≤ l) (h : n < 1000) : ((List.range ((n : Int) - l).toNat).map f).length ≤ 2 ^ 20 := by
  rw [List.length_map, List.length_range]; omega
end Mine
end
section
set_option autoImplicit false
set_option linter.unusedVariables false
set_option linter.unusedSimpArgs false
namespace Mine
open PySem PySem.Calls PyProof.Rows W

noncomputable def fnChk (fd : FuncData) (vm : VM) (k n : Nat) : Bool := fd.closure.isEmpty && (fd.globals == mainGlobals) && (fd.builtins == builtinsNs) && (fd.scope.kind == .function) && !fd.scope.isCoroutine && !fd.scope.isGenerator &&
  vm.all (fun p => decide (p.2 < n) && decide (p.2 < k) && (fd.scope.names.lookup p.1 == some .local || fd.scope.names.lookup p.1 == some .cell)) && decide ((vm.map (·.2)).Nodup)

theorem lookup_mem {α : Type} : ∀ {vm : List (Str × α)} {x : Str} {i : α}, vm.lookup x = some i → (x, i) ∈ vm
  | [], _, _, h => by simp at h
  | (y, j) :: r, x, i, h => by
    rw [List.lookup_cons] at h
    by_cases e : (x == y) = true
    · rw [e] at h; simp at h; subst h
      have := eq_of_beq e; subst this
      exact .head _
    · have e : (x == y) = false := by simpa using e
      rw [e] at h; exact .tail _ (lookup_mem h)
theorem inj_of_nodup {vm : VM} (h : (vm.map (·.2)).Nodup) : VMinj vm := by
  intro x y i hx hy
  have mx := lookup_mem hx
  have my := lookup_mem hy
  induction vm with
  | nil => cases mx
  | cons p r ih =>
    rw [List.map_cons, List.nodup_cons] at h
    rcases List.mem_cons.mp mx with e | mx <;> rcases List.mem_cons.mp my with e' | my
    · rw [← e] at e'; cases e'; rfl
    · exact absurd (List.mem_map.mpr ⟨_, my, rfl⟩) (by have := h.1; rw [← e] at this; exact this)
    · exact absurd (List.mem_map.mpr ⟨_, mx, rfl⟩) (by have := h.1; rw [← e'] at this; exact this)
    · have lx : r.lookup x = some i := by
        rw [List.lookup_cons] at hx
        by_cases q : (x == p.1) = true
        · rw [q] at hx; simp at hx; subst hx; exact absurd (List.mem_map.mpr ⟨_, mx, rfl⟩) h.1
        · have q : (x == p.1) = false := by simpa using q
          rw [q] at hx; exact hx
      have ly : r.lookup y = some i := by
        rw [List.lookup_cons] at hy
        by_cases q : (y == p.1) = true
        · rw [q] at hy; simp at hy; subst hy; exact absurd (List.mem_map.mpr ⟨_, my, rfl⟩) h.1
        · have q : (y == p.1) = false := by simpa using q
          rw [q] at hy; exact hy
      exact ih h.2 lx ly mx my

theorem cells_acc : ∀ (names : List (Str × NameKind)) (m : Nat) (acc : List (Str × Addr)) (x : Str), (acc.lookup x).isSome = true → ((cellsFrom m names acc).lookup x).isSome = true
  | [], m, acc, x, h => h
  | (n, k) :: r, m, acc, x, h => by
    unfold cellsFrom
    split
    · refine cells_acc r _ _ x ?_
      rw [List.lookup_cons]
      split
      · rfl
      · exact h
    · exact cells_acc r m acc x h
theorem cells_mem : ∀ (names : List (Str × NameKind)) (m : Nat) (acc : List (Str × Addr)) (x : Str), (x, NameKind.cell) ∈ names → ((cellsFrom m names acc).lookup x).isSome = true
  | (n, k) :: r, m, acc, x, h => by
    unfold cellsFrom
    rcases List.mem_cons.mp h with e | h
    · cases e
      rw [if_pos (by decide)]
      exact cells_acc r (m + 1) ((n, m) :: acc) n (by rw [List.lookup_cons, beq_self_eq_true]; rfl)
    · split
      · exact cells_mem r _ _ x h
      · exact cells_mem r _ _ x h

section
variable {c : Cfg}
theorem ar1 {α : Type} {P : List α → Prop} (h : ∀ a, P [a]) : ∀ l : List α, l.length = 1 → P l
  | [a], _ => h a
theorem ar2 {α : Type} {P : List α → Prop} (h : ∀ a b, P [a, b]) : ∀ l : List α, l.length = 2 → P l
  | [a, b], _ => h a b
theorem ar3 {α : Type} {P : List α → Prop} (h : ∀ a b c, P [a, b, c]) : ∀ l : List α, l.length = 3 → P l
  | [a, b, c], _ => h a b c
/-- a function's body, out of the known part of the heap -/
theorem body_of (L : Link c) {f : Addr} {o : Obj} {fd : FuncData} {body : List Stmt} {vm : VM} {a k n : Nat} {ss : List S} {ps : List Str} (hc : c.callee f = true) (ho : c.h₀.get? f = some o) (hd : o.data = .func fd) (hb : fd.body = .stmts body) (hcode : c.h₀.CodeRec fd.code fd.qualname) (hchk : fnChk fd vm k n = true)
    (htr : GoodSs c fd.scope.names vm k body ss) (hps : (ps.all fun p => (vm.lookup p).isSome) = true) (hpl : ps.length = a) (hbind : ∀ vals : List Value, vals.length = ps.length → bindArgs fd ⟨vals, []⟩ = pure (ps.zip vals))
    (hinit : ∀ vs : List MVal, vs.length = a → init n vm ps vs = vs.map some ++ List.replicate (n - a) none) :
    Body c f a n ss := by
  refine ⟨hc, fun d q vs H Q Z hl hw => ?_⟩
  simp only [fnChk, Bool.and_eq_true, decide_eq_true_eq, List.all_eq_true, Bool.not_eq_true', beq_iff_eq, Bool.or_eq_true, List.isEmpty_iff] at hchk
  obtain ⟨⟨⟨⟨⟨⟨⟨h1, h2⟩, h3⟩, h4⟩, h5⟩, h6⟩, h7⟩, h8⟩ := hchk
  rw [← hinit vs hl] at hw
  refine call_fn (n := n) L ⟨⟨o, ho, hd⟩, hcode, hb, h1, h2, h3, h4, h5, h6, fun x i hx => ?_, inj_of_nodup h8, fun x hx m => cells_mem _ _ _ x (lookup_mem hx), htr⟩ (fun p hp => List.all_eq_true.mp hps p hp) (by omega) hbind ?_
  · have := h7 _ (lookup_mem hx)
    exact ⟨this.1.1, this.1.2, this.2⟩
  · exact hw
end
end Mine
end
section
set_option autoImplicit false
set_option linter.unusedVariables false
set_option linter.unusedSimpArgs false
namespace Mine
open PySem PySem.Calls PyProof.Rows W

noncomputable def strip : List Value → List Value
  | .ref _ :: r => strip r
  | l => l
theorem refuse_strip (self : Value) : ∀ l : List Value, refuseLoop self "__setattr__" l = refuseLoop self "__setattr__" (strip l)
  | [] => rfl
  | v :: r => by
    cases v with
    | ref a => rw [refuseLoop_ref]; exact refuse_strip self r
    | _ => rfl
noncomputable def mroChk (l : List Value) : Bool := onlyObject l || decide (strip l = [.type "ValueError", .type "Exception", .type "BaseException", .type "object"])
theorem refuses_chk {l : List Value} (h : mroChk l = true) : refuses l := by
  intro self
  rcases (Bool.or_eq_true _ _).mp h with h | h
  · exact refuse_only self h
  · rw [refuse_strip, of_decide_eq_true h]
    exact PySem.F.store_ValueError.passes self
noncomputable def clsChk (K : Frag) : Bool := K.all fun p => match p.2 with
  | ⟨_, _, .cls cd, _⟩ => mroChk cd.mro
  | _ => true
theorem lookup_memA {α : Type} : ∀ {l : List (Addr × α)} {a : Addr} {o : α}, l.lookup a = some o → (a, o) ∈ l
  | [], _, _, h => by simp at h
  | (y, j) :: r, x, i, h => by
    rw [List.lookup_cons] at h
    by_cases e : (x == y) = true
    · rw [e] at h; simp at h; subst h
      have := eq_of_beq e; subst this
      exact .head _
    · have e : (x == y) = false := by simpa using e
      rw [e] at h; exact .tail _ (lookup_memA h)
theorem exr_of {K : Frag} (h : clsChk K = true) {C : Addr} {cd : ClassData} (hc : clsIn K C = some cd) : refuses cd.mro := by
  unfold clsIn at hc
  split at hc
  · rename_i a b sl ho
    cases hc
    have := List.all_eq_true.mp h _ (lookup_memA ho)
    exact refuses_chk this
  · cases hc

/-- a namespace's object in the known part -/
theorem ns_of {h : Heap} {a : Addr} {o : Obj} {es : Array DictEntry} {ep : Nat} (g : h.get? a = some o) (hd : o.data = .dict es ep) (hk : (es.all fun e => match e.key with | .str .. => true | _ => false) = true) : h.Ns a (nsFind es) := by
  refine ⟨o, es, ep, g, hd, ?_, fun _ => rfl⟩
  intro e he
  have hx := Array.all_eq_true_iff_forall_mem.mp hk e he
  cases hq : e.key with
  | str n t => exact ⟨n, t, rfl⟩
  | _ => rw [hq] at hx; cases hx
end Mine
end
section
set_option autoImplicit false
set_option linter.unusedVariables false
set_option genSizeOf false
set_option genInjectivity false
namespace Mine
open PySem
namespace U9
noncomputable def s_BadPage_init : List S := [.assign 2 (.str "no page"), .ite (.and (.cmp .is (.call (.glob "type") [(.loc 1)]) (.glob "int")) (.cmp .lt (.call (.glob "abs") [(.loc 1)]) (.bin .pow (.int 10) (.int 18)))) [.assign 2 (.bin .add (.bin .add (.loc 2) (.str " ")) (.call (.glob "str") [(.loc 1)]))] [], .expr (.mcall (.glob "StoreError") "__init__" [(.loc 0), (.loc 2)]), .assignAttr (.loc 0) "number" (.loc 1)]
noncomputable def s_copied : List S := [.ite (.cmp .isnt (.call (.glob "type") [(.loc 0)]) (.glob "list")) [.ret (.loc 0)] [], .assign 1 (.list []), .forr [2] (.loc 0) [.ite (.cmp .is (.call (.glob "type") [(.loc 2)]) (.glob "list")) [.assign 2 (.call (.glob "list") [(.loc 2)])] [], .expr (.mcall (.loc 1) "append" [(.loc 2)])], .ret (.loc 1)]
noncomputable def s_Pages_init : List S := [.assignAttr (.loc 0) "_slots" (.list [.none]), .assignAttr (.loc 0) "_free" (.list []), .assignAttr (.loc 0) "_journal" .none, .assignAttr (.loc 0) "_old_free" .none, .assignAttr (.loc 0) "_old_length" (.int 0), .assignAttr (.loc 0) "reads" (.int 0), .assignAttr (.loc 0) "writes" (.int 0)]
noncomputable def s_Pages_add : List S := [.ite (.cmp .gt (.call (.glob "len") [(.attr (.loc 0) "_free")]) (.int 0)) [.assign 2 (.mcall (.attr (.loc 0) "_free") "pop" []), .expr (.mcall (.loc 0) "_note" [(.loc 2)]), .assignSub (.attr (.loc 0) "_slots") (.loc 2) (.loc 1)] [.assign 2 (.call (.glob "len") [(.attr (.loc 0) "_slots")]), .expr (.mcall (.loc 0) "_note" [(.loc 2)]), .expr (.mcall (.attr (.loc 0) "_slots") "append" [(.loc 1)])], .assignAttr (.loc 0) "writes" (.bin .add (.attr (.loc 0) "writes") (.int 1)), .ret (.loc 2)]
noncomputable def s_Pages__check : List S := [.ite (.or (.cmp .isnt (.call (.glob "type") [(.loc 1)]) (.glob "int")) (.or (.cmp .lt (.loc 1) (.int 1)) (.cmp .ge (.loc 1) (.call (.glob "len") [(.attr (.loc 0) "_slots")])))) [.raise (.call (.glob "BadPage") [(.loc 1)])] [], .ite (.cmp .is (.sub (.attr (.loc 0) "_slots") (.loc 1)) .none) [.raise (.call (.glob "BadPage") [(.loc 1)])] []]
noncomputable def s_Pages_read : List S := [.expr (.mcall (.loc 0) "_check" [(.loc 1)]), .assignAttr (.loc 0) "reads" (.bin .add (.attr (.loc 0) "reads") (.int 1)), .ret (.sub (.attr (.loc 0) "_slots") (.loc 1))]
noncomputable def s_Pages_write : List S := [.expr (.mcall (.loc 0) "_check" [(.loc 1)]), .expr (.mcall (.loc 0) "_note" [(.loc 1)]), .assignSub (.attr (.loc 0) "_slots") (.loc 1) (.loc 2), .assignAttr (.loc 0) "writes" (.bin .add (.attr (.loc 0) "writes") (.int 1))]
noncomputable def s_Pages_change : List S := [.expr (.mcall (.loc 0) "_check" [(.loc 1)]), .expr (.mcall (.loc 0) "_note" [(.loc 1)]), .assignAttr (.loc 0) "reads" (.bin .add (.attr (.loc 0) "reads") (.int 1)), .assignAttr (.loc 0) "writes" (.bin .add (.attr (.loc 0) "writes") (.int 1)), .ret (.sub (.attr (.loc 0) "_slots") (.loc 1))]
noncomputable def s_Pages_drop : List S := [.expr (.mcall (.loc 0) "_check" [(.loc 1)]), .expr (.mcall (.loc 0) "_note" [(.loc 1)]), .assignSub (.attr (.loc 0) "_slots") (.loc 1) .none, .expr (.mcall (.attr (.loc 0) "_free") "append" [(.loc 1)])]
noncomputable def s_Pages_numbers : List S := [.ret (.comp (.loc 1) 1 (.call (.glob "range") [(.int 1), (.call (.glob "len") [(.attr (.loc 0) "_slots")])]) [(.cmp .isnt (.sub (.attr (.loc 0) "_slots") (.loc 1)) .none)])]
noncomputable def s_Pages_count : List S := [.ret (.bin .sub (.bin .sub (.call (.glob "len") [(.attr (.loc 0) "_slots")]) (.int 1)) (.call (.glob "len") [(.attr (.loc 0) "_free")]))]
noncomputable def s_Pages_free_count : List S := [.ret (.call (.glob "len") [(.attr (.loc 0) "_free")])]
noncomputable def s_Pages__note : List S := [.ite (.and (.cmp .isnt (.attr (.loc 0) "_journal") .none) (.cmp .notin (.loc 1) (.attr (.loc 0) "_journal"))) [.assign 2 .none, .ite (.cmp .lt (.loc 1) (.call (.glob "len") [(.attr (.loc 0) "_slots")])) [.assign 2 (.call (.glob "copied") [(.sub (.attr (.loc 0) "_slots") (.loc 1))])] [], .assignSub (.attr (.loc 0) "_journal") (.loc 1) (.loc 2)] []]
noncomputable def s_Pages_begin : List S := [.ite (.cmp .isnt (.attr (.loc 0) "_journal") .none) [.raise (.call (.glob "StoreError") [(.str "begun already")])] [], .assignAttr (.loc 0) "_journal" (.dict [] []), .assignAttr (.loc 0) "_old_free" (.call (.glob "list") [(.attr (.loc 0) "_free")]), .assignAttr (.loc 0) "_old_length" (.call (.glob "len") [(.attr (.loc 0) "_slots")])]
noncomputable def s_Pages_begun : List S := [.ret (.cmp .isnt (.attr (.loc 0) "_journal") .none)]
noncomputable def s_Pages_commit : List S := [.ite (.cmp .is (.attr (.loc 0) "_journal") .none) [.raise (.call (.glob "StoreError") [(.str "not begun")])] [], .assign 1 (.call (.glob "sorted") [(.attr (.loc 0) "_journal")]), .assignAttr (.loc 0) "_journal" .none, .assignAttr (.loc 0) "_old_free" .none, .ret (.loc 1)]
noncomputable def s_Pages_rollback : List S := [.ite (.cmp .is (.attr (.loc 0) "_journal") .none) [.raise (.call (.glob "StoreError") [(.str "not begun")])] [], .assign 1 (.attr (.loc 0) "_journal"), .assignAttr (.loc 0) "_journal" .none, .forr [2] (.loc 1) [.ite (.cmp .lt (.loc 2) (.attr (.loc 0) "_old_length")) [.assignSub (.attr (.loc 0) "_slots") (.loc 2) (.sub (.loc 1) (.loc 2))] []], .delSlice (.attr (.loc 0) "_slots") (.attr (.loc 0) "_old_length") .none, .assignAttr (.loc 0) "_free" (.attr (.loc 0) "_old_free"), .assignAttr (.loc 0) "_old_free" .none, .ret (.call (.glob "len") [(.loc 1)])]
noncomputable def s_Pages_trim : List S := [.ite (.cmp .isnt (.attr (.loc 0) "_journal") .none) [.raise (.call (.glob "StoreError") [(.str "begun already")])] [], .assign 1 (.int 0), .whil (.and (.cmp .gt (.call (.glob "len") [(.attr (.loc 0) "_slots")]) (.int 1)) (.cmp .is (.sub (.attr (.loc 0) "_slots") (.neg (.int 1))) .none)) [.expr (.mcall (.attr (.loc 0) "_slots") "pop" []), .assign 1 (.bin .add (.loc 1) (.int 1))], .assignAttr (.loc 0) "_free" (.comp (.loc 2) 2 (.attr (.loc 0) "_free") [(.cmp .lt (.loc 2) (.call (.glob "len") [(.attr (.loc 0) "_slots")]))]), .ret (.loc 1)]
noncomputable def s_Pages_faults : List S := [.assign 1 (.list []), .ite (.or (.cmp .eq (.call (.glob "len") [(.attr (.loc 0) "_slots")]) (.int 0)) (.cmp .isnt (.sub (.attr (.loc 0) "_slots") (.int 0)) .none)) [.expr (.mcall (.loc 1) "append" [(.str "number 0 is given out")])] [], .ite (.cmp .ne (.call (.glob "sorted") [(.attr (.loc 0) "_free")]) (.comp (.loc 2) 2 (.call (.glob "range") [(.int 1), (.call (.glob "len") [(.attr (.loc 0) "_slots")])]) [(.cmp .is (.sub (.attr (.loc 0) "_slots") (.loc 2)) .none)])) [.expr (.mcall (.loc 1) "append" [(.str "the free numbers")])] [], .ret (.loc 1)]
noncomputable def s_Pages_dump : List S := [.ret (.tup [(.comp (.call (.glob "copied") [(.loc 1)]) 1 (.attr (.loc 0) "_slots") []), (.call (.glob "list") [(.attr (.loc 0) "_free")])])]
noncomputable def s_law_told : List S := [.assign 1 (.str "refused"), .tryx [.assign 1 (.call (.loc 0) [])] [.hand (.glob "StoreError") none [.assign 1 (.str "refused")]] [], .ret (.loc 1)]
noncomputable def s_law_bad : List S := [.assign 2 (.bool false), .tryx [.expr (.mcall (.loc 0) "read" [(.loc 1)])] [.hand (.glob "BadPage") (some 3) [.assign 2 (.cmp .eq (.attr (.loc 3) "number") (.loc 1))]] [], .ret (.loc 2)]
noncomputable def s_law : List S := [.ite (.cmp .lt (.call (.glob "len") [(.loc 0)]) (.int 4)) [.ret (.bool true)] [], .assign 1 (.call (.glob "Pages") []), .assign 2 (.list [.none]), .assign 3 (.list []), .assign 4 .none, .assign 5 (.call (.glob "set") [(.list [])]), .forr [6] (.call (.glob "range") [(.int 18)]) [.assign 7 (.bin .add (.bin .fdiv (.call (.glob "abs") [(.sub (.loc 0) (.bin .mod (.loc 6) (.call (.glob "len") [(.loc 0)])))]) (.bin .pow (.int 5) (.bin .fdiv (.loc 6) (.call (.glob "len") [(.loc 0)])))) (.bin .mul (.int 7) (.loc 6))), .assign 8 (.bin .mod (.loc 7) (.int 9)), .assign 9 (.comp (.loc 14) 14 (.call (.glob "range") [(.int 1), (.call (.glob "len") [(.loc 2)])]) [(.cmp .isnt (.sub (.loc 2) (.loc 14)) .none)]), .assign 10 (.sub (.bin .add (.loc 9) (.list [(.int 0)])) (.bin .mod (.bin .fdiv (.loc 7) (.int 9)) (.bin .add (.call (.glob "len") [(.loc 9)]) (.int 1)))), .ite (.or (.cmp .lt (.loc 8) (.int 3)) (.cmp .eq (.loc 10) (.int 0))) [.ite (.cmp .ne (.loc 3) (.list [])) [.assign 11 (.mcall (.loc 3) "pop" [])] [.assign 11 (.call (.glob "len") [(.loc 2)]), .expr (.mcall (.loc 2) "append" [.none])], .ite (.cmp .ne (.mcall (.loc 1) "add" [(.list [(.loc 7)])]) (.loc 11)) [.ret (.bool false)] [], .assignSub (.loc 2) (.loc 11) (.list [(.loc 7)]), .expr (.mcall (.loc 5) "add" [(.loc 11)])] [.ite (.cmp .eq (.loc 8) (.int 3)) [.expr (.mcall (.loc 1) "write" [(.loc 10), (.list [(.loc 7), (.loc 6)])]), .assignSub (.loc 2) (.loc 10) (.list [(.loc 7), (.loc 6)]), .expr (.mcall (.loc 5) "add" [(.loc 10)])] [.ite (.cmp .eq (.loc 8) (.int 4)) [.expr (.mcall (.mcall (.loc 1) "change" [(.loc 10)]) "append" [(.loc 6)]), .assignSub (.loc 2) (.loc 10) (.bin .add (.sub (.loc 2) (.loc 10)) (.list [(.loc 6)])), .expr (.mcall (.loc 5) "add" [(.loc 10)])] [.ite (.cmp .eq (.loc 8) (.int 5)) [.expr (.mcall (.loc 1) "drop" [(.loc 10)]), .assignSub (.loc 2) (.loc 10) .none, .expr (.mcall (.loc 3) "append" [(.loc 10)]), .expr (.mcall (.loc 5) "add" [(.loc 10)])] [.ite (.cmp .eq (.loc 8) (.int 6)) [.assign 11 (.str "refused"), .ite (.cmp .is (.loc 4) .none) [.assign 11 .none, .assign 4 (.tup [(.call (.glob "list") [(.loc 2)]), (.call (.glob "list") [(.loc 3)])]), .assign 5 (.call (.glob "set") [(.list [])])] [], .ite (.cmp .ne (.call (.glob "_law_told") [(.attr (.loc 1) "begin")]) (.loc 11)) [.ret (.bool false)] []] [.ite (.cmp .eq (.loc 8) (.int 7)) [.assign 11 (.str "refused"), .assign 12 (.cmp .eq (.bin .mod (.bin .fdiv (.loc 7) (.int 9)) (.int 2)) (.int 0)), .ite (.cmp .isnt (.loc 4) .none) [.assign 11 (.sub (.list [(.call (.glob "sorted") [(.loc 5)]), (.call (.glob "len") [(.loc 5)])]) (.call (.glob "int") [(.loc 12)])), .ite (.loc 12) [.unpack [2, 3] (.loc 4)] [], .assign 4 .none] [], .ite (.cmp .ne (.call (.glob "_law_told") [(.sub (.list [(.attr (.loc 1) "commit"), (.attr (.loc 1) "rollback")]) (.call (.glob "int") [(.loc 12)]))]) (.loc 11)) [.ret (.bool false)] []] [.assign 11 (.str "refused"), .ite (.cmp .is (.loc 4) .none) [.assign 13 (.call (.glob "max") [(.bin .add (.list [(.int 0)]) (.comp (.loc 14) 14 (.call (.glob "range") [(.call (.glob "len") [(.loc 2)])]) [(.cmp .isnt (.sub (.loc 2) (.loc 14)) .none)]))]), .assign 11 (.bin .sub (.bin .sub (.call (.glob "len") [(.loc 2)]) (.int 1)) (.loc 13)), .assign 2 (.slice (.loc 2) .none (.bin .add (.loc 13) (.int 1))), .assign 3 (.comp (.loc 14) 14 (.loc 3) [(.cmp .le (.loc 14) (.loc 13))])] [], .ite (.cmp .ne (.call (.glob "_law_told") [(.attr (.loc 1) "trim")]) (.loc 11)) [.ret (.bool false)] []]]]]]], .assign 9 (.comp (.loc 14) 14 (.call (.glob "range") [(.int 1), (.call (.glob "len") [(.loc 2)])]) [(.cmp .isnt (.sub (.loc 2) (.loc 14)) .none)]), .ite (.or (.cmp .ne (.mcall (.loc 1) "numbers" []) (.loc 9)) (.or (.cmp .ne (.comp (.mcall (.loc 1) "read" [(.loc 14)]) 14 (.loc 9) []) (.comp (.sub (.loc 2) (.loc 14)) 14 (.loc 9) [])) (.cmp .ne (.sub (.mcall (.loc 1) "dump" []) (.int 1)) (.loc 3)))) [.ret (.bool false)] [], .ite (.or (.cmp .ne (.list [(.mcall (.loc 1) "count" []), (.mcall (.loc 1) "free_count" []), (.mcall (.loc 1) "begun" [])]) (.list [(.call (.glob "len") [(.loc 9)]), (.call (.glob "len") [(.loc 3)]), (.cmp .isnt (.loc 4) .none)])) (.cmp .ne (.mcall (.loc 1) "faults" []) (.list []))) [.ret (.bool false)] [], .ite (.cmp .isin (.bool false) (.comp (.call (.glob "_law_bad") [(.loc 1), (.loc 14)]) 14 (.bin .add (.loc 3) (.list [(.int 0), (.neg (.int 1)), (.call (.glob "len") [(.loc 2)])])) [])) [.ret (.bool false)] []], .ret (.cmp .eq (.sub (.mcall (.loc 1) "dump" []) (.int 0)) (.loc 2))]
noncomputable def s_pre : List S := [.assign 7 (.bin .add (.bin .fdiv (.call (.glob "abs") [(.sub (.loc 0) (.bin .mod (.loc 6) (.call (.glob "len") [(.loc 0)])))]) (.bin .pow (.int 5) (.bin .fdiv (.loc 6) (.call (.glob "len") [(.loc 0)])))) (.bin .mul (.int 7) (.loc 6))), .assign 8 (.bin .mod (.loc 7) (.int 9)), .assign 9 (.comp (.loc 14) 14 (.call (.glob "range") [(.int 1), (.call (.glob "len") [(.loc 2)])]) [(.cmp .isnt (.sub (.loc 2) (.loc 14)) .none)]), .assign 10 (.sub (.bin .add (.loc 9) (.list [(.int 0)])) (.bin .mod (.bin .fdiv (.loc 7) (.int 9)) (.bin .add (.call (.glob "len") [(.loc 9)]) (.int 1))))]
noncomputable def s_br : S := .ite (.or (.cmp .lt (.loc 8) (.int 3)) (.cmp .eq (.loc 10) (.int 0))) [.ite (.cmp .ne (.loc 3) (.list [])) [.assign 11 (.mcall (.loc 3) "pop" [])] [.assign 11 (.call (.glob "len") [(.loc 2)]), .expr (.mcall (.loc 2) "append" [.none])], .ite (.cmp .ne (.mcall (.loc 1) "add" [(.list [(.loc 7)])]) (.loc 11)) [.ret (.bool false)] [], .assignSub (.loc 2) (.loc 11) (.list [(.loc 7)]), .expr (.mcall (.loc 5) "add" [(.loc 11)])] [.ite (.cmp .eq (.loc 8) (.int 3)) [.expr (.mcall (.loc 1) "write" [(.loc 10), (.list [(.loc 7), (.loc 6)])]), .assignSub (.loc 2) (.loc 10) (.list [(.loc 7), (.loc 6)]), .expr (.mcall (.loc 5) "add" [(.loc 10)])] [.ite (.cmp .eq (.loc 8) (.int 4)) [.expr (.mcall (.mcall (.loc 1) "change" [(.loc 10)]) "append" [(.loc 6)]), .assignSub (.loc 2) (.loc 10) (.bin .add (.sub (.loc 2) (.loc 10)) (.list [(.loc 6)])), .expr (.mcall (.loc 5) "add" [(.loc 10)])] [.ite (.cmp .eq (.loc 8) (.int 5)) [.expr (.mcall (.loc 1) "drop" [(.loc 10)]), .assignSub (.loc 2) (.loc 10) .none, .expr (.mcall (.loc 3) "append" [(.loc 10)]), .expr (.mcall (.loc 5) "add" [(.loc 10)])] [.ite (.cmp .eq (.loc 8) (.int 6)) [.assign 11 (.str "refused"), .ite (.cmp .is (.loc 4) .none) [.assign 11 .none, .assign 4 (.tup [(.call (.glob "list") [(.loc 2)]), (.call (.glob "list") [(.loc 3)])]), .assign 5 (.call (.glob "set") [(.list [])])] [], .ite (.cmp .ne (.call (.glob "_law_told") [(.attr (.loc 1) "begin")]) (.loc 11)) [.ret (.bool false)] []] [.ite (.cmp .eq (.loc 8) (.int 7)) [.assign 11 (.str "refused"), .assign 12 (.cmp .eq (.bin .mod (.bin .fdiv (.loc 7) (.int 9)) (.int 2)) (.int 0)), .ite (.cmp .isnt (.loc 4) .none) [.assign 11 (.sub (.list [(.call (.glob "sorted") [(.loc 5)]), (.call (.glob "len") [(.loc 5)])]) (.call (.glob "int") [(.loc 12)])), .ite (.loc 12) [.unpack [2, 3] (.loc 4)] [], .assign 4 .none] [], .ite (.cmp .ne (.call (.glob "_law_told") [(.sub (.list [(.attr (.loc 1) "commit"), (.attr (.loc 1) "rollback")]) (.call (.glob "int") [(.loc 12)]))]) (.loc 11)) [.ret (.bool false)] []] [.assign 11 (.str "refused"), .ite (.cmp .is (.loc 4) .none) [.assign 13 (.call (.glob "max") [(.bin .add (.list [(.int 0)]) (.comp (.loc 14) 14 (.call (.glob "range") [(.call (.glob "len") [(.loc 2)])]) [(.cmp .isnt (.sub (.loc 2) (.loc 14)) .none)]))]), .assign 11 (.bin .sub (.bin .sub (.call (.glob "len") [(.loc 2)]) (.int 1)) (.loc 13)), .assign 2 (.slice (.loc 2) .none (.bin .add (.loc 13) (.int 1))), .assign 3 (.comp (.loc 14) 14 (.loc 3) [(.cmp .le (.loc 14) (.loc 13))])] [], .ite (.cmp .ne (.call (.glob "_law_told") [(.attr (.loc 1) "trim")]) (.loc 11)) [.ret (.bool false)] []]]]]]]
noncomputable def s_post : List S := [.assign 9 (.comp (.loc 14) 14 (.call (.glob "range") [(.int 1), (.call (.glob "len") [(.loc 2)])]) [(.cmp .isnt (.sub (.loc 2) (.loc 14)) .none)]), .ite (.or (.cmp .ne (.mcall (.loc 1) "numbers" []) (.loc 9)) (.or (.cmp .ne (.comp (.mcall (.loc 1) "read" [(.loc 14)]) 14 (.loc 9) []) (.comp (.sub (.loc 2) (.loc 14)) 14 (.loc 9) [])) (.cmp .ne (.sub (.mcall (.loc 1) "dump" []) (.int 1)) (.loc 3)))) [.ret (.bool false)] [], .ite (.or (.cmp .ne (.list [(.mcall (.loc 1) "count" []), (.mcall (.loc 1) "free_count" []), (.mcall (.loc 1) "begun" [])]) (.list [(.call (.glob "len") [(.loc 9)]), (.call (.glob "len") [(.loc 3)]), (.cmp .isnt (.loc 4) .none)])) (.cmp .ne (.mcall (.loc 1) "faults" []) (.list []))) [.ret (.bool false)] [], .ite (.cmp .isin (.bool false) (.comp (.call (.glob "_law_bad") [(.loc 1), (.loc 14)]) 14 (.bin .add (.loc 3) (.list [(.int 0), (.neg (.int 1)), (.call (.glob "len") [(.loc 2)])])) [])) [.ret (.bool false)] []]
noncomputable def s_p0 : S := .assign 9 (.comp (.loc 14) 14 (.call (.glob "range") [(.int 1), (.call (.glob "len") [(.loc 2)])]) [(.cmp .isnt (.sub (.loc 2) (.loc 14)) .none)])
noncomputable def s_p1 : S := .ite (.or (.cmp .ne (.mcall (.loc 1) "numbers" []) (.loc 9)) (.or (.cmp .ne (.comp (.mcall (.loc 1) "read" [(.loc 14)]) 14 (.loc 9) []) (.comp (.sub (.loc 2) (.loc 14)) 14 (.loc 9) [])) (.cmp .ne (.sub (.mcall (.loc 1) "dump" []) (.int 1)) (.loc 3)))) [.ret (.bool false)] []
noncomputable def s_p2 : S := .ite (.or (.cmp .ne (.list [(.mcall (.loc 1) "count" []), (.mcall (.loc 1) "free_count" []), (.mcall (.loc 1) "begun" [])]) (.list [(.call (.glob "len") [(.loc 9)]), (.call (.glob "len") [(.loc 3)]), (.cmp .isnt (.loc 4) .none)])) (.cmp .ne (.mcall (.loc 1) "faults" []) (.list []))) [.ret (.bool false)] []
noncomputable def s_p3 : S := .ite (.cmp .isin (.bool false) (.comp (.call (.glob "_law_bad") [(.loc 1), (.loc 14)]) 14 (.bin .add (.loc 3) (.list [(.int 0), (.neg (.int 1)), (.call (.glob "len") [(.loc 2)])])) [])) [.ret (.bool false)] []
theorem post_eq : s_post = [s_p0, s_p1, s_p2, s_p3] := rfl
noncomputable def s_k0 : List S := [.ite (.cmp .ne (.loc 3) (.list [])) [.assign 11 (.mcall (.loc 3) "pop" [])] [.assign 11 (.call (.glob "len") [(.loc 2)]), .expr (.mcall (.loc 2) "append" [.none])], .ite (.cmp .ne (.mcall (.loc 1) "add" [(.list [(.loc 7)])]) (.loc 11)) [.ret (.bool false)] [], .assignSub (.loc 2) (.loc 11) (.list [(.loc 7)]), .expr (.mcall (.loc 5) "add" [(.loc 11)])]
noncomputable def s_k1 : List S := [.expr (.mcall (.loc 1) "write" [(.loc 10), (.list [(.loc 7), (.loc 6)])]), .assignSub (.loc 2) (.loc 10) (.list [(.loc 7), (.loc 6)]), .expr (.mcall (.loc 5) "add" [(.loc 10)])]
noncomputable def s_k2 : List S := [.expr (.mcall (.mcall (.loc 1) "change" [(.loc 10)]) "append" [(.loc 6)]), .assignSub (.loc 2) (.loc 10) (.bin .add (.sub (.loc 2) (.loc 10)) (.list [(.loc 6)])), .expr (.mcall (.loc 5) "add" [(.loc 10)])]
noncomputable def s_k3 : List S := [.expr (.mcall (.loc 1) "drop" [(.loc 10)]), .assignSub (.loc 2) (.loc 10) .none, .expr (.mcall (.loc 3) "append" [(.loc 10)]), .expr (.mcall (.loc 5) "add" [(.loc 10)])]
noncomputable def s_k4 : List S := [.assign 11 (.str "refused"), .ite (.cmp .is (.loc 4) .none) [.assign 11 .none, .assign 4 (.tup [(.call (.glob "list") [(.loc 2)]), (.call (.glob "list") [(.loc 3)])]), .assign 5 (.call (.glob "set") [(.list [])])] [], .ite (.cmp .ne (.call (.glob "_law_told") [(.attr (.loc 1) "begin")]) (.loc 11)) [.ret (.bool false)] []]
noncomputable def s_k5 : List S := [.assign 11 (.str "refused"), .assign 12 (.cmp .eq (.bin .mod (.bin .fdiv (.loc 7) (.int 9)) (.int 2)) (.int 0)), .ite (.cmp .isnt (.loc 4) .none) [.assign 11 (.sub (.list [(.call (.glob "sorted") [(.loc 5)]), (.call (.glob "len") [(.loc 5)])]) (.call (.glob "int") [(.loc 12)])), .ite (.loc 12) [.unpack [2, 3] (.loc 4)] [], .assign 4 .none] [], .ite (.cmp .ne (.call (.glob "_law_told") [(.sub (.list [(.attr (.loc 1) "commit"), (.attr (.loc 1) "rollback")]) (.call (.glob "int") [(.loc 12)]))]) (.loc 11)) [.ret (.bool false)] []]
noncomputable def s_k6 : List S := [.assign 11 (.str "refused"), .ite (.cmp .is (.loc 4) .none) [.assign 13 (.call (.glob "max") [(.bin .add (.list [(.int 0)]) (.comp (.loc 14) 14 (.call (.glob "range") [(.call (.glob "len") [(.loc 2)])]) [(.cmp .isnt (.sub (.loc 2) (.loc 14)) .none)]))]), .assign 11 (.bin .sub (.bin .sub (.call (.glob "len") [(.loc 2)]) (.int 1)) (.loc 13)), .assign 2 (.slice (.loc 2) .none (.bin .add (.loc 13) (.int 1))), .assign 3 (.comp (.loc 14) 14 (.loc 3) [(.cmp .le (.loc 14) (.loc 13))])] [], .ite (.cmp .ne (.call (.glob "_law_told") [(.attr (.loc 1) "trim")]) (.loc 11)) [.ret (.bool false)] []]
noncomputable def s_head : List S := [.ite (.cmp .lt (.call (.glob "len") [(.loc 0)]) (.int 4)) [.ret (.bool true)] [], .assign 1 (.call (.glob "Pages") []), .assign 2 (.list [.none]), .assign 3 (.list []), .assign 4 .none, .assign 5 (.call (.glob "set") [(.list [])])]
theorem law_eq : s_law = s_head ++ [.forr [6] (.call (.glob "range") [(.int 18)]) (s_pre ++ s_br :: s_post), .ret (.cmp .eq (.sub (.mcall (.loc 1) "dump" []) (.int 0)) (.loc 2))] := rfl
theorem br_eq : s_br = .ite (.or (.cmp .lt (.loc 8) (.int 3)) (.cmp .eq (.loc 10) (.int 0))) s_k0 [.ite (.cmp .eq (.loc 8) (.int 3)) s_k1 [.ite (.cmp .eq (.loc 8) (.int 4)) s_k2 [.ite (.cmp .eq (.loc 8) (.int 5)) s_k3 [.ite (.cmp .eq (.loc 8) (.int 6)) s_k4 [.ite (.cmp .eq (.loc 8) (.int 7)) s_k5 s_k6]]]]] := rfl
/-- where the text's objects lie -/
structure Nm where
  (C BP SE : Addr)
  BadPage_init : Addr
  copied : Addr
  Pages_init : Addr
  Pages_add : Addr
  Pages__check : Addr
  Pages_read : Addr
  Pages_write : Addr
  Pages_change : Addr
  Pages_drop : Addr
  Pages_numbers : Addr
  Pages_count : Addr
  Pages_free_count : Addr
  Pages__note : Addr
  Pages_begin : Addr
  Pages_begun : Addr
  Pages_commit : Addr
  Pages_rollback : Addr
  Pages_trim : Addr
  Pages_faults : Addr
  Pages_dump : Addr
  law_told : Addr
  law_bad : Addr

/-- what the text's names, classes and functions are -/
structure Tx (c : Cfg) (N : Nm) : Prop where
  g_len : c.gl "len" = some (.bi "len")
  g_abs : c.gl "abs" = some (.bi "abs")
  g_sorted : c.gl "sorted" = some (.bi "sorted")
  g_max : c.gl "max" = some (.bi "max")
  g_type : c.gl "type" = some (.ty "type")
  g_int : c.gl "int" = some (.ty "int")
  g_list : c.gl "list" = some (.ty "list")
  g_str : c.gl "str" = some (.ty "str")
  g_set : c.gl "set" = some (.ty "set")
  g_range : c.gl "range" = some (.ty "range")
  g_copied : c.gl "copied" = some (.ref N.copied)
  g_Pages : c.gl "Pages" = some (.ref N.C)
  g_BadPage : c.gl "BadPage" = some (.ref N.BP)
  g_StoreError : c.gl "StoreError" = some (.ref N.SE)
  g_law_told : c.gl "_law_told" = some (.ref N.law_told)
  g_law_bad : c.gl "_law_bad" = some (.ref N.law_bad)
  m_add : c.meth N.C "add" = some N.Pages_add
  m_check : c.meth N.C "_check" = some N.Pages__check
  m_read : c.meth N.C "read" = some N.Pages_read
  m_write : c.meth N.C "write" = some N.Pages_write
  m_change : c.meth N.C "change" = some N.Pages_change
  m_drop : c.meth N.C "drop" = some N.Pages_drop
  m_numbers : c.meth N.C "numbers" = some N.Pages_numbers
  m_count : c.meth N.C "count" = some N.Pages_count
  m_free_count : c.meth N.C "free_count" = some N.Pages_free_count
  m_note : c.meth N.C "_note" = some N.Pages__note
  m_begin : c.meth N.C "begin" = some N.Pages_begin
  m_begun : c.meth N.C "begun" = some N.Pages_begun
  m_commit : c.meth N.C "commit" = some N.Pages_commit
  m_rollback : c.meth N.C "rollback" = some N.Pages_rollback
  m_trim : c.meth N.C "trim" = some N.Pages_trim
  m_faults : c.meth N.C "faults" = some N.Pages_faults
  m_dump : c.meth N.C "dump" = some N.Pages_dump
  f_begin : c.fn N.Pages_begin = true
  f_commit : c.fn N.Pages_commit = true
  f_rollback : c.fn N.Pages_rollback = true
  f_trim : c.fn N.Pages_trim = true
  r_slots : c.fld N.C "_slots" = true
  w_slots : c.stf N.C "_slots" = true
  r_free : c.fld N.C "_free" = true
  w_free : c.stf N.C "_free" = true
  r_journal : c.fld N.C "_journal" = true
  w_journal : c.stf N.C "_journal" = true
  r_old_free : c.fld N.C "_old_free" = true
  w_old_free : c.stf N.C "_old_free" = true
  r_old_length : c.fld N.C "_old_length" = true
  w_old_length : c.stf N.C "_old_length" = true
  r_reads : c.fld N.C "reads" = true
  w_reads : c.stf N.C "reads" = true
  r_writes : c.fld N.C "writes" = true
  w_writes : c.stf N.C "writes" = true
  c_C : c.callee N.C = true
  c_BP : c.callee N.BP = true
  c_SE : c.callee N.SE = true
  o_SE : c.base N.SE = true
  e_BP : c.exc N.BP = true
  e_SE : c.exc N.SE = true
  s_BB : c.sub N.BP N.BP = some true
  s_BS : c.sub N.BP N.SE = some true
  s_SS : c.sub N.SE N.SE = some true
  re : c.fldE N.BP "number" = true
  we : c.stE N.BP "number" = true
  ve : c.ve N.BP = true
  cm : c.clsm N.SE "__init__" = some "ValueError.__init__"
  b_BadPage_init : Body c N.BadPage_init 2 3 s_BadPage_init
  b_copied : Body c N.copied 1 3 s_copied
  b_Pages_init : Body c N.Pages_init 1 1 s_Pages_init
  b_Pages_add : Body c N.Pages_add 2 3 s_Pages_add
  b_Pages__check : Body c N.Pages__check 2 2 s_Pages__check
  b_Pages_read : Body c N.Pages_read 2 2 s_Pages_read
  b_Pages_write : Body c N.Pages_write 3 3 s_Pages_write
  b_Pages_change : Body c N.Pages_change 2 2 s_Pages_change
  b_Pages_drop : Body c N.Pages_drop 2 2 s_Pages_drop
  b_Pages_numbers : Body c N.Pages_numbers 1 2 s_Pages_numbers
  b_Pages_count : Body c N.Pages_count 1 1 s_Pages_count
  b_Pages_free_count : Body c N.Pages_free_count 1 1 s_Pages_free_count
  b_Pages__note : Body c N.Pages__note 2 3 s_Pages__note
  b_Pages_begin : Body c N.Pages_begin 1 1 s_Pages_begin
  b_Pages_begun : Body c N.Pages_begun 1 1 s_Pages_begun
  b_Pages_commit : Body c N.Pages_commit 1 2 s_Pages_commit
  b_Pages_rollback : Body c N.Pages_rollback 1 3 s_Pages_rollback
  b_Pages_trim : Body c N.Pages_trim 1 3 s_Pages_trim
  b_Pages_faults : Body c N.Pages_faults 1 3 s_Pages_faults
  b_Pages_dump : Body c N.Pages_dump 1 2 s_Pages_dump
  b_law_told : Body c N.law_told 1 2 s_law_told
  b_law_bad : Body c N.law_bad 2 4 s_law_bad
  /-- a Pages, made and begun -/
  mk_C : ∀ (d : Nat) (q : Bool) (H : MH) (Q : MVal → MH → Prop) (Z : Addr → MH → Prop), (∀ a dx, H a = none → H dx = none → a ≠ dx → CallOK c d q N.Pages_init [.ref a] (upd (upd H dx t0 (.ns [])) a t0 (.inst N.C dx)) (fun m H' => m = .none ∧ Q (.ref a) H') Z) → CallOK c (d + 1) q N.C [] H Q Z
  mk_BP : ∀ (d : Nat) (q : Bool) (v : MVal) (H : MH) (Q : MVal → MH → Prop) (Z : Addr → MH → Prop), (∀ a, H a = none → CallOK c d q N.BadPage_init [.ref a, v] (upd H a t0 (.exc N.BP none)) (fun m H' => m = .none ∧ Q (.ref a) H') Z) → CallOK c (d + 1) q N.BP [v] H Q Z
  mk_SE : ∀ (d : Nat) (q : Bool) (v : MVal) (H : MH) (Q : MVal → MH → Prop) (Z : Addr → MH → Prop), (∀ a, H a = none → Q (.ref a) (upd H a t0 (.exc N.SE none))) → CallOK c (d + 1) q N.SE [v] H Q Z
end U9
end Mine
end
section
set_option autoImplicit false
set_option linter.unusedVariables false
set_option linter.unusedSimpArgs false
namespace Mine
open PySem
theorem upd_upd (H : MH) (a : Addr) (t t' : Tag) (o o' : MObj) : upd (upd H a t o) a t' o' = upd H a t' o' := by
  funext b; unfold upd; split <;> rfl
theorem upd_at (H : MH) (a b : Addr) (t : Tag) (o : MObj) : upd H a t o b = if b = a then some (t, o) else H b := rfl
namespace U9
variable {c : Cfg} {N : Nm} {d : Nat} {H : MH} {Z : Addr → MH → Prop}

theorem copied_none (T : Tx c N) {Q : MVal → MH → Prop} (hQ : Q .none H) : CallOK c (d + 1) true N.copied [.none] H Q Z := by
  refine T.b_copied.2 d true _ H _ _ rfl ?_
  simp only [s_copied, oV_, oT_, oM_, v_l, v_g, v_c, v_f, b_c, l_0, l_1, tv_, kc2_, kc1_, kw_, kf_, xl2_, xl1_, kr_, kif1, ks_r, w_1, s_i, s_r, kB_r, lg, cw_ty, List.cons_append, List.nil_append, cm_isnt, is_tt, tr_b, ty_type_none, Option.map_some, Bool.not_false, String.reduceBEq, List.map_cons, List.map_nil, List.replicate, Nat.reduceSub, oV_, oT_, oM_, v_l, v_g, v_c, v_f, b_c, l_0, l_1, tv_, kc2_, kc1_, kw_, kf_, xl2_, xl1_, kr_, kif1, ks_r, w_1, s_i, s_r, kB_r, lg, cw_ty, List.cons_append, List.nil_append, cm_isnt, is_tt, tr_b, ty_type_none, Option.map_some, Bool.not_false, String.reduceBEq, T.g_type, T.g_list]
  exact hQ

theorem copied_ok (T : Tx c N) {a : Addr} {t : Tag} {l : List Int} {Q : MVal → MH → Prop} (ha : H a = some (t, .list (l.map .int))) (hl : l.length < 1000)
    (hQ : ∀ r, H r = none → Q (.ref r) (upd H r t0 (.list (l.map .int)))) : CallOK c (d + 1) true N.copied [.ref a] H Q Z := by
  refine T.b_copied.2 d true _ H _ _ rfl ?_
  simp only [s_copied, oV_, oT_, oM_, v_l, v_g, v_c, v_li, v_f, b_c, l_0, l_1, tv_, kc2_, kc1_, kl_, kw_, kf_, xl2_, xl1_, kif0, ks_n, w_0, w_1, s_a, s_i, lg, cw_ty, List.cons_append, List.nil_append, cm_isnt, is_tt, tr_b, Option.map_some, Bool.not_true, List.length_nil, beq_self_eq_true, List.map_cons, List.map_nil, List.replicate, Nat.reduceSub, ty_type_list ha, oV_, oT_, oM_, v_l, v_g, v_c, v_li, v_f, b_c, l_0, l_1, tv_, kc2_, kc1_, kl_, kw_, kf_, xl2_, xl1_, kif0, ks_n, w_0, w_1, s_a, s_i, lg, cw_ty, List.cons_append, List.nil_append, cm_isnt, is_tt, tr_b, Option.map_some, Bool.not_true, List.length_nil, beq_self_eq_true, T.g_type, T.g_list]
  refine ⟨Nat.zero_le _, fun r hr => ?_⟩
  have ne : a ≠ r := ne_new ha hr
  have ha' : ∀ o, upd H r t0 o a = some (t, .list (l.map .int)) := fun o => by rw [upd_ne _ _ _ ne]; exact ha
  simp only [oV_, oI_, v_l, kas_, ki_, ks_n, w_1, s_f, lg, ls, true_and, it_list (ha' _)]
  refine ⟨by simp; exact r4 (by assumption) (by decide), forW_inv (fun i σ' H' => (∃ w, σ' = [some (.ref a), some (.ref r), w]) ∧ H' = upd H r t0 (.list ((l.take i).map .int))) _ 0 ⟨⟨_, rfl⟩, by simp⟩ ?_ ?_⟩
  · rintro j v σ' H' K' hj ⟨⟨w, rfl⟩, rfl⟩ hn - - -
    simp only [Nat.zero_add] at *
    refine ⟨by rw [so_ref, so_ref, ha', ha'], ?_⟩
    rw [List.getElem?_map] at hj
    cases hi : l[j]? with
    | none => rw [hi] at hj; cases hj
    | some x =>
      rw [hi] at hj; cases hj
      simp only [oV_, oT_, oM_, v_l, v_g, v_c, v_f, v_k, b_c, l_0, l_1, tv_, kc2_, kc1_, kw_, kf_, km3_, km2_, km_, xl2_, xl1_, ke_, kif0, ki1_, ks_n, w_0, w_1, s_e, s_i, lg, ls, cw_bi, cw_ty, List.cons_append, List.nil_append, cm_is, is_tt, tr_b, ty_type_int, String.reduceBEq, T.g_type, T.g_list, m_append (upd_same _ _ _ _), bi_append (upd_same _ _ _ _), upd_upd]
      refine ⟨?_, hn _ _ ⟨⟨_, rfl⟩, ?_⟩⟩
      · simp [BIG]; omega
      · rw [List.take_add_one, hi]; simp
  · rintro σ' H' ⟨⟨w, rfl⟩, rfl⟩
    simp only [Nat.zero_add, List.length_map] at *
    refine ⟨by rw [so_ref, so_ref, ha', ha'], ?_⟩
    simp only [oV_, v_l, kr_, ks_n, ks_r, w_1, s_r, kB_r, lg]
    rw [List.take_length]
    exact hQ r hr
end U9
end Mine
end
section
set_option autoImplicit false
set_option linter.unusedVariables false
set_option linter.unusedSimpArgs false
set_option genSizeOf false
set_option genInjectivity false
namespace Mine
open PySem
theorem Same.retag {H : MH} {r : Addr} {t t' : Tag} {o : MObj} (h : H r = some (t, o)) : Same H (upd H r t' o) := fun a => by
  unfold upd; split
  · rename_i e; subst e; rw [h]; rfl
  · rfl
theorem Same.rfl' (H : MH) : Same H H := fun _ => rfl
theorem Same.trans {H₁ H₂ H₃ : MH} (x : Same H₁ H₂) (y : Same H₂ H₃) : Same H₁ H₃ := fun a => (x a).trans (y a)
namespace U9
variable {c : Cfg} {N : Nm} {d : Nat} {H : MH} {Z : Addr → MH → Prop} {Q : MVal → MH → Prop}

/-- what the pages are, plainly -/
structure PS where
  slots : List (Option (List Int))
  free : List Int
  jr : Option (List (Int × Option (List Int)) × List Int × Nat)

noncomputable def flds (sl fr : Addr) (j o : MVal) (ol r w : Int) : List (Str × MVal) :=
  [("_slots", .ref sl), ("_free", .ref fr), ("_journal", j), ("_old_free", o), ("_old_length", .int ol), ("reads", .int r), ("writes", .int w)]
section
variable (sl fr : Addr) (j o : MVal) (ol r w : Int)
theorem gS : fget (flds sl fr j o ol r w) "_slots" = some (.ref sl) := rfl
theorem gF : fget (flds sl fr j o ol r w) "_free" = some (.ref fr) := rfl
theorem gJ : fget (flds sl fr j o ol r w) "_journal" = some j := rfl
theorem gO : fget (flds sl fr j o ol r w) "_old_free" = some o := rfl
theorem gL : fget (flds sl fr j o ol r w) "_old_length" = some (.int ol) := rfl
theorem gR : fget (flds sl fr j o ol r w) "reads" = some (.int r) := rfl
theorem gW : fget (flds sl fr j o ol r w) "writes" = some (.int w) := rfl
theorem pF (v : Addr) : fset (flds sl fr j o ol r w) "_free" (.ref v) = flds sl v j o ol r w := rfl
theorem pJ (v : MVal) : fset (flds sl fr j o ol r w) "_journal" v = flds sl fr v o ol r w := rfl
theorem pO (v : MVal) : fset (flds sl fr j o ol r w) "_old_free" v = flds sl fr j v ol r w := rfl
theorem pL (v : Int) : fset (flds sl fr j o ol r w) "_old_length" (.int v) = flds sl fr j o v r w := rfl
theorem pR (v : Int) : fset (flds sl fr j o ol r w) "reads" (.int v) = flds sl fr j o ol v w := rfl
theorem pW (v : Int) : fset (flds sl fr j o ol r w) "writes" (.int v) = flds sl fr j o ol r v := rfl
theorem fl_len : (flds sl fr j o ol r w).length < 100 := by simp [flds]
end

noncomputable def PgR (H : MH) (t : Tag) (v : MVal) : Option (List Int) → Prop
  | none => v = .none
  | some l => ∃ a, v = .ref a ∧ H a = some (t, .list (l.map .int))
noncomputable def JR (H : MH) (j o : MVal) (ol : Int) : Option (List (Int × Option (List Int)) × List Int × Nat) → Prop
  | none => j = .none
  | some (es, of, m) => ol = m ∧ ∃ ja oa ep ms, j = .ref ja ∧ H ja = some ((3, 4), .dict ep ms) ∧ o = .ref oa ∧ H oa = some ((3, 5), .list (of.map .int)) ∧ ms.map (·.1) = es.map (·.1) ∧
      ∀ (i : Nat) (k : Int) (v : MVal) (s : Option (List Int)), ms[i]? = some (k, v) → es[i]? = some (k, s) → PgR H (2, k.toNat) v s

theorem PgR.upd {t : Tag} {v : MVal} {s : Option (List Int)} (x : PgR H t v s) {b : Addr} {t' : Tag} {o' : MObj} (hb : ∀ o, H b ≠ some (t, o)) : PgR (upd H b t' o') t v s := by
  cases s with
  | none => exact x
  | some l => obtain ⟨a, rfl, h⟩ := x; exact ⟨a, rfl, by rw [upd_ne]; exact h; rintro rfl; exact hb _ h⟩
theorem JR.upd {j o : MVal} {ol : Int} {jr : Option (List (Int × Option (List Int)) × List Int × Nat)} (x : JR H j o ol jr) {b : Addr} {t' : Tag} {o' : MObj} (h4 : ∀ o, H b ≠ some ((3, 4), o)) (h5 : ∀ o, H b ≠ some ((3, 5), o)) (h2 : ∀ n o, H b ≠ some ((2, n), o)) : JR (Mine.upd H b t' o') j o ol jr := by
  cases jr with
  | none => exact x
  | some y =>
    obtain ⟨es, of, m⟩ := y
    obtain ⟨e, ja, oa, ep, ms, rfl, hj, rfl, ho, hm, hp⟩ := x
    refine ⟨e, ja, oa, ep, ms, rfl, ?_, rfl, ?_, hm, fun i k v s a b' => (hp i k v s a b').upd (h2 _)⟩
    · rw [upd_ne]; exact hj; rintro rfl; exact h4 _ hj
    · rw [upd_ne]; exact ho; rintro rfl; exact h5 _ ho

structure PAt (N : Nm) (H : MH) (p dx sl fr : Addr) (xs : List MVal) (j o : MVal) (ol r w : Int) (A : PS) : Prop where
  p : H p = some ((3, 0), .inst N.C dx)
  d : H dx = some ((3, 1), .ns (flds sl fr j o ol r w))
  s : H sl = some ((3, 2), .list xs)
  f : H fr = some ((3, 3), .list (A.free.map .int))
  len : xs.length = A.slots.length
  pg : ∀ i v s, xs[i]? = some v → A.slots[i]? = some s → PgR H (1, i) v s
  jr : JR H j o ol A.jr
inductive PInv (N : Nm) (H : MH) (p : Addr) (A : PS) : Prop
  | mk (dx sl fr : Addr) (xs : List MVal) (j o : MVal) (ol r w : Int) (h : PAt N H p dx sl fr xs j o ol r w A) : PInv N H p A

/-- few and short -/
structure Small (A : PS) : Prop where
  s : A.slots.length < 1000
  f : A.free.length < 1000
  p : ∀ l, some l ∈ A.slots → l.length < 1000
  j : ∀ es of m, A.jr = some (es, of, m) → es.length < 1000

variable {p dx sl fr : Addr} {xs : List MVal} {j o : MVal} {ol r w : Int} {A : PS}
/-- what is not the pages' own may change -/
theorem PAt.upd (P : PAt N H p dx sl fr xs j o ol r w A) {b : Addr} {t' : Tag} {o' : MObj} (hb : ∀ t o, H b = some (t, o) → t.1 = 0) : PAt N (upd H b t' o') p dx sl fr xs j o ol r w A := by
  have ne : ∀ a t o, H a = some (t, o) → t.1 ≠ 0 → a ≠ b := fun a t o h z e => by subst e; exact z (hb _ _ h)
  refine ⟨?_, ?_, ?_, ?_, P.len, fun i v s a b' => (P.pg i v s a b').upd ?_, P.jr.upd ?_ ?_ ?_⟩
  · rw [upd_ne _ _ _ (ne _ _ _ P.p (by decide))]; exact P.p
  · rw [upd_ne _ _ _ (ne _ _ _ P.d (by decide))]; exact P.d
  · rw [upd_ne _ _ _ (ne _ _ _ P.s (by decide))]; exact P.s
  · rw [upd_ne _ _ _ (ne _ _ _ P.f (by decide))]; exact P.f
  · intro o e; exact absurd (hb _ _ e) (by simp)
  · intro o e; exact absurd (hb _ _ e) (by decide)
  · intro o e; exact absurd (hb _ _ e) (by decide)
  · intro n o e; exact absurd (hb _ _ e) (by simp)
theorem PInv.upd (P : PInv N H p A) {b : Addr} {t' : Tag} {o' : MObj} (hb : ∀ t o, H b = some (t, o) → t.1 = 0) : PInv N (Mine.upd H b t' o') p A := by
  obtain ⟨dx, sl, fr, xs, j, o, ol, r, w, P⟩ := P; exact ⟨dx, sl, fr, xs, j, o, ol, r, w, P.upd hb⟩
theorem PInv.new (P : PInv N H p A) {b : Addr} {t' : Tag} {o' : MObj} (hb : H b = none) : PInv N (Mine.upd H b t' o') p A := P.upd fun t o e => by rw [hb] at e; cases e
theorem PInv.own (P : PInv N H p A) {b : Addr} {t t' : Tag} {o o' : MObj} (hb : H b = some (t, o)) (ht : t.1 = 0) : PInv N (Mine.upd H b t' o') p A := P.upd fun t o e => by rw [hb] at e; cases e; exact ht

theorem PAt.nes (P : PAt N H p dx sl fr xs j o ol r w A) : (p ≠ dx ∧ p ≠ sl ∧ p ≠ fr) ∧ (dx ≠ sl ∧ dx ≠ fr) ∧ sl ≠ fr :=
  ⟨⟨ne_tag P.p P.d (by decide), ne_tag P.p P.s (by decide), ne_tag P.p P.f (by decide)⟩, ⟨ne_tag P.d P.s (by decide), ne_tag P.d P.f (by decide)⟩, ne_tag P.s P.f (by decide)⟩

/-- a field is stored -/
theorem PAt.setD (P : PAt N H p dx sl fr xs j o ol r w A) {j' o' : MVal} {ol' r' w' : Int} {jr' : Option (List (Int × Option (List Int)) × List Int × Nat)} (hj : JR H j' o' ol' jr') :
    PAt N (Mine.upd H dx (3, 1) (.ns (flds sl fr j' o' ol' r' w'))) p dx sl fr xs j' o' ol' r' w' { A with jr := jr' } := by
  obtain ⟨⟨n1, n2, n3⟩, ⟨n4, n5⟩, n6⟩ := P.nes
  refine ⟨?_, upd_same _ _ _ _, ?_, ?_, P.len, fun i v s a b => (P.pg i v s a b).upd ?_, hj.upd ?_ ?_ ?_⟩
  · rw [upd_ne _ _ _ n1]; exact P.p
  · rw [upd_ne _ _ _ n4.symm]; exact P.s
  · rw [upd_ne _ _ _ n5.symm]; exact P.f
  all_goals simp [P.d]
theorem PAt.frD (P : PAt N H p dx sl fr xs j o ol r w A) {o' : MObj} : Fr H (Mine.upd H dx (3, 1) o') := (Fr.rfl' H).upd P.d (by decide)
end U9
end Mine
end
section
set_option autoImplicit false
set_option linter.unusedVariables false
set_option linter.unusedSimpArgs false
namespace Mine
open PySem
namespace U9
variable {c : Cfg} {N : Nm} {d : Nat} {H : MH} {Z : Addr → MH → Prop} {Q : MVal → MH → Prop} {p dx sl fr : Addr} {xs : List MVal} {j o : MVal} {ol r w : Int} {A : PS}

noncomputable def PS.note (A : PS) (n : Nat) : PS := match A.jr with
  | none => A
  | some (es, of, m) => if (es.map (·.1)).contains (n : Int) then A else { A with jr := some (es ++ [((n : Int), (A.slots[n]?).join)], of, m) }

theorem putD_new (es : List (Int × MVal)) (k : Int) (v : MVal) (h : (es.map (·.1)).contains k = false) : putD es k v = es ++ [(k, v)] := by
  unfold putD
  rw [if_neg]
  intro x
  rw [List.any_eq_true] at x
  obtain ⟨e, he, hk⟩ := x
  have : (es.map (·.1)).contains k = true := by
    rw [List.contains_iff_mem]
    exact List.mem_map.mpr ⟨e, he, by simpa using hk⟩
  rw [this] at h; cases h

/-- one more in the journal -/
theorem JR.put {es : List (Int × Option (List Int))} {of : List Int} {m : Nat} {ja oa : Addr} {ep ep' : Nat} {ms : List (Int × MVal)} (hj : H ja = some ((3, 4), .dict ep ms)) (ho : H oa = some ((3, 5), .list (of.map .int))) (hm : ms.map (·.1) = es.map (·.1))
    (hp : ∀ (i : Nat) (k : Int) (v : MVal) (s : Option (List Int)), ms[i]? = some (k, v) → es[i]? = some (k, s) → PgR H (2, k.toNat) v s) {n : Nat} {v : MVal} {s : Option (List Int)} {H' : MH} (hn : (es.map (·.1)).contains (n : Int) = false) (hz : ∀ k ∈ es.map (·.1), 0 ≤ k)
    (h1 : H' ja = some ((3, 4), .dict ep' (ms ++ [((n : Int), v)]))) (h2 : H' oa = H oa) (h3 : ∀ a k x, H a = some ((2, k), x) → k ≠ n → H' a = H a) (h4 : PgR H' (2, n) v s) :
    JR H' (.ref ja) (.ref oa) m (some (es ++ [((n : Int), s)], of, m)) := by
  have hl : ms.length = es.length := by have := congrArg List.length hm; simpa using this
  refine ⟨rfl, ja, oa, ep', _, rfl, h1, rfl, h2.trans ho, by simp [hm], fun i k v' s' a b => ?_⟩
  rcases Nat.lt_trichotomy i ms.length with h | h | h
  · rw [List.getElem?_append_left h] at a
    rw [List.getElem?_append_left (by omega)] at b
    have := hp i k v' s' a b
    have mem : k ∈ es.map (·.1) := List.mem_map.mpr ⟨_, List.mem_of_getElem? b, rfl⟩
    cases s' with
    | none => exact this
    | some l =>
      obtain ⟨q, e, hq⟩ := this
      refine ⟨q, e, (h3 q _ _ hq fun e => ?_).trans hq⟩
      have := hz k mem
      have kk : k = (n : Int) := by omega
      subst kk
      have : (es.map (·.1)).contains (n : Int) = true := by rw [List.contains_iff_mem]; exact mem
      rw [this] at hn; cases hn
  · subst h
    rw [List.getElem?_append_right (Nat.le_refl _)] at a
    rw [hl, List.getElem?_append_right (Nat.le_refl _)] at b
    simp at a b
    obtain ⟨rfl, rfl⟩ := a
    obtain ⟨-, rfl⟩ := b
    simpa using h4
  · rw [List.getElem?_append_right (Nat.le_of_lt (by assumption)), List.getElem?_eq_none (by simp; exact Nat.sub_pos_of_lt (by assumption))] at a; cases a

theorem note_ok (T : Tx c N) (P : PInv N H p A) (sm : Small A) (hz : ∀ es of m, A.jr = some (es, of, m) → ∀ k ∈ es.map (·.1), 0 ≤ k) (n : Nat) (hQ : ∀ H', PInv N H' p (A.note n) → Fr H H' → Q .none H') : CallOK c (d + 2) true N.Pages__note [.ref p, .int n] H Q Z := by
  obtain ⟨dx, sl, fr, xs, j, o, ol, r, w, P⟩ := P
  refine CallOK.post (T.b_Pages__note.2 (d + 1) true _ H _ _ rfl ?_)
  have jr := P.jr
  cases hA : A.jr with
  | none =>
    rw [hA] at jr
    have jr : j = .none := jr
    subst jr
    simp only [s_Pages__note, oV_, oT_, oM_, v_n, v_l, v_c, v_a, b_and, b_c, tv_, kat0, kc2_, kc1_, kg_, kif0, ks_n, w_0, w_1, s_i, kB_n, lg, List.cons_append, List.nil_append, cm_isnt, is_nn, tr_b, Option.map_some, Bool.not_true, List.map_cons, List.map_nil, List.replicate, Nat.reduceSub, a_fld P.p P.d (gJ ..) T.r_journal rfl]
    refine ⟨H, Same.rfl' H, hQ H ?_ (Fr.rfl' H)⟩
    unfold PS.note; rw [hA]; exact ⟨dx, sl, fr, xs, _, o, ol, r, w, P⟩
  | some y =>
    obtain ⟨es, of, m⟩ := y
    rw [hA] at jr
    obtain ⟨rfl, ja, oa, ep, ms, rfl, hj, rfl, ho, hm, hp⟩ := jr
    have hl : ms.length = es.length := by have := congrArg List.length hm; simpa using this
    have hes := sm.j _ _ _ hA
    simp only [s_Pages__note, oV_, oT_, oM_, v_n, v_l, v_c, v_a, b_and, b_c, tv_, kat1, kc2_, kc1_, kg_, w_1, s_i, lg, List.cons_append, List.nil_append, cm_isnt, cm_notin, is_rn, tr_b, Option.map_some, Bool.not_false, List.map_cons, List.map_nil, List.replicate, Nat.reduceSub, a_fld P.p P.d (gJ ..) T.r_journal rfl, in_dict hj]
    cases hc : (es.map (·.1)).contains (n : Int) with
    | true =>
      rw [hm, hc]
      simp only [kif0, ks_n, w_0, kB_n, Bool.not_true]
      refine ⟨H, Same.rfl' H, hQ H ?_ (Fr.rfl' H)⟩
      unfold PS.note; simp only [hA, hc, if_true]
      exact ⟨dx, sl, fr, xs, _, _, _, r, w, P⟩
    | false =>
      rw [hm, hc]
      simp only [oV_, oT_, oM_, v_n, v_l, v_g, v_c, v_a, v_f, b_c, l_0, l_1, tv_, kc2_, kc1_, kg_, kw_, kf_, xl2_, xl1_, kas_, kif1, ks_n, w_1, s_a, s_i, lg, ls, cw_bi, cm_lt, tr_b, Bool.not_false, a_fld P.p P.d (gS ..) T.r_slots rfl, T.g_len, bi_len_list P.s]
      have fin : ∀ (v : MVal) (H₁ : MH), (H₁ = H ∧ v = .none ∧ (A.slots[n]?).join = none) ∨ (∃ r l, H r = none ∧ v = .ref r ∧ H₁ = upd H r t0 (.list (l.map .int)) ∧ (A.slots[n]?).join = some l) →
          ∀ ep', ∃ H'', Same (upd H₁ ja (3, 4) (.dict ep' (ms ++ [((n : Int), v)]))) H'' ∧ Q .none H'' := by
        intro v H₁ h ep'
        have nj := ne_tag hj ho (by decide)
        rcases h with ⟨rfl, rfl, hs⟩ | ⟨r', l, hr, rfl, rfl, hs⟩
        · refine ⟨_, Same.rfl' _, hQ _ ?_ ((Fr.rfl' _).upd hj (by decide))⟩
          unfold PS.note; simp only [hA, hc, hs]
          refine ⟨dx, sl, fr, xs, .ref ja, .ref oa, m, r, w, ⟨?_, ?_, ?_, ?_, P.len, fun i v s a b => (P.pg i v s a b).upd (by simp [hj]), ?_⟩⟩
          · rw [upd_ne _ _ _ (ne_tag P.p hj (by decide))]; exact P.p
          · rw [upd_ne _ _ _ (ne_tag P.d hj (by decide))]; exact P.d
          · rw [upd_ne _ _ _ (ne_tag P.s hj (by decide))]; exact P.s
          · rw [upd_ne _ _ _ (ne_tag P.f hj (by decide))]; exact P.f
          · refine JR.put hj ho hm hp hc (hz _ _ _ hA) (upd_same _ _ _ _) (upd_ne _ _ _ nj.symm) (fun a k x ha _ => upd_ne _ _ _ (ne_tag ha hj (by simp))) rfl
        · have nr : ja ≠ r' := ne_new hj hr
          refine ⟨upd (upd (upd H r' t0 (.list (l.map .int))) ja (3, 4) (.dict ep' (ms ++ [((n : Int), .ref r')]))) r' (2, n) (.list (l.map .int)), Same.retag (t := t0) (by rw [upd_ne _ _ _ nr.symm, upd_same]), hQ _ ?_ ?_⟩
          · unfold PS.note; simp only [hA, hc, hs]
            have old : ∀ a x, H a = some x → a ≠ ja → upd (upd (upd H r' t0 (.list (l.map .int))) ja (3, 4) (.dict ep' (ms ++ [((n : Int), .ref r')]))) r' (2, n) (.list (l.map .int)) a = some x := fun a x h na => by
              have := ne_new h hr
              rw [upd_ne _ _ _ this, upd_ne _ _ _ na, upd_ne _ _ _ this]; exact h
            refine ⟨dx, sl, fr, xs, .ref ja, .ref oa, m, r, w, ⟨old _ _ P.p (ne_tag P.p hj (by decide)), old _ _ P.d (ne_tag P.d hj (by decide)), old _ _ P.s (ne_tag P.s hj (by decide)), old _ _ P.f (ne_tag P.f hj (by decide)), P.len, fun i v s a b => ?_, ?_⟩⟩
            · have := P.pg i v s a b
              cases s with
              | none => exact this
              | some l' => obtain ⟨q, e, hq⟩ := this; exact ⟨q, e, old _ _ hq (ne_tag hq hj (by simp))⟩
            · refine JR.put hj ho hm hp hc (hz _ _ _ hA) (ep' := ep') ?_ ((old _ _ ho nj.symm).trans ho.symm) (fun a k x ha _ => (old _ _ ha (ne_tag ha hj (by simp))).trans ha.symm) ⟨r', rfl, upd_same _ _ _ _⟩
              rw [upd_ne _ _ _ nr, upd_same]
          · intro a t o ha ht
            have h1 : a ≠ r' := ne_new ha hr
            have h2 : a ≠ ja := ne_tag ha hj (by rintro rfl; exact absurd ht (by decide))
            rw [upd_ne _ _ _ h1, upd_ne _ _ _ h2, upd_ne _ _ _ h1]; exact ha
      by_cases hlt : n < xs.length
      · have e : decide ((n : Int) < (xs.length : Int)) = true := by simp; exact hlt
        obtain ⟨v, hv⟩ : ∃ v, xs[n]? = some v := ⟨xs[n], by simp [hlt]⟩
        obtain ⟨s, hs⟩ : ∃ s, A.slots[n]? = some s := ⟨A.slots[n]'(by rw [← P.len]; exact hlt), by simp [← P.len, hlt]⟩
        have pg := P.pg n v s hv hs
        simp only [e, oV_, v_l, v_g, v_a, v_u, v_f, l_0, l_1, kg_, ks2_, ks1_, kw_, kf_, xl2_, xl1_, kif1, w_1, s_a, lg, cw_ref, sub_list P.s rfl hv, T.g_copied, a_fld P.p P.d (gS ..) T.r_slots rfl]
        refine ⟨T.b_copied.1, ?_⟩
        have done : ∀ (v' : MVal) (H₁ : MH), ((H₁ = H ∧ v' = .none ∧ (A.slots[n]?).join = none) ∨ (∃ r l, H r = none ∧ v' = .ref r ∧ H₁ = upd H r t0 (.list (l.map .int)) ∧ (A.slots[n]?).join = some l)) →
            AttrW c (.ref p) "_journal" H₁ fun v H₂ => SetItemW v (.int n) v' H₂ fun H₄ => ∃ H'', Same H₄ H'' ∧ Q .none H'' := by
          intro v' H₁ h
          have keep : ∀ a x, H a = some x → H₁ a = some x := by
            intro a x ha
            rcases h with ⟨rfl, -⟩ | ⟨r', l, hr, -, rfl, -⟩
            · exact ha
            · rw [upd_ne _ _ _ (ne_new ha hr)]; exact ha
          simp only [a_fld (keep _ _ P.p) (keep _ _ P.d) (gJ ..) T.r_journal rfl, si_dict (keep _ _ hj)]
          refine ⟨by simp only [BIG]; exact r2 (by assumption) (by assumption) (by decide), fun ep' => ?_⟩
          rw [putD_new _ _ _ (by rw [hm]; exact hc)]
          exact fin v' H₁ h ep'
        cases s with
        | none =>
          have pg : v = .none := pg
          subst pg
          exact copied_none T (done _ _ (.inl ⟨rfl, rfl, by rw [hs]; rfl⟩))
        | some l =>
          obtain ⟨a, rfl, ha⟩ := pg
          exact copied_ok T ha (sm.p l (List.mem_of_getElem? hs)) fun r' hr => done _ _ (.inr ⟨r', l, hr, rfl, rfl, by rw [hs]; rfl⟩)
      · have e : decide ((n : Int) < (xs.length : Int)) = false := by simp; exact Nat.not_lt.mp (by assumption)
        have hs : A.slots[n]? = none := List.getElem?_eq_none (by rw [← P.len]; exact Nat.not_lt.mp (by assumption))
        simp only [e, oV_, v_l, v_a, kg_, kh_, kic_, kib_, kia_, kif0, ks_n, w_0, w_1, s_as, kB_n, lg, a_fld P.p P.d (gJ ..) T.r_journal rfl, si_dict hj]
        refine ⟨by simp only [BIG]; exact r2 (by assumption) (by assumption) (by decide), fun ep' => ?_⟩
        rw [putD_new _ _ _ (by rw [hm]; exact hc)]
        exact fin .none H (.inl ⟨rfl, rfl, by rw [hs]; rfl⟩) ep'
end U9
end Mine
end
section
set_option autoImplicit false
set_option linter.unusedVariables false
set_option linter.unusedSimpArgs false
namespace Mine
open PySem
/-- what is known of the heap stays known -/
noncomputable def Keep (H H' : MH) : Prop := ∀ a x, H a = some x → H' a = some x
theorem Keep.rfl' (H : MH) : Keep H H := fun _ _ h => h
theorem Keep.trans {H₁ H₂ H₃ : MH} (x : Keep H₁ H₂) (y : Keep H₂ H₃) : Keep H₁ H₃ := fun a z h => y a z (x a z h)
theorem Keep.new {H H' : MH} (k : Keep H H') {r : Addr} {t : Tag} {o : MObj} (h : H r = none) : Keep H (upd H' r t o) := fun a x e => by rw [upd_ne _ _ _ (ne_new e h)]; exact k a x e
theorem Keep.fr {H H' : MH} (k : Keep H H') : Fr H H' := fun a t o h _ => k a _ h
namespace U9
variable {c : Cfg} {N : Nm} {d : Nat} {H H' : MH} {Z : Addr → MH → Prop} {Q : MVal → MH → Prop} {p dx sl fr : Addr} {xs : List MVal} {j o : MVal} {ol r w : Int} {A : PS}

theorem PgR.keep (k : Keep H H') {t : Tag} {v : MVal} {s : Option (List Int)} (x : PgR H t v s) : PgR H' t v s := by
  cases s with
  | none => exact x
  | some l => obtain ⟨a, e, h⟩ := x; exact ⟨a, e, k _ _ h⟩
theorem JR.keep (k : Keep H H') {jr : Option (List (Int × Option (List Int)) × List Int × Nat)} (x : JR H j o ol jr) : JR H' j o ol jr := by
  cases jr with
  | none => exact x
  | some y =>
    obtain ⟨es, of, m⟩ := y
    obtain ⟨e, ja, oa, ep, ms, rfl, hj, rfl, ho, hm, hp⟩ := x
    exact ⟨e, ja, oa, ep, ms, rfl, k _ _ hj, rfl, k _ _ ho, hm, fun i k' v s a b' => (hp i k' v s a b').keep k⟩
theorem PAt.keep (k : Keep H H') (P : PAt N H p dx sl fr xs j o ol r w A) : PAt N H' p dx sl fr xs j o ol r w A :=
  ⟨k _ _ P.p, k _ _ P.d, k _ _ P.s, k _ _ P.f, P.len, fun i v s a b => (P.pg i v s a b).keep k, P.jr.keep k⟩
theorem PInv.keep (k : Keep H H') (P : PInv N H p A) : PInv N H' p A := by
  obtain ⟨dx, sl, fr, xs, j, o, ol, r, w, P⟩ := P; exact ⟨dx, sl, fr, xs, j, o, ol, r, w, P.keep k⟩

theorem kx_ok {σ : Lcs} {K : KK1} {C a : Addr} {t : Tag} {dx : Option Addr} (he : c.exc C = true) (h : H a = some (t, .exc C dx)) (hk : K (.exc a) σ H) : kx c σ K (.ref a) H := by
  show on (at? oX H a) _; rw [on_eq (at_X h)]; exact ⟨he, hk⟩
/-- BadPage, made -/
theorem bad_ok (T : Tx c N) {n : Int} (hn : n.natAbs < 10 ^ 18) (hQ : ∀ e dxe H', H e = none → H' e = some (t0, .exc N.BP (some dxe)) → H' dxe = some (t0, .ns [("number", .int n)]) → Keep H H' → Q (.ref e) H') : CallOK c (d + 2) true N.BP [.int n] H Q Z := by
  refine T.mk_BP (d + 1) true _ H Q Z fun e he => CallOK.base fun hb => T.b_BadPage_init.2 d true _ _ _ _ rfl ?_
  have hS : upd H e t0 (.exc N.BP none) N.SE = none := hb _ T.o_SE
  have e1 : (decide ((n.natAbs : Int) < (10 : Int) ^ (18 : Int).toNat)) = true := by
    simp; exact Int.ofNat_le.mpr (by assumption)
  simp only [s_BadPage_init, oV_, oT_, oM_, v_i, v_s, v_l, v_g, v_o, v_c, v_f, v_k, b_and, b_c, l_0, l_1, tv_, k2_, k1_, kat1, kc2_, kc1_, kw_, kf_, km3_, km2_, km_, xl2_, xl1_, ke_, kas_, kab_, kaa_, kif1, ks_n, w_0, w_1, s_e, s_a, s_aa, s_i, lg, ls, cw_bi, cw_ty, List.cons_append, List.nil_append, cm_is, cm_lt, is_tt, tr_b, bw_pow, bw_str, ty_type_int, bi_abs, true_and, beq_self_eq_true, List.map_cons, List.map_nil, List.replicate, Nat.reduceSub, T.g_type, T.g_int, T.g_abs, T.g_str, T.g_StoreError, e1, ty_str, m_cls hS T.cm, bi_vinit (upd_same H e t0 _), T.ve]
  refine ⟨by decide, by decide, hn, fun x hx hl => ⟨?_, ?_⟩⟩
  · have : (Str.ofString "no page" ++ Str.ofString " ").length ≤ 100 := by decide
    omega
  · show on (upd H e t0 (.exc N.BP none) e) _
    rw [on_eq (upd_same H e t0 (.exc N.BP none))]
    refine ⟨rfl, T.we, fun dxe h1 h2 => ?_⟩
    have h3 : H dxe = none := by rw [upd_ne _ _ _ h2] at h1; exact h1
    simp only [kh_, ks_n, w_0, kB_n, true_and]
    refine hQ e dxe _ he (upd_same _ _ _ _) (by rw [upd_ne _ _ _ h2, upd_same]) ?_
    intro a x ha
    rw [upd_ne _ _ _ (ne_new ha he), upd_ne _ _ _ (ne_new ha h3), upd_ne _ _ _ (ne_new ha he)]; exact ha
end U9
end Mine
end
section
set_option autoImplicit false
set_option genSizeOf false
set_option genInjectivity false
set_option linter.unusedVariables false
set_option linter.unusedSimpArgs false
namespace Mine
open PySem
namespace U9
variable {c : Cfg} {N : Nm} {d : Nat} {H H' : MH} {Z : Addr → MH → Prop} {Q : MVal → MH → Prop} {p dx sl fr : Addr} {xs : List MVal} {j o : MVal} {ol r w : Int} {A : PS}

/-- a page that is there -/
theorem check_ok (T : Tx c N) (P : PInv N H p A) {n : Nat} {l : List Int} (h1 : 1 ≤ n) (hn : A.slots[n]? = some (some l)) (hQ : Q .none H) : CallOK c (d + 1) true N.Pages__check [.ref p, .int n] H Q Z := by
  obtain ⟨dx, sl, fr, xs, j, o, ol, r, w, P⟩ := P
  refine T.b_Pages__check.2 d true _ H _ _ rfl ?_
  have hl : n < xs.length := by
    rw [P.len]
    rcases Nat.lt_or_ge n A.slots.length with h | h
    · exact h
    · rw [List.getElem?_eq_none h] at hn; cases hn
  obtain ⟨v, hv⟩ : ∃ v, xs[n]? = some v := ⟨xs[n], by simp [hl]⟩
  obtain ⟨a, rfl, ha⟩ := P.pg n v _ hv hn
  have e1 : decide ((n : Int) < 1) = false := by simp; exact Int.ofNat_le.mpr (by assumption)
  have e2 : decide ((n : Int) ≥ (xs.length : Int)) = false := by simp; omega
  simp only [s_Pages__check, oV_, oT_, oM_, v_n, v_i, v_l, v_g, v_c, v_a, v_u, v_f, b_or, b_c, l_0, l_1, tv_, kot0, kc2_, kc1_, kg_, ks2_, ks1_, kw_, kf_, xl2_, xl1_, kif0, ks_n, w_0, w_1, s_i, kB_n, lg, cw_bi, cw_ty, List.append_nil, cm_is, cm_isnt, cm_lt, cm_ge, is_rn, is_tt, tr_b, ty_type_int, Option.map_some, Bool.not_true, beq_self_eq_true, List.map_cons, List.map_nil, List.replicate, Nat.reduceSub, T.g_type, T.g_int, T.g_len, a_fld P.p P.d (gS ..) T.r_slots rfl, bi_len_list P.s, e1, e2, sub_list P.s rfl hv]
  exact hQ

/-- numbers of no page -/
noncomputable def Bad (A : PS) (n : Int) : Prop := n.natAbs < 10 ^ 18 ∧ (n < 1 ∨ n ≥ A.slots.length ∨ A.slots[n.toNat]? = some none)
theorem check_bad (T : Tx c N) (P : PInv N H p A) {n : Int} (hb : Bad A n) (hZ : ∀ e dxe H', H' e = some (t0, .exc N.BP (some dxe)) → H' dxe = some (t0, .ns [("number", .int n)]) → Keep H H' → Z e H') : CallOK c (d + 3) true N.Pages__check [.ref p, .int n] H Q Z := by
  obtain ⟨dx, sl, fr, xs, j, o, ol, r, w, P⟩ := P
  refine T.b_Pages__check.2 (d + 2) true _ H _ _ rfl ?_
  have rs : ∀ (σ : Lcs) (K : KK1), (∀ e H', Z e H' → K (.exc e) σ H') → CallOK c (d + 2) true N.BP [.int n] H (kx c σ K) (ze σ K) := fun σ K hK =>
    bad_ok T hb.1 fun e dxe H' h0 h1 h2 k => kx_ok T.e_BP h1 (hK _ _ (hZ e dxe H' h1 h2 k))
  simp only [s_Pages__check, oV_, oT_, oM_, v_i, v_l, v_g, v_c, v_f, b_or, b_c, l_0, l_1, tv_, kot0, kc2_, kc1_, kw_, kf_, xl2_, xl1_, w_1, s_i, lg, cw_ty, List.append_nil, cm_isnt, cm_lt, is_tt, tr_b, ty_type_int, Option.map_some, Bool.not_true, beq_self_eq_true, List.map_cons, List.map_nil, List.replicate, Nat.reduceSub, T.g_type, T.g_int]
  by_cases h1 : n < 1
  · simp only [h1, decide_true, oV_, v_l, v_g, v_f, l_0, l_1, kot1, kw_, kf_, xl2_, xl1_, kif1, w_1, s_x, lg, cw_ref, true_and, T.g_BadPage]; exact ⟨T.c_BP, rs _ _ fun _ _ h => h⟩
  · by_cases h2 : n ≥ (xs.length : Int)
    · simp only [h1, h2, decide_true, decide_false, oV_, oT_, oM_, v_l, v_g, v_c, v_a, v_f, b_c, l_0, l_1, tv_, kot0, kc2_, kc1_, kg_, kw_, kf_, xl2_, xl1_, kif1, w_1, s_x, lg, cw_ref, cw_bi, cm_ge, tr_b, true_and, T.g_len, T.g_BadPage, a_fld P.p P.d (gS ..) T.r_slots rfl, bi_len_list P.s]; exact ⟨T.c_BP, rs _ _ fun _ _ h => h⟩
    · have hn := (hb.2.resolve_left h1).resolve_left (by rw [← P.len]; exact h2)
      have hv : xs[n.toNat]? = some .none := by
        have hl : n.toNat < xs.length := by omega
        have := P.pg n.toNat xs[n.toNat] none (by simp [hl]) hn
        have e : xs[n.toNat] = .none := this
        simp [hl, e]
      simp only [h1, h2, decide_false, oV_, oT_, oM_, v_n, v_l, v_g, v_c, v_a, v_u, v_f, b_c, l_0, l_1, tv_, kot0, kc2_, kc1_, kg_, ks2_, ks1_, kw_, kf_, xl2_, xl1_, kif1, kif0, ks_n, w_0, w_1, s_i, s_x, lg, cw_ref, cw_bi, cm_is, cm_ge, is_nn, tr_b, true_and, T.g_len, T.g_BadPage, a_fld P.p P.d (gS ..) T.r_slots rfl, bi_len_list P.s, sub_list (k := n) (i := n.toNat) P.s (by omega) hv]
      exact ⟨T.c_BP, rs _ _ fun _ _ h => h⟩

theorem at_pg {n : Nat} {l : List Int} (P : PAt N H p dx sl fr xs j o ol r w A) (hn : A.slots[n]? = some (some l)) : ∃ a, xs[n]? = some (.ref a) ∧ H a = some ((1, n), .list (l.map .int)) := by
  have hl : n < xs.length := by
    rw [P.len]
    rcases Nat.lt_or_ge n A.slots.length with h | h
    · exact h
    · rw [List.getElem?_eq_none h] at hn; cases hn
  obtain ⟨v, hv⟩ : ∃ v, xs[n]? = some v := ⟨xs[n], by simp [hl]⟩
  obtain ⟨a, rfl, ha⟩ := P.pg n v _ hv hn
  exact ⟨a, hv, ha⟩

/-- the page of a number lies there -/
inductive PgAt (N : Nm) (H : MH) (p : Addr) (A : PS) (n : Nat) (a : Addr) : Prop
  | mk (dx sl fr : Addr) (xs : List MVal) (j o : MVal) (ol r w : Int) (h : PAt N H p dx sl fr xs j o ol r w A) (e : xs[n]? = some (.ref a)) : PgAt N H p A n a

/-- all but the fields of the pages stays -/
noncomputable def FrR (H H' : MH) : Prop := ∀ b t x, H b = some (t, x) → t ≠ (3, 1) → H' b = some (t, x)
theorem read_ok (T : Tx c N) (P : PInv N H p A) {n : Nat} {l : List Int} (h1 : 1 ≤ n) (hn : A.slots[n]? = some (some l)) (hQ : ∀ a H', PInv N H' p A → FrR H H' → H' a = some ((1, n), .list (l.map .int)) → Q (.ref a) H') : CallOK c (d + 2) true N.Pages_read [.ref p, .int n] H Q Z := by
  have P0 := P
  obtain ⟨dx, sl, fr, xs, j, o, ol, r, w, P⟩ := P
  refine T.b_Pages_read.2 (d + 1) true _ H _ _ rfl ?_
  simp only [s_Pages_read, oV_, v_l, v_k, l_0, l_1, km3_, km2_, km_, xl2_, xl1_, w_1, s_e, lg, cw_ref, List.cons_append, List.nil_append, List.append_nil, List.map_cons, List.map_nil, List.replicate, Nat.reduceSub, m_inst P.p P.d (n := "_check") rfl T.m_check]
  refine ⟨T.b_Pages__check.1, check_ok T P0 h1 hn ?_⟩
  obtain ⟨a, hv, ha⟩ := at_pg P hn
  have P2 := P.setD (j' := j) (o' := o) (ol' := ol) (r' := r + 1) (w' := w) P.jr
  simp only [oV_, v_i, v_l, v_o, v_a, v_u, k2_, k1_, kg_, ks2_, ks1_, ke_, kh_, kr_, kab_, kaa_, ks_n, ks_r, w_1, s_aa, s_r, kB_r, lg, bw_add, a_fld P.p P.d (gR ..) T.r_reads rfl, st_fld P.p P.d T.w_reads (fl_len ..), pR, a_fld P2.p P2.d (gS ..) T.r_slots rfl, sub_list P2.s rfl hv]
  refine hQ a _ ⟨_, _, _, _, _, _, _, _, _, P2⟩ (fun b t x hb ne => by rw [upd_ne _ _ _ (ne_tag hb P.d ne)]; exact hb) ?_
  rw [upd_ne _ _ _ (ne_tag ha P.d (by simp))]; exact ha

theorem read_bad (T : Tx c N) (P : PInv N H p A) {n : Int} (hb : Bad A n) (hZ : ∀ e dxe H', H' e = some (t0, .exc N.BP (some dxe)) → H' dxe = some (t0, .ns [("number", .int n)]) → Keep H H' → Z e H') : CallOK c (d + 4) true N.Pages_read [.ref p, .int n] H Q Z := by
  have P0 := P
  obtain ⟨dx, sl, fr, xs, j, o, ol, r, w, P⟩ := P
  refine T.b_Pages_read.2 (d + 3) true _ H _ _ rfl ?_
  simp only [s_Pages_read, oV_, v_l, v_k, l_0, l_1, km3_, km2_, km_, xl2_, xl1_, w_1, s_e, lg, cw_ref, List.cons_append, List.nil_append, List.append_nil, List.map_cons, List.map_nil, List.replicate, Nat.reduceSub, m_inst P.p P.d (n := "_check") rfl T.m_check]
  exact ⟨T.b_Pages__check.1, check_bad T P0 hb fun e dxe H' a b k => hZ e dxe H' a b k⟩
end U9
end Mine
end
section
set_option autoImplicit false
set_option linter.unusedVariables false
set_option linter.unusedSimpArgs false
namespace Mine
open PySem
theorem Same.upd {H H' : MH} (x : Same H H') (b : Addr) (t t' : Tag) (o : MObj) : Same (upd H b t o) (upd H' b t' o) := fun a => by
  unfold Mine.upd; split
  · rfl
  · exact x a
noncomputable def FrX (pg : Addr) (H H' : MH) : Prop := ∀ a t o, a ≠ pg → H a = some (t, o) → t.1 = 0 → H' a = some (t, o)
theorem Fr.x {H H' : MH} (f : Fr H H') (pg : Addr) : FrX pg H H' := fun a t o _ => f a t o
theorem FrX.trans {pg : Addr} {H₁ H₂ H₃ : MH} (x : FrX pg H₁ H₂) (y : FrX pg H₂ H₃) : FrX pg H₁ H₃ := fun a t o n h z => y a t o n (x a t o n h z) z
theorem FrX.at {pg : Addr} {H H' : MH} (x : FrX pg H H') {t : Tag} {o : MObj} : FrX pg H (upd H' pg t o) := fun a t o n h z => by rw [upd_ne _ _ _ n]; exact x a t o n h z
theorem Fr.upd' {H H' : MH} (x : Fr H H') {b : Addr} {t t' : Tag} {o o' : MObj} (h : H' b = some (t, o)) (n : t.1 ≠ 0) : Fr H (Mine.upd H' b t' o') := x.trans ((Fr.rfl' H').upd h n)
namespace U9
variable {c : Cfg} {N : Nm} {d : Nat} {H H' : MH} {Z : Addr → MH → Prop} {Q : MVal → MH → Prop} {p dx sl fr : Addr} {xs : List MVal} {j o : MVal} {ol r w : Int} {A : PS}

theorem note_slots (A : PS) (n : Nat) : (A.note n).slots = A.slots := by
  unfold PS.note; split
  · rfl
  · split <;> rfl
theorem note_free (A : PS) (n : Nat) : (A.note n).free = A.free := by
  unfold PS.note; split
  · rfl
  · split <;> rfl

theorem PAt.setS (P : PAt N H p dx sl fr xs j o ol r w A) {n : Nat} (hn : n < xs.length) {v : MVal} {s : Option (List Int)} (hv : PgR H (1, n) v s) :
    PAt N (Mine.upd H sl (3, 2) (.list (xs.set n v))) p dx sl fr (xs.set n v) j o ol r w { A with slots := A.slots.set n s } := by
  obtain ⟨⟨n1, n2, n3⟩, ⟨n4, n5⟩, n6⟩ := P.nes
  refine ⟨?_, ?_, upd_same _ _ _ _, ?_, by simp [P.len], fun i u s' a b => ?_, P.jr.upd (by simp [P.s]) (by simp [P.s]) (by simp [P.s])⟩
  · rw [upd_ne _ _ _ n2]; exact P.p
  · rw [upd_ne _ _ _ n4]; exact P.d
  · rw [upd_ne _ _ _ n6.symm]; exact P.f
  · rw [List.getElem?_set] at a b
    by_cases e : n = i
    · subst e
      rw [if_pos rfl, if_pos hn] at a
      rw [if_pos rfl, if_pos (by rw [← P.len]; exact hn)] at b
      cases a; cases b
      exact hv.upd (by simp [P.s])
    · rw [if_neg e] at a b
      exact (P.pg i u s' a b).upd (by simp [P.s])
theorem PAt.pushS (P : PAt N H p dx sl fr xs j o ol r w A) {v : MVal} {s : Option (List Int)} (hv : PgR H (1, xs.length) v s) :
    PAt N (Mine.upd H sl (3, 2) (.list (xs ++ [v]))) p dx sl fr (xs ++ [v]) j o ol r w { A with slots := A.slots ++ [s] } := by
  obtain ⟨⟨n1, n2, n3⟩, ⟨n4, n5⟩, n6⟩ := P.nes
  refine ⟨?_, ?_, upd_same _ _ _ _, ?_, by simp [P.len], fun i u s' a b => ?_, P.jr.upd (by simp [P.s]) (by simp [P.s]) (by simp [P.s])⟩
  · rw [upd_ne _ _ _ n2]; exact P.p
  · rw [upd_ne _ _ _ n4]; exact P.d
  · rw [upd_ne _ _ _ n6.symm]; exact P.f
  · rcases Nat.lt_trichotomy i xs.length with h | h | h
    · rw [List.getElem?_append_left h] at a
      rw [List.getElem?_append_left (by rw [← P.len]; exact h)] at b
      exact (P.pg i u s' a b).upd (by simp [P.s])
    · subst h
      rw [List.getElem?_append_right (Nat.le_refl _)] at a
      simp only [P.len, List.getElem?_append_right (Nat.le_refl _)] at b
      simp at a b
      subst a; subst b
      exact hv.upd (by simp [P.s])
    · rw [List.getElem?_append_right (Nat.le_of_lt (by assumption)), List.getElem?_eq_none (by simp; exact Nat.sub_pos_of_lt (by assumption))] at a; cases a
theorem PAt.setF (P : PAt N H p dx sl fr xs j o ol r w A) {fs : List Int} :
    PAt N (Mine.upd H fr (3, 3) (.list (fs.map .int))) p dx sl fr xs j o ol r w { A with free := fs } := by
  obtain ⟨⟨n1, n2, n3⟩, ⟨n4, n5⟩, n6⟩ := P.nes
  refine ⟨?_, ?_, ?_, upd_same _ _ _ _, P.len, fun i u s' a b => (P.pg i u s' a b).upd (by simp [P.f]), P.jr.upd (by simp [P.f]) (by simp [P.f]) (by simp [P.f])⟩
  · rw [upd_ne _ _ _ n3]; exact P.p
  · rw [upd_ne _ _ _ n5]; exact P.d
  · rw [upd_ne _ _ _ n6]; exact P.s

theorem lt_of_some {α : Type} {l : List α} {n : Nat} {x : α} (h : l[n]? = some x) : n < l.length := by
  rcases Nat.lt_or_ge n l.length with h' | h'
  · exact h'
  · rw [List.getElem?_eq_none h'] at h; cases h

/-- journal keys are no less than nought -/
noncomputable def Nn (A : PS) : Prop := ∀ es of m, A.jr = some (es, of, m) → ∀ k ∈ es.map (·.1), 0 ≤ k

theorem write_ok (T : Tx c N) (P : PInv N H p A) (sm : Small A) (hz : Nn A) {n : Nat} {l l0 : List Int} {pg : Addr} (hg : H pg = some (t0, .list (l.map .int))) (h1 : 1 ≤ n) (hn : A.slots[n]? = some (some l0))
    (hQ : ∀ H', PInv N H' p { A.note n with slots := A.slots.set n (some l) } → FrX pg H H' → Q .none H') : CallOK c (d + 3) true N.Pages_write [.ref p, .int n, .ref pg] H Q Z := by
  have P0 := P
  obtain ⟨dx, sl, fr, xs, j, o, ol, r, w, P⟩ := P
  refine CallOK.post (T.b_Pages_write.2 (d + 2) true _ H _ _ rfl ?_)
  simp only [s_Pages_write, oV_, v_l, v_k, l_0, l_1, km3_, km2_, km_, xl2_, xl1_, w_1, s_e, lg, cw_ref, List.cons_append, List.nil_append, List.append_nil, List.map_cons, List.map_nil, List.replicate, Nat.reduceSub, m_inst P.p P.d (n := "_check") rfl T.m_check]
  refine ⟨T.b_Pages__check.1, check_ok T P0 h1 hn ?_⟩
  simp only [oV_, v_l, v_k, l_0, l_1, km3_, km2_, km_, xl2_, xl1_, ke_, ks_n, w_1, s_e, lg, cw_ref, List.cons_append, List.nil_append, m_inst P.p P.d (n := "_note") rfl T.m_note]
  refine ⟨T.b_Pages__note.1, note_ok T P0 sm hz n fun H₁ P₁ f₁ => ?_⟩
  obtain ⟨dx, sl, fr, xs, j, o, ol, r, w, P⟩ := P₁
  have hg' := f₁ _ _ _ hg rfl
  have hl : n < xs.length := by rw [P.len, note_slots]; exact lt_of_some hn
  have R := P.upd (b := pg) (t' := (1, n)) (o' := .list (l.map .int)) (fun t o e => by rw [hg'] at e; cases e; rfl)
  have R2 := (R.setS hl (v := .ref pg) (s := some l) ⟨pg, rfl, upd_same _ _ _ _⟩)
  have R3 := R2.setD (r' := r) (w' := w + 1) R2.jr
  have ns : sl ≠ pg := ne_tag P.s hg' (by decide)
  have nd : dx ≠ pg := ne_tag P.d hg' (by decide)
  have np : p ≠ pg := ne_tag P.p hg' (by decide)
  obtain ⟨⟨n1, n2, n3⟩, ⟨n4, n5⟩, n6⟩ := P.nes
  simp only [oV_, v_i, v_l, v_o, v_a, k2_, k1_, kg_, ke_, kh_, kab_, kaa_, kic_, kib_, kia_, ks_n, w_0, w_1, s_aa, s_as, kB_n, lg, bw_add, a_fld P.p P.d (gS ..) T.r_slots rfl, si_list P.s rfl hl,
    a_fld ((upd_ne _ _ _ n2).trans P.p) ((upd_ne _ _ _ n4).trans P.d) (gW ..) T.r_writes rfl, st_fld ((upd_ne _ _ _ n2).trans P.p) ((upd_ne _ _ _ n4).trans P.d) T.w_writes (fl_len ..), pW]
  rw [note_slots] at R3
  refine ⟨_, ?_, hQ _ ⟨_, _, _, _, _, _, _, _, _, R3⟩ ?_⟩
  · exact ((Same.retag hg').upd sl _ _ _).upd dx _ _ _
  · intro a t o na ha ht
    have h' := f₁ _ _ _ ha ht
    rw [upd_ne _ _ _ (ne_tag h' P.d (by rintro rfl; exact absurd ht (by decide))), upd_ne _ _ _ (ne_tag h' P.s (by rintro rfl; exact absurd ht (by decide))), upd_ne _ _ _ na]; exact h'

/-- a page is asked for, to be changed -/
theorem change_ok (T : Tx c N) (P : PInv N H p A) (sm : Small A) (hz : Nn A) {n : Nat} {l : List Int} (h1 : 1 ≤ n) (hn : A.slots[n]? = some (some l))
    (hQ : ∀ a H', PgAt N H' p (A.note n) n a → Fr H H' → H' a = some ((1, n), .list (l.map .int)) → Q (.ref a) H') : CallOK c (d + 3) true N.Pages_change [.ref p, .int n] H Q Z := by
  have P0 := P
  obtain ⟨dx, sl, fr, xs, j, o, ol, r, w, P⟩ := P
  refine T.b_Pages_change.2 (d + 2) true _ H _ _ rfl ?_
  simp only [s_Pages_change, oV_, v_l, v_k, l_0, l_1, km3_, km2_, km_, xl2_, xl1_, w_1, s_e, lg, cw_ref, List.cons_append, List.nil_append, List.append_nil, List.map_cons, List.map_nil, List.replicate, Nat.reduceSub, m_inst P.p P.d (n := "_check") rfl T.m_check]
  refine ⟨T.b_Pages__check.1, check_ok T P0 h1 hn ?_⟩
  simp only [oV_, v_l, v_k, l_0, l_1, km3_, km2_, km_, xl2_, xl1_, ke_, ks_n, w_1, s_e, lg, cw_ref, List.cons_append, List.nil_append, m_inst P.p P.d (n := "_note") rfl T.m_note]
  refine ⟨T.b_Pages__note.1, note_ok T P0 sm hz n fun H₁ P₁ f₁ => ?_⟩
  obtain ⟨dx, sl, fr, xs, j, o, ol, r, w, P⟩ := P₁
  have R := P.setD (r' := r + 1) (w' := w) P.jr
  have R2 := R.setD (r' := r + 1) (w' := w + 1) R.jr
  obtain ⟨a, hv, ha⟩ := at_pg R2 (n := n) (l := l) (by show (A.note n).slots[n]? = _; rw [note_slots]; exact hn)
  simp only [oV_, v_i, v_l, v_o, v_a, v_u, k2_, k1_, kg_, ks2_, ks1_, ke_, kh_, kr_, kab_, kaa_, ks_n, ks_r, w_1, s_aa, s_r, kB_r, lg, bw_add, a_fld P.p P.d (gR ..) T.r_reads rfl, st_fld P.p P.d T.w_reads (fl_len ..), pR, a_fld R.p R.d (gW ..) T.r_writes rfl, st_fld R.p R.d T.w_writes (fl_len ..), pW, a_fld R2.p R2.d (gS ..) T.r_slots rfl, sub_list R2.s rfl hv]
  exact hQ a _ ⟨_, _, _, _, _, _, _, _, _, R2, hv⟩ (f₁.trans (P.frD.trans R.frD)) ha

/-- and changed -/
theorem PgAt.put {n : Nat} {a : Addr} {l : List Int} (P : PgAt N H p A n a) (ha : H a = some ((1, n), .list (l.map .int))) (l' : List Int) : PInv N (Mine.upd H a (1, n) (.list (l'.map .int))) p { A with slots := A.slots.set n (some l') } := by
  obtain ⟨dx, sl, fr, xs, j, o, ol, r, w, P, hv⟩ := P
  have old : ∀ b t x, H b = some (t, x) → t ≠ (1, n) → upd H a (1, n) (.list (l'.map .int)) b = some (t, x) := fun b t x h ne => by rw [upd_ne _ _ _ (ne_tag h ha ne)]; exact h
  refine ⟨dx, sl, fr, xs, j, o, ol, r, w, ⟨old _ _ _ P.p (by simp), old _ _ _ P.d (by simp), old _ _ _ P.s (by simp), old _ _ _ P.f (by simp), by simp [P.len], fun i u s hi hs => ?_, P.jr.upd (by simp [ha]) (by simp [ha]) (by simp [ha])⟩⟩
  simp only [List.getElem?_set] at hs
  by_cases e : n = i
  · subst e
    rw [if_pos rfl, if_pos (by rw [← P.len]; exact lt_of_some hi)] at hs
    cases hs
    rw [hv] at hi; cases hi
    exact ⟨a, rfl, upd_same _ _ _ _⟩
  · rw [if_neg e] at hs
    exact (P.pg i u s hi hs).upd (by simp [ha, e])

theorem drop_ok (T : Tx c N) (P : PInv N H p A) (sm : Small A) (hz : Nn A) {n : Nat} {l : List Int} (h1 : 1 ≤ n) (hn : A.slots[n]? = some (some l))
    (hQ : ∀ H', PInv N H' p { A.note n with slots := A.slots.set n none, free := A.free ++ [(n : Int)] } → Fr H H' → Q .none H') : CallOK c (d + 3) true N.Pages_drop [.ref p, .int n] H Q Z := by
  have P0 := P
  obtain ⟨dx, sl, fr, xs, j, o, ol, r, w, P⟩ := P
  refine T.b_Pages_drop.2 (d + 2) true _ H _ _ rfl ?_
  simp only [s_Pages_drop, oV_, v_l, v_k, l_0, l_1, km3_, km2_, km_, xl2_, xl1_, w_1, s_e, lg, cw_ref, List.cons_append, List.nil_append, List.append_nil, List.map_cons, List.map_nil, List.replicate, Nat.reduceSub, m_inst P.p P.d (n := "_check") rfl T.m_check]
  refine ⟨T.b_Pages__check.1, check_ok T P0 h1 hn ?_⟩
  simp only [oV_, v_l, v_k, l_0, l_1, km3_, km2_, km_, xl2_, xl1_, ke_, ks_n, w_1, s_e, lg, cw_ref, List.cons_append, List.nil_append, m_inst P.p P.d (n := "_note") rfl T.m_note]
  refine ⟨T.b_Pages__note.1, note_ok T P0 sm hz n fun H₁ P₁ f₁ => ?_⟩
  obtain ⟨dx, sl, fr, xs, j, o, ol, r, w, P⟩ := P₁
  have hl : n < xs.length := by rw [P.len, note_slots]; exact lt_of_some hn
  have R := P.setS hl (v := .none) (s := none) rfl
  have R2 := R.setF (fs := (A.note n).free ++ [(n : Int)])
  have hf := sm.f
  simp only [oV_, v_n, v_l, v_a, v_k, l_0, l_1, kg_, km3_, km2_, km_, xl2_, xl1_, ke_, kh_, kic_, kib_, kia_, ks_n, w_0, w_1, s_e, s_as, kB_n, lg, cw_bi, List.cons_append, List.nil_append, a_fld P.p P.d (gS ..) T.r_slots rfl, si_list P.s rfl hl, a_fld R.p R.d (gF ..) T.r_free rfl, m_append R.f, bi_append R.f]
  refine ⟨by simp only [List.length_map, note_free, BIG]; exact r3 (by assumption) (by decide), hQ _ ?_ ?_⟩
  · have e : (List.map MVal.int (A.note n).free ++ [MVal.int (n : Int)]) = ((A.note n).free ++ [(n : Int)]).map .int := by simp
    rw [note_slots] at R2
    simp only [note_free] at *
    rw [e]
    exact ⟨_, _, _, _, _, _, _, _, _, R2⟩
  · exact (f₁.upd' P.s (by decide)).upd' R.f (by decide)

theorem add_new (T : Tx c N) (P : PInv N H p A) (sm : Small A) (hz : Nn A) {l : List Int} {pg : Addr} (hg : H pg = some (t0, .list (l.map .int))) (hf : A.free = [])
    (hQ : ∀ H', PInv N H' p { A.note A.slots.length with slots := A.slots ++ [some l] } → FrX pg H H' → Q (.int A.slots.length) H') : CallOK c (d + 3) true N.Pages_add [.ref p, .ref pg] H Q Z := by
  have P0 := P
  obtain ⟨dx, sl, fr, xs, j, o, ol, r, w, P⟩ := P
  refine CallOK.post (T.b_Pages_add.2 (d + 2) true _ H _ _ rfl ?_)
  have hF := P.f
  rw [hf] at hF
  simp only [s_Pages_add, oV_, oT_, oM_, v_i, v_l, v_g, v_c, v_a, v_f, v_k, b_c, l_0, l_1, tv_, kc2_, kc1_, kg_, kw_, kf_, km3_, km2_, km_, xl2_, xl1_, kas_, kif0, ks_n, w_1, s_e, s_a, s_i, lg, ls, cw_ref, cw_bi, List.cons_append, List.nil_append, cm_gt, tr_b, List.length_nil, List.map_cons, List.map_nil, List.replicate, Nat.reduceSub, a_fld P.p P.d (gF ..) T.r_free rfl, a_fld P.p P.d (gS ..) T.r_slots rfl, T.g_len, bi_len_list hF, bi_len_list P.s, Int.natCast_zero, decide_false, gt_iff_lt, Int.lt_irrefl, m_inst P.p P.d (n := "_note") rfl T.m_note, P.len]
  refine ⟨T.b_Pages__note.1, note_ok T P0 sm hz A.slots.length fun H₁ P₁ f₁ => ?_⟩
  obtain ⟨dx, sl, fr, xs, j, o, ol, r, w, P⟩ := P₁
  have hg' := f₁ _ _ _ hg rfl
  have hl : xs.length = A.slots.length := by rw [P.len, note_slots]
  have hs := sm.s
  have R := P.upd (b := pg) (t' := (1, A.slots.length)) (o' := .list (l.map .int)) (fun t o e => by rw [hg'] at e; cases e; rfl)
  have R2 := (R.pushS (v := .ref pg) (s := some l) ⟨pg, rfl, by rw [hl]; exact upd_same _ _ _ _⟩)
  have R3 := R2.setD (r' := r) (w' := w + 1) R2.jr
  obtain ⟨⟨n1, n2, n3⟩, ⟨n4, n5⟩, n6⟩ := P.nes
  simp only [oV_, v_i, v_l, v_o, v_a, v_k, l_0, l_1, k2_, k1_, kg_, km3_, km2_, km_, xl2_, xl1_, ke_, kh_, kr_, kab_, kaa_, ks_n, ks_r, w_0, w_1, s_e, s_aa, s_r, kB_r, lg, cw_bi, List.cons_append, List.nil_append, bw_add, a_fld P.p P.d (gS ..) T.r_slots rfl, m_append P.s, bi_append P.s,
    a_fld ((upd_ne _ _ _ n2).trans P.p) ((upd_ne _ _ _ n4).trans P.d) (gW ..) T.r_writes rfl, st_fld ((upd_ne _ _ _ n2).trans P.p) ((upd_ne _ _ _ n4).trans P.d) T.w_writes (fl_len ..), pW]
  rw [note_slots] at R3
  refine ⟨by simp only [hl, BIG]; exact r3 (by assumption) (by decide), _, ?_, hQ _ ⟨_, _, _, _, _, _, _, _, _, R3⟩ ?_⟩
  · exact ((Same.retag hg').upd sl _ _ _).upd dx _ _ _
  · intro a t o na ha ht
    have h' := f₁ _ _ _ ha ht
    rw [upd_ne _ _ _ (ne_tag h' P.d (by rintro rfl; exact absurd ht (by decide))), upd_ne _ _ _ (ne_tag h' P.s (by rintro rfl; exact absurd ht (by decide))), upd_ne _ _ _ na]; exact h'

theorem add_old (T : Tx c N) (P : PInv N H p A) (sm : Small A) (hz : Nn A) {l : List Int} {pg : Addr} (hg : H pg = some (t0, .list (l.map .int))) {fs : List Int} {n : Nat} (hf : A.free = fs ++ [(n : Int)]) (hn : n < A.slots.length)
    (hQ : ∀ H', PInv N H' p { A.note n with free := fs, slots := A.slots.set n (some l) } → FrX pg H H' → Q (.int n) H') : CallOK c (d + 3) true N.Pages_add [.ref p, .ref pg] H Q Z := by
  have P0 := P
  obtain ⟨dx, sl, fr, xs, j, o, ol, r, w, P⟩ := P
  refine CallOK.post (T.b_Pages_add.2 (d + 2) true _ H _ _ rfl ?_)
  have hF := P.f
  rw [hf, List.map_append] at hF
  have e0 : decide ((0 : Int) < ((fs.length + 1 : Nat) : Int)) = true := by simp
  have F := P.setF (fs := fs)
  simp only [s_Pages_add, oV_, oT_, oM_, v_i, v_l, v_g, v_c, v_a, v_f, v_k, b_c, l_0, l_1, tv_, kc2_, kc1_, kg_, kw_, kf_, km3_, km2_, km_, xl2_, xl1_, kas_, kif1, ks_n, w_1, s_e, s_a, s_i, lg, ls, cw_ref, cw_bi, List.cons_append, List.nil_append, List.append_nil, cm_gt, tr_b, List.length_nil, List.length_cons, List.map_cons, List.map_nil, List.replicate, Nat.reduceSub, Nat.reduceAdd, a_fld P.p P.d (gF ..) T.r_free rfl, T.g_len, bi_len_list hF, gt_iff_lt, List.length_append, List.length_map, e0, m_pop hF, bi_pop hF, m_inst F.p F.d (n := "_note") rfl T.m_note]
  have nt : ({ A with free := fs } : PS).note n = { A.note n with free := fs } := by
    obtain ⟨s, f, y⟩ := A
    cases y with
    | none => rfl
    | some y => obtain ⟨a, b, e⟩ := y; unfold PS.note; dsimp only; split <;> rfl
  have sF : Small ({ A with free := fs } : PS) := ⟨sm.s, by have := sm.f; rw [hf] at this; simp at this; show fs.length < 1000; exact Nat.le_of_lt (by assumption), sm.p, sm.j⟩
  refine ⟨T.b_Pages__note.1, note_ok T ⟨_, _, _, _, _, _, _, _, _, F⟩ sF hz n fun H₁ P₁ f₁ => ?_⟩
  rw [nt] at P₁
  obtain ⟨dx', sl', fr', xs', j', o', ol', r', w', P'⟩ := P₁
  have hg₀ : upd H fr (3, 3) (.list (fs.map .int)) pg = some (t0, .list (l.map .int)) := by rw [upd_ne _ _ _ (ne_tag hg P.f (by decide))]; exact hg
  have hg' := f₁ _ _ _ hg₀ rfl
  have hl : n < xs'.length := by rw [P'.len]; show n < (A.note n).slots.length; rw [note_slots]; exact hn
  have R := P'.upd (b := pg) (t' := (1, n)) (o' := .list (l.map .int)) (fun t o e => by rw [hg'] at e; cases e; rfl)
  have R2 := (R.setS hl (v := .ref pg) (s := some l) ⟨pg, rfl, upd_same _ _ _ _⟩)
  have R3 := R2.setD (r' := r') (w' := w' + 1) R2.jr
  obtain ⟨⟨n1, n2, n3⟩, ⟨n4, n5⟩, n6⟩ := P'.nes
  simp only [oV_, v_i, v_l, v_o, v_a, k2_, k1_, kg_, ke_, kh_, kr_, kab_, kaa_, kic_, kib_, kia_, ks_n, ks_r, w_0, w_1, s_aa, s_as, s_r, kB_r, lg, bw_add, a_fld P'.p P'.d (gS ..) T.r_slots rfl, si_list P'.s rfl hl,
    a_fld ((upd_ne _ _ _ n2).trans P'.p) ((upd_ne _ _ _ n4).trans P'.d) (gW ..) T.r_writes rfl, st_fld ((upd_ne _ _ _ n2).trans P'.p) ((upd_ne _ _ _ n4).trans P'.d) T.w_writes (fl_len ..), pW]
  simp only [note_slots] at R3
  refine ⟨_, ?_, hQ _ ⟨_, _, _, _, _, _, _, _, _, R3⟩ ?_⟩
  · exact ((Same.retag hg').upd sl' _ _ _).upd dx' _ _ _
  · intro a t o na ha ht
    have h' := ((Fr.rfl' H).upd P.f (by decide) |>.trans f₁) _ _ _ ha ht
    rw [upd_ne _ _ _ (ne_tag h' P'.d (by rintro rfl; exact absurd ht (by decide))), upd_ne _ _ _ (ne_tag h' P'.s (by rintro rfl; exact absurd ht (by decide))), upd_ne _ _ _ na]; exact h'
end U9
end Mine
end
section
set_option autoImplicit false
set_option linter.unusedVariables false
set_option linter.unusedSimpArgs false
namespace Mine
open PySem
namespace U9
variable {c : Cfg} {N : Nm} {d : Nat} {H H' : MH} {Z : Addr → MH → Prop} {Q : MVal → MH → Prop} {p dx sl fr : Addr} {xs : List MVal} {j o : MVal} {ol r w : Int} {A : PS}

noncomputable abbrev Sl := List (Option (List Int))
/-- the numbers of a range of slots that are there, or that are not -/
noncomputable def pick (b : Bool) (lo : Nat) (s : Sl) : List Int := (List.range (s.length - lo)).filterMap fun i => if (s[lo + i]?).join.isSome == b then some ((lo : Int) + (i : Int)) else none

/-- a list of slots: nothing or a page -/
noncomputable def SR (xs : List MVal) (s : Sl) : Prop := xs.length = s.length ∧ ∀ (i : Nat) v q, xs[i]? = some v → s[i]? = some q → (q = none → v = .none) ∧ (q ≠ none → ∃ a, v = .ref a)
theorem PAt.sr (P : PAt N H p dx sl fr xs j o ol r w A) : SR xs A.slots := ⟨P.len, fun i v q a b => by
  have := P.pg i v q a b
  cases q with
  | none => exact ⟨fun _ => this, fun h => absurd rfl h⟩
  | some l => obtain ⟨a, e, _⟩ := this; exact ⟨fun h => (nomatch h), fun _ => ⟨a, e⟩⟩⟩
theorem SR.is (h : SR xs A.slots) {i : Nat} (hi : i < A.slots.length) : ∃ v, xs[i]? = some v ∧ isM v .none = some (!((A.slots[i]?).join).isSome) := by
  have hi' : i < xs.length := by rw [h.1]; exact hi
  refine ⟨xs[i], by simp [hi'], ?_⟩
  have := h.2 i xs[i] A.slots[i] (by simp [hi']) (by simp [hi])
  cases hq : A.slots[i] with
  | none => rw [this.1 hq, is_nn, List.getElem?_eq_getElem hi, hq]; rfl
  | some l => obtain ⟨a, e⟩ := this.2 (by rw [hq]; simp); rw [e, is_rn, List.getElem?_eq_getElem hi, hq]; rfl

noncomputable def pickF (b : Bool) (s : Sl) : MVal → Option MVal
  | .int i => if (s[i.toNat]?).join.isSome == b then some (.int i) else none
  | _ => none
theorem pick_items (b : Bool) (lo : Nat) (s : Sl) {n : Nat} (hn : n = s.length - lo) : ((List.range n).map fun (i : Nat) => MVal.int ((lo : Int) + (i : Int))).filterMap (pickF b s) = (pick b lo s).map .int := by
  subst hn
  unfold pick
  rw [List.filterMap_map, List.map_filterMap]
  congr 1
  funext i
  simp only [Function.comp, pickF]
  have e : ((lo : Int) + (i : Int)).toNat = lo + i := by exact rfl
  rw [e]
  split <;> rfl

theorem numbers_ok (T : Tx c N) (P : PInv N H p A) (sm : Small A) (hQ : ∀ r, H r = none → Q (.ref r) (upd H r t0 (.list ((pick true 1 A.slots).map .int)))) : CallOK c (d + 1) true N.Pages_numbers [.ref p] H Q Z := by
  obtain ⟨dx, sl, fr, xs, j, o, ol, r, w, P⟩ := P
  refine T.b_Pages_numbers.2 d true _ H _ _ rfl ?_
  have hs := sm.s
  have hl := P.len
  simp only [s_Pages_numbers, oV_, oI_, v_i, v_l, v_g, v_a, v_f, v_p, l_0, l_1, kg_, kw_, kf_, kp_, xl2_, xl1_, w_1, s_r, lg, cw_bi, cw_ty, List.cons_append, List.nil_append, ty_range2, true_and, List.length_nil, List.length_cons, List.map_cons, List.map_nil, List.replicate, Nat.reduceSub, Nat.reduceAdd, T.g_range, T.g_len, a_fld P.p P.d (gS ..) T.r_slots rfl, bi_len_list P.s, it_rng]
  refine ⟨by decide, ⟨by decide, by rw [hl]; exact r3 (by assumption) (by decide)⟩, rlen (by decide) (hl ▸ hs), compW_pure (pickF true A.slots) rfl _ _ ?_ ?_⟩
  · intro v hv k hk
    simp only [List.mem_map, List.mem_range] at hv
    obtain ⟨i, hi, rfl⟩ := hv
    obtain ⟨u, hu, his⟩ := P.sr.is (i := 1 + i) (r13 (by assumption) (by assumption))
    have e : ((1 : Int) + (i : Int)) = ((1 + i : Nat) : Int) := by exact rfl
    simp only [e, oV_, oT_, oM_, v_n, v_l, v_c, v_a, v_u, b_c, t_1, tv_, kc2_, kc1_, kg_, ks2_, ks1_, kp1_, lg, ls, cm_isnt, tr_b, Option.map_some, a_fld P.p P.d (gS ..) T.r_slots rfl, sub_list P.s rfl hu, his, Bool.not_not]
    simp only [e, pickF, Int.toNat_natCast] at hk
    cases hj : ((A.slots[1 + i]?).join).isSome with
    | true => rw [hj] at hk; simp only [oV_, v_l, t_0, kp3_, kp21, xt11, lg]; simpa using hk
    | false => rw [hj] at hk; simp only [kp20, xt10]; simpa using hk
  · rw [List.nil_append]
    have := pick_items true 1 A.slots (n := ((xs.length : Int) - 1).toNat) (r10 (by assumption))
    simp only [Int.natCast_one] at this
    rw [this]
    exact fun r hr => hQ r hr

theorem count_ok (T : Tx c N) (P : PInv N H p A) (hQ : Q (.int ((A.slots.length : Int) - 1 - A.free.length)) H) : CallOK c (d + 1) true N.Pages_count [.ref p] H Q Z := by
  obtain ⟨dx, sl, fr, xs, j, o, ol, r, w, P⟩ := P
  refine T.b_Pages_count.2 d true _ H _ _ rfl ?_
  simp only [s_Pages_count, oV_, v_i, v_l, v_g, v_o, v_a, v_f, l_0, l_1, k2_, k1_, kg_, kw_, kf_, xl2_, xl1_, kr_, ks_r, w_1, s_r, kB_r, lg, cw_bi, List.append_nil, bw_sub, List.map_cons, List.map_nil, List.replicate, Nat.reduceSub, T.g_len, a_fld P.p P.d (gS ..) T.r_slots rfl, a_fld P.p P.d (gF ..) T.r_free rfl, bi_len_list P.s, bi_len_list P.f, List.length_map, P.len]
  exact hQ
theorem free_count_ok (T : Tx c N) (P : PInv N H p A) (hQ : Q (.int A.free.length) H) : CallOK c (d + 1) true N.Pages_free_count [.ref p] H Q Z := by
  obtain ⟨dx, sl, fr, xs, j, o, ol, r, w, P⟩ := P
  refine T.b_Pages_free_count.2 d true _ H _ _ rfl ?_
  simp only [s_Pages_free_count, oV_, v_l, v_g, v_a, v_f, l_0, l_1, kg_, kw_, kf_, xl2_, xl1_, kr_, ks_r, w_1, s_r, kB_r, lg, cw_bi, List.append_nil, List.map_cons, List.map_nil, List.replicate, Nat.reduceSub, T.g_len, a_fld P.p P.d (gF ..) T.r_free rfl, bi_len_list P.f, List.length_map]
  exact hQ
theorem begun_ok (T : Tx c N) (P : PInv N H p A) (hQ : Q (.bool A.jr.isSome) H) : CallOK c (d + 1) true N.Pages_begun [.ref p] H Q Z := by
  obtain ⟨dx, sl, fr, xs, j, o, ol, r, w, P⟩ := P
  refine T.b_Pages_begun.2 d true _ H _ _ rfl ?_
  have jr := P.jr
  cases hA : A.jr with
  | none =>
    rw [hA] at jr hQ
    have jr : j = .none := jr
    subst jr
    simp only [s_Pages_begun, oV_, oM_, v_n, v_l, v_c, v_a, kc2_, kc1_, kg_, kr_, ks_r, w_1, s_r, kB_r, lg, List.append_nil, cm_isnt, is_nn, Option.map_some, Bool.not_true, List.map_cons, List.map_nil, List.replicate, Nat.reduceSub, a_fld P.p P.d (gJ ..) T.r_journal rfl]
    exact hQ
  | some y =>
    obtain ⟨es, of, m⟩ := y
    rw [hA] at jr hQ
    obtain ⟨rfl, ja, oa, ep, ms, rfl, hj, rfl, ho, hm, hp⟩ := jr
    simp only [s_Pages_begun, oV_, oM_, v_n, v_l, v_c, v_a, kc2_, kc1_, kg_, kr_, ks_r, w_1, s_r, kB_r, lg, List.append_nil, cm_isnt, is_rn, Option.map_some, Bool.not_false, List.map_cons, List.map_nil, List.replicate, Nat.reduceSub, a_fld P.p P.d (gJ ..) T.r_journal rfl]
    exact hQ

/-- StoreError, raised -/
theorem se_ok (T : Tx c N) {v : MVal} {σ : Lcs} {K : KK1} (hZ : ∀ e, H e = none → K (.exc e) σ (upd H e t0 (.exc N.SE none))) : CallOK c (d + 1) true N.SE [v] H (kx c σ K) (ze σ K) :=
  T.mk_SE d true v H _ _ fun a ha => kx_ok T.e_SE (upd_same ..) (hZ a ha)

theorem begin_bad (T : Tx c N) (P : PInv N H p A) (hb : A.jr ≠ none) (hZ : ∀ e, H e = none → Z e (upd H e t0 (.exc N.SE none))) : CallOK c (d + 2) true N.Pages_begin [.ref p] H Q Z := by
  obtain ⟨dx, sl, fr, xs, j, o, ol, r, w, P⟩ := P
  refine T.b_Pages_begin.2 (d + 1) true _ H _ _ rfl ?_
  have jr := P.jr
  cases hA : A.jr with
  | none => exact absurd hA hb
  | some y =>
    obtain ⟨es, of, m⟩ := y
    rw [hA] at jr
    obtain ⟨rfl, ja, oa, ep, ms, rfl, hj, rfl, ho, hm, hp⟩ := jr
    simp only [s_Pages_begin, oV_, oT_, oM_, v_n, v_s, v_l, v_g, v_c, v_a, v_f, b_c, l_0, l_1, tv_, kc2_, kc1_, kg_, kw_, kf_, xl2_, xl1_, kif1, w_1, s_i, s_x, lg, cw_ref, List.append_nil, cm_isnt, is_rn, tr_b, Option.map_some, Bool.not_false, true_and, List.map_cons, List.map_nil, List.replicate, Nat.reduceSub, T.g_StoreError, a_fld P.p P.d (gJ ..) T.r_journal rfl]
    exact ⟨T.c_SE, se_ok T hZ⟩
theorem trim_bad (T : Tx c N) (P : PInv N H p A) (hb : A.jr ≠ none) (hZ : ∀ e, H e = none → Z e (upd H e t0 (.exc N.SE none))) : CallOK c (d + 2) true N.Pages_trim [.ref p] H Q Z := by
  obtain ⟨dx, sl, fr, xs, j, o, ol, r, w, P⟩ := P
  refine T.b_Pages_trim.2 (d + 1) true _ H _ _ rfl ?_
  have jr := P.jr
  cases hA : A.jr with
  | none => exact absurd hA hb
  | some y =>
    obtain ⟨es, of, m⟩ := y
    rw [hA] at jr
    obtain ⟨rfl, ja, oa, ep, ms, rfl, hj, rfl, ho, hm, hp⟩ := jr
    simp only [s_Pages_trim, oV_, oT_, oM_, v_n, v_s, v_l, v_g, v_c, v_a, v_f, b_c, l_0, l_1, tv_, kc2_, kc1_, kg_, kw_, kf_, xl2_, xl1_, kif1, w_1, s_i, s_x, lg, cw_ref, List.cons_append, List.nil_append, cm_isnt, is_rn, tr_b, Option.map_some, Bool.not_false, true_and, List.map_cons, List.map_nil, List.replicate, Nat.reduceSub, T.g_StoreError, a_fld P.p P.d (gJ ..) T.r_journal rfl]
    exact ⟨T.c_SE, se_ok T hZ⟩
theorem commit_bad (T : Tx c N) (P : PInv N H p A) (hb : A.jr = none) (hZ : ∀ e, H e = none → Z e (upd H e t0 (.exc N.SE none))) : CallOK c (d + 2) true N.Pages_commit [.ref p] H Q Z := by
  obtain ⟨dx, sl, fr, xs, j, o, ol, r, w, P⟩ := P
  refine T.b_Pages_commit.2 (d + 1) true _ H _ _ rfl ?_
  have jr := P.jr
  rw [hb] at jr
  have jr : j = .none := jr
  subst jr
  simp only [s_Pages_commit, oV_, oT_, oM_, v_n, v_s, v_l, v_g, v_c, v_a, v_f, b_c, l_0, l_1, tv_, kc2_, kc1_, kg_, kw_, kf_, xl2_, xl1_, kif1, w_1, s_i, s_x, lg, cw_ref, List.cons_append, List.nil_append, cm_is, is_nn, tr_b, true_and, List.map_cons, List.map_nil, List.replicate, Nat.reduceSub, T.g_StoreError, a_fld P.p P.d (gJ ..) T.r_journal rfl]
  exact ⟨T.c_SE, se_ok T hZ⟩
theorem rollback_bad (T : Tx c N) (P : PInv N H p A) (hb : A.jr = none) (hZ : ∀ e, H e = none → Z e (upd H e t0 (.exc N.SE none))) : CallOK c (d + 2) true N.Pages_rollback [.ref p] H Q Z := by
  obtain ⟨dx, sl, fr, xs, j, o, ol, r, w, P⟩ := P
  refine T.b_Pages_rollback.2 (d + 1) true _ H _ _ rfl ?_
  have jr := P.jr
  rw [hb] at jr
  have jr : j = .none := jr
  subst jr
  simp only [s_Pages_rollback, oV_, oT_, oM_, v_n, v_s, v_l, v_g, v_c, v_a, v_f, b_c, l_0, l_1, tv_, kc2_, kc1_, kg_, kw_, kf_, xl2_, xl1_, kif1, w_1, s_i, s_x, lg, cw_ref, List.cons_append, List.nil_append, cm_is, is_nn, tr_b, true_and, List.map_cons, List.map_nil, List.replicate, Nat.reduceSub, T.g_StoreError, a_fld P.p P.d (gJ ..) T.r_journal rfl]
  exact ⟨T.c_SE, se_ok T hZ⟩

theorem begin_ok (T : Tx c N) (P : PInv N H p A) (hb : A.jr = none) (hQ : ∀ H', PInv N H' p { A with jr := some ([], A.free, A.slots.length) } → Fr H H' → Q .none H') : CallOK c (d + 1) true N.Pages_begin [.ref p] H Q Z := by
  obtain ⟨dx, sl, fr, xs, j, o, ol, r, w, P⟩ := P
  refine CallOK.post (T.b_Pages_begin.2 d true _ H _ _ rfl ?_)
  have jr := P.jr
  rw [hb] at jr
  have jr : j = .none := jr
  subst jr
  simp only [s_Pages_begin, oV_, oT_, oM_, v_n, v_l, v_c, v_a, v_di, b_c, tv_, kc2_, kc1_, kg_, kab_, kaa_, kif0, ks_n, w_0, w_1, s_aa, s_i, lg, List.append_nil, cm_isnt, is_nn, tr_b, Option.map_some, Bool.not_true, List.map_cons, List.map_nil, List.replicate, Nat.reduceSub, a_fld P.p P.d (gJ ..) T.r_journal rfl, allocW]
  intro r1 hr1
  have n1 := ne_new P.p hr1
  have n2 := ne_new P.d hr1
  have n3 := ne_new P.f hr1
  have n4 := ne_new P.s hr1
  obtain ⟨⟨m1, m2, m3⟩, ⟨m4, m5⟩, m6⟩ := P.nes
  -- the heap behind each step
  have p1 : upd H r1 t0 (.dict 0 []) p = some ((3, 0), .inst N.C dx) := by rw [upd_ne _ _ _ n1]; exact P.p
  have d1 : upd H r1 t0 (.dict 0 []) dx = some ((3, 1), .ns (flds sl fr .none o ol r w)) := by rw [upd_ne _ _ _ n2]; exact P.d
  simp only [oV_, v_l, v_g, v_a, v_f, l_1, kg_, kf_, kh_, ks_n, w_1, s_aa, lg, st_fld p1 d1 T.w_journal (fl_len ..), pJ, T.g_list]
  generalize h2 : upd (upd H r1 t0 (.dict 0 [])) dx (3, 1) (.ns (flds sl fr (.ref r1) o ol r w)) = H2
  have p2 : H2 p = some ((3, 0), .inst N.C dx) := by rw [← h2, upd_ne _ _ _ m1]; exact p1
  have d2 : H2 dx = some ((3, 1), .ns (flds sl fr (.ref r1) o ol r w)) := by rw [← h2]; exact upd_same _ _ _ _
  have f2 : H2 fr = some ((3, 3), .list (A.free.map .int)) := by rw [← h2, upd_ne _ _ _ m5.symm, upd_ne _ _ _ n3]; exact P.f
  have s2 : H2 sl = some ((3, 2), .list xs) := by rw [← h2, upd_ne _ _ _ m4.symm, upd_ne _ _ _ n4]; exact P.s
  have e2 : H2 r1 = some (t0, .dict 0 []) := by rw [← h2, upd_ne _ _ _ n2.symm]; exact upd_same _ _ _ _
  simp only [oV_, v_l, l_0, kw_, xl2_, xl1_, kab_, kaa_, lg, cw_ty, a_fld p2 d2 (gF ..) T.r_free rfl, ty_list f2, allocW]
  intro r2 hr2
  have k1 := ne_new p2 hr2
  have k2 := ne_new d2 hr2
  have k3 := ne_new f2 hr2
  have k4 := ne_new s2 hr2
  have k5 := ne_new e2 hr2
  have p3 : upd H2 r2 t0 (.list (A.free.map .int)) p = some ((3, 0), .inst N.C dx) := by rw [upd_ne _ _ _ k1]; exact p2
  have d3 : upd H2 r2 t0 (.list (A.free.map .int)) dx = some ((3, 1), .ns (flds sl fr (.ref r1) o ol r w)) := by rw [upd_ne _ _ _ k2]; exact d2
  simp only [oV_, v_l, v_g, v_a, v_f, l_1, kg_, kf_, kh_, ks_n, w_1, s_aa, lg, T.g_len, st_fld p3 d3 T.w_old_free (fl_len ..), pO]
  have p4 : upd (upd H2 r2 t0 (.list (A.free.map .int))) dx (3, 1) (.ns (flds sl fr (.ref r1) (.ref r2) ol r w)) p = some ((3, 0), .inst N.C dx) := by rw [upd_ne _ _ _ m1]; exact p3
  have d4 := upd_same (upd H2 r2 t0 (.list (A.free.map .int))) dx (3, 1) (.ns (flds sl fr (.ref r1) (.ref r2) ol r w))
  have s4 : upd (upd H2 r2 t0 (.list (A.free.map .int))) dx (3, 1) (.ns (flds sl fr (.ref r1) (.ref r2) ol r w)) sl = some ((3, 2), .list xs) := by rw [upd_ne _ _ _ m4.symm, upd_ne _ _ _ k4]; exact s2
  simp only [oV_, v_l, l_0, kw_, xl2_, xl1_, kh_, kab_, kaa_, ks_n, w_0, kB_n, lg, cw_bi, a_fld p4 d4 (gS ..) T.r_slots rfl, bi_len_list s4, st_fld p4 d4 T.w_old_length (fl_len ..), pL, upd_upd]
  have hn2 : H r2 = none := by
    have : r2 ≠ dx := k2.symm
    rw [← h2, upd_ne _ _ _ this, upd_ne _ _ _ k5.symm] at hr2; exact hr2
  have nr : r1 ≠ r2 := k5
  refine ⟨upd (upd (upd (upd H2 r2 t0 (.list (A.free.map .int))) dx (3, 1) (.ns (flds sl fr (.ref r1) (.ref r2) xs.length r w))) r1 (3, 4) (.dict 0 [])) r2 (3, 5) (.list (A.free.map .int)), ?_, hQ _ ?_ ?_⟩
  · refine (Same.retag (t := t0) ?_).trans (Same.retag (t := t0) ?_)
    · rw [upd_ne _ _ _ n2.symm, upd_ne _ _ _ k5]; exact e2
    · rw [upd_ne _ _ _ nr.symm, upd_ne _ _ _ k2.symm]; exact upd_same _ _ _ _
  · have old : ∀ a x, H a = some x → a ≠ dx → upd (upd (upd (upd H2 r2 t0 (.list (A.free.map .int))) dx (3, 1) (.ns (flds sl fr (.ref r1) (.ref r2) xs.length r w))) r1 (3, 4) (.dict 0 [])) r2 (3, 5) (.list (A.free.map .int)) a = some x := fun a x h na => by
      have q1 := ne_new h hr1
      have q2 := ne_new h hn2
      rw [upd_ne _ _ _ q2, upd_ne _ _ _ q1, upd_ne _ _ _ na, upd_ne _ _ _ q2, ← h2, upd_ne _ _ _ na, upd_ne _ _ _ q1]; exact h
    refine ⟨dx, sl, fr, xs, .ref r1, .ref r2, (xs.length : Int), r, w, ⟨old _ _ P.p m1, ?_, old _ _ P.s m4.symm, old _ _ P.f m5.symm, P.len, fun i v s a b => ?_, ?_⟩⟩
    · rw [upd_ne _ _ _ k2, upd_ne _ _ _ n2, upd_same]
    · have := P.pg i v s a b
      cases s with
      | none => exact this
      | some l => obtain ⟨q, e, hq⟩ := this; exact ⟨q, e, old _ _ hq (ne_tag hq P.d (by simp))⟩
    · refine ⟨by rw [P.len], r1, r2, 0, [], rfl, ?_, rfl, upd_same _ _ _ _, rfl, fun i k v s a => by simp at a⟩
      rw [upd_ne _ _ _ nr, upd_same]
  · intro a t x ha ht
    have q1 := ne_new ha hr1
    have q2 := ne_new ha hn2
    have na : a ≠ dx := ne_tag ha P.d (by rintro rfl; exact absurd ht (by decide))
    rw [upd_ne _ _ _ q2, upd_ne _ _ _ q1, upd_ne _ _ _ na, upd_ne _ _ _ q2, ← h2, upd_ne _ _ _ na, upd_ne _ _ _ q1]; exact ha
end U9
end Mine
end
section
set_option autoImplicit false
set_option linter.unusedVariables false
set_option linter.unusedSimpArgs false
namespace Mine
open PySem
theorem ks_dict {H : MH} {a : Addr} {t : Tag} {ep : Nat} {es : List (Int × MVal)} (h : H a = some (t, .dict ep es)) : keysM H a = some (es.map (·.1)) := by unfold keysM; rw [h]; rfl
theorem ks_set {H : MH} {a : Addr} {t : Tag} {es : List Int} (h : H a = some (t, .set es)) : keysM H a = some es := by unfold keysM; rw [h]; rfl
theorem intsOf_map (l : List Int) : intsOf (l.map .int) = some l := by
  induction l with
  | nil => rfl
  | cons x l ih => show (intsOf (l.map .int)).map _ = _; rw [ih]; rfl
theorem ks_list {H : MH} {a : Addr} {t : Tag} {l : List Int} (h : H a = some (t, .list (l.map .int))) : keysM H a = some l := by unfold keysM; rw [h]; exact intsOf_map l
namespace U9
variable {c : Cfg} {N : Nm} {d : Nat} {H H' : MH} {Z : Addr → MH → Prop} {Q : MVal → MH → Prop} {p dx sl fr : Addr} {xs : List MVal} {j o : MVal} {ol r w : Int} {A : PS}

theorem commit_ok (T : Tx c N) (P : PInv N H p A) {es : List (Int × Option (List Int))} {of : List Int} {m : Nat} (hA : A.jr = some (es, of, m)) (hl : es.length < 64)
    (hQ : ∀ (r : Addr) (ns : List Int) (H' : MH), ns.Perm (es.map (·.1)) → ns.Pairwise (· ≤ ·) → PInv N H' p { A with jr := none } → Fr H H' → H' r = some (t0, .list (ns.map .int)) → Q (.ref r) H') : CallOK c (d + 1) true N.Pages_commit [.ref p] H Q Z := by
  obtain ⟨dx, sl, fr, xs, j, o, ol, r, w, P⟩ := P
  refine T.b_Pages_commit.2 d true _ H _ _ rfl ?_
  have jr := P.jr
  rw [hA] at jr
  obtain ⟨rfl, ja, oa, ep, ms, rfl, hj, rfl, ho, hm, hp⟩ := jr
  simp only [s_Pages_commit, oV_, oT_, oM_, v_n, v_l, v_g, v_c, v_a, v_f, b_c, l_0, l_1, on_some, tv_, kc2_, kc1_, kg_, kw_, kf_, xl2_, xl1_, kif0, ks_n, w_0, w_1, s_a, s_i, lg, cw_bi, List.cons_append, List.nil_append, cm_is, is_rn, tr_b, true_and, List.map_cons, List.map_nil, List.replicate, Nat.reduceSub, T.g_sorted, a_fld P.p P.d (gJ ..) T.r_journal rfl, bi_sorted, ks_dict hj, hm]
  refine ⟨by simpa using hl, fun ns hp hs r' hr => ?_⟩
  have P1 := P.keep ((Keep.rfl' H).new (t := t0) (o := .list (ns.map .int)) hr)
  have P2 := P1.setD (j' := .none) (o' := .ref oa) (ol' := m) (r' := r) (w' := w) (jr' := none) rfl
  have P3 := P2.setD (j' := .none) (o' := .none) (ol' := m) (r' := r) (w' := w) (jr' := none) rfl
  simp only [oV_, v_n, v_l, kh_, kas_, kr_, kab_, kaa_, ks_n, ks_r, w_1, s_aa, s_r, kB_r, lg, ls, st_fld P1.p P1.d T.w_journal (fl_len ..), pJ, st_fld P2.p P2.d T.w_old_free (fl_len ..), pO]
  have nd : dx ≠ r' := ne_new P.d hr
  refine hQ r' ns _ hp hs ⟨_, _, _, _, _, _, _, _, _, P3⟩ ((((Keep.rfl' H).new hr).fr.trans P1.frD).trans P2.frD) ?_
  rw [upd_ne _ _ _ nd.symm, upd_ne _ _ _ nd.symm, upd_same]

/-- putting back -/
noncomputable def back {α : Type} (m : Nat) (xs : List α) : List (Int × α) → List α
  | [] => xs
  | e :: es => back m (if e.1 < (m : Int) then xs.set e.1.toNat e.2 else xs) es
theorem back_length {α : Type} (m : Nat) : ∀ (es : List (Int × α)) (xs : List α), (back m xs es).length = xs.length
  | [], xs => rfl
  | e :: es, xs => by simp only [back]; rw [back_length m es]; split <;> simp
theorem back_append {α : Type} (m : Nat) : ∀ (es fs : List (Int × α)) (xs : List α), back m xs (es ++ fs) = back m (back m xs es) fs
  | [], fs, xs => rfl
  | e :: es, fs, xs => by simp only [back, List.cons_append]; exact back_append m es fs _
theorem back_rel {R : Nat → MVal → Option (List Int) → Prop} (m : Nat) : ∀ (ms : List (Int × MVal)) (es : List (Int × Option (List Int))) (xs : List MVal) (s : Sl), ms.map (·.1) = es.map (·.1) → (∀ k ∈ es.map (·.1), 0 ≤ k) →
    (∀ (i : Nat) (k : Int) v q, ms[i]? = some (k, v) → es[i]? = some (k, q) → R k.toNat v q) → xs.length = s.length → (∀ (i : Nat) v q, xs[i]? = some v → s[i]? = some q → R i v q) → ∀ (i : Nat) v q, (back m xs ms)[i]? = some v → (back m s es)[i]? = some q → R i v q
  | [], es, xs, s, hm, hz, hr, hl, h => by
    cases es with
    | nil => exact h
    | cons _ _ => simp at hm
  | (k, v) :: ms, es, xs, s, hm, hz, hr, hl, h => by
    cases es with
    | nil => simp at hm
    | cons e es =>
      obtain ⟨k', q⟩ := e
      simp only [List.map_cons, List.cons.injEq] at hm
      obtain ⟨e1, hm⟩ := hm
      have e1 : k = k' := e1
      subst e1
      simp only [back]
      refine back_rel m ms es _ _ hm (fun k hk => hz k (.tail _ hk)) (fun i k v q a b => hr (i + 1) k v q (by simpa using a) (by simpa using b)) ?_ ?_
      · split <;> simp [hl]
      · intro i u q' a b
        split at a
        · rename_i hlt
          rw [if_pos hlt] at b
          rw [List.getElem?_set] at a b
          by_cases e : k.toNat = i
          · subst e
            rw [if_pos rfl] at a b
            split at a
            · rw [if_pos (by rw [← hl]; assumption)] at b
              cases a; cases b
              exact hr 0 k _ _ rfl rfl
            · cases a
          · rw [if_neg e] at a b
            exact h i u q' a b
        · rename_i hlt
          rw [if_neg hlt] at b
          exact h i u q' a b

theorem find_nodup : ∀ (ms : List (Int × MVal)) (i : Nat) (k : Int) (v : MVal), (ms.map (·.1)).Nodup → ms[i]? = some (k, v) → ms.find? (fun e => decide (e.1 = k)) = some (k, v)
  | [], i, k, v, _, h => by simp at h
  | (k', v') :: ms, 0, k, v, _, h => by simp at h; obtain ⟨rfl, rfl⟩ := h; simp
  | (k', v') :: ms, i + 1, k, v, hn, h => by
    simp only [List.map_cons, List.nodup_cons] at hn
    simp only [List.getElem?_cons_succ] at h
    have : k' ≠ k := fun e => hn.1 (by subst e; exact List.mem_map.mpr ⟨_, List.mem_of_getElem? h, rfl⟩)
    rw [List.find?_cons_of_neg (by simpa using this)]
    exact find_nodup ms i k v hn.2 h

/-- pages of the journal become pages of the slots -/
noncomputable def movT (t : Tag) : Tag := if t.1 = 2 then (1, t.2) else t
noncomputable def mov (H : MH) : MH := fun a => match H a with
  | some (t, o) => some (movT t, o)
  | none => none
theorem mov_same (H : MH) : Same H (mov H) := fun a => by unfold mov; cases H a with | none => rfl | some x => rfl
theorem mov_at {a : Addr} {t : Tag} {o : MObj} (h : H a = some (t, o)) (ht : t.1 ≠ 2) : mov H a = some (t, o) := by
  unfold mov movT; rw [h]; simp only [if_neg ht]
theorem mov_at2 {a : Addr} {n : Nat} {o : MObj} (h : H a = some ((2, n), o)) : mov H a = some ((1, n), o) := by
  unfold mov movT; rw [h]; rfl

theorem ds_list {a : Addr} {t : Tag} {xs : List MVal} {R : MH → Prop} {i : Nat} (h : H a = some (t, .list xs)) (hi : (i : Int) < 2 ^ 60) : DelSliceW (.ref a) (.int i) .none H R = R (upd H a t (.list (xs.take i))) := by
  exact (on_eq (at_L h)).trans (propext ⟨fun x => x.2.2, fun x => ⟨rfl, ⟨Int.natCast_nonneg i, hi⟩, x⟩⟩)

theorem rollback_ok (T : Tx c N) (P : PInv N H p A) (sm : Small A) (hz : Nn A) {es : List (Int × Option (List Int))} {of : List Int} {m : Nat} (hA : A.jr = some (es, of, m)) (hnd : (es.map (·.1)).Nodup) (hm0 : m ≤ A.slots.length)
    (hQ : ∀ H', PInv N H' p ⟨(back m A.slots es).take m, of, none⟩ → Fr H H' → Q (.int es.length) H') : CallOK c (d + 1) true N.Pages_rollback [.ref p] H Q Z := by
  obtain ⟨dx, sl, fr, xs, j, o, ol, r, w, P⟩ := P
  refine CallOK.post (T.b_Pages_rollback.2 d true _ H _ _ rfl ?_)
  have jr := P.jr
  rw [hA] at jr
  obtain ⟨rfl, ja, oa, ep, ms, rfl, hj, rfl, ho, hm, hp⟩ := jr
  have hlm : ms.length = es.length := by have := congrArg List.length hm; simpa using this
  have hle := sm.j _ _ _ hA
  have hls := sm.s
  have hk := hz _ _ _ hA
  have P1 := P.setD (j' := .none) (o' := .ref oa) (ol' := m) (r' := r) (w' := w) (jr' := none) rfl
  obtain ⟨⟨m1, m2, m3⟩, ⟨m4, m5⟩, m6⟩ := P.nes
  have nj : ja ≠ dx := ne_tag hj P.d (by decide)
  have nj2 : ja ≠ sl := ne_tag hj P.s (by decide)
  have hj1 : ∀ ys : List MVal, upd (upd H dx (3, 1) (.ns (flds sl fr .none (.ref oa) m r w))) sl (3, 2) (.list ys) ja = some ((3, 4), .dict ep ms) := fun ys => by rw [upd_ne _ _ _ nj2, upd_ne _ _ _ nj]; exact hj
  have hj0 : upd H dx (3, 1) (.ns (flds sl fr .none (.ref oa) m r w)) ja = some ((3, 4), .dict ep ms) := by rw [upd_ne _ _ _ nj]; exact hj
  simp only [s_Pages_rollback, oV_, oT_, oM_, oI_, v_n, v_l, v_c, v_a, b_c, tv_, kc2_, kc1_, kg_, kh_, kas_, kab_, kaa_, kif0, ki_, ks_n, w_0, w_1, s_a, s_aa, s_i, s_f, lg, ls, List.cons_append, List.nil_append, cm_is, is_rn, tr_b, true_and, List.map_cons, List.map_nil, List.replicate, Nat.reduceSub, a_fld P.p P.d (gJ ..) T.r_journal rfl, st_fld P.p P.d T.w_journal (fl_len ..), pJ, it_dict hj0]
  have self0 : upd (upd H dx (3, 1) (.ns (flds sl fr .none (.ref oa) m r w))) sl (3, 2) (.list xs) = upd H dx (3, 1) (.ns (flds sl fr .none (.ref oa) m r w)) := by
    funext b; by_cases e : b = sl
    · subst e; rw [upd_same]; exact P1.s.symm
    · rw [upd_ne _ _ _ e]
  have pS : ∀ ys : List MVal, upd (upd H dx (3, 1) (.ns (flds sl fr .none (.ref oa) m r w))) sl (3, 2) (.list ys) p = some ((3, 0), .inst N.C dx) := fun ys => by rw [upd_ne _ _ _ m2]; exact P1.p
  have dS : ∀ ys : List MVal, upd (upd H dx (3, 1) (.ns (flds sl fr .none (.ref oa) m r w))) sl (3, 2) (.list ys) dx = some ((3, 1), .ns (flds sl fr .none (.ref oa) m r w)) := fun ys => by rw [upd_ne _ _ _ m4]; exact P1.d
  refine ⟨by simp; exact r12 (by assumption) (by assumption) (by decide), forW_inv (fun i σ' H' => (∃ u, σ' = [some (.ref p), some (.ref ja), u]) ∧ H' = upd (upd H dx (3, 1) (.ns (flds sl fr .none (.ref oa) m r w))) sl (3, 2) (.list (back m xs (ms.take i)))) _ 0 ⟨⟨_, rfl⟩, by simp only [List.take_zero, back]; exact self0.symm⟩ ?_ ?_⟩
  · rintro i v σ' H' K' hi ⟨⟨u, rfl⟩, rfl⟩ hn - - -
    simp only [Nat.zero_add] at *
    rw [List.getElem?_map] at hi
    cases hi2 : ms[i]? with
    | none => rw [hi2] at hi; cases hi
    | some e =>
      obtain ⟨k, v⟩ := e
      rw [hi2] at hi; cases hi
      have mem : k ∈ es.map (·.1) := by rw [← hm]; exact List.mem_map.mpr ⟨_, List.mem_of_getElem? hi2, rfl⟩
      have k0 := hk k mem
      have tk : ms.take (i + 1) = ms.take i ++ [(k, v)] := by rw [List.take_add_one, hi2]; rfl
      refine ⟨by rw [so_ref, so_ref, hj0, hj1], ?_⟩
      simp only [oV_, oT_, oM_, v_l, v_c, v_a, b_c, tv_, kc2_, kc1_, kg_, ki1_, w_1, s_i, lg, ls, cm_lt, tr_b, a_fld (pS _) (dS _) (gL ..) T.r_old_length rfl]
      by_cases hlt : k < (m : Int)
      · have hbl : k.toNat < (back m xs (ms.take i)).length := by rw [back_length, P.len]; omega
        simp only [hlt, decide_true, oV_, v_l, v_a, v_u, kg_, ks2_, ks1_, kh_, kic_, kib_, kia_, kif1, ks_n, w_0, w_1, s_as, lg, sub_dict (hj1 _) (find_nodup ms i k v (by rw [hm]; exact hnd) hi2), a_fld (pS _) (dS _) (gS ..) T.r_slots rfl,
          si_list (i := k.toNat) (upd_same _ sl _ _) (show k = (k.toNat : Int) by exact (Int.toNat_of_nonneg (by assumption)).symm) hbl, upd_upd]
        refine hn _ _ ⟨⟨_, rfl⟩, ?_⟩
        rw [tk, back_append]; simp only [back, if_pos hlt]
      · simp only [hlt, decide_false, kif0, ks_n, w_0]
        refine hn _ _ ⟨⟨_, rfl⟩, ?_⟩
        rw [tk, back_append]; simp only [back, if_neg hlt]
  · rintro σ' H' ⟨⟨u, rfl⟩, rfl⟩
    simp only [Nat.zero_add, List.length_map] at *
    rw [List.take_length]
    refine ⟨by rw [so_ref, so_ref, hj0, hj1], ?_⟩
    have ho1 : ∀ ys : List MVal, upd (upd H dx (3, 1) (.ns (flds sl fr .none (.ref oa) m r w))) sl (3, 2) (.list ys) oa = some ((3, 5), .list (of.map .int)) := fun ys => by
      rw [upd_ne _ _ _ (ne_tag ho P.s (by decide)), upd_ne _ _ _ (ne_tag ho P.d (by decide))]; exact ho
    simp only [oV_, v_n, v_l, v_a, kg_, kh_, kab_, kaa_, kdc_, kdb_, kda_, ks_n, w_1, s_aa, s_d, lg, a_fld (pS _) (dS _) (gL ..) T.r_old_length rfl, a_fld (pS _) (dS _) (gS ..) T.r_slots rfl, ds_list (i := m) (upd_same _ sl _ _) (by omega), upd_upd, a_fld (pS _) (dS _) (gO ..) T.r_old_free rfl, st_fld (pS _) (dS _) T.w_free (fl_len ..), pF]
    generalize hb : (back m xs ms).take m = ys
    have p2 : upd (upd (upd H dx (3, 1) (.ns (flds sl fr .none (.ref oa) m r w))) sl (3, 2) (.list ys)) dx (3, 1) (.ns (flds sl oa .none (.ref oa) m r w)) p = some ((3, 0), .inst N.C dx) := by rw [upd_ne _ _ _ m1]; exact pS _
    have d2 := upd_same (upd (upd H dx (3, 1) (.ns (flds sl fr .none (.ref oa) m r w))) sl (3, 2) (.list ys)) dx (3, 1) (.ns (flds sl oa .none (.ref oa) m r w))
    have j2 : upd (upd (upd H dx (3, 1) (.ns (flds sl fr .none (.ref oa) m r w))) sl (3, 2) (.list ys)) dx (3, 1) (.ns (flds sl oa .none .none m r w)) ja = some ((3, 4), .dict ep ms) := by rw [upd_ne _ _ _ nj]; exact hj1 _
    simp only [st_fld p2 d2 T.w_old_free (fl_len ..), pO, upd_upd, oV_, v_l, v_g, v_f, l_0, l_1, kw_, kf_, xl2_, xl1_, kh_, kr_, ks_n, ks_r, w_1, s_r, kB_r, lg, cw_bi, T.g_len, bi_len_dict j2, hlm]
    generalize hH : upd (upd (upd H dx (3, 1) (.ns (flds sl fr .none (.ref oa) m r w))) sl (3, 2) (.list ys)) dx (3, 1) (.ns (flds sl oa .none .none m r w)) = H₅
    have old : ∀ a t x, H a = some (t, x) → a ≠ dx → a ≠ sl → H₅ a = some (t, x) := fun a t x h n1 n2 => by rw [← hH, upd_ne _ _ _ n1, upd_ne _ _ _ n2, upd_ne _ _ _ n1]; exact h
    have no : oa ≠ dx := ne_tag ho P.d (by decide)
    have no2 : oa ≠ sl := ne_tag ho P.s (by decide)
    -- the free list takes another mark
    refine ⟨upd (mov H₅) oa (3, 3) (.list (of.map .int)), (mov_same H₅).trans (Same.retag (t := (3, 5)) (mov_at (old _ _ _ ho no no2) (by decide))), hQ _ ?_ ?_⟩
    · have at5 : ∀ a t x, H₅ a = some (t, x) → t.1 ≠ 2 → a ≠ oa → upd (mov H₅) oa (3, 3) (.list (of.map .int)) a = some (t, x) := fun a t x h n1 n2 => by rw [upd_ne _ _ _ n2]; exact mov_at h n1
      refine ⟨dx, sl, oa, ys, .none, .none, m, r, w, ⟨at5 _ _ _ (old _ _ _ P.p m1 m2) (by decide) (ne_tag P.p ho (by decide)), at5 _ _ _ (by rw [← hH]; exact upd_same _ _ _ _) (by decide) no.symm, at5 _ _ _ (by rw [← hH, upd_ne _ _ _ m4.symm]; exact upd_same _ _ _ _) (by decide) no2.symm, upd_same _ _ _ _, ?_, fun i v s a b => ?_, rfl⟩⟩
      · rw [← hb]; simp [back_length, P.len]
      · have := back_rel (R := fun i v q => PgR H (1, i) v q ∨ PgR H (2, i) v q) m ms es xs A.slots hm hk (fun i k v q a b => .inr (hp i k v q a b)) P.len (fun i v q a b => .inl (P.pg i v q a b)) i v s ?_ ?_
        · cases s with
          | none => rcases this with h | h <;> exact h
          | some l =>
            rcases this with ⟨q, e, hq⟩ | ⟨q, e, hq⟩
            · exact ⟨q, e, at5 _ _ _ (old _ _ _ hq (ne_tag hq P.d (by simp)) (ne_tag hq P.s (by simp))) (by simp) (ne_tag hq ho (by simp))⟩
            · refine ⟨q, e, ?_⟩
              rw [upd_ne _ _ _ (ne_tag hq ho (by simp))]
              exact mov_at2 (old _ _ _ hq (ne_tag hq P.d (by simp)) (ne_tag hq P.s (by simp)))
        · rw [← hb] at a; rw [List.getElem?_take] at a; split at a
          · exact a
          · cases a
        · have b : ((back m A.slots es).take m)[i]? = some s := b
          rw [List.getElem?_take] at b; split at b
          · exact b
          · cases b
    · intro a t x ha ht
      have g : ∀ {b : Addr} {t' : Tag} {o : MObj}, H b = some (t', o) → t'.1 ≠ 0 → a ≠ b := fun h n => ne_tag ha h (by rintro rfl; exact n ht)
      rw [upd_ne _ _ _ (g ho (by decide))]
      exact mov_at (old _ _ _ ha (g P.d (by decide)) (g P.s (by decide))) (by rw [ht]; decide)
end U9
end Mine
end
section
set_option autoImplicit false
set_option linter.unusedVariables false
set_option linter.unusedSimpArgs false
namespace Mine
open PySem
theorem mapO_some {α β : Type} (f : α → Option β) (g : α → β) : ∀ (l : List α), (∀ x ∈ l, f x = some (g x)) → mapO f l = some (l.map g)
  | [], _ => rfl
  | x :: r, h => mapO_c (h x (.head _)) (mapO_some f g r fun y hy => h y (.tail _ hy))
theorem mapO_ints (H : MH) (n : Nat) : ∀ l : List Int, mapO (rd H (n + 1)) (l.map .int) = some (l.map .int)
  | [] => rfl
  | _ :: l => mapO_c (rd_i ..) (mapO_ints H n l)
theorem rd_ints {H : MH} {a : Addr} {t : Tag} {l : List Int} (n : Nat) (h : H a = some (t, .list (l.map .int))) : rd H (n + 2) (.ref a) = some (.list (l.map .int)) := by
  rw [rd_l h, mapO_ints H n l]; rfl
theorem eqvAll_ints : ∀ l : List Int, PyData.eqvAll (l.map .int) (l.map .int) = true
  | [] => rfl
  | x :: l => by rw [List.map_cons, ea_c, ev_i, eqvAll_ints l, beq_self_eq_true]; rfl
theorem eq_ints {H : MH} {a b : Addr} {t t' : Tag} {l : List Int} (h : H a = some (t, .list (l.map .int))) (h' : H b = some (t', .list (l.map .int))) : eqM H (.ref a) (.ref b) = some true := by
  rw [eqM_t (rd_ints 58 h) (rd_ints 58 h'), ev_l, eqvAll_ints]
theorem eq_int (H : MH) (a b : Int) : eqM H (.int a) (.int b) = some (a == b) := rfl
namespace U9
variable {c : Cfg} {N : Nm} {d : Nat} {H H' : MH} {Z : Addr → MH → Prop} {Q : MVal → MH → Prop} {p dx sl fr : Addr} {xs : List MVal} {j o : MVal} {ol r w : Int} {A : PS}

/-- slots, as another list holds them -/
noncomputable def LR (H : MH) (ys : List MVal) (s : Sl) : Prop := ys.length = s.length ∧ ∀ (i : Nat) v q, ys[i]? = some v → s[i]? = some q → (q = none → v = .none) ∧ ∀ l, q = some l → ∃ b t, v = .ref b ∧ H b = some (t, .list (l.map .int))
noncomputable def optD : Option (List Int) → PyData
  | none => .none
  | some l => .list (l.map .int)
theorem rd_slots {a : Addr} {t : Tag} {ys : List MVal} {s : Sl} (n : Nat) (h : H a = some (t, .list ys)) (hr : LR H ys s) : rd H (n + 3) (.ref a) = some (.list (s.map optD)) := by
  rw [rd_l h]
  have : mapO (rd H (n + 2)) ys = some (s.map optD) := by
    clear h
    induction ys generalizing s with
    | nil => cases s with
      | nil => rfl
      | cons _ _ => exact absurd hr.1 (by simp)
    | cons y ys ih => cases s with
      | nil => exact absurd hr.1 (by simp)
      | cons q s =>
        have ih := ih (s := s) ⟨by have := hr.1; simpa using this, fun i v q a b => hr.2 (i + 1) v q (by simpa using a) (by simpa using b)⟩
        have h0 := hr.2 0 y q rfl rfl
        have : rd H (n + 2) y = some (optD q) := by
          cases q with
          | none => rw [h0.1 rfl]; rfl
          | some l => obtain ⟨b, t, e, hb⟩ := h0.2 l rfl; rw [e]; exact rd_ints n hb
        exact mapO_c this ih
  rw [this]; rfl
theorem eqvAll_opt : ∀ s : Sl, PyData.eqvAll (s.map optD) (s.map optD) = true
  | [] => rfl
  | none :: l => by rw [List.map_cons, ea_c, eqvAll_opt l]; rfl
  | some x :: l => by rw [List.map_cons, ea_c, eqvAll_opt l]; exact congrArg (· && true) (eqvAll_ints x)
theorem eq_slots {a b : Addr} {t t' : Tag} {ys zs : List MVal} {s : Sl} (h : H a = some (t, .list ys)) (hr : LR H ys s) (h' : H b = some (t', .list zs)) (hr' : LR H zs s) : eqM H (.ref a) (.ref b) = some true := by
  rw [eqM_t (rd_slots 57 h hr) (rd_slots 57 h' hr'), ev_l, eqvAll_opt]
theorem LR.keep {ys : List MVal} {s : Sl} (k : Keep H H') (x : LR H ys s) : LR H' ys s := ⟨x.1, fun i v q a b => ⟨(x.2 i v q a b).1, fun l e => let ⟨b', t, e', h⟩ := (x.2 i v q a b).2 l e; ⟨b', t, e', k _ _ h⟩⟩⟩

theorem dump_ok (T : Tx c N) (P : PInv N H p A) (sm : Small A) (hQ : ∀ r1 r2 ys H', Keep H H' → H' r1 = some (t0, .list ys) → LR H' ys A.slots → H' r2 = some (t0, .list (A.free.map .int)) → Q (.tup [.ref r1, .ref r2]) H') : CallOK c (d + 2) true N.Pages_dump [.ref p] H Q Z := by
  obtain ⟨dx, sl, fr, xs, j, o, ol, r, w, P⟩ := P
  refine T.b_Pages_dump.2 (d + 1) true _ H _ _ rfl ?_
  have hs := sm.s
  simp only [s_Pages_dump, oV_, oI_, v_l, v_a, v_tu, v_p, l_1, kg_, kp_, w_1, s_r, lg, List.cons_append, List.nil_append, true_and, List.length_nil, List.length_cons, List.map_cons, List.map_nil, List.replicate, Nat.reduceSub, Nat.reduceAdd, a_fld P.p P.d (gS ..) T.r_slots rfl, it_list P.s]
  refine ⟨by decide, by rw [P.len]; exact r4 (by assumption) (by decide), compW_inv (fun i acc H' => Keep H H' ∧ LR H' acc (A.slots.take i)) _ 0 ⟨Keep.rfl' H, rfl, fun i v q a => by simp at a⟩ ?_ ?_⟩
  · rintro i v acc H' k hi ⟨kp, lr⟩ hs hn
    simp only [Nat.zero_add] at *
    have hi2 : i < A.slots.length := by rw [← P.len]; exact lt_of_some hi
    obtain ⟨q, hq⟩ : ∃ q, A.slots[i]? = some q := ⟨A.slots[i], by simp [hi2]⟩
    refine ⟨by rw [so_ref, so_ref, P.s, kp _ _ P.s], ?_⟩
    simp only [oV_, v_l, v_g, v_f, l_0, l_1, t_0, kw_, kf_, kp21, kp1_, xl2_, xl1_, lg, ls, cw_ref, T.g_copied]
    refine ⟨T.b_copied.1, ?_⟩
    have pg := P.pg i v q hi hq
    have step : ∀ u H₂, Keep H' H₂ → ((q = none → u = .none) ∧ ∀ l, q = some l → ∃ b t, u = .ref b ∧ H₂ b = some (t, .list (l.map .int))) → LR H₂ (acc ++ [u]) (A.slots.take (i + 1)) := by
      intro u H₂ k2 hu
      have lr2 := lr.keep k2
      have e : A.slots.take (i + 1) = A.slots.take i ++ [q] := by rw [List.take_add_one, hq]; rfl
      rw [e]
      refine ⟨by simp [lr.1], fun i' v' q' a b => ?_⟩
      rcases Nat.lt_trichotomy i' acc.length with h | h | h
      · rw [List.getElem?_append_left h] at a
        rw [List.getElem?_append_left (by rw [← lr.1]; exact h)] at b
        exact lr2.2 i' v' q' a b
      · subst h
        rw [List.getElem?_append_right (Nat.le_refl _)] at a
        rw [lr.1, List.getElem?_append_right (Nat.le_refl _)] at b
        simp at a b
        subst a; subst b
        exact hu
      · rw [List.getElem?_append_right (Nat.le_of_lt (by assumption)), List.getElem?_eq_none (by simp; exact Nat.sub_pos_of_lt (by assumption))] at a; cases a
    cases q with
    | none =>
      have pg : v = .none := pg
      subst pg
      exact copied_none T (hs _ _ ⟨kp, step _ _ (Keep.rfl' _) ⟨fun _ => rfl, fun l h => (by cases h)⟩⟩)
    | some l =>
      obtain ⟨a, rfl, ha⟩ := pg
      refine copied_ok T (kp _ _ ha) (sm.p l (List.mem_of_getElem? hq)) fun r' hr => ?_
      refine hs _ _ ⟨kp.trans ((Keep.rfl' _).new hr), step _ _ ((Keep.rfl' _).new hr) ⟨fun h => (by cases h), fun l' h => ?_⟩⟩
      cases h
      exact ⟨r', t0, rfl, upd_same _ _ _ _⟩
  · rintro acc H' ⟨kp, lr⟩
    simp only [Nat.zero_add, P.len, List.take_length] at *
    refine ⟨by rw [so_ref, so_ref, P.s, kp _ _ P.s], fun r1 hr1 => ?_⟩
    have k1 : Keep H' (upd H' r1 t0 (.list acc)) := (Keep.rfl' _).new hr1
    have P1 := P.keep (kp.trans k1)
    simp only [oV_, v_l, v_g, v_a, v_f, l_0, l_1, kg_, kt_, kw_, kf_, xl2_, xl1_, kr_, ks_r, kB_r, lg, cw_ty, List.length_nil, List.length_cons, T.g_list, a_fld P1.p P1.d (gF ..) T.r_free rfl, ty_list P1.f, allocW]
    intro r2 hr2
    have k2 : Keep (upd H' r1 t0 (.list acc)) (upd (upd H' r1 t0 (.list acc)) r2 t0 (.list (A.free.map .int))) := (Keep.rfl' _).new hr2
    exact ⟨by decide, hQ r1 r2 acc _ ((kp.trans k1).trans k2) (k2 _ _ (upd_same _ _ _ _)) (lr.keep (k1.trans k2)) (upd_same _ _ _ _)⟩

theorem i1 (v : MVal) : fset [] "_slots" v = ([("_slots", v)] : List (Str × MVal)) := rfl
theorem i2 (a v : MVal) : fset [("_slots", a)] "_free" v = ([("_slots", a), ("_free", v)] : List (Str × MVal)) := rfl
theorem i3 (a b v : MVal) : fset [("_slots", a), ("_free", b)] "_journal" v = ([("_slots", a), ("_free", b), ("_journal", v)] : List (Str × MVal)) := rfl
theorem i4 (a b c v : MVal) : fset [("_slots", a), ("_free", b), ("_journal", c)] "_old_free" v = ([("_slots", a), ("_free", b), ("_journal", c), ("_old_free", v)] : List (Str × MVal)) := rfl
theorem i5 (a b c d v : MVal) : fset [("_slots", a), ("_free", b), ("_journal", c), ("_old_free", d)] "_old_length" v = ([("_slots", a), ("_free", b), ("_journal", c), ("_old_free", d), ("_old_length", v)] : List (Str × MVal)) := rfl
theorem i6 (a b c d e v : MVal) : fset [("_slots", a), ("_free", b), ("_journal", c), ("_old_free", d), ("_old_length", e)] "reads" v = ([("_slots", a), ("_free", b), ("_journal", c), ("_old_free", d), ("_old_length", e), ("reads", v)] : List (Str × MVal)) := rfl
theorem i7 (a b c d e f v : MVal) : fset [("_slots", a), ("_free", b), ("_journal", c), ("_old_free", d), ("_old_length", e), ("reads", f)] "writes" v = ([("_slots", a), ("_free", b), ("_journal", c), ("_old_free", d), ("_old_length", e), ("reads", f), ("writes", v)] : List (Str × MVal)) := rfl
/-- a new Pages -/
theorem mk_ok (T : Tx c N) (hQ : ∀ p H', PInv N H' p ⟨[none], [], none⟩ → Keep H H' → Q (.ref p) H') : CallOK c (d + 2) true N.C [] H Q Z := by
  refine T.mk_C (d + 1) true H Q Z fun p dx hp hd ne => CallOK.post (T.b_Pages_init.2 d true _ _ _ _ rfl ?_)
  have p0 : upd (upd H dx t0 (.ns [])) p t0 (.inst N.C dx) p = some (t0, .inst N.C dx) := upd_same _ _ _ _
  have d0 : upd (upd H dx t0 (.ns [])) p t0 (.inst N.C dx) dx = some (t0, .ns []) := by rw [upd_ne _ _ _ ne.symm]; exact upd_same _ _ _ _
  have k0 : Keep H (upd (upd H dx t0 (.ns [])) p t0 (.inst N.C dx)) := ((Keep.rfl' H).new hd).new hp
  generalize upd (upd H dx t0 (.ns [])) p t0 (.inst N.C dx) = H₀ at *
  simp only [s_Pages_init, oV_, v_n, v_l, v_li, l_0, l_1, kl_, xl2_, xl1_, kab_, kaa_, w_1, s_aa, lg, List.append_nil, List.length_nil, List.length_cons, List.map_cons, List.map_nil, List.replicate, Nat.reduceSub, Nat.reduceAdd, allocW]
  refine ⟨by decide, fun r1 hr1 => ?_⟩
  have n1 := ne_new p0 hr1
  have n2 := ne_new d0 hr1
  have p1 : upd H₀ r1 t0 (.list [.none]) p = some (t0, .inst N.C dx) := by rw [upd_ne _ _ _ n1]; exact p0
  have d1 : upd H₀ r1 t0 (.list [.none]) dx = some (t0, .ns []) := by rw [upd_ne _ _ _ n2]; exact d0
  simp only [v_li, l_0, kl_, kh_, ks_n, w_1, s_aa, List.length_nil, st_fld p1 d1 T.w_slots (by decide), i1]
  refine ⟨by decide, fun r2 hr2 => ?_⟩
  have q1 : upd (upd H₀ r1 t0 (.list [.none])) dx t0 (.ns [("_slots", .ref r1)]) r1 = some (t0, .list [.none]) := by rw [upd_ne _ _ _ n2.symm]; exact upd_same _ _ _ _
  have p2 : upd (upd H₀ r1 t0 (.list [.none])) dx t0 (.ns [("_slots", .ref r1)]) p = some (t0, .inst N.C dx) := by rw [upd_ne _ _ _ ne]; exact p1
  have d2 := upd_same (upd H₀ r1 t0 (.list [.none])) dx t0 (.ns [("_slots", .ref r1)])
  have m1 := ne_new p2 hr2
  have m2 := ne_new d2 hr2
  have m3 := ne_new q1 hr2
  have f : ∀ ns, upd (upd (upd (upd H₀ r1 t0 (.list [.none])) dx t0 (.ns [("_slots", .ref r1)])) r2 t0 (.list [])) dx t0 (.ns ns) p = some (t0, .inst N.C dx) := fun ns => by rw [upd_ne _ _ _ ne, upd_ne _ _ _ m1]; exact p2
  have p3 : upd (upd (upd H₀ r1 t0 (.list [.none])) dx t0 (.ns [("_slots", .ref r1)])) r2 t0 (.list []) p = some (t0, .inst N.C dx) := by rw [upd_ne _ _ _ m1]; exact p2
  have d3 : upd (upd (upd H₀ r1 t0 (.list [.none])) dx t0 (.ns [("_slots", .ref r1)])) r2 t0 (.list []) dx = some (t0, .ns [("_slots", .ref r1)]) := by rw [upd_ne _ _ _ m2]; exact d2
  simp only [oV_, v_n, v_i, v_l, kh_, kab_, kaa_, ks_n, w_0, w_1, s_aa, kB_n, lg, true_and, List.length_nil, List.length_cons, st_fld p3 d3 T.w_free, i2, i3, i4, i5, i6, i7, upd_upd, st_fld (f _) (upd_same _ dx _ _) T.w_journal, st_fld (f _) (upd_same _ dx _ _) T.w_old_free, st_fld (f _) (upd_same _ dx _ _) T.w_old_length, st_fld (f _) (upd_same _ dx _ _) T.w_reads, st_fld (f _) (upd_same _ dx _ _) T.w_writes,
    List.length_cons, List.length_nil, Nat.zero_add, Nat.reduceAdd, Nat.reduceLT]
  have q2 : H₀ r2 = none := by rw [upd_ne _ _ _ m2.symm, upd_ne _ _ _ m3.symm] at hr2; exact hr2
  generalize hG : upd (upd (upd (upd H₀ r1 t0 (.list [.none])) dx t0 (.ns [("_slots", .ref r1)])) r2 t0 (.list [])) dx t0 (.ns (flds r1 r2 .none .none 0 0 0)) = G
  have gp : G p = some (t0, .inst N.C dx) := by rw [← hG]; exact f _
  have gd : G dx = some (t0, .ns (flds r1 r2 .none .none 0 0 0)) := by rw [← hG]; exact upd_same _ _ _ _
  have g1 : G r1 = some (t0, .list [.none]) := by rw [← hG, upd_ne _ _ _ n2.symm, upd_ne _ _ _ m3]; exact q1
  have g2 : G r2 = some (t0, .list []) := by rw [← hG, upd_ne _ _ _ m2.symm]; exact upd_same _ _ _ _
  have gk : ∀ a x, H a = some x → G a = some x ∧ a ≠ p ∧ a ≠ dx ∧ a ≠ r1 ∧ a ≠ r2 := fun a x h => by
    have h0 := k0 a x h
    have h1 := ne_new h hp
    have h2 := ne_new h hd
    have h3 := ne_new h0 hr1
    have h4 := ne_new h0 q2
    refine ⟨?_, h1, h2, h3, h4⟩
    rw [← hG, upd_ne _ _ _ h2, upd_ne _ _ _ h4, upd_ne _ _ _ h2, upd_ne _ _ _ h3]; exact h0
  refine ⟨upd (upd (upd (upd G p (3, 0) (.inst N.C dx)) dx (3, 1) (.ns (flds r1 r2 .none .none 0 0 0))) r1 (3, 2) (.list [.none])) r2 (3, 3) (.list []), ?_, hQ p _ ⟨dx, r1, r2, [.none], .none, .none, 0, 0, 0, ⟨?_, ?_, ?_, upd_same _ _ _ _, rfl, fun i v s a b => ?_, rfl⟩⟩ fun a x h => ?_⟩
  · change Same (upd (upd (upd (upd H₀ r1 t0 (.list [.none])) dx t0 (.ns [("_slots", .ref r1)])) r2 t0 (.list [])) dx t0 (.ns (flds r1 r2 .none .none 0 0 0))) _
    rw [hG]
    refine (((Same.retag gp).trans (Same.retag (t := t0) ?_)).trans (Same.retag (t := t0) ?_)).trans (Same.retag (t := t0) ?_)
    · rw [upd_ne _ _ _ ne.symm]; exact gd
    · rw [upd_ne _ _ _ n2.symm, upd_ne _ _ _ n1.symm]; exact g1
    · rw [upd_ne _ _ _ m3.symm, upd_ne _ _ _ m2.symm, upd_ne _ _ _ m1.symm]; exact g2
  · rw [upd_ne _ _ _ m1, upd_ne _ _ _ n1, upd_ne _ _ _ ne]; exact upd_same _ _ _ _
  · rw [upd_ne _ _ _ m2, upd_ne _ _ _ n2]; exact upd_same _ _ _ _
  · rw [upd_ne _ _ _ m3]; exact upd_same _ _ _ _
  · cases i with
    | zero => simp at a b; subst a; subst b; rfl
    | succ i => simp at a
  · obtain ⟨h0, h1, h2, h3, h4⟩ := gk a x h
    rw [upd_ne _ _ _ h4, upd_ne _ _ _ h3, upd_ne _ _ _ h2, upd_ne _ _ _ h1]; exact h0
end U9
end Mine
end
section
set_option autoImplicit false
set_option linter.unusedVariables false
set_option linter.unusedSimpArgs false
namespace Mine
open PySem
/-- a while loop, by an invariant that falls and what holds behind it -/
theorem whileW_inv {test : BT} {body : ST} {K : MFlow → Lcs → MH → Prop} (I : Nat → Lcs → MH → Prop) (Post : Lcs → MH → Prop) {n : Nat} {σ : Lcs} {H : MH} (h0 : I n σ H)
    (hs : ∀ n σ H (K' : MFlow → Lcs → MH → Prop) (E : Lcs → MH → Prop), I n σ H → (∀ m σ' H', m < n → I m σ' H' → K' .next σ' H') → (∀ m σ' H', m < n → I m σ' H' → K' .cont σ' H') → (∀ σ' H', K .next σ' H' → K' .brk σ' H') → (∀ v σ' H', K (.ret v) σ' H' → K' (.ret v) σ' H') →
      (∀ σ' H', Post σ' H' → E σ' H') → test σ H (fun r H₁ => if r then body σ H₁ K' else E σ H₁) (fun _ _ => False))
    (he : ∀ σ H, Post σ H → K .next σ H) : whileW test body σ H K :=
  ⟨I, n, h0, fun n σ H hI => hs n σ H _ (fun σ H₁ => K .next σ H₁) hI (fun m σ' H' hm h => ⟨m, hm, h⟩) (fun m σ' H' hm h => ⟨m, hm, h⟩) (fun _ _ h => h) (fun _ _ _ h => h) he⟩
namespace U9
variable {c : Cfg} {N : Nm} {d : Nat} {H H' : MH} {Z : Addr → MH → Prop} {Q : MVal → MH → Prop} {p dx sl fr : Addr} {xs : List MVal} {j o : MVal} {ol r w : Int} {A : PS}

/-- the ints of a list that pass a test -/
noncomputable def intF (f : Int → Bool) : MVal → Option MVal
  | .int i => if f i then some (.int i) else none
  | _ => none
theorem intF_map (f : Int → Bool) (l : List Int) : (l.map MVal.int).filterMap (intF f) = (l.filter f).map .int := by
  induction l with
  | nil => rfl
  | cons x l ih =>
    simp only [List.map_cons, List.filterMap_cons, intF, List.filter_cons]
    cases f x <;> simp [ih]

theorem PAt.takeS (P : PAt N H p dx sl fr xs j o ol r w A) (n : Nat) : PAt N (Mine.upd H sl (3, 2) (.list (xs.take n))) p dx sl fr (xs.take n) j o ol r w { A with slots := A.slots.take n } := by
  obtain ⟨⟨n1, n2, n3⟩, ⟨n4, n5⟩, n6⟩ := P.nes
  refine ⟨?_, ?_, upd_same _ _ _ _, ?_, by simp [P.len], fun i u s' a b => ?_, P.jr.upd (by simp [P.s]) (by simp [P.s]) (by simp [P.s])⟩
  · rw [upd_ne _ _ _ n2]; exact P.p
  · rw [upd_ne _ _ _ n4]; exact P.d
  · rw [upd_ne _ _ _ n6.symm]; exact P.f
  · have b : (A.slots.take n)[i]? = some s' := b
    rw [List.getElem?_take] at a b
    split at a
    · rename_i h; rw [if_pos h] at b; exact (P.pg i u s' a b).upd (by simp [P.s])
    · cases a

theorem trim_ok (T : Tx c N) (P : PInv N H p A) (sm : Small A) (hb : A.jr = none) {last : Nat} (hl : last < A.slots.length) (hs : last = 0 ∨ ∃ l, A.slots[last]? = some (some l)) (ht : ∀ i, last < i → i < A.slots.length → A.slots[i]? = some none)
    (hQ : ∀ H', PInv N H' p { A with slots := A.slots.take (last + 1), free := A.free.filter fun n => decide (n < (last : Int) + 1) } → Fr H H' → Q (.int ((A.slots.length : Int) - 1 - last)) H') : CallOK c (d + 1) true N.Pages_trim [.ref p] H Q Z := by
  obtain ⟨dx, sl, fr, xs, j, o, ol, r, w, P⟩ := P
  refine CallOK.post (T.b_Pages_trim.2 d true _ H _ _ rfl ?_)
  have jr := P.jr
  rw [hb] at jr
  have jr : j = .none := jr
  subst jr
  have hle := P.len
  obtain ⟨⟨m1, m2, m3⟩, ⟨m4, m5⟩, m6⟩ := P.nes
  have hf := sm.f
  have pS : ∀ ys : List MVal, upd H sl (3, 2) (.list ys) p = some ((3, 0), .inst N.C dx) := fun ys => by rw [upd_ne _ _ _ m2]; exact P.p
  have dS : ∀ ys : List MVal, upd H sl (3, 2) (.list ys) dx = some ((3, 1), .ns (flds sl fr .none o ol r w)) := fun ys => by rw [upd_ne _ _ _ m4]; exact P.d
  have self0 : upd H sl (3, 2) (.list xs) = H := by
    funext b; by_cases e : b = sl
    · subst e; rw [upd_same]; exact P.s.symm
    · rw [upd_ne _ _ _ e]
  simp only [s_Pages_trim, oV_, oT_, oM_, v_n, v_i, v_l, v_c, v_a, b_c, tv_, kc2_, kc1_, kg_, kas_, kif0, ks_n, w_0, w_1, s_a, s_i, s_w, lg, ls, List.cons_append, List.nil_append, cm_isnt, is_nn, tr_b, Option.map_some, Bool.not_true, List.map_cons, List.map_nil, List.replicate, Nat.reduceSub, a_fld P.p P.d (gJ ..) T.r_journal rfl]
  refine whileW_inv (fun n σ' H' => (∃ u, σ' = [some (.ref p), some (.int ((A.slots.length : Int) - 1 - last - n)), u]) ∧ n ≤ A.slots.length - 1 - last ∧ H' = upd H sl (3, 2) (.list (xs.take (last + 1 + n))))
    (fun σ' H' => (∃ u, σ' = [some (.ref p), some (.int ((A.slots.length : Int) - 1 - last)), u]) ∧ H' = upd H sl (3, 2) (.list (xs.take (last + 1)))) (n := A.slots.length - 1 - last) ⟨⟨none, ?_⟩, Nat.le_refl _, ?_⟩ ?_ ?_
  · congr 2; congr 1; congr 1; omega
  · rw [List.take_of_length_le (by omega), self0]
  · rintro n σ' H' K' E ⟨⟨u, rfl⟩, hn, rfl⟩ hnx - - - hE
    have hlt : last + n < xs.length := by omega
    obtain ⟨v, hv⟩ : ∃ v, xs[last + n]? = some v := ⟨xs[last + n], by simp [hlt]⟩
    have tk : xs.take (last + 1 + n) = xs.take (last + n) ++ [v] := by
      rw [show last + 1 + n = (last + n) + 1 by exact (Nat.add_right_comm ..).symm, List.take_add_one, hv]; rfl
    have sS : upd H sl (3, 2) (.list (xs.take (last + 1 + n))) sl = some ((3, 2), .list (xs.take (last + n) ++ [v])) := by rw [upd_same, tk]
    have hlen : (xs.take (last + n) ++ [v]).length = last + 1 + n := by simp; omega
    simp only [oV_, oT_, oM_, v_i, v_l, v_g, v_c, v_a, v_f, v_k, b_and, b_c, l_0, l_1, tv_, kc2_, kc1_, kg_, kw_, kf_, xl2_, xl1_, w_1, s_e, lg, cw_bi, cm_gt, tr_b, T.g_len, a_fld (pS _) (dS _) (gS ..) T.r_slots rfl, bi_len_list sS, hlen]
    cases n with
    | succ n =>
      have hvn : v = .none := P.pg (last + (n + 1)) v none hv (ht _ (by omega) (by omega))
      subst hvn
      have e1 : decide (((last + 1 + (n + 1) : Nat) : Int) > 1) = true := by simp; omega
      simp only [e1, oV_, oT_, oM_, v_n, v_i, v_l, v_o, v_m, v_c, v_a, v_u, b_c, l_0, tv_, k2_, k1_, kn_, kat1, kc2_, kc1_, kg_, ks2_, ks1_, km3_, km2_, km_, ke_, kas_, ks_n, w_0, w_1, s_a, lg, ls, cw_bi, List.append_nil, cm_is, is_nn, tr_b, bw_add, if_true, a_fld (pS _) (dS _) (gS ..) T.r_slots rfl, sub_last sS, m_pop sS, bi_pop sS, upd_upd]
      refine hnx n _ _ (Nat.lt_succ_self n) ⟨⟨u, ?_⟩, by exact Nat.le_of_lt (by assumption), ?_⟩
      · congr 2; congr 1; congr 1; omega
      · rw [show last + 1 + n = last + (n + 1) by exact (Nat.add_right_comm ..).symm]
    | zero =>
      have fin : E [some (.ref p), some (.int ((A.slots.length : Int) - 1 - last - (0 : Nat))), u] (upd H sl (3, 2) (.list (xs.take (last + 1 + 0)))) := hE _ _ ⟨⟨u, by simp⟩, rfl⟩
      by_cases h1 : last = 0
      · have e1 : decide (((last + 1 + 0 : Nat) : Int) > 1) = false := by simp; omega
        simp only [e1, kat0, Bool.false_eq_true, if_false]
        exact fin
      · have e1 : decide (((last + 1 + 0 : Nat) : Int) > 1) = true := by simp; omega
        obtain ⟨l, hl2⟩ := hs.resolve_left h1
        obtain ⟨a, rfl, _⟩ := P.pg (last + 0) v (some l) hv hl2
        simp only [e1, oV_, oT_, oM_, v_n, v_i, v_l, v_m, v_c, v_a, v_u, b_c, tv_, kn_, kat1, kc2_, kc1_, kg_, ks2_, ks1_, km_, lg, cm_is, is_rn, tr_b, Bool.false_eq_true, if_false, a_fld (pS _) (dS _) (gS ..) T.r_slots rfl, sub_last sS]
        exact fin
  · rintro σ' H' ⟨⟨u, rfl⟩, rfl⟩
    have P1 := P.takeS (last + 1)
    have sm1 : (xs.take (last + 1)).length = last + 1 := by simp; omega
    simp only [oV_, oI_, v_l, v_a, v_p, kg_, kp_, ks_n, w_1, s_aa, lg, true_and, List.length_nil, List.length_cons, a_fld P1.p P1.d (gF ..) T.r_free rfl, it_list P1.f]
    refine ⟨by decide, by simp; exact r4 (by assumption) (by decide), compW_pure (intF fun n => decide (n < (last : Int) + 1)) rfl _ _ ?_ ?_⟩
    · intro v hv k hk
      simp only [List.mem_map] at hv
      obtain ⟨i, hi, rfl⟩ := hv
      simp only [oV_, oT_, oM_, v_l, v_g, v_c, v_a, v_f, b_c, l_0, l_1, t_1, tv_, kc2_, kc1_, kg_, kw_, kf_, kp1_, xl2_, xl1_, lg, ls, cw_bi, cm_lt, tr_b, T.g_len, a_fld P1.p P1.d (gS ..) T.r_slots rfl, bi_len_list P1.s, sm1]
      have e : (((last + 1 : Nat) : Int)) = (last : Int) + 1 := by exact rfl
      rw [e]
      cases hd : decide (i < (last : Int) + 1) with
      | true => simp only [intF, hd] at hk; simp only [oV_, v_l, t_0, kp3_, kp21, xt11, lg]; simpa using hk
      | false => simp only [intF, hd] at hk; simp only [kp20, xt10]; simpa using hk
    · rw [List.nil_append, intF_map]
      intro r' hr
      have P2 := P1.keep ((Keep.rfl' _).new (t := t0) (o := .list ((A.free.filter fun n => decide (n < (last : Int) + 1)).map .int)) hr)
      have nd : dx ≠ r' := ne_new P1.d hr
      simp only [oV_, v_l, kh_, kr_, kab_, kaa_, ks_n, ks_r, w_1, s_r, kB_r, lg, st_fld P2.p P2.d T.w_free (fl_len ..), pF]
      generalize hG : upd (upd (upd H sl (3, 2) (.list (xs.take (last + 1)))) r' t0 (.list ((A.free.filter fun n => decide (n < (last : Int) + 1)).map .int))) dx (3, 1) (.ns (flds sl r' .none o ol r w)) = G
      have gr : G r' = some (t0, .list ((A.free.filter fun n => decide (n < (last : Int) + 1)).map .int)) := by rw [← hG, upd_ne _ _ _ nd.symm, upd_same]
      have old : ∀ a x, upd H sl (3, 2) (.list (xs.take (last + 1))) a = some x → a ≠ dx → G a = some x ∧ a ≠ r' := fun a x h n => ⟨by rw [← hG, upd_ne _ _ _ n, upd_ne _ _ _ (ne_new h hr)]; exact h, ne_new h hr⟩
      refine ⟨upd G r' (3, 3) (.list ((A.free.filter fun n => decide (n < (last : Int) + 1)).map .int)), Same.retag gr, hQ _ ?_ ?_⟩
      · refine ⟨dx, sl, r', xs.take (last + 1), .none, o, ol, r, w, ⟨?_, ?_, ?_, upd_same _ _ _ _, P1.len, fun i v s a b => ?_, ?_⟩⟩
        · obtain ⟨h, n⟩ := old _ _ P1.p m1; rw [upd_ne _ _ _ n]; exact h
        · rw [upd_ne _ _ _ nd, ← hG, upd_same]
        · obtain ⟨h, n⟩ := old _ _ P1.s m4.symm; rw [upd_ne _ _ _ n]; exact h
        · have := P1.pg i v s a b
          cases s with
          | none => exact this
          | some l => obtain ⟨q, e, hq⟩ := this; obtain ⟨h, n⟩ := old _ _ hq (ne_tag hq P1.d (by simp)); exact ⟨q, e, by rw [upd_ne _ _ _ n]; exact h⟩
        · show JR _ _ _ _ A.jr
          rw [hb]; rfl
      · intro a t x ha ht'
        have g : ∀ {b : Addr} {t' : Tag} {o : MObj}, H b = some (t', o) → t'.1 ≠ 0 → a ≠ b := fun h n => ne_tag ha h (by rintro rfl; exact n ht')
        obtain ⟨h, n⟩ := old a (t, x) (by rw [upd_ne _ _ _ (g P.s (by decide))]; exact ha) (g P.d (by decide))
        rw [upd_ne _ _ _ n]; exact h

theorem faults_ok (T : Tx c N) (P : PInv N H p A) (sm : Small A) (h0 : A.slots[0]? = some none) (hfr : ∀ ns : List Int, ns.Perm A.free → ns.Pairwise (· ≤ ·) → ns = pick false 1 A.slots) (hlf : A.free.length < 64)
    (hQ : ∀ r H', Keep H H' → H' r = some (t0, .list []) → Q (.ref r) H') : CallOK c (d + 1) true N.Pages_faults [.ref p] H Q Z := by
  obtain ⟨dx, sl, fr, xs, j, o, ol, r, w, P⟩ := P
  refine T.b_Pages_faults.2 d true _ H _ _ rfl ?_
  have hle := P.len
  have hls := sm.s
  have hpos := lt_of_some h0
  simp only [s_Pages_faults, oV_, v_l, v_g, v_c, v_a, v_li, v_f, b_or, b_c, l_0, l_1, kg_, kl_, kf_, kas_, ks_n, w_1, s_a, s_i, lg, ls, List.cons_append, List.nil_append, List.length_nil, List.map_cons, List.map_nil, List.replicate, Nat.reduceSub, T.g_len, allocW]
  refine ⟨by decide, fun r0 hr0 => ?_⟩
  have k0 : Keep H (upd H r0 t0 (.list [])) := (Keep.rfl' H).new hr0
  have P1 := P.keep k0
  obtain ⟨v, hv, hvs⟩ := P1.sr.is (i := 0) hpos
  have e1 : (((xs.length : Nat) : Int) == 0) = false := by rw [beq_eq_false_iff_ne]; omega
  rw [h0] at hvs
  have hvs : isM v .none = some true := hvs
  simp only [oV_, oT_, oM_, v_n, v_i, v_l, v_g, v_c, v_a, v_u, v_f, b_c, l_0, l_1, on_some, tv_, kot0, kc2_, kc1_, kg_, ks2_, ks1_, kw_, kf_, xl2_, xl1_, kif0, ks_n, w_0, w_1, s_i, lg, cw_bi, cm_eq, cm_isnt, tr_b, Option.map_some, Bool.not_true, true_and, a_fld P1.p P1.d (gS ..) T.r_slots rfl, bi_len_list P1.s, eq_int, e1, sub_list (k := 0) (i := 0) P1.s rfl hv, hvs, T.g_sorted, a_fld P1.p P1.d (gF ..) T.r_free rfl, bi_sorted, ks_list P1.f]
  refine ⟨hlf, fun ns hp hpw r1 hr1 => ?_⟩
  have hns := hfr ns hp hpw
  subst hns
  have k1 : Keep (upd H r0 t0 (.list [])) (upd (upd H r0 t0 (.list [])) r1 t0 (.list ((pick false 1 A.slots).map .int))) := (Keep.rfl' _).new hr1
  have P2 := P1.keep k1
  have q0 := k1 _ _ (upd_same H r0 t0 (.list []))
  have q1 := upd_same (upd H r0 t0 (.list [])) r1 t0 (.list ((pick false 1 A.slots).map .int))
  generalize upd (upd H r0 t0 (.list [])) r1 t0 (.list ((pick false 1 A.slots).map .int)) = H₂ at *
  simp only [oV_, oI_, v_i, v_l, v_g, v_a, v_f, v_p, l_0, l_1, kc1_, kg_, kw_, kf_, kp_, xl2_, xl1_, lg, cw_bi, cw_ty, ty_range2, true_and, List.length_nil, List.length_cons, T.g_len, T.g_range, a_fld P2.p P2.d (gS ..) T.r_slots rfl, bi_len_list P2.s, it_rng]
  refine ⟨by decide, ⟨by decide, by exact r2 (by assumption) (by assumption) (by decide)⟩, rlen (by decide) (r2 (by assumption) (by assumption) (by decide)), compW_pure (pickF false A.slots) rfl _ _ ?_ ?_⟩
  · intro v hv k hk
    simp only [List.mem_map, List.mem_range] at hv
    obtain ⟨i, hi, rfl⟩ := hv
    obtain ⟨u, hu, his⟩ := P.sr.is (i := 1 + i) (r13 (by assumption) (by assumption))
    have e : ((1 : Int) + (i : Int)) = ((1 + i : Nat) : Int) := by exact rfl
    simp only [e, oV_, oT_, oM_, v_n, v_l, v_c, v_a, v_u, b_c, t_1, tv_, kc2_, kc1_, kg_, ks2_, ks1_, kp1_, lg, ls, cm_is, tr_b, a_fld P2.p P2.d (gS ..) T.r_slots rfl, sub_list P2.s rfl hu, his]
    simp only [e, pickF, Int.toNat_natCast] at hk
    cases hj : ((A.slots[1 + i]?).join).isSome with
    | true => rw [hj] at hk; simp only [kp20, xt10, Bool.not_true]; simpa using hk
    | false => rw [hj] at hk; simp only [oV_, v_l, t_0, kp3_, kp21, xt11, lg, Bool.not_false]; simpa using hk
  · rw [List.nil_append]
    have e := pick_items false 1 A.slots (n := ((xs.length : Int) - 1).toNat) (r10 (by assumption))
    simp only [Int.natCast_one] at e
    rw [e]
    intro r2 hr2
    have k2 : Keep H₂ (upd H₂ r2 t0 (.list ((pick false 1 A.slots).map .int))) := (Keep.rfl' _).new hr2
    simp only [eq_ints (k2 _ _ q1) (upd_same _ _ _ _), oV_, oT_, oM_, v_l, tv_, kc2_, kr_, kif0, ks_n, ks_r, w_0, w_1, s_r, kB_r, lg, cm_ne, tr_b, Option.map_some, Bool.not_true]
    exact hQ r0 _ ((k0.trans k1).trans k2) (k2 _ _ q0)
end U9
end Mine
end
section
set_option autoImplicit false
set_option linter.unusedVariables false
set_option linter.unusedSimpArgs false
namespace Mine
open PySem
namespace U9
variable {c : Cfg} {N : Nm} {d : Nat} {H H' : MH} {Z : Addr → MH → Prop} {Q : MVal → MH → Prop} {p dx sl fr : Addr} {xs : List MVal} {j o : MVal} {ol r w : Int} {A : PS}

/-- what is asked, or that it is refused -/
theorem told_ok (T : Tx c N) {f : Addr} (hf : c.fn f = true) (h : CallOK c d true f [.ref p] H Q (fun e H' => (∃ t dx, H' e = some (t, .exc N.SE dx)) ∧ Q (.str "refused") H')) : CallOK c (d + 1) true N.law_told [.meth f p] H Q Z := by
  refine T.b_law_told.2 d true _ H _ _ rfl ?_
  simp only [s_law_told, oV_, v_s, v_l, v_f, l_0, kw_, kf_, kas_, ks_n, w_1, s_a, s_t, lg, ls, cw_meth, List.cons_append, List.nil_append, List.map_cons, List.map_nil, List.replicate, Nat.reduceSub]
  refine ⟨hf, h.mono (Nat.le_refl _) (fun m H' hq => hq) fun e H' he => ?_⟩
  obtain ⟨⟨t, dx, he⟩, hq⟩ := he
  simp only [hs0 he T.g_StoreError T.e_SE T.s_SS, oV_, v_s, v_l, ze_, kas_, kr_, ks_n, ks_r, ks_e, ky_e, kH0n, w_0, w_1, s_a, s_r, kB_r, lg, ls]
  exact hq

theorem lawbad_ok (T : Tx c N) (P : PInv N H p A) {n : Int} (hb : Bad A n) (hQ : ∀ H', Keep H H' → Q (.bool true) H') : CallOK c (d + 5) true N.law_bad [.ref p, .int n] H Q Z := by
  have P0 := P
  obtain ⟨dx, sl, fr, xs, j, o, ol, r, w, P⟩ := P
  refine T.b_law_bad.2 (d + 4) true _ H _ _ rfl ?_
  simp only [s_law_bad, oV_, v_b, v_l, v_k, l_0, l_1, km3_, km2_, km_, xl2_, xl1_, kas_, ks_n, w_1, s_e, s_a, s_t, lg, ls, cw_ref, List.cons_append, List.nil_append, List.map_cons, List.map_nil, List.replicate, Nat.reduceSub, m_inst P.p P.d (n := "read") rfl T.m_read]
  refine ⟨T.b_Pages_read.1, read_bad T P0 hb fun e dxe H' h1 h2 k => ?_⟩
  simp only [hs1 h1 T.g_BadPage T.e_BP T.s_BB, oV_, oM_, v_l, v_c, v_a, kc2_, kc1_, kg_, ze_, kas_, kr_, ks_n, ks_r, ks_e, ky_e, kH1n, w_0, w_1, s_a, s_r, kB_r, lg, ls, cm_eq, beq_self_eq_true, a_exc h1 h2 (v := .int n) rfl T.re rfl, eq_int]
  exact hQ H' k
end U9
end Mine
end
section
set_option autoImplicit false
set_option linter.unusedVariables false
set_option linter.unusedSimpArgs false
set_option genSizeOf false
set_option genInjectivity false
namespace Mine
open PySem
namespace U9
variable {c : Cfg} {N : Nm} {d : Nat} {H H' : MH} {Z : Addr → MH → Prop} {Q : MVal → MH → Prop} {p : Addr} {xs : List MVal} {A : PS}

theorem FrR.fr (x : FrR H H') : Fr H H' := fun a t o h z => x a t o h (by rintro rfl; exact absurd z (by decide))
theorem FrR.rfl' (H : MH) : FrR H H := fun _ _ _ h _ => h
theorem FrR.trans {H₁ H₂ H₃ : MH} (x : FrR H₁ H₂) (y : FrR H₂ H₃) : FrR H₁ H₃ := fun a t o h z => y a t o (x a t o h z) z
theorem Keep.frr (x : Keep H H') : FrR H H' := fun a t o h _ => x a _ h
theorem FrX.fr {pg : Addr} {o : MObj} {t : Tag} (x : FrX pg (upd H pg t o) H') (h : H pg = none) : Fr H H' := fun a t' o' e z => x a t' o' (ne_new e h) (by rw [upd_ne _ _ _ (ne_new e h)]; exact e) z

/-- the law's own slots; no page of theirs is one of the lists F -/
noncomputable def LL (H : MH) (F : List Addr) (ys : List MVal) (s : Sl) : Prop := ys.length = s.length ∧ ∀ (i : Nat) v q, ys[i]? = some v → s[i]? = some q → (q = none → v = .none) ∧ ∀ l, q = some l → ∃ b, v = .ref b ∧ H b = some (t0, .list (l.map .int)) ∧ b ∉ F
theorem LL.lr {F : List Addr} {ys : List MVal} {s : Sl} (x : LL H F ys s) : LR H ys s := ⟨x.1, fun i v q a b => ⟨(x.2 i v q a b).1, fun l e => let ⟨b', e', h, _⟩ := (x.2 i v q a b).2 l e; ⟨b', t0, e', h⟩⟩⟩
theorem LR.sr {ys : List MVal} {s : Sl} (x : LR H ys s) : SR ys s := ⟨x.1, fun i v q a b => ⟨(x.2 i v q a b).1, fun h => by
  cases q with
  | none => exact absurd rfl h
  | some l => obtain ⟨b', t, e, _⟩ := (x.2 i v _ a b).2 l rfl; exact ⟨b', e⟩⟩⟩
theorem LL.fr {F : List Addr} {ys : List MVal} {s : Sl} (k : Fr H H') (x : LL H F ys s) : LL H' F ys s := ⟨x.1, fun i v q a b => ⟨(x.2 i v q a b).1, fun l e => let ⟨b', e', h, n⟩ := (x.2 i v q a b).2 l e; ⟨b', e', k _ _ _ h rfl, n⟩⟩⟩
theorem SR.is' {s : Sl} (h : SR xs s) {i : Nat} (hi : i < s.length) : ∃ v, xs[i]? = some v ∧ isM v .none = some (!((s[i]?).join).isSome) := SR.is (A := ⟨s, [], none⟩) h hi

/-- what the law keeps by hand -/
noncomputable def Kp (H : MH) (sL fL : Addr) (kv : MVal) : Option (Sl × List Int) → Prop
  | none => kv = .none
  | some (s0, f0) => ∃ ks kf zs, kv = .tup [.ref ks, .ref kf] ∧ (ks ≠ sL ∧ kf ≠ fL) ∧ H ks = some (t0, .list zs) ∧ LL H [fL, kf] zs s0 ∧ H kf = some (t0, .list (f0.map .int))
noncomputable def kfs : MVal → List Addr
  | .tup [_, .ref kf] => [kf]
  | _ => []
structure Lw (H : MH) (sL fL tL : Addr) (kv : MVal) (s : Sl) (f T : List Int) (K : Option (Sl × List Int)) : Prop where
  s : ∃ ys, H sL = some (t0, .list ys) ∧ LL H (fL :: kfs kv) ys s
  f : H fL = some (t0, .list (f.map .int))
  t : H tL = some (t0, .set T)
  k : Kp H sL fL kv K
theorem Lw.fr {sL fL tL : Addr} {kv : MVal} {s : Sl} {f T : List Int} {K : Option (Sl × List Int)} (k : Fr H H') (x : Lw H sL fL tL kv s f T K) : Lw H' sL fL tL kv s f T K := by
  obtain ⟨⟨ys, h1, h2⟩, h3, h4, h5⟩ := x
  refine ⟨⟨ys, k _ _ _ h1 rfl, h2.fr k⟩, k _ _ _ h3 rfl, k _ _ _ h4 rfl, ?_⟩
  cases K with
  | none => exact h5
  | some y =>
    obtain ⟨s0, f0⟩ := y
    obtain ⟨ks, kf, zs, e, n, a, b, g⟩ := h5
    exact ⟨ks, kf, zs, e, n, k _ _ _ a rfl, b.fr k, k _ _ _ g rfl⟩

/-- what holds of the slots and the free numbers -/
structure Wf (s : Sl) (f : List Int) : Prop where
  z : s[0]? = some none
  nd : f.Nodup
  m : ∀ n, n ∈ f ↔ ∃ i : Nat, n = i ∧ 1 ≤ i ∧ s[i]? = some none

theorem sorted_eq : ∀ {a b : List Int}, a.Perm b → a.Pairwise (· ≤ ·) → b.Pairwise (· ≤ ·) → a = b
  | [], b, h, _, _ => by rw [List.nil_perm] at h; exact h.symm
  | x :: a, [], h, _, _ => absurd h.length_eq (by simp)
  | x :: a, y :: b, h, ha, hb => by
    rw [List.pairwise_cons] at ha hb
    have e : x = y := by
      have h1 : x ∈ y :: b := h.subset (.head _)
      have h2 : y ∈ x :: a := h.symm.subset (.head _)
      rcases List.mem_cons.mp h1 with h1 | h1
      · exact h1
      · rcases List.mem_cons.mp h2 with h2 | h2
        · exact h2.symm
        · exact Int.le_antisymm (ha.1 y h2) (hb.1 x h1)
    subst e
    rw [sorted_eq (List.perm_cons x |>.mp h) ha.2 hb.2]
theorem pick_pw (b : Bool) (lo : Nat) (s : Sl) : (pick b lo s).Pairwise (· < ·) := by
  unfold pick
  rw [List.pairwise_filterMap]
  refine List.Pairwise.imp ?_ List.pairwise_lt_range
  intro i k hik x hx y hy
  split at hx <;> split at hy <;> simp at hx hy
  omega
theorem pick_le (b : Bool) (lo : Nat) (s : Sl) : (pick b lo s).Pairwise (· ≤ ·) := (pick_pw b lo s).imp fun h => Int.le_of_lt h
theorem mem_pick {b : Bool} {lo : Nat} {s : Sl} {n : Int} : n ∈ pick b lo s ↔ ∃ i : Nat, n = i ∧ lo ≤ i ∧ i < s.length ∧ (s[i]?).join.isSome = b := by
  unfold pick
  simp only [List.mem_filterMap, List.mem_range]
  constructor
  · rintro ⟨i, hi, h⟩
    split at h
    · rename_i hb
      simp at h
      exact ⟨lo + i, by omega, by exact Nat.le_add_right _ _, by omega, by simpa using hb⟩
    · cases h
  · rintro ⟨i, rfl, h1, h2, h3⟩
    refine ⟨i - lo, by omega, ?_⟩
    rw [show lo + (i - lo) = i by exact Nat.add_sub_cancel' (by assumption), h3]
    simp; omega
theorem none_iff {s : Sl} {i : Nat} : s[i]? = some none ↔ i < s.length ∧ (s[i]?).join.isSome = false := by
  constructor
  · intro h
    refine ⟨?_, by rw [h]; rfl⟩
    rcases Nat.lt_or_ge i s.length with h' | h'
    · exact h'
    · rw [List.getElem?_eq_none h'] at h; cases h
  · rintro ⟨h1, h2⟩
    have : s[i]? = some s[i] := by simp [h1]
    rw [this] at h2 ⊢
    cases hq : s[i] with
    | none => rfl
    | some l => rw [hq] at h2; cases h2
theorem Wf.pm {s : Sl} {f : List Int} (w : Wf s f) : f.Perm (pick false 1 s) := by
  rw [List.perm_ext_iff_of_nodup w.nd ((pick_pw false 1 s).imp fun h => Int.ne_of_lt h)]
  intro n
  rw [w.m, mem_pick]
  constructor
  · rintro ⟨i, e, h1, h2⟩
    obtain ⟨h3, h4⟩ := none_iff.mp h2
    exact ⟨i, e, h1, h3, h4⟩
  · rintro ⟨i, e, h1, h3, h4⟩
    exact ⟨i, e, h1, none_iff.mpr ⟨h3, h4⟩⟩
theorem pick_count (s : Sl) (lo : Nat) : (pick true lo s).length + (pick false lo s).length = s.length - lo := by
  unfold pick
  generalize s.length - lo = n
  induction n with
  | zero => rfl
  | succ n ih =>
    rw [List.range_succ, List.filterMap_append, List.filterMap_append, List.length_append, List.length_append]
    have : ∀ b : Bool, (List.filterMap (fun (i : Nat) => if (s[lo + i]?).join.isSome == b then some ((lo : Int) + (i : Int)) else none) [n]).length = if (s[lo + n]?).join.isSome == b then 1 else 0 := fun b => by
      simp only [List.filterMap_cons, List.filterMap_nil]; split <;> rename_i h <;> split at h <;> simp_all
    rw [this, this]
    generalize (s[lo + n]?).join.isSome = x
    cases x
    · rw [if_neg (by decide), if_pos (by decide)]; exact congrArg _ (by assumption)
    · rw [if_pos (by decide), if_neg (by decide)]; omega
end U9
end Mine
end
section
set_option autoImplicit false
set_option linter.unusedVariables false
set_option linter.unusedSimpArgs false
namespace Mine
open PySem
namespace U9
variable {c : Cfg} {N : Nm} {d : Nat} {H H' : MH} {Z : Addr → MH → Prop} {Q : MVal → MH → Prop} {p : Addr} {xs : List MVal} {A : PS}

/-- the numbers that are there, as the law picks them -/
theorem live_snd {R : List MVal → MH → Prop} {a : Addr} {t : Tag} {ys : List MVal} {s : Sl} (h : H a = some (t, .list ys)) (hr : SR ys s) (lo : Nat) {n : Nat} (hn : n = s.length - lo) {turn : MVal → MH → (Option MVal → MH → Prop) → Prop}
    (ht : ∀ (i : Nat) u k, lo ≤ i → i < s.length → ys[i]? = some u → isM u .none = some (!((s[i]?).join).isSome) → k (if (s[i]?).join.isSome then some (.int (i : Int)) else none) H → turn (.int (i : Int)) H k) (hR : R ((pick true lo s).map .int) H) {src : MVal} {ob : Option MObj} (ho : srcObj H src = ob) :
    compW src ob turn ((List.range n).map fun (i : Nat) => MVal.int ((lo : Int) + (i : Int))) [] H R := by
  refine compW_pure (pickF true s) ho _ _ ?_ ?_
  · intro v hv k hk
    simp only [List.mem_map, List.mem_range] at hv
    obtain ⟨i, hi, rfl⟩ := hv
    obtain ⟨u, hu, his⟩ := hr.is' (i := lo + i) (by omega)
    have e : ((lo : Int) + (i : Int)) = ((lo + i : Nat) : Int) := by exact rfl
    rw [e] at hk ⊢
    refine ht (lo + i) u k (Nat.le_add_right _ _) (by omega) hu his ?_
    cases hj : ((s[lo + i]?).join).isSome with
    | true => simp only [pickF, Int.toNat_natCast, hj] at hk; simp only [if_true]; simpa using hk
    | false => simp only [pickF, Int.toNat_natCast, hj] at hk; simp only [Bool.false_eq_true, if_false]; simpa using hk
  · rw [List.nil_append, pick_items true lo s hn]; exact hR

theorem eqvAll_bools : PyData.eqvAll [.int 0] [.int 0] = true := rfl
theorem rd_mixed {a : Addr} {t : Tag} {x y : Int} {b : Bool} (n : Nat) (h : H a = some (t, .list [.int x, .int y, .bool b])) : rd H (n + 2) (.ref a) = some (.list [.int x, .int y, .bool b]) := by
  rw [rd_l h]; rfl
theorem eq_mixed {a a' : Addr} {t t' : Tag} {x y : Int} {b : Bool} (h : H a = some (t, .list [.int x, .int y, .bool b])) (h' : H a' = some (t', .list [.int x, .int y, .bool b])) : eqM H (.ref a) (.ref a') = some true := by
  rw [eqM_t (rd_mixed 58 h) (rd_mixed 58 h'), ev_l, ea_c, ea_c, ea_c, ev_i, ev_i, ev_b, ea_n]; simp only [beq_self_eq_true, Bool.and_true]

noncomputable def pgs (s : Sl) (live : List Int) : Sl := live.map fun n => (s[n.toNat]?).join

theorem post1 (T : Tx c N) (P : PInv N H p A) (sm : Small A) {sL fL : Addr} {ys : List MVal} (hs : H sL = some (t0, .list ys)) (hl : LR H ys A.slots) (hl0 : Fr H H → True) (hf : H fL = some (t0, .list (A.free.map .int))) {sc tL : Addr} {kv : MVal} {a6 a7 a8 a9 a10 a11 a12 a13 a14 : Option MVal} {R : Lcs → MH → Prop}
    (hR : ∀ lv H', PInv N H' p A → Fr H H' → H' lv = some (t0, .list ((pick true 1 A.slots).map .int)) → R [some (.ro sc), some (.ref p), some (.ref sL), some (.ref fL), some kv, some (.ref tL), a6, a7, a8, some (.ref lv), a10, a11, a12, a13, a14] H') {K : MFlow → Lcs → MH → Prop} (hK : ∀ σ H, R σ H → K .next σ H) :
    wpS c (d + 6) true s_p0 [some (.ro sc), some (.ref p), some (.ref sL), some (.ref fL), some kv, some (.ref tL), a6, a7, a8, a9, a10, a11, a12, a13, a14] H K := by
  have h1 := sm.s
  have h2 := hl.1
  simp only [s_p0, oV_, oI_, v_i, v_l, v_g, v_f, v_p, l_0, l_1, kw_, kf_, kp_, xl2_, xl1_, s_a, lg, cw_bi, cw_ty, ty_range2, true_and, List.length_nil, List.length_cons, Nat.reduceAdd, T.g_range, T.g_len, bi_len_list hs, it_rng]
  refine ⟨by decide, ⟨by decide, by exact r2 (by assumption) (by assumption) (by decide)⟩, rlen (by decide) (r2 (by assumption) (by assumption) (by decide)), ?_⟩
  have e : (fun (i : Nat) => MVal.int (1 + (i : Int))) = fun (i : Nat) => MVal.int (((1 : Nat) : Int) + (i : Int)) := rfl
  rw [e]
  refine live_snd hs hl.sr 1 (r10 (by assumption)) (fun i u k _ hi hu his hk => ?_) (fun r hr => hK _ _ (hR r _ (P.new hr) ((Fr.rfl' H).new hr) (upd_same _ _ _ _))) rfl
  simp only [oV_, oT_, oM_, v_n, v_l, v_c, v_u, b_c, t_1, tv_, kc2_, kc1_, ks2_, ks1_, kp1_, lg, ls, cm_isnt, tr_b, Option.map_some, sub_list hs rfl hu, his, Bool.not_not]
  cases hj : ((A.slots[i]?).join).isSome with
  | true => rw [hj] at hk; simp only [oV_, v_l, t_0, kp3_, kp21, xt11, lg]; simpa using hk
  | false => rw [hj] at hk; simp only [kp20, xt10]; simpa using hk

theorem pg_of_live {s : Sl} {n : Int} (h : n ∈ pick true 1 s) : ∃ (i : Nat) (l : List Int), n = i ∧ 1 ≤ i ∧ s[i]? = some (some l) := by
  obtain ⟨i, rfl, h1, h2, h3⟩ := mem_pick.mp h
  have : s[i]? = some s[i] := by simp [h2]
  rw [this] at h3
  cases hq : s[i] with
  | none => rw [hq] at h3; cases h3
  | some l => exact ⟨i, l, rfl, h1, by rw [this, hq]⟩

theorem PInv.m (P : PInv N H p A) {n : Str} {f : Addr} (hm : c.meth N.C n = some f) (hn : ∀ sl fr j o ol r w, fget (flds sl fr j o ol r w) n = none) : MethR c H (.ref p) n = some (.ref f, [.ref p]) := by
  obtain ⟨dx, sl, fr, xs, j, o, ol, r, w, P⟩ := P; exact m_inst P.p P.d (hn ..) hm
theorem PInv.a (P : PInv N H p A) {n : Str} {f : Addr} (hm : c.meth N.C n = some f) (hn : ∀ sl fr j o ol r w, fget (flds sl fr j o ol r w) n = none) : AttrW c (.ref p) n H Q = Q (.meth f p) H := by
  obtain ⟨dx, sl, fr, xs, j, o, ol, r, w, P⟩ := P; exact a_meth P.p P.d (hn ..) hm

theorem fm_all (f : MVal → Option MVal) (g : Int → MVal) : ∀ l : List Int, (∀ n ∈ l, f (.int n) = some (g n)) → (l.map MVal.int).filterMap f = l.map g
  | [], _ => rfl
  | x :: l, h => by simp only [List.map_cons, List.filterMap_cons, h x (.head _), fm_all f g l fun n hn => h n (.tail _ hn)]
noncomputable def atF (ys : List MVal) : MVal → Option MVal
  | .int n => ys[n.toNat]?
  | _ => none

theorem post2 (T : Tx c N) (P : PInv N H p A) (sm : Small A) {sL fL : Addr} {ys : List MVal} (hs : H sL = some (t0, .list ys)) {F : List Addr} (hl : LL H F ys A.slots) (hf : H fL = some (t0, .list (A.free.map .int))) {sc tL lv : Addr} {kv : MVal} (hv : H lv = some (t0, .list ((pick true 1 A.slots).map .int))) {a6 a7 a8 a10 a11 a12 a13 a14 : Option MVal} {K : MFlow → Lcs → MH → Prop}
    (hK : ∀ H', PInv N H' p A → Fr H H' → K .next [some (.ro sc), some (.ref p), some (.ref sL), some (.ref fL), some kv, some (.ref tL), a6, a7, a8, some (.ref lv), a10, a11, a12, a13, a14] H') :
    wpS c (d + 6) true s_p1 [some (.ro sc), some (.ref p), some (.ref sL), some (.ref fL), some kv, some (.ref tL), a6, a7, a8, some (.ref lv), a10, a11, a12, a13, a14] H K := by
  have h1 := sm.s
  have h2 := hl.1
  have hcnt := pick_count A.slots 1
  simp only [s_p1, oV_, v_l, v_c, v_k, b_or, b_c, l_0, km3_, km2_, km_, s_i, lg, cw_ref, List.append_nil, P.m T.m_numbers fun _ _ _ _ _ _ _ => rfl]
  refine ⟨T.b_Pages_numbers.1, numbers_ok T P sm fun r1 hr1 => ?_⟩
  have k1 : Keep H (upd H r1 t0 (.list ((pick true 1 A.slots).map .int))) := (Keep.rfl' H).new hr1
  have g1 := upd_same H r1 t0 (.list ((pick true 1 A.slots).map .int))
  generalize upd H r1 t0 (.list ((pick true 1 A.slots).map .int)) = H1 at *
  simp only [eq_ints g1 (k1 _ _ hv), oV_, oT_, oM_, oI_, v_l, v_c, v_p, b_or, b_c, tv_, kot0, kc2_, kc1_, kp_, lg, cm_ne, tr_b, Option.map_some, Bool.not_true, true_and, List.length_nil, List.length_cons, it_list (k1 _ _ hv)]
  refine ⟨by decide, by simp; exact r14 (by assumption) (by assumption) (by decide), compW_inv (fun i acc H' => PInv N H' p A ∧ FrR H1 H' ∧ acc.length = i ∧ ∀ (j : Nat) v n, acc[j]? = some v → (pick true 1 A.slots)[j]? = some n → ∃ a l, v = .ref a ∧ H' a = some ((1, n.toNat), .list (l.map .int)) ∧ A.slots[n.toNat]? = some (some l)) _ 0 ⟨P.keep k1, FrR.rfl' _, rfl, fun j v n a => by simp at a⟩ ?_ ?_⟩
  · rintro i v acc H' k hi ⟨P2, f2, hlen, hac⟩ hsm -
    simp only [Nat.zero_add] at *
    refine ⟨by rw [so_ref, so_ref, k1 _ _ hv, f2 _ _ _ (k1 _ _ hv) (by decide)], ?_⟩
    rw [List.getElem?_map] at hi
    cases hi2 : (pick true 1 A.slots)[i]? with
    | none => rw [hi2] at hi; cases hi
    | some n =>
      rw [hi2] at hi; cases hi
      obtain ⟨m, l, rfl, hm1, hm2⟩ := pg_of_live (List.mem_of_getElem? hi2)
      simp only [oV_, v_l, v_k, l_0, l_1, t_0, km3_, km2_, km_, kp21, kp1_, xl2_, xl1_, lg, ls, cw_ref, List.cons_append, List.nil_append, P2.m T.m_read fun _ _ _ _ _ _ _ => rfl]
      refine ⟨T.b_Pages_read.1, read_ok T P2 hm1 hm2 fun a H3 P3 f3 ha => hsm _ _ ⟨P3, f2.trans f3, by simp [hlen], fun j v n hj hn => ?_⟩⟩
      rcases Nat.lt_trichotomy j acc.length with h | h | h
      · rw [List.getElem?_append_left h] at hj
        obtain ⟨a', l', e, h', g⟩ := hac j v n hj hn
        exact ⟨a', l', e, f3 _ _ _ h' (by simp), g⟩
      · subst h
        rw [List.getElem?_append_right (Nat.le_refl _)] at hj
        rw [hlen, hi2] at hn
        simp at hj; cases hn; subst hj
        exact ⟨a, l, rfl, by simpa using ha, by simpa using hm2⟩
      · rw [List.getElem?_append_right (Nat.le_of_lt (by assumption)), List.getElem?_eq_none (by simp; exact Nat.sub_pos_of_lt (by assumption))] at hj; cases hj
  · rintro acc H2 ⟨P2, f2, hlen, hac⟩
    simp only [Nat.zero_add, List.length_map] at *
    refine ⟨by rw [so_ref, so_ref, k1 _ _ hv, f2 _ _ _ (k1 _ _ hv) (by decide)], fun r2 hr2 => ?_⟩
    have lrA : LR H2 acc (pgs A.slots (pick true 1 A.slots)) := ⟨by simp [pgs, hlen], fun j v q hj hq => by
      unfold pgs at hq
      rw [List.getElem?_map] at hq
      cases hn : (pick true 1 A.slots)[j]? with
      | none => rw [hn] at hq; cases hq
      | some n =>
        rw [hn] at hq
        obtain ⟨a, l, e, h, g⟩ := hac j v n hj hn
        have hq : (A.slots[n.toNat]?).join = q := by simpa using hq
        rw [g] at hq
        have hq : some l = q := hq
        subst hq
        exact ⟨fun h => (nomatch h), fun l' e' => by cases e'; exact ⟨a, _, e, h⟩⟩⟩
    have k2 : Keep H2 (upd H2 r2 t0 (.list acc)) := (Keep.rfl' H2).new hr2
    have g2 := upd_same H2 r2 t0 (.list acc)
    have lrB := LR.keep k2 lrA
    have F2 : Fr H (upd H2 r2 t0 (.list acc)) := (k1.fr.trans f2.fr).trans k2.fr
    have P3 := P2.keep k2
    generalize upd H2 r2 t0 (.list acc) = H3 at *
    have hv3 := F2 _ _ _ hv rfl
    have hs3 := F2 _ _ _ hs rfl
    have hl3 := hl.fr F2
    simp only [oV_, oI_, v_l, v_p, kc1_, kp_, lg, true_and, List.length_nil, List.length_cons, it_list hv3]
    refine ⟨by decide, by simp; exact r14 (by assumption) (by assumption) (by decide), compW_pure (atF ys) rfl _ _ ?_ ?_⟩
    · intro v hv' k hk
      simp only [List.mem_map] at hv'
      obtain ⟨n, hn, rfl⟩ := hv'
      obtain ⟨m, l, rfl, hm1, hm2⟩ := pg_of_live hn
      have : m < ys.length := by rw [h2]; exact lt_of_some hm2
      obtain ⟨u, hu⟩ : ∃ u, ys[m]? = some u := ⟨ys[m], by simp [this]⟩
      simp only [oV_, v_l, v_u, t_0, ks2_, ks1_, kp3_, kp21, kp1_, lg, ls, sub_list hs3 rfl hu]
      simp only [atF, Int.toNat_natCast, hu] at hk
      exact hk
    · rw [List.nil_append]
      intro r3 hr3
      have k3 : ∀ o, Keep H3 (upd H3 r3 t0 o) := fun o => (Keep.rfl' H3).new hr3
      have e3 : LR H3 (List.filterMap (atF ys) ((pick true 1 A.slots).map MVal.int)) (pgs A.slots (pick true 1 A.slots)) := by
        have e : List.filterMap (atF ys) ((pick true 1 A.slots).map MVal.int) = (pick true 1 A.slots).map fun n => (ys[n.toNat]?).getD .none := by
          refine fm_all _ _ _ fun n hn => ?_
          obtain ⟨m, l, rfl, hm1, hm2⟩ := pg_of_live hn
          have : m < ys.length := by rw [h2]; exact lt_of_some hm2
          simp [atF, this]
        rw [e]
        refine ⟨by simp [pgs], fun j v q hj hq => ?_⟩
        unfold pgs at hq
        rw [List.getElem?_map] at hj hq
        cases hn : (pick true 1 A.slots)[j]? with
        | none => rw [hn] at hq; cases hq
        | some n =>
          rw [hn] at hj hq
          obtain ⟨m, l, rfl, hm1, hm2⟩ := pg_of_live (List.mem_of_getElem? hn)
          have hlt : m < ys.length := by rw [h2]; exact lt_of_some hm2
          simp only [Option.map_some, Int.toNat_natCast, Option.some.injEq] at hj hq
          rw [hm2] at hq
          have hq : some l = q := hq
          subst hq
          have hu : ys[m]? = some v := by rw [← hj]; simp [hlt]
          obtain ⟨b, e, h, _⟩ := (hl3.2 m v _ hu hm2).2 l rfl
          exact ⟨fun h => (nomatch h), fun l' e' => by cases e'; exact ⟨b, t0, e, h⟩⟩
      generalize List.filterMap (atF ys) ((pick true 1 A.slots).map MVal.int) = zs at *
      have kk := k3 (.list zs)
      have g3 := upd_same H3 r3 t0 (.list zs)
      have P4 := P3.keep kk
      have F4 := F2.trans kk.fr
      have lrC := LR.keep kk e3
      have lrD := LR.keep kk lrB
      have g2' := kk _ _ g2
      generalize upd H3 r3 t0 (.list zs) = H4 at *
      simp only [eq_slots g2' lrD g3 lrC, oV_, oT_, oM_, v_l, v_c, v_u, v_k, b_c, l_0, tv_, kot0, kc2_, km3_, km2_, km_, lg, cw_ref, List.append_nil, cm_ne, tr_b, Option.map_some, Bool.not_true, P4.m T.m_dump fun _ _ _ _ _ _ _ => rfl]
      refine ⟨T.b_Pages_dump.1, dump_ok T P4 sm fun q1 q2 us H5 k5 gq1 lq gq2 => ?_⟩
      simp only [sub_tup (k := 1) (i := 1) (vs := [MVal.ref q1, MVal.ref q2]) rfl rfl, eq_ints gq2 (k5 _ _ (F4 _ _ _ hf rfl)), oV_, oT_, oM_, v_i, v_l, tv_, kc2_, kc1_, ks2_, ks1_, kif0, w_0, lg, cm_ne, tr_b, Option.map_some, Bool.not_true]
      exact hK _ (P4.keep k5) (F4.trans k5.fr)
end U9
end Mine
end
section
set_option autoImplicit false
set_option linter.unusedVariables false
set_option linter.unusedSimpArgs false
namespace Mine
open PySem
theorem rd_nil {H : MH} {a : Addr} {t : Tag} (n : Nat) (h : H a = some (t, .list [])) : rd H (n + 2) (.ref a) = some (.list []) := by rw [rd_l h]; rfl
theorem eq_nil {H : MH} {a b : Addr} {t t' : Tag} (h : H a = some (t, .list [])) (h' : H b = some (t', .list [])) : eqM H (.ref a) (.ref b) = some true := by
  rw [eqM_t (rd_nil 58 h) (rd_nil 58 h')]; rfl
theorem mapO_trues (H : MH) (n : Nat) : ∀ m : Nat, mapO (rd H (n + 1)) (List.replicate m (.bool true)) = some (List.replicate m (.bool true))
  | 0 => rfl
  | m + 1 => mapO_c (rd_b ..) (mapO_trues H n m)
theorem in_trues {H : MH} {a : Addr} {t : Tag} {m : Nat} (h : H a = some (t, .list (List.replicate m (.bool true)))) : inM H (.bool false) (.ref a) = some false := by
  show (H a).bind _ = _
  rw [h]
  show (mapO (rd H 60) (List.replicate m (.bool true))).map _ = _
  rw [mapO_trues H 59 m]
  refine congrArg some (List.any_eq_false.mpr fun x hx => ?_)
  rw [(List.mem_replicate.mp hx).2, ev_b]; decide
namespace U9
variable {c : Cfg} {N : Nm} {d : Nat} {H H' : MH} {Z : Addr → MH → Prop} {Q : MVal → MH → Prop} {p : Addr} {xs : List MVal} {A : PS}

theorem post3 (T : Tx c N) (P : PInv N H p A) (sm : Small A) (wf : Wf A.slots A.free) (s60 : A.slots.length < 60) {sL fL : Addr} (hf : H fL = some (t0, .list (A.free.map .int))) {sc tL lv : Addr} {kv : MVal} (hkv : isM kv .none = some (!A.jr.isSome)) (hv : H lv = some (t0, .list ((pick true 1 A.slots).map .int))) {a6 a7 a8 a10 a11 a12 a13 a14 : Option MVal} {K : MFlow → Lcs → MH → Prop}
    (hK : ∀ H', PInv N H' p A → Fr H H' → K .next [some (.ro sc), some (.ref p), some (.ref sL), some (.ref fL), some kv, some (.ref tL), a6, a7, a8, some (.ref lv), a10, a11, a12, a13, a14] H') :
    wpS c (d + 6) true s_p2 [some (.ro sc), some (.ref p), some (.ref sL), some (.ref fL), some kv, some (.ref tL), a6, a7, a8, some (.ref lv), a10, a11, a12, a13, a14] H K := by
  have hcnt := pick_count A.slots 1
  have hpl := wf.pm.length_eq
  have hpos := lt_of_some wf.z
  simp only [s_p2, oV_, v_l, v_c, v_li, v_k, b_or, b_c, l_0, l_1, km3_, km2_, km_, s_i, lg, cw_ref, List.append_nil, P.m T.m_count fun _ _ _ _ _ _ _ => rfl]
  refine ⟨T.b_Pages_count.1, count_ok T P ?_⟩
  simp only [oV_, v_l, v_k, l_0, l_1, km3_, km2_, km_, xl1_, lg, cw_ref, List.append_nil, P.m T.m_free_count fun _ _ _ _ _ _ _ => rfl]
  refine ⟨T.b_Pages_free_count.1, free_count_ok T P ?_⟩
  simp only [oV_, v_l, v_k, l_0, l_1, km3_, km2_, km_, xl1_, lg, cw_ref, List.append_nil, P.m T.m_begun fun _ _ _ _ _ _ _ => rfl]
  refine ⟨T.b_Pages_begun.1, begun_ok T P ?_⟩
  refine ⟨by simp [BIG], fun r1 hr1 => ?_⟩
  have k1 : ∀ o, Keep H (upd H r1 t0 o) := fun o => (Keep.rfl' H).new hr1
  simp only [oV_, oM_, v_n, v_l, v_g, v_c, v_li, v_f, l_0, l_1, kc2_, kc1_, kl_, kw_, kf_, xl2_, xl1_, lg, cw_bi, cm_isnt, Option.map_some, List.length_nil, List.length_cons, T.g_len, bi_len_list (k1 _ _ _ hv), bi_len_list (k1 _ _ _ hf), hkv, Bool.not_not]
  refine ⟨by simp [BIG], fun r2 hr2 => ?_⟩
  have e1 : ((A.slots.length : Int) - 1 - A.free.length) = (((pick true 1 A.slots).map MVal.int).length : Int) := by simp; omega
  have e2 : (A.free.length : Int) = ((A.free.map MVal.int).length : Int) := by simp
  rw [e1, e2] at hr2 ⊢
  generalize hl1 : (((pick true 1 A.slots).map MVal.int).length : Int) = x at *
  generalize hl2 : ((A.free.map MVal.int).length : Int) = y at *
  have g1 := upd_same H r1 t0 (.list [.int x, .int y, .bool A.jr.isSome])
  have k2 : ∀ o, Keep (upd H r1 t0 (.list [.int x, .int y, .bool A.jr.isSome])) (upd (upd H r1 t0 (.list [.int x, .int y, .bool A.jr.isSome])) r2 t0 o) := fun o => (Keep.rfl' _).new hr2
  have kk := (k1 (.list [.int x, .int y, .bool A.jr.isSome])).trans (k2 (.list [.int x, .int y, .bool A.jr.isSome]))
  have g1' := k2 (.list [.int x, .int y, .bool A.jr.isSome]) _ _ g1
  have g2 := upd_same (upd H r1 t0 (.list [.int x, .int y, .bool A.jr.isSome])) r2 t0 (.list [.int x, .int y, .bool A.jr.isSome])
  generalize upd (upd H r1 t0 (.list [.int x, .int y, .bool A.jr.isSome])) r2 t0 (.list [.int x, .int y, .bool A.jr.isSome]) = H2 at *
  have P2 := P.keep kk
  simp only [eq_mixed g1' g2, oV_, oT_, oM_, v_l, v_c, v_k, b_c, l_0, tv_, kot0, kc2_, km3_, km2_, km_, lg, cw_ref, List.append_nil, cm_ne, tr_b, Option.map_some, Bool.not_true, P2.m T.m_faults fun _ _ _ _ _ _ _ => rfl]
  refine ⟨T.b_Pages_faults.1, faults_ok T P2 sm wf.z (fun ns hp hs => sorted_eq (hp.trans wf.pm) hs (pick_le ..)) (by omega) fun r3 H3 k3 g3 => ?_⟩
  refine ⟨by decide, fun r4 hr4 => ?_⟩
  have k4 : Keep H3 (upd H3 r4 t0 (.list [])) := (Keep.rfl' _).new hr4
  simp only [eq_nil (k4 _ _ g3) (upd_same _ _ _ _), oT_, oM_, tv_, kc2_, kif0, w_0, cm_ne, tr_b, Option.map_some, Bool.not_true]
  exact hK _ (P2.keep (k3.trans k4)) ((kk.trans k3).trans k4).fr

theorem post4 (T : Tx c N) (P : PInv N H p A) (sm : Small A) (wf : Wf A.slots A.free) (s60 : A.slots.length < 60) {sL fL : Addr} {ys : List MVal} (hs : H sL = some (t0, .list ys)) (hl : ys.length = A.slots.length) (hf : H fL = some (t0, .list (A.free.map .int))) {sc tL lv : Addr} {kv : MVal} {a6 a7 a8 a10 a11 a12 a13 a14 : Option MVal} {K : MFlow → Lcs → MH → Prop}
    (hK : ∀ H', PInv N H' p A → Fr H H' → K .next [some (.ro sc), some (.ref p), some (.ref sL), some (.ref fL), some kv, some (.ref tL), a6, a7, a8, some (.ref lv), a10, a11, a12, a13, a14] H') :
    wpS c (d + 6) true s_p3 [some (.ro sc), some (.ref p), some (.ref sL), some (.ref fL), some kv, some (.ref tL), a6, a7, a8, some (.ref lv), a10, a11, a12, a13, a14] H K := by
  have hfl := sm.f
  simp only [s_p3, oV_, v_b, v_i, v_l, v_g, v_o, v_m, v_c, v_li, v_f, v_p, b_c, l_0, l_1, k1_, kn_, kc1_, kl_, kw_, kf_, xl2_, xl1_, s_i, lg, cw_bi, true_and, List.length_nil, List.length_cons, Nat.reduceAdd, T.g_len, bi_len_list hs]
  refine ⟨by decide, by simp [BIG], fun r1 hr1 => ?_⟩
  have k1 : ∀ o, Keep H (upd H r1 t0 o) := fun o => (Keep.rfl' H).new hr1
  simp only [k2_, List.length_nil, List.length_cons, bw_cat (k1 _ _ _ hf) (upd_same H r1 t0 _)]
  refine ⟨by simp [BIG]; exact r4 (by assumption) (by decide), fun r2 hr2 => ?_⟩
  have k2 : ∀ o, Keep (upd H r1 t0 (.list [.int 0, .int (-1), .int ys.length])) (upd (upd H r1 t0 (.list [.int 0, .int (-1), .int ys.length])) r2 t0 o) := fun o => (Keep.rfl' _).new hr2
  have e : A.free.map MVal.int ++ [.int 0, .int (-1), .int ys.length] = (A.free ++ [0, -1, (ys.length : Int)]).map MVal.int := by simp
  rw [e]
  have hbad : ∀ n ∈ A.free ++ [0, -1, (ys.length : Int)], Bad A n := by
    intro n hn
    rcases List.mem_append.mp hn with h | h
    · obtain ⟨i, rfl, h1, h2⟩ := (wf.m n).mp h
      have := lt_of_some h2
      exact ⟨by simp only [Int.natAbs_natCast]; omega, .inr (.inr (by simpa using h2))⟩
    · simp at h
      rcases h with rfl | rfl | rfl
      · exact ⟨by decide, .inl (by decide)⟩
      · exact ⟨by decide, .inl (by decide)⟩
      · exact ⟨by simp only [Int.natAbs_natCast]; exact r8 (by assumption) (by assumption) (by decide), .inr (.inl (by rw [hl]; exact Int.le_refl _))⟩
  have kk := (k1 _).trans (k2 (.list ((A.free ++ [0, -1, (ys.length : Int)]).map MVal.int)))
  have g2 := upd_same (upd H r1 t0 (.list [.int 0, .int (-1), .int ys.length])) r2 t0 (.list ((A.free ++ [0, -1, (ys.length : Int)]).map MVal.int))
  generalize upd (upd H r1 t0 (.list [.int 0, .int (-1), .int ys.length])) r2 t0 (.list ((A.free ++ [0, -1, (ys.length : Int)]).map MVal.int)) = H2 at *
  have hlen : (A.free ++ [0, -1, (ys.length : Int)]).length < 1100 := by simp; omega
  generalize A.free ++ [0, -1, (ys.length : Int)] = bs at *
  simp only [oI_, kp_, it_list g2]
  refine ⟨by simp; exact r4 (by assumption) (by decide), compW_inv (fun i acc H' => Keep H2 H' ∧ acc = List.replicate i (.bool true)) _ 0 ⟨Keep.rfl' _, rfl⟩ ?_ ?_⟩
  · rintro i v acc H' k hi ⟨k3, rfl⟩ hsm -
    simp only [Nat.zero_add] at *
    refine ⟨by rw [so_ref, so_ref, g2, k3 _ _ g2], ?_⟩
    rw [List.getElem?_map] at hi
    cases hi2 : bs[i]? with
    | none => rw [hi2] at hi; cases hi
    | some n =>
      rw [hi2] at hi; cases hi
      simp only [oV_, v_l, v_g, v_f, l_0, l_1, t_0, kw_, kf_, kp21, kp1_, xl2_, xl1_, lg, ls, cw_ref, T.g_law_bad]
      refine ⟨T.b_law_bad.1, lawbad_ok (d := d + 1) T (P.keep (kk.trans k3)) (hbad n (List.mem_of_getElem? hi2)) fun H4 k4 => hsm _ _ ⟨k3.trans k4, ?_⟩⟩
      rw [List.replicate_succ']
  · rintro acc H3 ⟨k3, rfl⟩
    refine ⟨by rw [so_ref, so_ref, g2, k3 _ _ g2], fun r5 hr5 => ?_⟩
    have k5 : ∀ o, Keep H3 (upd H3 r5 t0 o) := fun o => (Keep.rfl' _).new hr5
    simp only [in_trues (upd_same H3 r5 t0 _), oT_, oM_, tv_, kc2_, kif0, w_0, cm_in, tr_b]
    exact hK _ (P.keep ((kk.trans k3).trans (k5 _))) ((kk.trans k3).trans (k5 _)).fr

/-- what is looked at behind each step -/
theorem post_ok (T : Tx c N) (P : PInv N H p A) (sm : Small A) (wf : Wf A.slots A.free) (s60 : A.slots.length < 60) {sL fL tL sc : Addr} {kv : MVal} {Tt : List Int} {Kk : Option (Sl × List Int)} (W : Lw H sL fL tL kv A.slots A.free Tt Kk) (hkv : isM kv .none = some (!A.jr.isSome)) {a6 a7 a8 a9 a10 a11 a12 a13 a14 : Option MVal} {K : MFlow → Lcs → MH → Prop}
    (hK : ∀ lv H', PInv N H' p A → Fr H H' → K .next [some (.ro sc), some (.ref p), some (.ref sL), some (.ref fL), some kv, some (.ref tL), a6, a7, a8, lv, a10, a11, a12, a13, a14] H') :
    wpSs c (d + 6) true s_post [some (.ro sc), some (.ref p), some (.ref sL), some (.ref fL), some kv, some (.ref tL), a6, a7, a8, a9, a10, a11, a12, a13, a14] H K := by
  rw [post_eq, w_1]
  obtain ⟨ys, hs, hl⟩ := W.s
  refine post1 (tL := tL) T P sm hs hl.lr (fun _ => trivial) W.f (R := fun σ H' => wpSs c (d + 6) true [s_p1, s_p2, s_p3] σ H' K) (fun lv H1 P1 f1 h1 => ?_) fun σ H' h => h
  have W1 := W.fr f1
  rw [w_1]
  refine post2 T P1 sm (f1 _ _ _ hs rfl) (hl.fr f1) W1.f h1 fun H2 P2 f2 => ?_
  have W2 := W1.fr f2
  show wpSs c (d + 6) true [s_p2, s_p3] _ H2 K
  rw [w_1]
  refine post3 T P2 sm wf s60 W2.f hkv (f2 _ _ _ h1 rfl) fun H3 P3 f3 => ?_
  have W3 := W2.fr f3
  show wpSs c (d + 6) true [s_p3] _ H3 K
  rw [w_1]
  refine post4 T P3 sm wf s60 (((f1.trans f2).trans f3) _ _ _ hs rfl) hl.1 W3.f fun H4 P4 f4 => ?_
  show wpSs c (d + 6) true [] _ H4 K
  rw [w_0]
  exact hK _ _ P4 (((f1.trans f2).trans f3).trans f4)
end U9
end Mine
end
section
set_option autoImplicit false
set_option linter.unusedVariables false
set_option linter.unusedSimpArgs false
set_option genSizeOf false
set_option genInjectivity false
namespace Mine
open PySem
namespace U9
/-! the plain law -/

theorem Wf.put {s : Sl} {f : List Int} (w : Wf s f) {n : Nat} {l l' : List Int} (hn : s[n]? = some (some l)) : Wf (s.set n (some l')) f := by
  have g : ∀ i, (s.set n (some l'))[i]? = some none ↔ s[i]? = some none := fun i => by
    rw [List.getElem?_set]
    by_cases e : n = i
    · subst e
      rw [if_pos rfl, hn]
      split <;> simp
    · rw [if_neg e]
  exact ⟨(g 0).mpr w.z, w.nd, fun n => (w.m n).trans ⟨fun ⟨i, a, b, h⟩ => ⟨i, a, b, (g i).mpr h⟩, fun ⟨i, a, b, h⟩ => ⟨i, a, b, (g i).mp h⟩⟩⟩
theorem lt_some {α : Type} {l : List α} {n : Nat} {x : α} (h : l[n]? = some x) : n < l.length := lt_of_some h
theorem Wf.drop {s : Sl} {f : List Int} (w : Wf s f) {n : Nat} {l : List Int} (h1 : 1 ≤ n) (hn : s[n]? = some (some l)) : Wf (s.set n none) (f ++ [(n : Int)]) := by
  have hl := lt_of_some hn
  have g : ∀ i, (s.set n none)[i]? = some none ↔ i = n ∨ s[i]? = some none := fun i => by
    rw [List.getElem?_set]
    by_cases e : n = i
    · subst e; rw [if_pos rfl, if_pos hl]; simp
    · rw [if_neg e]; simp; intro h; exact absurd h.symm e
  refine ⟨(g 0).mpr (.inr w.z), ?_, fun k => ?_⟩
  · rw [List.nodup_append]
    refine ⟨w.nd, by simp, fun a ha b hb => ?_⟩
    simp at hb; subst hb
    rintro rfl
    obtain ⟨i, e, _, h⟩ := (w.m _).mp ha
    have : n = i := by exact Int.ofNat.inj (by assumption)
    subst this; rw [hn] at h; cases h
  · rw [List.mem_append, w.m]
    constructor
    · rintro (⟨i, a, b, h⟩ | h)
      · exact ⟨i, a, b, (g i).mpr (.inr h)⟩
      · simp at h; exact ⟨n, h, h1, (g n).mpr (.inl rfl)⟩
    · rintro ⟨i, a, b, h⟩
      rcases (g i).mp h with rfl | h
      · exact .inr (by simp [a])
      · exact .inl ⟨i, a, b, h⟩
theorem Wf.push {s : Sl} (w : Wf s []) {l : List Int} : Wf (s ++ [some l]) [] := by
  have g : ∀ i, (s ++ [some l])[i]? = some none ↔ s[i]? = some none := fun i => by
    rcases Nat.lt_or_ge i s.length with h | h
    · rw [List.getElem?_append_left h]
    · rw [List.getElem?_append_right h, List.getElem?_eq_none h]
      cases i - s.length with
      | zero => simp
      | succ k => simp
  exact ⟨(g 0).mpr w.z, w.nd, fun n => (w.m n).trans ⟨fun ⟨i, a, b, h⟩ => ⟨i, a, b, (g i).mpr h⟩, fun ⟨i, a, b, h⟩ => ⟨i, a, b, (g i).mp h⟩⟩⟩
theorem Wf.pop {s : Sl} {f : List Int} {n : Nat} (w : Wf s (f ++ [(n : Int)])) {l : List Int} : Wf (s.set n (some l)) f := by
  obtain ⟨i, e, h1, h2⟩ := (w.m (n : Int)).mp (by simp)
  have e : n = i := by exact Int.ofNat.inj (by assumption)
  subst e
  have nd := List.nodup_append.mp w.nd
  have g : ∀ i, (s.set n (some l))[i]? = some none ↔ i ≠ n ∧ s[i]? = some none := fun i => by
    rw [List.getElem?_set]
    by_cases e : n = i
    · subst e; rw [if_pos rfl, if_pos (lt_of_some h2)]; simp
    · rw [if_neg e]; simp; intro _ h; exact absurd h.symm e
  refine ⟨(g 0).mpr ⟨by omega, w.z⟩, nd.1, fun k => ?_⟩
  constructor
  · intro hk
    obtain ⟨i, a, b, h⟩ := (w.m k).mp (List.mem_append.mpr (.inl hk))
    refine ⟨i, a, b, (g i).mpr ⟨fun e => ?_, h⟩⟩
    subst e
    exact nd.2.2 k hk (i : Int) (by simp) a
  · rintro ⟨i, a, b, h⟩
    obtain ⟨ne, h⟩ := (g i).mp h
    rcases List.mem_append.mp ((w.m k).mpr ⟨i, a, b, h⟩) with hk | hk
    · exact hk
    · simp at hk; omega
theorem Wf.trim {s : Sl} {f : List Int} (w : Wf s f) {last : Nat} (hl : last < s.length) : Wf (s.take (last + 1)) (f.filter fun n => decide (n < (last : Int) + 1)) := by
  refine ⟨by rw [List.getElem?_take, if_pos (by omega)]; exact w.z, ?_, fun k => ?_⟩
  · exact List.Pairwise.sublist List.filter_sublist w.nd
  · rw [List.mem_filter, w.m]
    simp only [decide_eq_true_eq, List.getElem?_take]
    constructor
    · rintro ⟨⟨i, a, b, h⟩, hk⟩
      exact ⟨i, a, b, by rw [if_pos (by omega)]; exact h⟩
    · rintro ⟨i, a, b, h⟩
      split at h
      · exact ⟨⟨i, a, b, h⟩, by omega⟩
      · cases h

/-- what the kept slots are, by the journal -/
noncomputable def jf (es : List (Int × Option (List Int))) (i : Nat) : Option (Int × Option (List Int)) := es.find? fun e => decide (e.1 = (i : Int))
noncomputable def Rb (s0 s : Sl) (es : List (Int × Option (List Int))) : Prop := ∀ i, i < s0.length → s0[i]? = some (match jf es i with | some e => e.2 | none => (s[i]?).join)
theorem jf_mem {es : List (Int × Option (List Int))} {i : Nat} : (es.map (·.1)).contains (i : Int) = (jf es i).isSome := by
  unfold jf
  induction es with
  | nil => rfl
  | cons e es ih =>
    simp only [List.map_cons, List.contains_cons, ih, List.find?_cons]
    by_cases h : e.1 = (i : Int)
    · simp [h]
    · have h' : ((i : Int) == e.1) = false := by rw [beq_eq_false_iff_ne]; exact fun x => h x.symm
      simp [h, h']
theorem jf_append (es : List (Int × Option (List Int))) (k : Int) (q : Option (List Int)) (i : Nat) : jf (es ++ [(k, q)]) i = (jf es i).or (if k = (i : Int) then some (k, q) else none) := by
  unfold jf
  rw [List.find?_append]
  congr 1
  simp only [List.find?_cons, List.find?_nil]
  by_cases h : k = (i : Int) <;> simp [h]
theorem Rb.touch {s0 s s' : Sl} {es : List (Int × Option (List Int))} (h : Rb s0 s es) (n : Nat) (hs : ∀ i, i ≠ n → i < s0.length → s'[i]? = s[i]?) :
    Rb s0 s' (if (es.map (·.1)).contains (n : Int) then es else es ++ [((n : Int), (s[n]?).join)]) := by
  intro i hi
  rw [h i hi]
  congr 1
  rw [jf_mem]
  cases hj : jf es n with
  | some e =>
    simp only [Option.isSome_some, if_true]
    by_cases e' : i = n
    · subst e'; rw [hj]
    · rw [hs i e' hi]
  | none =>
    simp only [Option.isSome_none, Bool.false_eq_true, if_false]
    rw [jf_append]
    by_cases e' : i = n
    · subst e'; rw [hj]; simp
    · rw [if_neg (by omega), Option.or_none, hs i e' hi]
theorem back_get (m : Nat) : ∀ (es : List (Int × Option (List Int))) (s : Sl) (i : Nat), (es.map (·.1)).Nodup → (∀ k ∈ es.map (·.1), 0 ≤ k) → i < m → i < s.length → (back m s es)[i]? = some (match jf es i with | some e => e.2 | none => (s[i]?).join)
  | [], s, i, _, _, _, hl => by
    simp only [back, jf, List.find?_nil]
    have : s[i]? = some s[i] := by simp [hl]
    rw [this]; rfl
  | (k, q) :: es, s, i, hn, hz, hm, hl => by
    simp only [List.map_cons, List.nodup_cons] at hn
    have k0 := hz k (.head _)
    simp only [back]
    rw [back_get m es _ i hn.2 (fun k hk => hz k (.tail _ hk)) hm (by split <;> simp [hl])]
    congr 1
    by_cases e : k = (i : Int)
    · subst e
      have : jf es i = none := by
        have := jf_mem (es := es) (i := i)
        cases hj : jf es i with
        | none => rfl
        | some x =>
          rw [hj] at this
          exact absurd (List.contains_iff_mem.mp this) hn.1
      rw [this, if_pos (by exact Int.ofNat_le.mpr (by assumption))]
      have : jf (((i : Int), q) :: es) i = some ((i : Int), q) := by simp [jf]
      rw [this]
      simp [hl]
    · have : jf ((k, q) :: es) i = jf es i := by simp [jf, e]
      rw [this]
      cases jf es i with
      | some x => rfl
      | none =>
        show ((if k < (m : Int) then s.set k.toNat q else s)[i]?).join = (s[i]?).join
        split
        · rw [List.getElem?_set_ne (by omega)]
        · rfl
theorem Rb.back {s0 s : Sl} {es : List (Int × Option (List Int))} (h : Rb s0 s es) (hn : (es.map (·.1)).Nodup) (hz : ∀ k ∈ es.map (·.1), 0 ≤ k) (hl : s0.length ≤ s.length) : (U9.back s0.length s es).take s0.length = s0 := by
  apply List.ext_getElem?
  intro i
  rw [List.getElem?_take]
  split
  · rename_i hi
    rw [back_get _ es s i hn hz hi (by exact Nat.lt_of_lt_of_le (by assumption) (by assumption)), h i hi]
  · rename_i hi
    rw [List.getElem?_eq_none (by exact Nat.not_lt.mp (by assumption))]

/-- the law's invariant, plainly -/
structure Inv (k : Nat) (A : PS) (T : List Int) (K : Option (Sl × List Int)) : Prop where
  wf : Wf A.slots A.free
  len : A.slots.length ≤ k + 1
  pg : ∀ l, some l ∈ A.slots → l.length ≤ k + 2
  tl : T.length ≤ k
  kp : (K = none ∧ A.jr = none) ∨ ∃ s0 f0 es, K = some (s0, f0) ∧ A.jr = some (es, f0, s0.length) ∧ es.map (·.1) = T ∧ T.Nodup ∧ (∀ k ∈ T, 0 ≤ k) ∧ Wf s0 f0 ∧ s0.length ≤ A.slots.length ∧ (∀ l, some l ∈ s0 → l.length ≤ k + 2) ∧ Rb s0 A.slots es
theorem Inv.mono {k : Nat} {A : PS} {T : List Int} {K : Option (Sl × List Int)} (I : Inv k A T K) : Inv (k + 1) A T K := by
  refine ⟨I.wf, by have := I.len; exact Nat.le_succ_of_le (by assumption), fun l h => by have := I.pg l h; exact Nat.le_succ_of_le (by assumption), by have := I.tl; exact Nat.le_succ_of_le (by assumption), ?_⟩
  rcases I.kp with h | ⟨s0, f0, es, a, b, c, d, e, f, g, h, i⟩
  · exact .inl h
  · exact .inr ⟨s0, f0, es, a, b, c, d, e, f, g, fun l hl => by have := h l hl; exact Nat.le_succ_of_le (by assumption), i⟩
noncomputable def touchT (T : List Int) (n : Nat) : List Int := if T.contains (n : Int) then T else T ++ [(n : Int)]
theorem Inv.touch {k : Nat} {A : PS} {T : List Int} {K : Option (Sl × List Int)} (I : Inv k A T K) (n : Nat) {s' : Sl} {f' : List Int} (hs : ∀ i, i ≠ n → i < A.slots.length → s'[i]? = A.slots[i]?) (h1 : A.slots.length ≤ s'.length) (h2 : s'.length ≤ k + 2) (wf : Wf s' f') (pg : ∀ l, some l ∈ s' → l.length ≤ k + 3) :
    Inv (k + 1) ⟨s', f', (A.note n).jr⟩ (touchT T n) K := by
  refine ⟨wf, h2, fun l h => by have := pg l h; omega, ?_, ?_⟩
  · have := I.tl; unfold touchT; split <;> simp <;> omega
  · rcases I.kp with ⟨h, h'⟩ | ⟨s0, f0, es, a, b, c, d, e, f, g, h, i⟩
    · exact .inl ⟨h, by unfold PS.note; rw [h']; exact h'⟩
    · refine .inr ⟨s0, f0, if (es.map (·.1)).contains (n : Int) then es else es ++ [((n : Int), (A.slots[n]?).join)], a, ?_, ?_, ?_, ?_, f, by show s0.length ≤ s'.length; exact Nat.le_trans (by assumption) (by assumption), fun l hl => by have := h l hl; exact Nat.le_succ_of_le (by assumption), i.touch n fun i hi hl => hs i hi (by exact Nat.lt_of_lt_of_le (by assumption) (by assumption))⟩
      · unfold PS.note; simp only [b]; split
        · exact b
        · rfl
      · unfold touchT; subst c
        split <;> simp
      · unfold touchT; split
        · exact d
        · rename_i hc
          rw [List.nodup_append]
          refine ⟨d, by simp, fun a ha b hb => ?_⟩
          simp at hb; subst hb
          rintro rfl
          exact hc (List.contains_iff_mem.mpr ha)
      · unfold touchT; split
        · exact e
        · intro k hk
          rcases List.mem_append.mp hk with hk | hk
          · exact e k hk
          · simp at hk; omega
theorem Inv.small {k : Nat} {A : PS} {T : List Int} {K : Option (Sl × List Int)} (I : Inv k A T K) (hk : k ≤ 20) : Small A ∧ Nn A ∧ A.slots.length < 60 := by
  have h1 := I.len
  have h2 := I.wf.pm.length_eq
  have h3 := pick_count A.slots 1
  refine ⟨⟨by omega, by omega, fun l h => by have := I.pg l h; omega, fun es of m h => ?_⟩, fun es of m h => ?_, by omega⟩
  · rcases I.kp with ⟨_, h'⟩ | ⟨s0, f0, es', a, b, c, _⟩
    · rw [h'] at h; cases h
    · rw [b] at h; cases h
      have := I.tl; rw [← c] at this; simp at this; omega
  · rcases I.kp with ⟨_, h'⟩ | ⟨s0, f0, es', a, b, c, _, e, _⟩
    · rw [h'] at h; cases h
    · rw [b] at h; cases h
      rw [c]; exact e
end U9
end Mine
end
section
set_option autoImplicit false
set_option genSizeOf false
set_option genInjectivity false
set_option linter.unusedVariables false
set_option linter.unusedSimpArgs false
namespace Mine
open PySem
namespace U9
variable {c : Cfg} {N : Nm} {d : Nat} {H H' : MH} {p : Addr} {A : PS} {sc : Addr} {scr : List Int} {sL fL tL : Addr} {kv : MVal} {s : Sl} {f T : List Int} {K : Option (Sl × List Int)} {F : List Addr} {ys : List MVal}

theorem head_none (h : LL H F ys s) (z : s[0]? = some none) : ys[0]? = some .none := by
  have hl : 0 < ys.length := by rw [h.1]; exact lt_of_some z
  have e : ys[0]? = some ys[0] := by simp
  rw [e, (h.2 0 _ _ e z).1 rfl]
theorem not_ints (h : ys[0]? = some .none) (l : List Int) : ys ≠ l.map .int := fun e => by
  subst e; cases l <;> simp at h
theorem LL.upd (h : LL H F ys s) {x : Addr} {t : Tag} {o : MObj} (hx : x ∈ F ∨ ∀ l : List Int, H x ≠ some (t0, .list (l.map .int))) : LL (Mine.upd H x t o) F ys s := ⟨h.1, fun i v q a b => ⟨(h.2 i v q a b).1, fun l e => by
  obtain ⟨b', e', g, n⟩ := (h.2 i v q a b).2 l e
  refine ⟨b', e', ?_, n⟩
  rw [upd_ne]; exact g
  rintro rfl
  rcases hx with hx | hx
  · exact n hx
  · exact hx l g⟩⟩
theorem LL.set (h : LL H F ys s) {n : Nat} {r : Addr} {l : List Int} (hr : H r = some (t0, .list (l.map .int))) (hF : r ∉ F) : LL H F (ys.set n (.ref r)) (s.set n (some l)) := ⟨by simp [h.1], fun i v q a b => by
  rw [List.getElem?_set] at a b
  by_cases e : n = i
  · subst e
    rw [if_pos rfl] at a b
    split at a
    · rw [if_pos (by rw [← h.1]; assumption)] at b
      cases a; cases b
      exact ⟨fun h => (nomatch h), fun l' e => by cases e; exact ⟨r, rfl, hr, hF⟩⟩
    · cases a
  · rw [if_neg e] at a b
    exact h.2 i v q a b⟩
theorem LL.setN (h : LL H F ys s) {n : Nat} : LL H F (ys.set n .none) (s.set n none) := ⟨by simp [h.1], fun i v q a b => by
  rw [List.getElem?_set] at a b
  by_cases e : n = i
  · subst e
    rw [if_pos rfl] at a b
    split at a
    · rw [if_pos (by rw [← h.1]; assumption)] at b
      cases a; cases b
      exact ⟨fun _ => rfl, fun l' e => nomatch e⟩
    · cases a
  · rw [if_neg e] at a b
    exact h.2 i v q a b⟩
theorem LL.push (h : LL H F ys s) {r : Addr} {l : List Int} (hr : H r = some (t0, .list (l.map .int))) (hF : r ∉ F) : LL H F (ys ++ [.ref r]) (s ++ [some l]) := ⟨by simp [h.1], fun i v q a b => by
  rcases Nat.lt_trichotomy i ys.length with hi | hi | hi
  · rw [List.getElem?_append_left hi] at a
    rw [List.getElem?_append_left (by rw [← h.1]; exact hi)] at b
    exact h.2 i v q a b
  · subst hi
    rw [List.getElem?_append_right (Nat.le_refl _)] at a
    rw [h.1, List.getElem?_append_right (Nat.le_refl _)] at b
    simp at a b
    subst a; subst b
    exact ⟨fun h => (nomatch h), fun l' e => by cases e; exact ⟨r, rfl, hr, hF⟩⟩
  · rw [List.getElem?_append_right (Nat.le_of_lt (by assumption)), List.getElem?_eq_none (by simp; exact Nat.sub_pos_of_lt (by assumption))] at a; cases a⟩
theorem LL.take (h : LL H F ys s) (n : Nat) : LL H F (ys.take n) (s.take n) := ⟨by simp [h.1], fun i v q a b => by
  rw [List.getElem?_take] at a b
  split at a
  · rename_i hi; rw [if_pos hi] at b; exact h.2 i v q a b
  · cases a⟩
theorem LL.less {F' : List Addr} (h : LL H F ys s) (hF : ∀ x ∈ F', x ∈ F) : LL H F' ys s := ⟨h.1, fun i v q a b => ⟨(h.2 i v q a b).1, fun l e => let ⟨b', e', g, n⟩ := (h.2 i v q a b).2 l e; ⟨b', e', g, fun hm => n (hF _ hm)⟩⟩⟩

/-- what is kept begins with nothing too -/
noncomputable def Kz : Option (Sl × List Int) → Prop
  | none => True
  | some (s0, _) => s0[0]? = some none
theorem Inv.kz {k : Nat} (I : Inv k A T K) : Kz K := by
  rcases I.kp with ⟨h, _⟩ | ⟨s0, f0, es, a, b, c, d, e, w, _⟩
  · rw [h]; trivial
  · rw [a]; exact w.z

theorem Kp.upd (x : Kp H sL fL kv K) (kz : Kz K) {a : Addr} {t : Tag} {o : MObj} (h : (a = sL ∧ ∀ l : List Int, H sL ≠ some (t0, .list (l.map .int))) ∨ (a = fL ∧ ∃ l : List Int, H fL = some (t0, .list (l.map .int))) ∨ (∃ T, H a = some (t0, .set T)) ∨ H a = none) : Kp (Mine.upd H a t o) sL fL kv K := by
  cases K with
  | none => exact x
  | some y =>
    obtain ⟨s0, f0⟩ := y
    obtain ⟨ks, kf, zs, e, ⟨n1, n2⟩, hk, hl, hf⟩ := x
    have hz := head_none hl kz
    have k1 : ks ≠ a := by
      rcases h with ⟨rfl, h⟩ | ⟨rfl, l, h⟩ | ⟨T, h⟩ | h
      · exact n1
      · rintro rfl; rw [h] at hk; cases hk; exact not_ints hz l rfl
      · rintro rfl; rw [h] at hk; cases hk
      · rintro rfl; rw [h] at hk; cases hk
    have k2 : kf ≠ a := by
      rcases h with ⟨rfl, h⟩ | ⟨rfl, l, h⟩ | ⟨T, h⟩ | h
      · rintro rfl; exact h _ hf
      · exact n2
      · rintro rfl; rw [h] at hf; cases hf
      · rintro rfl; rw [h] at hf; cases hf
    refine ⟨ks, kf, zs, e, ⟨n1, n2⟩, by rw [upd_ne _ _ _ k1]; exact hk, hl.upd ?_, by rw [upd_ne _ _ _ k2]; exact hf⟩
    rcases h with ⟨rfl, h⟩ | ⟨rfl, l, h⟩ | ⟨T, h⟩ | h
    · exact .inr h
    · exact .inl (by simp)
    · exact .inr fun l e => by rw [h] at e; cases e
    · exact .inr fun l e => by rw [h] at e; cases e

theorem Lw.nes (W : Lw H sL fL tL kv s f T K) (z : s[0]? = some none) : (sL ≠ fL ∧ sL ≠ tL) ∧ fL ≠ tL ∧ ∀ l : List Int, H sL ≠ some (t0, .list (l.map .int)) := by
  obtain ⟨ys, h1, h2⟩ := W.s
  have hz := head_none h2 z
  have ni : ∀ l : List Int, H sL ≠ some (t0, .list (l.map .int)) := fun l e => by rw [h1] at e; cases e; exact not_ints hz l rfl
  refine ⟨⟨?_, ?_⟩, ?_, ni⟩
  · rintro rfl; exact ni _ W.f
  · rintro rfl; rw [W.t] at h1; cases h1
  · rintro rfl; have := W.f; rw [W.t] at this; cases this

theorem Lw.setS (W : Lw H sL fL tL kv s f T K) (z : s[0]? = some none) (kz : Kz K) {ys' : List MVal} {s' : Sl} (h : LL H (fL :: kfs kv) ys' s') : Lw (Mine.upd H sL t0 (.list ys')) sL fL tL kv s' f T K := by
  obtain ⟨⟨n1, n2⟩, n4, ni⟩ := W.nes z
  exact ⟨⟨ys', upd_same _ _ _ _, h.upd (.inr ni)⟩, by rw [upd_ne _ _ _ n1.symm]; exact W.f, by rw [upd_ne _ _ _ n2.symm]; exact W.t, W.k.upd kz (.inl ⟨rfl, ni⟩)⟩
theorem Lw.setF (W : Lw H sL fL tL kv s f T K) (z : s[0]? = some none) (kz : Kz K) (f' : List Int) : Lw (Mine.upd H fL t0 (.list (f'.map .int))) sL fL tL kv s f' T K := by
  obtain ⟨⟨n1, n2⟩, n4, ni⟩ := W.nes z
  obtain ⟨ys, h1, h2⟩ := W.s
  exact ⟨⟨ys, by rw [upd_ne _ _ _ n1]; exact h1, h2.upd (.inl (by simp))⟩, upd_same _ _ _ _, by rw [upd_ne _ _ _ n4.symm]; exact W.t, W.k.upd kz (.inr (.inl ⟨rfl, _, W.f⟩))⟩
theorem Lw.setT (W : Lw H sL fL tL kv s f T K) (z : s[0]? = some none) (kz : Kz K) (T' : List Int) : Lw (Mine.upd H tL t0 (.set T')) sL fL tL kv s f T' K := by
  obtain ⟨⟨n1, n2⟩, n4, ni⟩ := W.nes z
  obtain ⟨ys, h1, h2⟩ := W.s
  exact ⟨⟨ys, by rw [upd_ne _ _ _ n2]; exact h1, h2.upd (.inr fun l e => by rw [W.t] at e; cases e)⟩, by rw [upd_ne _ _ _ n4]; exact W.f, upd_same _ _ _ _, W.k.upd kz (.inr (.inr (.inl ⟨_, W.t⟩)))⟩

/-- what holds at the start of each turn -/
inductive J (N : Nm) (sc : Addr) (p : Addr) (k : Nat) (σ : Lcs) (H : MH) : Prop
  | mk (sL fL tL : Addr) (kv : MVal) (A : PS) (T : List Int) (K : Option (Sl × List Int)) (a6 a7 a8 a9 a10 a11 a12 a13 a14 : Option MVal)
    (e : σ = [some (.ro sc), some (.ref p), some (.ref sL), some (.ref fL), some kv, some (.ref tL), a6, a7, a8, a9, a10, a11, a12, a13, a14]) (P : PInv N H p A) (W : Lw H sL fL tL kv A.slots A.free T K) (I : Inv k A T K) : J N sc p k σ H

theorem kv_is {k : Nat} (W : Lw H sL fL tL kv A.slots A.free T K) (I : Inv k A T K) : isM kv .none = some (!A.jr.isSome) := by
  have x := W.k
  rcases I.kp with ⟨h, h'⟩ | ⟨s0, f0, es, a, b, _⟩
  · rw [h] at x; have x : kv = .none := x; rw [x, h']; rfl
  · rw [a] at x; obtain ⟨ks, kf, zs, e, _⟩ := x; rw [e, b]; rfl
end U9
end Mine
end
section
set_option autoImplicit false
set_option linter.unusedVariables false
set_option linter.unusedSimpArgs false
namespace Mine
open PySem
namespace U9
variable {c : Cfg} {N : Nm} {d : Nat} {H H' : MH} {p : Addr} {A : PS} {sc : Addr} {scr : List Int} {sL fL tL : Addr} {kv : MVal} {T : List Int} {Kp : Option (Sl × List Int)} {k : Nat}

noncomputable abbrev st (sc p sL fL tL : Addr) (kv : MVal) (a6 a7 a8 a9 a10 a11 a12 a13 a14 : Option MVal) : Lcs := [some (.ro sc), some (.ref p), some (.ref sL), some (.ref fL), some kv, some (.ref tL), a6, a7, a8, a9, a10, a11, a12, a13, a14]

theorem pw5 : ∀ (j : Nat) (h : j ≤ 4), (0 : Int) < 5 ^ j ∧ (5 : Int) ^ j < 2 ^ 30 := by decide

theorem pre_ok (Tx : Tx c N) (P : PInv N H p A) (I : Inv k A T Kp) (W : Lw H sL fL tL kv A.slots A.free T Kp) (hsc : c.ro sc = some (scr.map .int)) (h4 : 4 ≤ scr.length) (h63 : scr.length ≤ 63) (hk : k < 18) {a7 a8 a9 a10 a11 a12 a13 a14 : Option MVal} {K : MFlow → Lcs → MH → Prop}
    (hK : ∀ (m : Nat) (nr : Int) lv H', PInv N H' p A → Fr H H' → (nr = 0 ∨ nr ∈ pick true 1 A.slots) → K .next (st sc p sL fL tL kv (some (.int k)) (some (.int m)) (some (.int (m % 9 : Nat))) (some (.ref lv)) (some (.int nr)) a11 a12 a13 a14) H') :
    wpSs c (d + 6) true s_pre (st sc p sL fL tL kv (some (.int k)) a7 a8 a9 a10 a11 a12 a13 a14) H K := by
  obtain ⟨ys, hs, hl⟩ := W.s
  have hsm := (I.small (r4 (by assumption) (by decide))).2.2
  have hcnt := pick_count A.slots 1
  have hlen : (scr.map MVal.int).length = scr.length := by simp
  have hidx : k % scr.length < scr.length := Nat.mod_lt _ (by omega)
  obtain ⟨x, hx⟩ : ∃ x, scr[k % scr.length]? = some x := ⟨scr[k % scr.length], by simp [hidx]⟩
  have hx' : (scr.map MVal.int)[k % scr.length]? = some (.int x) := by rw [List.getElem?_map, hx]; rfl
  have hdiv : k / scr.length ≤ 4 := by
    have : k / scr.length ≤ k / 4 := Nat.div_le_div_left h4 (by decide)
    omega
  have p5 := pw5 _ hdiv
  have e1 : ((k : Int) / (scr.length : Int)).toNat = k / scr.length := by rw [← Int.natCast_ediv, Int.toNat_natCast]
  obtain ⟨m, hm⟩ : ∃ m : Nat, ((x.natAbs : Int) / 5 ^ (k / scr.length) + 7 * (k : Int)) = m := by
    refine ⟨x.natAbs / 5 ^ (k / scr.length) + 7 * k, ?_⟩
    simp
  simp only [s_pre, oV_, v_i, v_l, v_g, v_o, v_u, v_f, v_p, l_0, l_1, k2_, k1_, ks2_, ks1_, kw_, kf_, kp_, xl2_, xl1_, kas_, ks_n, w_1, s_a, lg, ls, cw_bi, cw_ty, bw_add, bw_mul, bw_fdiv, bw_mod, bw_pow, bi_abs, ty_range2, true_and, List.length_nil, List.length_cons, Nat.reduceAdd, Tx.g_len, Tx.g_abs, Tx.g_range, bi_len_ro hsc, bi_len_list hs, hlen, sub_ro (k := (k : Int) % (scr.length : Int)) (i := k % scr.length) hsc (by simp) hx', e1]
  refine ⟨by omega, by omega, ⟨?_, ?_, by decide⟩, p5, ⟨by decide, by exact r3 (by assumption) (by decide)⟩, ?_⟩
  · exact Int.ediv_nonneg (by omega) (by omega)
  · have : (k : Int) / (scr.length : Int) = ((k / scr.length : Nat) : Int) := by simp
    rw [this]; omega
  rw [hm]
  simp only [oI_, it_rng]
  have h2 := hl.1
  refine ⟨by decide, by decide, ⟨by decide, by exact r2 (by assumption) (by assumption) (by decide)⟩, rlen (by decide) (r2 (by assumption) (by assumption) (by decide)), ?_⟩
  have e : (fun (i : Nat) => MVal.int (1 + (i : Int))) = fun (i : Nat) => MVal.int (((1 : Nat) : Int) + (i : Int)) := rfl
  rw [e]
  refine live_snd hs hl.lr.sr 1 (r10 (by assumption)) (fun i u kk _ hi hu his hk => ?_) ?_ rfl
  · simp only [oV_, oT_, oM_, v_n, v_l, v_c, v_u, b_c, t_1, tv_, kc2_, kc1_, ks2_, ks1_, kp1_, lg, ls, cm_isnt, tr_b, Option.map_some, sub_list hs rfl hu, his, Bool.not_not]
    cases hj : ((A.slots[i]?).join).isSome with
    | true => rw [hj] at hk; simp only [oV_, v_l, t_0, kp3_, kp21, xt11, lg]; simpa using hk
    | false => rw [hj] at hk; simp only [kp20, xt10]; simpa using hk
  · intro lv hlv
    have g1 := upd_same H lv t0 (.list ((pick true 1 A.slots).map .int))
    have k1 : Keep H (upd H lv t0 (.list ((pick true 1 A.slots).map .int))) := (Keep.rfl' H).new hlv
    generalize upd H lv t0 (.list ((pick true 1 A.slots).map .int)) = H1 at *
    simp only [oV_, v_i, v_l, v_o, v_u, v_li, l_0, l_1, k1_, kl_, xl2_, xl1_, kas_, ks_n, w_1, s_a, lg, ls, List.length_nil, List.length_cons]
    refine ⟨by decide, fun r2 hr2 => ?_⟩
    have k2 : ∀ o, Keep H1 (upd H1 r2 t0 o) := fun o => (Keep.rfl' _).new hr2
    simp only [k2_, List.length_nil, List.length_cons, bw_cat (k2 _ _ _ g1) (upd_same H1 r2 t0 _)]
    refine ⟨by simp [BIG]; exact r14 (by assumption) (by assumption) (by decide), fun r3 hr3 => ?_⟩
    have k3 : ∀ o, Keep (upd H1 r2 t0 (.list [.int 0])) (upd (upd H1 r2 t0 (.list [.int 0])) r3 t0 o) := fun o => (Keep.rfl' _).new hr3
    have ec : (pick true 1 A.slots).map MVal.int ++ [.int 0] = (pick true 1 A.slots ++ [0]).map .int := by simp
    rw [ec]
    have kk := (k1.trans (k2 (.list [.int 0]))).trans (k3 (.list ((pick true 1 A.slots ++ [0]).map .int)))
    have g3 := upd_same (upd H1 r2 t0 (.list [.int 0])) r3 t0 (.list ((pick true 1 A.slots ++ [0]).map .int))
    have g1' := k3 (.list ((pick true 1 A.slots ++ [0]).map .int)) _ _ (k2 (.list [.int 0]) _ _ g1)
    generalize upd (upd H1 r2 t0 (.list [.int 0])) r3 t0 (.list ((pick true 1 A.slots ++ [0]).map .int)) = H3 at *
    simp only [oV_, v_i, v_l, v_g, v_o, v_f, l_0, l_1, k2_, k1_, ks2_, ks1_, kw_, kf_, xl2_, xl1_, lg, cw_bi, bw_add, bw_fdiv, bw_mod, Tx.g_len, bi_len_list g1', List.length_map]
    refine ⟨by decide, by omega, ?_⟩
    have hj : m / 9 % ((pick true 1 A.slots).length + 1) < (pick true 1 A.slots ++ [0]).length := by simp; exact Nat.mod_lt _ (by omega)
    obtain ⟨nr, hnr⟩ : ∃ nr, (pick true 1 A.slots ++ [0])[m / 9 % ((pick true 1 A.slots).length + 1)]? = some nr := ⟨_, List.getElem?_eq_getElem hj⟩
    rw [sub_list (k := (m : Int) / 9 % (((pick true 1 A.slots).length : Int) + 1)) (i := m / 9 % ((pick true 1 A.slots).length + 1)) (v := .int nr) g3 (by simp) (by rw [List.getElem?_map, hnr]; rfl)]
    have hmem := List.mem_of_getElem? hnr
    have e9 : (m : Int) % 9 = ((m % 9 : Nat) : Int) := by simp
    rw [e9]
    refine hK m nr lv H3 (P.keep kk) kk.fr ?_
    rcases List.mem_append.mp hmem with h | h
    · exact .inr h
    · simp at h; exact .inl h
end U9
end Mine
end
section
set_option autoImplicit false
set_option linter.unusedVariables false
set_option linter.unusedSimpArgs false
namespace Mine
open PySem
theorem rd_cons {H : MH} {a : Addr} {t : Tag} {x : Int} {l : List Int} (h : H a = some (t, .list ((x :: l).map .int))) {b : Addr} {t' : Tag} (h' : H b = some (t', .list [])) : eqM H (.ref a) (.ref b) = some false := by
  rw [eqM_t (rd_ints 58 h) (rd_nil 58 h')]; rfl
namespace U9
variable {c : Cfg} {N : Nm} {d : Nat} {H H' : MH} {p : Addr} {A : PS} {sc : Addr} {scr : List Int} {sL fL tL : Addr} {kv : MVal} {T : List Int} {Kp : Option (Sl × List Int)} {k : Nat}

theorem Lw.fresh {s : Sl} {f : List Int} (W : Lw H sL fL tL kv s f T Kp) {r : Addr} (hr : H r = none) : r ∉ fL :: kfs kv := by
  intro hm
  rcases List.mem_cons.mp hm with rfl | hm
  · have := W.f; rw [hr] at this; cases this
  · have x := W.k
    cases Kp with
    | none => have x : kv = .none := x; subst x; simp [kfs] at hm
    | some y =>
      obtain ⟨s0, f0⟩ := y
      obtain ⟨ks, kf, zs, rfl, _, _, _, hf⟩ := x
      simp [kfs] at hm; subst hm
      rw [hr] at hf; cases hf
theorem Lw.keep {s : Sl} {f : List Int} (k : Keep H H') (W : Lw H sL fL tL kv s f T Kp) : Lw H' sL fL tL kv s f T Kp := W.fr k.fr

/-- the law writes its page down and marks the number -/
theorem down (Tx : Tx c N) {A' : PS} (P : PInv N H p A') {s : Sl} {f : List Int} (W : Lw H sL fL tL kv s f T Kp) (z : s[0]? = some none) (kz : Kz Kp) {n : Nat} (hn : n < s.length) (hT : T.length < 1000) {l : List Int} {r : Addr} (hr : H r = some (t0, .list (l.map .int))) (hF : r ∉ fL :: kfs kv)
    {R : MH → Prop} (hR : ∀ H', PInv N H' p A' → Lw H' sL fL tL kv (s.set n (some l)) f (touchT T n) Kp → R H') : ∃ ys, H sL = some (t0, .list ys) ∧ ys.length = s.length ∧ upd H sL t0 (.list (ys.set n (.ref r))) tL = some (t0, .set T) ∧ R (upd (upd H sL t0 (.list (ys.set n (.ref r)))) tL t0 (.set (touchT T n))) := by
  obtain ⟨ys, hs, hl⟩ := W.s
  have z' : (s.set n (some l))[0]? = some none ∨ n = 0 := by
    by_cases e : n = 0
    · exact .inr e
    · left; rw [List.getElem?_set_ne e]; exact z
  have W1 := W.setS z kz (hl.set (n := n) hr hF)
  refine ⟨ys, hs, hl.1, W1.t, hR _ ((P.own hs rfl).own W1.t rfl) ?_⟩
  obtain ⟨⟨n1, n2⟩, n4, ni⟩ := W.nes z
  obtain ⟨ys', h1, h2⟩ := W1.s
  have k1 := W1.k.upd kz (a := tL) (t := t0) (o := .set (touchT T n)) (.inr (.inr (.inl ⟨_, W1.t⟩)))
  exact ⟨⟨ys', by rw [upd_ne _ _ _ n2]; exact h1, h2.upd (.inr fun l e => by rw [W1.t] at e; cases e)⟩, by rw [upd_ne _ _ _ n4]; exact W1.f, upd_same _ _ _ _, k1⟩

theorem k1_ok (Tx : Tx c N) (P : PInv N H p A) (I : Inv k A T Kp) (W : Lw H sL fL tL kv A.slots A.free T Kp) (hk : k < 18) {m : Nat} {nr : Int} (hnr : nr ∈ pick true 1 A.slots) {a8 a9 a11 a12 a13 a14 : Option MVal} {K : MFlow → Lcs → MH → Prop}
    (hK : ∀ σ' H', J N sc p (k + 1) σ' H' → K .next σ' H') : wpSs c (d + 6) true s_k1 (st sc p sL fL tL kv (some (.int k)) (some (.int m)) a8 a9 (some (.int nr)) a11 a12 a13 a14) H K := by
  obtain ⟨sm, nn, s60⟩ := I.small (r4 (by assumption) (by decide))
  obtain ⟨n, l, rfl, h1, hn⟩ := pg_of_live hnr
  have hlt := lt_of_some hn
  have z := I.wf.z
  have hT := I.tl
  simp only [s_k1, oV_, v_l, v_li, v_k, l_0, l_1, kl_, km2_, km_, xl2_, xl1_, w_1, s_e, lg, List.length_nil, List.length_cons, Nat.reduceAdd, P.m Tx.m_write fun _ _ _ _ _ _ _ => rfl]
  refine ⟨by decide, fun pg hpg => ?_⟩
  simp only [l_0, km3_, xl2_, xl1_, cw_ref, List.cons_append, List.nil_append]
  refine ⟨Tx.b_Pages_write.1, ?_⟩
  refine write_ok (l := [(m : Int), (k : Int)]) Tx (P.new hpg) sm nn (upd_same _ _ _ _) h1 hn fun H2 P2 f2 => ?_
  simp only [oV_, v_l, v_li, l_0, l_1, kl_, xl2_, xl1_, ke_, ks_n, w_1, s_as, lg, List.length_nil, List.length_cons]
  refine ⟨by decide, fun r hr => ?_⟩
  have f2 := FrX.fr f2 hpg
  have W2 := W.fr f2
  have k3 : Keep H2 (upd H2 r t0 (.list [.int m, .int k])) := (Keep.rfl' _).new hr
  have hInv : Inv (k + 1) { A.note n with slots := A.slots.set n (some [(m : Int), (k : Int)]) } (touchT T n) Kp := by
    show Inv (k + 1) ⟨_, (A.note n).free, _⟩ _ _
    rw [note_free]
    refine I.touch n (fun i hi _ => List.getElem?_set_ne (fun e => hi e.symm)) (by simp) (by simp; have := I.len; exact Nat.le_succ_of_le (by assumption)) (I.wf.put hn) fun l' hl' => ?_
    rcases List.mem_or_eq_of_mem_set hl' with h | h
    · have := I.pg l' h; exact Nat.le_succ_of_le (by assumption)
    · cases h; simp
  obtain ⟨ys, hs, hyl, ht, hR⟩ := down (n := n) (l := [(m : Int), (k : Int)]) (r := r) (R := fun H' => K .next (st sc p sL fL tL kv (some (.int k)) (some (.int m)) a8 a9 (some (.int n)) a11 a12 a13 a14) H') Tx (P2.keep k3) (W2.keep k3) z I.kz hlt (r5 (by assumption) (by assumption) (by decide)) (upd_same _ _ _ _) (W2.fresh hr) fun H' P' W' => hK _ _ ⟨sL, fL, tL, kv, _, _, _, _, _, _, _, _, _, _, _, _, rfl, P', by show Lw _ _ _ _ _ _ (A.note n).free _ _; rw [note_free]; exact W', hInv⟩
  simp only [si_list hs rfl (show n < ys.length by exact r1 (by assumption) (by assumption)), oV_, v_l, v_k, l_0, l_1, km3_, km2_, km_, xl2_, xl1_, ke_, kh_, kic_, kib_, kia_, ks_n, w_0, w_1, s_e, lg, cw_bi, List.cons_append, List.nil_append, m_sadd ht, bi_sadd ht]
  exact ⟨by exact r5 (by assumption) (by assumption) (by decide), hR⟩

theorem k2_ok (Tx : Tx c N) (P : PInv N H p A) (I : Inv k A T Kp) (W : Lw H sL fL tL kv A.slots A.free T Kp) (hk : k < 18) {nr : Int} (hnr : nr ∈ pick true 1 A.slots) {a7 a8 a9 a11 a12 a13 a14 : Option MVal} {K : MFlow → Lcs → MH → Prop}
    (hK : ∀ σ' H', J N sc p (k + 1) σ' H' → K .next σ' H') : wpSs c (d + 6) true s_k2 (st sc p sL fL tL kv (some (.int k)) a7 a8 a9 (some (.int nr)) a11 a12 a13 a14) H K := by
  obtain ⟨sm, nn, s60⟩ := I.small (r4 (by assumption) (by decide))
  obtain ⟨n, l, rfl, h1, hn⟩ := pg_of_live hnr
  have hlt := lt_of_some hn
  have z := I.wf.z
  have hT := I.tl
  have hpl := I.pg l (List.mem_of_getElem? hn)
  simp only [s_k2, oV_, v_l, v_k, l_0, l_1, km3_, km2_, km_, xl2_, xl1_, w_1, s_e, lg, cw_ref, List.cons_append, List.nil_append, P.m Tx.m_change fun _ _ _ _ _ _ _ => rfl]
  refine ⟨Tx.b_Pages_change.1, ?_⟩
  refine change_ok Tx P sm nn h1 hn fun a H1 P1 f1 ha => ?_
  simp only [m_append ha, oV_, v_l, v_o, v_u, l_0, l_1, ks2_, ks1_, km3_, km2_, km_, xl2_, xl1_, ke_, ks_n, w_1, s_as, lg, cw_bi, List.cons_append, List.nil_append, bi_append ha]
  refine ⟨by simp [BIG]; exact r6 (by assumption) (by assumption) (by decide), ?_⟩
  have P2 := P1.put ha (l ++ [(k : Int)])
  have e : l.map MVal.int ++ [.int k] = (l ++ [(k : Int)]).map .int := by simp
  rw [e]
  have f2 : Fr H (upd H1 a (1, n) (.list ((l ++ [(k : Int)]).map .int))) := f1.upd' ha (by simp)
  generalize upd H1 a (1, n) (.list ((l ++ [(k : Int)]).map .int)) = H2 at *
  have W2 := W.fr f2
  obtain ⟨ys, hs, hl⟩ := W2.s
  obtain ⟨u, hu⟩ : ∃ u, ys[n]? = some u := ⟨ys[n]'(by rw [hl.1]; exact hlt), by simp [hl.1, hlt]⟩
  obtain ⟨b, rfl, hb, _⟩ := (hl.2 n u _ hu hn).2 l rfl
  simp only [oV_, v_l, v_li, l_0, l_1, k1_, kl_, xl2_, xl1_, lg, List.length_nil, List.length_cons, sub_list hs rfl hu]
  refine ⟨by decide, fun r hr => ?_⟩
  have k3 : ∀ o, Keep H2 (upd H2 r t0 o) := fun o => (Keep.rfl' _).new hr
  have hb1 : upd H2 r t0 (.list [.int k]) b = some (t0, .list (l.map .int)) := k3 _ _ _ hb
  simp only [k2_, List.length_nil, List.length_cons, bw_cat hb1 (upd_same H2 r t0 (.list [.int k]))]
  refine ⟨by simp [BIG]; omega, fun r2 hr2 => ?_⟩
  rw [e]
  have k4 : Keep (upd H2 r t0 (.list [.int k])) (upd (upd H2 r t0 (.list [.int k])) r2 t0 (.list ((l ++ [(k : Int)]).map .int))) := (Keep.rfl' _).new hr2
  have kk := (k3 _).trans k4
  have hInv : Inv (k + 1) { A.note n with slots := (A.note n).slots.set n (some (l ++ [(k : Int)])) } (touchT T n) Kp := by
    show Inv (k + 1) ⟨(A.note n).slots.set n _, (A.note n).free, _⟩ _ _
    rw [note_free, note_slots]
    refine I.touch n (fun i hi _ => List.getElem?_set_ne (fun e => hi e.symm)) (by simp) (by simp; have := I.len; exact Nat.le_succ_of_le (by assumption)) (I.wf.put hn) fun l' hl' => ?_
    rcases List.mem_or_eq_of_mem_set hl' with h | h
    · have := I.pg l' h; exact Nat.le_succ_of_le (by assumption)
    · cases h; simp; omega
  obtain ⟨ys, hs, hyl, ht, hR⟩ := down (n := n) (l := l ++ [(k : Int)]) (r := r2) (R := fun H' => K .next (st sc p sL fL tL kv (some (.int k)) a7 a8 a9 (some (.int n)) a11 a12 a13 a14) H') Tx (P2.keep kk) (W2.keep kk) z I.kz hlt (r5 (by assumption) (by assumption) (by decide)) (upd_same _ _ _ _) ((W2.keep (k3 _)).fresh hr2) fun H' P' W' => hK _ _ ⟨sL, fL, tL, kv, _, _, _, _, _, _, _, _, _, _, _, _, rfl, P', by show Lw _ _ _ _ _ ((A.note n).slots.set n _) (A.note n).free _ _; rw [note_free, note_slots]; exact W', hInv⟩
  simp only [si_list hs rfl (show n < ys.length by exact r1 (by assumption) (by assumption)), oV_, v_l, v_k, l_0, l_1, km3_, km2_, km_, xl2_, xl1_, ke_, kh_, kic_, kib_, kia_, ks_n, w_0, w_1, s_e, lg, cw_bi, List.cons_append, List.nil_append, m_sadd ht, bi_sadd ht]
  exact ⟨by exact r5 (by assumption) (by assumption) (by decide), hR⟩
end U9
end Mine
end
section
set_option autoImplicit false
set_option linter.unusedVariables false
set_option linter.unusedSimpArgs false
namespace Mine
open PySem
namespace U9
variable {c : Cfg} {N : Nm} {d : Nat} {H H' : MH} {p : Addr} {A : PS} {sc : Addr} {scr : List Int} {sL fL tL : Addr} {kv : MVal} {T : List Int} {Kp : Option (Sl × List Int)} {k : Nat}

theorem k3_ok (Tx : Tx c N) (P : PInv N H p A) (I : Inv k A T Kp) (W : Lw H sL fL tL kv A.slots A.free T Kp) (hk : k < 18) {nr : Int} (hnr : nr ∈ pick true 1 A.slots) {a7 a8 a9 a11 a12 a13 a14 : Option MVal} {K : MFlow → Lcs → MH → Prop}
    (hK : ∀ σ' H', J N sc p (k + 1) σ' H' → K .next σ' H') : wpSs c (d + 6) true s_k3 (st sc p sL fL tL kv (some (.int k)) a7 a8 a9 (some (.int nr)) a11 a12 a13 a14) H K := by
  obtain ⟨sm, nn, s60⟩ := I.small (r4 (by assumption) (by decide))
  obtain ⟨n, l, rfl, h1, hn⟩ := pg_of_live hnr
  have hlt := lt_of_some hn
  have z := I.wf.z
  have hT := I.tl
  have hfl := sm.f
  have z' : (A.slots.set n none)[0]? = some none := by rw [List.getElem?_set_ne (by omega)]; exact z
  simp only [s_k3, oV_, v_l, v_k, l_0, l_1, km3_, km2_, km_, xl2_, xl1_, w_1, s_e, lg, cw_ref, List.cons_append, List.nil_append, P.m Tx.m_drop fun _ _ _ _ _ _ _ => rfl]
  refine ⟨Tx.b_Pages_drop.1, drop_ok Tx P sm nn h1 hn fun H1 P1 f1 => ?_⟩
  have W1 := W.fr f1
  obtain ⟨ys, hs, hl⟩ := W1.s
  have hyl := hl.1
  have W2 := W1.setS z I.kz (hl.setN (n := n))
  have P2 := P1.own (t' := t0) (o' := .list (ys.set n .none)) hs rfl
  have W3 := W2.setF z' I.kz (A.free ++ [(n : Int)])
  have P3 := P2.own (t' := t0) (o' := .list ((A.free ++ [(n : Int)]).map .int)) W2.f rfl
  have W4 := W3.setT z' I.kz (touchT T n)
  have P4 := P3.own (t' := t0) (o' := .set (touchT T n)) W3.t rfl
  have e : A.free.map MVal.int ++ [.int n] = (A.free ++ [(n : Int)]).map .int := by simp
  simp only [si_list hs rfl (show n < ys.length by exact r1 (by assumption) (by assumption)), oV_, v_n, v_l, v_k, l_0, l_1, km3_, km2_, km_, xl2_, xl1_, ke_, kh_, kic_, kib_, kia_, ks_n, w_0, w_1, s_e, s_as, lg, cw_bi, List.cons_append, List.nil_append, m_append W2.f, bi_append W2.f, e, m_sadd W3.t, bi_sadd W3.t]
  refine ⟨by simp [BIG]; exact r3 (by assumption) (by decide), by exact r5 (by assumption) (by assumption) (by decide), hK _ _ ⟨sL, fL, tL, kv, _, _, _, _, _, _, _, _, _, _, _, _, rfl, P4, W4, ?_⟩⟩
  refine I.touch n (fun i hi _ => List.getElem?_set_ne (fun e => hi e.symm)) (by simp) (by simp; have := I.len; exact Nat.le_succ_of_le (by assumption)) (I.wf.drop h1 hn) fun l' hl' => ?_
  rcases List.mem_or_eq_of_mem_set hl' with h | h
  · have := I.pg l' h; exact Nat.le_succ_of_le (by assumption)
  · cases h

theorem k0_ok (Tx : Tx c N) (P : PInv N H p A) (I : Inv k A T Kp) (W : Lw H sL fL tL kv A.slots A.free T Kp) (hk : k < 18) {m : Nat} {a8 a9 a10 a11 a12 a13 a14 : Option MVal} {K : MFlow → Lcs → MH → Prop}
    (hK : ∀ σ' H', J N sc p (k + 1) σ' H' → K .next σ' H') : wpSs c (d + 6) true s_k0 (st sc p sL fL tL kv (some (.int k)) (some (.int m)) a8 a9 a10 a11 a12 a13 a14) H K := by
  obtain ⟨sm, nn, s60⟩ := I.small (r4 (by assumption) (by decide))
  have z := I.wf.z
  have hT := I.tl
  have hsl := I.len
  simp only [s_k0, oV_, v_l, v_c, v_li, b_c, l_0, kc1_, kl_, w_1, s_i, lg, List.length_nil]
  refine ⟨by decide, fun r0 hr0 => ?_⟩
  have k0 : Keep H (upd H r0 t0 (.list [])) := (Keep.rfl' H).new hr0
  have g0 := upd_same H r0 t0 (.list [])
  have P0 := P.keep k0
  have W0 := W.keep k0
  generalize upd H r0 t0 (.list []) = H0 at *
  rcases List.eq_nil_or_concat A.free with hf | ⟨fs, x, hf⟩
  · have hF := W0.f
    rw [hf] at hF
    obtain ⟨ys, hs, hl⟩ := W0.s
    have hyl := hl.1
    simp only [eq_nil hF g0, oV_, oT_, oM_, v_n, v_l, v_g, v_c, v_f, v_k, b_c, l_0, l_1, tv_, kc2_, kw_, kf_, km3_, km2_, km_, xl2_, xl1_, ke_, kas_, kif0, ks_n, w_0, w_1, s_e, s_a, s_i, lg, ls, cw_bi, List.cons_append, List.nil_append, cm_ne, tr_b, Option.map_some, Bool.not_true, Tx.g_len, bi_len_list hs, m_append hs, bi_append hs]
    refine ⟨by simp [BIG]; exact r2 (by assumption) (by assumption) (by decide), ?_⟩
    -- the law's list has one more, nothing yet
    obtain ⟨⟨n1, n2⟩, n4, ni⟩ := W0.nes z
    have Fr1 : ∀ a t x, H0 a = some (t, x) → a ≠ sL → upd H0 sL t0 (.list (ys ++ [.none])) a = some (t, x) := fun a t x h n => by rw [upd_ne _ _ _ n]; exact h
    have lN : LL H0 (fL :: kfs kv) (ys ++ [.none]) (A.slots ++ [none]) := ⟨by simp [hl.1], fun i v q a b => by
      rcases Nat.lt_trichotomy i ys.length with hi | hi | hi
      · rw [List.getElem?_append_left hi] at a
        rw [List.getElem?_append_left (by rw [← hl.1]; exact hi)] at b
        exact hl.2 i v q a b
      · subst hi
        rw [List.getElem?_append_right (Nat.le_refl _)] at a
        rw [hl.1, List.getElem?_append_right (Nat.le_refl _)] at b
        simp at a b
        subst a; subst b
        exact ⟨fun _ => rfl, fun l' e => nomatch e⟩
      · rw [List.getElem?_append_right (Nat.le_of_lt (by assumption)), List.getElem?_eq_none (by simp; exact Nat.sub_pos_of_lt (by assumption))] at a; cases a⟩
    have W1 := W0.setS z I.kz lN
    have P1 := P0.own (t' := t0) (o' := .list (ys ++ [.none])) hs rfl
    generalize upd H0 sL t0 (.list (ys ++ [.none])) = H1 at *
    simp only [oV_, v_l, v_li, l_0, l_1, kl_, km2_, xl2_, xl1_, lg, List.length_nil, List.length_cons, P1.m Tx.m_add fun _ _ _ _ _ _ _ => rfl]
    refine ⟨by decide, fun pg hpg => ⟨Tx.b_Pages_add.1, ?_⟩⟩
    refine add_new (l := [(m : Int)]) Tx (P1.new hpg) sm nn (upd_same _ _ _ _) hf fun H2 P2 f2 => ?_
    have f2 := FrX.fr f2 hpg
    have W2 := W1.fr f2
    have e1 : ((ys.length : Int)) = (A.slots.length : Int) := by exact congrArg _ (by assumption)
    simp only [eq_int, e1, oV_, oT_, oM_, v_l, v_li, l_0, l_1, tv_, kc2_, kc1_, kl_, xl2_, xl1_, kif0, ks_n, w_0, w_1, s_as, lg, cm_ne, tr_b, Option.map_some, Bool.not_true, List.length_nil, List.length_cons, beq_self_eq_true]
    refine ⟨by decide, fun r hr => ?_⟩
    have k3 : Keep H2 (upd H2 r t0 (.list [.int m])) := (Keep.rfl' _).new hr
    have hset : (A.slots ++ [none]).set A.slots.length (some [(m : Int)]) = A.slots ++ [some [(m : Int)]] := by
      rw [List.set_append_right _ _ (Nat.le_refl _)]; simp
    have z1 : (A.slots ++ [none])[0]? = some none := by rw [List.getElem?_append_left (lt_of_some z)]; exact z
    have hInv : Inv (k + 1) { A.note A.slots.length with slots := A.slots ++ [some [(m : Int)]] } (touchT T A.slots.length) Kp := by
      show Inv (k + 1) ⟨_, (A.note A.slots.length).free, _⟩ _ _
      rw [note_free, hf]
      refine I.touch A.slots.length (fun i hi h => List.getElem?_append_left h) (by simp) (by simp; omega) ?_ fun l' hl' => ?_
      · have w := I.wf; rw [hf] at w; exact w.push
      · rcases List.mem_append.mp hl' with h | h
        · have := I.pg l' h; exact Nat.le_succ_of_le (by assumption)
        · simp at h; subst h; simp
    obtain ⟨ys2, hs2, hyl2, ht, hR⟩ := down (n := A.slots.length) (l := [(m : Int)]) (r := r) (R := fun H' => K .next (st sc p sL fL tL kv (some (.int k)) (some (.int m)) a8 a9 a10 (some (.int A.slots.length)) a12 a13 a14) H') Tx (P2.keep k3) (W2.keep k3) z1 I.kz (by simp) (r5 (by assumption) (by assumption) (by decide)) (upd_same _ _ _ _) (W2.fresh hr) fun H' P' W' => hK _ _ ⟨sL, fL, tL, kv, _, _, _, _, _, _, _, _, _, _, _, _, rfl, P', by
        show Lw _ _ _ _ _ _ (A.note A.slots.length).free _ _
        rw [note_free, ← hset]; exact W', hInv⟩
    simp at hyl2
    simp only [si_list hs2 rfl (show A.slots.length < ys2.length by omega), oV_, v_l, v_k, l_0, l_1, km3_, km2_, km_, xl2_, xl1_, ke_, kh_, kic_, kib_, kia_, ks_n, w_0, w_1, s_e, lg, cw_bi, List.cons_append, List.nil_append, m_sadd ht, bi_sadd ht]
    exact ⟨by exact r5 (by assumption) (by assumption) (by decide), hR⟩
  · rw [List.concat_eq_append] at hf
    obtain ⟨n, rfl, h1, hn⟩ := (I.wf.m x).mp (by rw [hf]; simp)
    have hlt := lt_of_some hn
    have hF := W0.f
    rw [hf] at hF
    have hF2 : H0 fL = some (t0, .list (fs.map MVal.int ++ [.int (n : Int)])) := by rw [hF]; simp
    have hne : eqM H0 (.ref fL) (.ref r0) = some false := by
      cases fs with
      | nil => exact rd_cons (x := (n : Int)) (l := []) hF g0
      | cons y fs => exact rd_cons (x := y) (l := fs ++ [(n : Int)]) hF g0
    simp only [hne, oV_, oT_, oM_, v_l, v_c, v_k, b_c, l_0, tv_, kc2_, km3_, km2_, km_, kas_, kif1, ks_n, w_0, w_1, s_a, s_i, lg, ls, cw_bi, List.append_nil, cm_ne, tr_b, Option.map_some, Bool.not_false, m_pop hF2, bi_pop hF2]
    have W1 := W0.setF z I.kz fs
    have P1 := P0.own (t' := t0) (o' := .list (fs.map .int)) W0.f rfl
    generalize upd H0 fL t0 (.list (fs.map .int)) = H1 at *
    simp only [oV_, v_l, v_li, l_0, l_1, kl_, km2_, xl2_, xl1_, lg, List.length_nil, List.length_cons, P1.m Tx.m_add fun _ _ _ _ _ _ _ => rfl]
    refine ⟨by decide, fun pg hpg => ⟨Tx.b_Pages_add.1, ?_⟩⟩
    refine add_old (l := [(m : Int)]) Tx (P1.new hpg) sm nn (upd_same _ _ _ _) hf hlt fun H2 P2 f2 => ?_
    have f2 := FrX.fr f2 hpg
    have W2 := W1.fr f2
    simp only [eq_int, oV_, oT_, oM_, v_l, v_li, l_0, l_1, tv_, kc2_, kc1_, kl_, xl2_, xl1_, kif0, ks_n, w_0, w_1, s_as, lg, cm_ne, tr_b, Option.map_some, Bool.not_true, List.length_nil, List.length_cons, beq_self_eq_true]
    refine ⟨by decide, fun r hr => ?_⟩
    have k3 : Keep H2 (upd H2 r t0 (.list [.int m])) := (Keep.rfl' _).new hr
    have hInv : Inv (k + 1) { A.note n with free := fs, slots := A.slots.set n (some [(m : Int)]) } (touchT T n) Kp := by
      refine I.touch n (fun i hi _ => List.getElem?_set_ne (fun e => hi e.symm)) (by simp) (by simp; exact Nat.le_succ_of_le (by assumption)) ?_ fun l' hl' => ?_
      · have w := I.wf; rw [hf] at w; exact w.pop
      · rcases List.mem_or_eq_of_mem_set hl' with h | h
        · have := I.pg l' h; exact Nat.le_succ_of_le (by assumption)
        · cases h; simp
    obtain ⟨ys2, hs2, hyl2, ht, hR⟩ := down (n := n) (l := [(m : Int)]) (r := r) (R := fun H' => K .next (st sc p sL fL tL kv (some (.int k)) (some (.int m)) a8 a9 a10 (some (.int n)) a12 a13 a14) H') Tx (P2.keep k3) (W2.keep k3) z I.kz hlt (r5 (by assumption) (by assumption) (by decide)) (upd_same _ _ _ _) (W2.fresh hr) fun H' P' W' => hK _ _ ⟨sL, fL, tL, kv, _, _, _, _, _, _, _, _, _, _, _, _, rfl, P', W', hInv⟩
    simp only [si_list hs2 rfl (show n < ys2.length by exact r1 (by assumption) (by assumption)), oV_, v_l, v_k, l_0, l_1, km3_, km2_, km_, xl2_, xl1_, ke_, kh_, kic_, kib_, kia_, ks_n, w_0, w_1, s_e, lg, cw_bi, List.cons_append, List.nil_append, m_sadd ht, bi_sadd ht]
    exact ⟨by exact r5 (by assumption) (by assumption) (by decide), hR⟩
end U9
end Mine
end
section
set_option autoImplicit false
set_option linter.unusedVariables false
set_option linter.unusedSimpArgs false
namespace Mine
open PySem
theorem eq_nn (H : MH) : eqM H .none .none = some true := rfl
theorem eq_refused (H : MH) : eqM H (.str "refused") (.str "refused") = some true := by
  have e : rd H 60 (.str "refused") = some (.str "refused") := by
    show (if PyData.strOk (Str.ofString "refused") = true then some (PyData.str (Str.ofString "refused")) else none) = _
    rw [if_pos (by decide +kernel)]
  rw [eqM_t e e, ev_s, beq_self_eq_true]
theorem bx2 (x y : Nat) (u v : MVal) (σ : Lcs) : bindXs [x, y] (.tup [u, v]) σ = some (ls (ls σ x (some u)) y (some v)) := rfl
namespace U9
variable {c : Cfg} {N : Nm} {d : Nat} {H H' : MH} {p : Addr} {A : PS} {sc : Addr} {scr : List Int} {sL fL tL : Addr} {kv : MVal} {T : List Int} {Kp : Option (Sl × List Int)} {k : Nat} {s : Sl} {F : List Addr} {ys : List MVal}

theorem LL.more (h : LL H F ys s) {x : Addr} (hx : H x = none) : LL H (F ++ [x]) ys s := ⟨h.1, fun i v q a b => ⟨(h.2 i v q a b).1, fun l e => by
  obtain ⟨b', e', g, n⟩ := (h.2 i v q a b).2 l e
  refine ⟨b', e', g, fun hm => ?_⟩
  rcases List.mem_append.mp hm with hm | hm
  · exact n hm
  · simp at hm; subst hm; rw [hx] at g; cases g⟩⟩

theorem k4_ok (Tx : Tx c N) (P : PInv N H p A) (I : Inv k A T Kp) (W : Lw H sL fL tL kv A.slots A.free T Kp) (hk : k < 18) {a7 a8 a9 a10 a11 a12 a13 a14 : Option MVal} {K : MFlow → Lcs → MH → Prop}
    (hK : ∀ σ' H', J N sc p (k + 1) σ' H' → K .next σ' H') : wpSs c (d + 6) true s_k4 (st sc p sL fL tL kv (some (.int k)) a7 a8 a9 a10 a11 a12 a13 a14) H K := by
  obtain ⟨sm, nn, s60⟩ := I.small (r4 (by assumption) (by decide))
  have z := I.wf.z
  have hkv := kv_is W I
  rcases I.kp with ⟨rfl, hj⟩ | ⟨s0, f0, es, rfl, hj, hes, hnd, hnn, hw0, hle, hpg, hrb⟩
  · have e : kv = .none := W.k
    subst e
    obtain ⟨ys, hs, hl⟩ := W.s
    simp only [s_k4, oV_, oT_, oM_, v_n, v_s, v_l, v_g, v_c, v_tu, v_f, b_c, l_0, l_1, tv_, kc2_, kc1_, kw_, kf_, xl2_, xl1_, kas_, kif1, ks_n, w_1, s_a, s_i, lg, ls, cw_ty, cm_is, is_nn, tr_b, Tx.g_list, ty_list hs, allocW]
    intro ks hks
    have k1 : Keep H (upd H ks t0 (.list ys)) := (Keep.rfl' H).new hks
    have W1 := W.keep k1
    have P1 := P.keep k1
    have g1 := upd_same H ks t0 (.list ys)
    have hl1 := hl.fr k1.fr
    have hs1 := k1 _ _ hs
    have nk : ks ≠ sL := (ne_new hs hks).symm
    generalize upd H ks t0 (.list ys) = H1 at *
    simp only [oV_, v_g, v_li, v_f, l_0, l_1, kl_, kt_, kw_, kf_, xl2_, xl1_, kas_, ks_n, w_1, s_a, ls, cw_ty, List.length_nil, List.length_cons, Tx.g_set, ty_list W1.f, allocW]
    intro kf hkf
    have k2 : Keep H1 (upd H1 kf t0 (.list (A.free.map .int))) := (Keep.rfl' H1).new hkf
    have W2 := W1.keep k2
    have P2 := P1.keep k2
    have g2 := upd_same H1 kf t0 (.list (A.free.map .int))
    have g1 := k2 _ _ g1
    have hl2 := (hl1.more hkf).fr k2.fr
    have hs2 := k2 _ _ hs1
    have nf : kf ≠ fL := (ne_new W1.f hkf).symm
    generalize upd H1 kf t0 (.list (A.free.map .int)) = H2 at *
    refine ⟨by decide, by decide, fun r3 hr3 => ?_⟩
    have k3 : Keep H2 (upd H2 r3 t0 (.list [])) := (Keep.rfl' H2).new hr3
    simp only [oV_, v_l, v_g, v_c, v_a, v_f, b_c, l_1, kg_, kf_, kas_, ks_n, w_0, w_1, s_i, lg, ls, true_and, Tx.g_law_told, ty_set (upd_same H2 r3 t0 _), allocW]
    intro tL' htL
    have k4 : Keep (upd H2 r3 t0 (.list [])) (upd (upd H2 r3 t0 (.list [])) tL' t0 (.set [])) := (Keep.rfl' _).new htL
    have kk := k3.trans k4
    have g4 := upd_same (upd H2 r3 t0 (.list [])) tL' t0 (.set [])
    have P4 := P2.keep kk
    generalize upd (upd H2 r3 t0 (.list [])) tL' t0 (.set []) = H4 at *
    simp only [l_0, kw_, xl2_, xl1_, cw_ref, P4.a Tx.m_begin fun _ _ _ _ _ _ _ => rfl]
    refine ⟨Tx.b_law_told.1, told_ok Tx Tx.f_begin (begin_ok (d := d + 4) Tx P4 hj fun H5 P5 f5 => ?_)⟩
    simp only [eq_nn, oV_, oT_, oM_, v_l, tv_, kc2_, kc1_, kif0, ks_n, w_0, lg, cm_ne, tr_b, Option.map_some, Bool.not_true]
    have fr := kk.fr.trans f5
    refine hK _ _ ⟨sL, fL, tL', .tup [.ref ks, .ref kf], _, [], some (A.slots, A.free), _, _, _, _, _, _, _, _, _, rfl, P5, ⟨⟨ys, fr _ _ _ hs2 rfl, ?_⟩, fr _ _ _ W2.f rfl, f5 _ _ _ g4 rfl, ⟨ks, kf, ys, rfl, ⟨nk, nf⟩, fr _ _ _ g1 rfl, ?_, fr _ _ _ g2 rfl⟩⟩, ?_⟩
    · exact (hl2.fr fr).less fun x hx => by simpa [kfs] using hx
    · exact (hl2.fr fr).less fun x hx => by simpa [kfs] using hx
    · have I' := I.mono
      refine ⟨I'.wf, I'.len, I'.pg, by simp, .inr ⟨A.slots, A.free, [], rfl, rfl, rfl, .nil, by simp, I.wf, Nat.le_refl _, I'.pg, fun i hi => ?_⟩⟩
      have e : A.slots[i]? = some A.slots[i] := by simp [hi]
      rw [e]; rfl
  · have hK' : ∀ H', Keep H H' → J N sc p (k + 1) (st sc p sL fL tL kv (some (.int k)) a7 a8 a9 a10 (some (.str "refused")) a12 a13 a14) H' := fun H' kp => ⟨sL, fL, tL, kv, A, T, some (s0, f0), _, _, _, _, _, _, _, _, _, rfl, P.keep kp, W.keep kp, I.mono⟩
    rw [hj] at hkv
    simp only [s_k4, oV_, oT_, oM_, v_n, v_s, v_l, v_g, v_c, v_a, v_f, b_c, l_0, l_1, tv_, kc2_, kc1_, kg_, kw_, kf_, xl2_, xl1_, kas_, kif0, ks_n, w_0, w_1, s_a, s_i, lg, ls, cw_ref, cm_is, tr_b, Bool.not_true, hkv, Option.isSome_some, Tx.g_law_told, P.a Tx.m_begin fun _ _ _ _ _ _ _ => rfl]
    refine ⟨Tx.b_law_told.1, told_ok Tx Tx.f_begin (begin_bad (d := d + 3) Tx P (by rw [hj]; simp) fun e he => ⟨⟨_, _, upd_same _ _ _ _⟩, ?_⟩)⟩
    simp only [eq_refused, oV_, oT_, oM_, v_l, tv_, kc2_, kc1_, kif0, ks_n, w_0, lg, cm_ne, tr_b, Option.map_some, Bool.not_true]
    exact hK _ _ (hK' _ ((Keep.rfl' H).new he))

theorem k5_ok (Tx : Tx c N) (P : PInv N H p A) (I : Inv k A T Kp) (W : Lw H sL fL tL kv A.slots A.free T Kp) (hk : k < 18) {m : Nat} {a8 a9 a10 a11 a12 a13 a14 : Option MVal} {K : MFlow → Lcs → MH → Prop}
    (hK : ∀ σ' H', J N sc p (k + 1) σ' H' → K .next σ' H') : wpSs c (d + 6) true s_k5 (st sc p sL fL tL kv (some (.int k)) (some (.int m)) a8 a9 a10 a11 a12 a13 a14) H K := by
  obtain ⟨sm, nn, s60⟩ := I.small (r4 (by assumption) (by decide))
  have z := I.wf.z
  have hT := I.tl
  have hkv := kv_is W I
  simp only [s_k5, oV_, oM_, v_n, v_i, v_s, v_l, v_o, v_c, b_c, k2_, k1_, kc2_, kc1_, kas_, ks_n, w_1, s_a, s_i, lg, ls, cm_eq, cm_isnt, bw_fdiv, bw_mod, eq_int]
  refine ⟨by decide, by decide, ?_⟩
  generalize ((m : Int) / 9 % 2 == 0) = b
  rcases I.kp with ⟨rfl, hj⟩ | ⟨s0, f0, es, rfl, hj, hes, hnd, hnn, hw0, hle, hpg, hrb⟩
  · have hK' : ∀ H', Keep H H' → J N sc p (k + 1) (st sc p sL fL tL kv (some (.int k)) (some (.int m)) a8 a9 a10 (some (.str "refused")) (some (.bool b)) a13 a14) H' := fun H' kp => ⟨sL, fL, tL, kv, A, T, none, _, _, _, _, _, _, _, _, _, rfl, P.keep kp, W.keep kp, I.mono⟩
    rw [hj] at hkv
    simp only [hkv, Option.isSome_none, oV_, oT_, oM_, v_l, v_g, v_c, v_a, v_u, v_li, v_f, b_c, l_0, l_1, tv_, kg_, kl_, kf_, xl2_, xl1_, kif0, ks_n, w_0, w_1, s_i, lg, tr_b, Option.map_some, Bool.not_true, Bool.not_false, List.length_nil, List.length_cons, Tx.g_law_told, P.a Tx.m_commit fun _ _ _ _ _ _ _ => rfl, P.a Tx.m_rollback fun _ _ _ _ _ _ _ => rfl]
    refine ⟨by simp [BIG], fun r hr => ?_⟩
    have k1 : ∀ o, Keep H (upd H r t0 o) := fun o => (Keep.rfl' H).new hr
    simp only [oV_, v_l, v_g, v_f, l_0, l_1, ks2_, ks1_, kw_, kf_, xl2_, xl1_, lg, cw_ty, ty_int, Tx.g_int]
    cases b with
    | false =>
      simp only [l_0, kw_, xl2_, xl1_, cw_ref, Bool.false_eq_true, if_false, sub_list (k := 0) (i := 0) (upd_same H r t0 (.list [.meth N.Pages_commit p, .meth N.Pages_rollback p])) rfl rfl]
      refine ⟨Tx.b_law_told.1, told_ok Tx Tx.f_commit (commit_bad (d := d + 3) Tx (P.keep (k1 _)) hj fun e he => ⟨⟨_, _, upd_same _ _ _ _⟩, ?_⟩)⟩
      simp only [eq_refused, oV_, oT_, oM_, v_l, tv_, kc2_, kc1_, kif0, ks_n, w_0, lg, cm_ne, tr_b, Option.map_some, Bool.not_true]
      exact hK _ _ (hK' _ ((k1 _).trans ((Keep.rfl' _).new he)))
    | true =>
      simp only [l_0, kw_, xl2_, xl1_, cw_ref, if_true, sub_list (k := 1) (i := 1) (upd_same H r t0 (.list [.meth N.Pages_commit p, .meth N.Pages_rollback p])) rfl rfl]
      refine ⟨Tx.b_law_told.1, told_ok Tx Tx.f_rollback (rollback_bad (d := d + 3) Tx (P.keep (k1 _)) hj fun e he => ⟨⟨_, _, upd_same _ _ _ _⟩, ?_⟩)⟩
      simp only [eq_refused, oV_, oT_, oM_, v_l, tv_, kc2_, kc1_, kif0, ks_n, w_0, lg, cm_ne, tr_b, Option.map_some, Bool.not_true]
      exact hK _ _ (hK' _ ((k1 _).trans ((Keep.rfl' _).new he)))
  · rw [hj] at hkv
    have hel : es.length = T.length := by rw [← hes]; simp
    simp only [hkv, Option.isSome_some, oV_, oT_, oM_, v_l, v_g, v_u, v_li, v_f, l_0, l_1, on_some, tv_, kw_, kf_, xl2_, xl1_, kif1, w_1, s_a, lg, cw_bi, tr_b, Option.map_some, Bool.not_true, Bool.not_false, true_and, Tx.g_sorted, bi_sorted, ks_set W.t]
    refine ⟨by exact r5 (by assumption) (by assumption) (by decide), fun ns hp hs r1 hr1 => ?_⟩
    have k1 : Keep H (upd H r1 t0 (.list (ns.map .int))) := (Keep.rfl' H).new hr1
    have g1 := upd_same H r1 t0 (.list (ns.map .int))
    have W1 := W.keep k1
    have P1 := P.keep k1
    generalize upd H r1 t0 (.list (ns.map .int)) = H1 at *
    simp only [oV_, v_l, v_g, v_f, l_0, l_1, kl_, kw_, kf_, xl2_, xl1_, lg, cw_bi, List.length_nil, List.length_cons, Tx.g_len, bi_len_set W1.t]
    refine ⟨by simp [BIG], fun r2 hr2 => ?_⟩
    have k2 : ∀ o, Keep H1 (upd H1 r2 t0 o) := fun o => (Keep.rfl' H1).new hr2
    have g2 := upd_same H1 r2 t0 (.list [.ref r1, .int T.length])
    have W2 := W1.keep (k2 (.list [.ref r1, .int T.length]))
    have P2 := P1.keep (k2 (.list [.ref r1, .int T.length]))
    have g1' := k2 (.list [.ref r1, .int T.length]) _ _ g1
    generalize upd H1 r2 t0 (.list [.ref r1, .int T.length]) = H2 at *
    obtain ⟨ks, kf, zs, rfl, ⟨nk, nf⟩, hks, hlz, hkf⟩ := W2.k
    cases b with
    | false =>
      simp only [oV_, oT_, v_n, v_l, v_g, v_c, v_a, v_u, v_li, v_f, b_l, b_c, l_0, l_1, tv_, kg_, ks2_, ks1_, kl_, kw_, kf_, xl2_, xl1_, kas_, kif0, ks_n, w_0, w_1, s_a, s_i, lg, ls, cw_ty, tr_b, ty_int, Bool.false_eq_true, if_false, List.length_nil, List.length_cons, Tx.g_int, sub_list (k := 0) (i := 0) g2 rfl rfl, Tx.g_law_told, P2.a Tx.m_commit fun _ _ _ _ _ _ _ => rfl, P2.a Tx.m_rollback fun _ _ _ _ _ _ _ => rfl]
      refine ⟨by simp [BIG], fun r3 hr3 => ?_⟩
      have k3 : Keep H2 (upd H2 r3 t0 (.list [.meth N.Pages_commit p, .meth N.Pages_rollback p])) := (Keep.rfl' H2).new hr3
      simp only [oV_, v_l, v_g, v_f, l_0, l_1, ks2_, ks1_, kw_, kf_, xl2_, xl1_, lg, cw_ref, cw_ty, ty_int, Bool.false_eq_true, if_false, Tx.g_int, sub_list (k := 0) (i := 0) (upd_same H2 r3 t0 (.list [.meth N.Pages_commit p, .meth N.Pages_rollback p])) rfl rfl]
      refine ⟨Tx.b_law_told.1, told_ok Tx Tx.f_commit (commit_ok (d := d + 4) Tx (P2.keep k3) hj (by omega) fun r4 ns' H4 hp' hs' P4 f4 g4 => ?_)⟩
      have en : ns' = ns := sorted_eq (hp'.trans (by rw [hes]; exact hp.symm)) hs' hs
      subst en
      simp only [eq_ints g4 (f4 _ _ _ (k3 _ _ g1') rfl), oV_, oT_, oM_, v_l, tv_, kc2_, kc1_, kif0, ks_n, w_0, lg, cm_ne, tr_b, Option.map_some, Bool.not_true]
      have W4 := (W2.keep k3).fr f4
      obtain ⟨ys, h1, h2⟩ := W4.s
      refine hK _ _ ⟨sL, fL, tL, .none, _, T, none, _, _, _, _, _, _, _, _, _, rfl, P4, ⟨⟨ys, h1, h2.less fun x hx => by simp [kfs] at hx ⊢; exact .inl hx⟩, W4.f, W4.t, rfl⟩, ?_⟩
      have I' := I.mono
      exact ⟨I'.wf, I'.len, I'.pg, I'.tl, .inl ⟨rfl, rfl⟩⟩
    | true =>
      simp only [oV_, oT_, oU_, v_n, v_l, v_g, v_c, v_a, v_u, v_li, v_f, b_l, b_c, l_0, l_1, tv_, kg_, ks2_, ks1_, kl_, kw_, kf_, xl2_, xl1_, kas_, ku_, kif1, ks_n, w_0, w_1, s_a, s_u, s_i, lg, ls, cw_ty, tr_b, ty_int, if_true, true_and, List.length_nil, List.length_cons, Tx.g_int, sub_list (k := 1) (i := 1) g2 rfl rfl, bx2, Tx.g_law_told, P2.a Tx.m_commit fun _ _ _ _ _ _ _ => rfl, P2.a Tx.m_rollback fun _ _ _ _ _ _ _ => rfl]
      refine ⟨by simp [BIG], fun r3 hr3 => ?_⟩
      have k3 : Keep H2 (upd H2 r3 t0 (.list [.meth N.Pages_commit p, .meth N.Pages_rollback p])) := (Keep.rfl' H2).new hr3
      simp only [oV_, v_l, v_g, v_f, l_0, l_1, ks2_, ks1_, kw_, kf_, xl2_, xl1_, lg, cw_ref, cw_ty, ty_int, if_true, Tx.g_int, sub_list (k := 1) (i := 1) (upd_same H2 r3 t0 (.list [.meth N.Pages_commit p, .meth N.Pages_rollback p])) rfl rfl]
      have hk0 : ∀ k ∈ es.map (·.1), 0 ≤ k := by rw [hes]; exact hnn
      have hbk := hrb.back (by rw [hes]; exact hnd) hk0 hle
      refine ⟨Tx.b_law_told.1, told_ok Tx Tx.f_rollback (rollback_ok (d := d + 4) Tx (P2.keep k3) sm nn hj (by rw [hes]; exact hnd) hle fun H4 P4 f4 => ?_)⟩
      rw [hbk] at P4
      rw [hel]
      simp only [eq_int, oV_, oT_, oM_, v_l, tv_, kc2_, kc1_, kif0, ks_n, w_0, lg, cm_ne, tr_b, Option.map_some, Bool.not_true, beq_self_eq_true]
      have W4 := (W2.keep k3).fr f4
      obtain ⟨ks', kf', zs', e, _, hks', hlz', hkf'⟩ := W4.k
      cases e
      refine hK _ _ ⟨ks, kf, tL, .none, _, T, none, _, _, _, _, _, _, _, _, _, rfl, P4, ⟨⟨zs', hks', hlz'.less fun x hx => by simp [kfs] at hx ⊢; exact .inr hx⟩, hkf', W4.t, rfl⟩, ?_⟩
      have := I.len
      exact ⟨hw0, by show s0.length ≤ k + 1 + 1; omega, fun l hl => by have := hpg l hl; exact Nat.le_succ_of_le (by assumption), by exact Nat.le_succ_of_le (by assumption), .inl ⟨rfl, rfl⟩⟩
end U9
end Mine
end
section
set_option autoImplicit false
set_option linter.unusedVariables false
set_option linter.unusedSimpArgs false
namespace Mine
open PySem
theorem sl_to {H : MH} {Q : MVal → MH → Prop} {a : Addr} {t : Tag} {xs : List MVal} {n : Nat} (h : H a = some (t, .list xs)) (hn : n < 2 ^ 60) : SliceW (.ref a) .none (.int (n : Int)) H Q = allocW (.list (xs.take n)) H Q := by
  have e1 : slb xs.length .none 0 = some 0 := rfl
  have e2 : slb xs.length (.int (n : Int)) xs.length = some (min xs.length n) := by
    unfold slb
    dsimp only
    rw [if_pos (by simp only [Int.natAbs_natCast]; exact hn), if_neg (by omega)]
    simp
  refine ((on_eq (at_L h)).trans ((on_eq e1).trans (on_eq e2))).trans ?_
  refine congrArg (fun z => allocW (.list z) H Q) ((List.drop_zero).trans ?_)
  rcases Nat.le_total xs.length n with h | h
  · rw [Nat.min_eq_left h, List.take_length, List.take_of_length_le h]
  · rw [Nat.min_eq_right h]
namespace U9
variable {c : Cfg} {N : Nm} {d : Nat} {H H' : MH} {p : Addr} {A : PS} {sc : Addr} {scr : List Int} {sL fL tL : Addr} {kv : MVal} {T : List Int} {Kp : Option (Sl × List Int)} {k : Nat} {s : Sl} {F : List Addr} {ys : List MVal} {lw : Addr}

theorem k6_ok (Tx : Tx c N) (P : PInv N H p A) (I : Inv k A T Kp) (W : Lw H sL fL tL kv A.slots A.free T Kp) (hk : k < 18) {a7 a8 a9 a10 a11 a12 a13 a14 : Option MVal} {K : MFlow → Lcs → MH → Prop}
    (hK : ∀ σ' H', J N sc p (k + 1) σ' H' → K .next σ' H') : wpSs c (d + 6) true s_k6 (st sc p sL fL tL kv (some (.int k)) a7 a8 a9 a10 a11 a12 a13 a14) H K := by
  obtain ⟨sm, nn, s60⟩ := I.small (r4 (by assumption) (by decide))
  have z := I.wf.z
  have hkv := kv_is W I
  rcases I.kp with ⟨rfl, hj⟩ | ⟨s0, f0, es, rfl, hj, hes, hnd, hnn, hw0, hle, hpg, hrb⟩
  · have e : kv = .none := W.k
    subst e
    have hz0 := lt_of_some z
    have hc0 := pick_count A.slots 0
    have hfl := sm.f
    simp only [s_k6, oV_, oT_, oM_, v_n, v_i, v_s, v_l, v_g, v_o, v_c, v_li, v_f, b_c, l_0, l_1, tv_, kc2_, kc1_, kl_, kf_, xl2_, xl1_, kas_, kif1, ks_n, w_1, s_a, s_i, lg, ls, cm_is, is_nn, tr_b, List.length_nil, List.length_cons, Nat.reduceAdd, Tx.g_max]
    refine ⟨by decide, fun r0 hr0 => ?_⟩
    have k0 : Keep H (upd H r0 t0 (.list [.int 0])) := (Keep.rfl' H).new hr0
    have g0 := upd_same H r0 t0 (.list [.int 0])
    have W0 := W.keep k0
    have P0 := P.keep k0
    generalize upd H r0 t0 (.list [.int 0]) = H0 at *
    obtain ⟨ys, hs, hl⟩ := W0.s
    have hyl := hl.1
    simp only [oV_, oI_, v_l, v_g, v_f, v_p, l_0, l_1, k1_, kw_, kf_, kp_, xl2_, xl1_, lg, cw_bi, cw_ty, ty_range1, true_and, List.length_nil, List.length_cons, Tx.g_len, Tx.g_range, bi_len_list hs, it_rng]
    refine ⟨by decide, by exact r2 (by assumption) (by assumption) (by decide), rlen (by decide) (r2 (by assumption) (by assumption) (by decide)), ?_⟩
    have e : (fun (i : Nat) => MVal.int (0 + (i : Int))) = fun (i : Nat) => MVal.int (((0 : Nat) : Int) + (i : Int)) := rfl
    rw [e]
    refine live_snd hs hl.lr.sr 0 (r11 (by assumption)) (fun i u kk _ hi hu his hk => ?_) ?_ rfl
    · simp only [oV_, oT_, oM_, v_n, v_l, v_c, v_u, b_c, t_1, tv_, kc2_, kc1_, ks2_, ks1_, kp1_, lg, ls, cm_isnt, tr_b, Option.map_some, sub_list hs rfl hu, his, Bool.not_not]
      cases hj : ((A.slots[i]?).join).isSome with
      | true => rw [hj] at hk; simp only [oV_, v_l, t_0, kp3_, kp21, xt11, lg]; simpa using hk
      | false => rw [hj] at hk; simp only [kp20, xt10]; simpa using hk
    · intro r1 hr1
      have k1 : Keep H0 (upd H0 r1 t0 (.list ((pick true 0 A.slots).map .int))) := (Keep.rfl' H0).new hr1
      have g1 := upd_same H0 r1 t0 (.list ((pick true 0 A.slots).map .int))
      simp only [k2_, List.cons_append, List.nil_append, List.length_nil, List.length_cons, bw_cat (k1 _ _ g0) g1]
      refine ⟨by simp [BIG]; omega, fun r2 hr2 => ?_⟩
      have ec : MVal.int 0 :: (pick true 0 A.slots).map MVal.int = (0 :: pick true 0 A.slots).map .int := rfl
      rw [ec]
      have k2 : Keep (upd H0 r1 t0 (.list ((pick true 0 A.slots).map .int))) (upd (upd H0 r1 t0 (.list ((pick true 0 A.slots).map .int))) r2 t0 (.list ((0 :: pick true 0 A.slots).map .int))) := (Keep.rfl' _).new hr2
      have g2 := upd_same (upd H0 r1 t0 (.list ((pick true 0 A.slots).map .int))) r2 t0 (.list ((0 :: pick true 0 A.slots).map .int))
      have kk := k1.trans k2
      have W2 := W0.keep kk
      have P2 := P0.keep kk
      have hs2 := kk _ _ hs
      have hl2 := hl.fr kk.fr
      generalize upd (upd H0 r1 t0 (.list ((pick true 0 A.slots).map .int))) r2 t0 (.list ((0 :: pick true 0 A.slots).map .int)) = H2 at *
      simp only [oV_, v_l, v_g, v_o, v_f, l_0, l_1, on_some, kw_, kf_, xl2_, xl1_, kas_, ks_n, w_1, s_a, lg, ls, cw_bi, true_and, Tx.g_len, bi_max g2, intsOf_map]
      refine ⟨by simp, fun M hM hmax => ?_⟩
      obtain ⟨last, rfl, hlast, hlt⟩ : ∃ last : Nat, M = last ∧ (last = 0 ∨ ∃ l, A.slots[last]? = some (some l)) ∧ last < A.slots.length := by
        rcases List.mem_cons.mp hM with rfl | hM
        · exact ⟨0, rfl, .inl rfl, hz0⟩
        · obtain ⟨i, rfl, _, h2, h3⟩ := mem_pick.mp hM
          have : A.slots[i]? = some A.slots[i] := by simp [h2]
          rw [this] at h3
          cases hq : A.slots[i] with
          | none => rw [hq] at h3; cases h3
          | some l => exact ⟨i, rfl, .inr ⟨l, by rw [this, hq]⟩, h2⟩
      have hbeh : ∀ i, last < i → i < A.slots.length → A.slots[i]? = some none := fun i h1 h2 => by
        rw [none_iff]
        refine ⟨h2, ?_⟩
        cases hq : (A.slots[i]?).join.isSome with
        | false => rfl
        | true =>
          have := hmax (i : Int) (List.mem_cons.mpr (.inr (mem_pick.mpr ⟨i, rfl, Nat.zero_le _, h2, hq⟩)))
          omega
      have e1 : ((last : Int) + 1) = ((last + 1 : Nat) : Int) := by exact rfl
      simp only [oV_, v_n, v_i, v_l, v_o, v_z, v_p, k2_, k1_, kz3_, kz2_, kz1_, kp_, kas_, ks_n, w_1, s_a, lg, ls, bw_add, bw_sub, true_and, List.length_nil, List.length_cons, bi_len_list hs2, e1, sl_to hs2 (show last + 1 < 2 ^ 60 by exact r5 (by assumption) (by assumption) (by decide)), allocW]
      intro sL' hsL
      have k3 : Keep H2 (upd H2 sL' t0 (.list (ys.take (last + 1)))) := (Keep.rfl' _).new hsL
      have g3 := upd_same H2 sL' t0 (.list (ys.take (last + 1)))
      have W3 := W2.keep k3
      have P3 := P2.keep k3
      have hl3 := (hl2.take (last + 1)).fr k3.fr
      generalize upd H2 sL' t0 (.list (ys.take (last + 1))) = H3 at *
      simp only [oI_, it_list W3.f]
      refine ⟨by decide, by simp; exact r4 (by assumption) (by decide), compW_pure (intF fun n => decide (n < (last : Int) + 1)) rfl _ _ ?_ ?_⟩
      · intro v hv k hk
        simp only [List.mem_map] at hv
        obtain ⟨i, hi, rfl⟩ := hv
        simp only [oV_, oT_, oM_, v_l, v_c, b_c, t_1, tv_, kc2_, kc1_, kp1_, lg, ls, cm_le, tr_b]
        have e : decide (i ≤ (last : Int)) = decide (i < (last : Int) + 1) := by
          by_cases h : i ≤ (last : Int)
          · rw [decide_eq_true h, decide_eq_true (by omega)]
          · rw [decide_eq_false h, decide_eq_false (by omega)]
        rw [e]
        cases hd : decide (i < (last : Int) + 1) with
        | true => simp only [intF, hd] at hk; simp only [oV_, v_l, t_0, kp3_, kp21, xt11, lg]; simpa using hk
        | false => simp only [intF, hd] at hk; simp only [kp20, xt10]; simpa using hk
      · rw [List.nil_append, intF_map]
        intro fL' hfL
        have k4 : Keep H3 (upd H3 fL' t0 (.list ((A.free.filter fun n => decide (n < (last : Int) + 1)).map .int))) := (Keep.rfl' _).new hfL
        have g4 := upd_same H3 fL' t0 (.list ((A.free.filter fun n => decide (n < (last : Int) + 1)).map .int))
        have hl4 : LL (upd H3 fL' t0 (.list ((A.free.filter fun n => decide (n < (last : Int) + 1)).map .int))) [fL'] (ys.take (last + 1)) (A.slots.take (last + 1)) := ((hl3.more hfL).fr k4.fr).less fun x hx => by simp at hx ⊢; exact .inr (.inr hx)
        have g3' := k4 _ _ g3
        have W4 := W3.keep k4
        have P4 := P3.keep k4
        generalize upd H3 fL' t0 (.list ((A.free.filter fun n => decide (n < (last : Int) + 1)).map .int)) = H4 at *
        simp only [oV_, v_l, v_g, v_c, v_a, v_f, b_c, l_0, l_1, kg_, kw_, kf_, xl2_, xl1_, kas_, ks_n, w_0, w_1, s_i, lg, ls, cw_ref, Tx.g_law_told, P4.a Tx.m_trim fun _ _ _ _ _ _ _ => rfl]
        refine ⟨Tx.b_law_told.1, told_ok Tx Tx.f_trim (trim_ok (d := d + 4) Tx P4 sm hj hlt hlast hbeh fun H5 P5 f5 => ?_)⟩
        have e2 : ((ys.length : Int) - 1 - (last : Int)) = ((A.slots.length : Int) - 1 - (last : Int)) := by rw [hyl]
        rw [e2]
        simp only [eq_int, oV_, oT_, oM_, v_l, tv_, kc2_, kc1_, kif0, ks_n, w_0, lg, cm_ne, tr_b, Option.map_some, Bool.not_true, beq_self_eq_true]
        refine hK _ _ ⟨sL', fL', tL, .none, _, T, none, _, _, _, _, _, _, _, _, _, rfl, P5, ⟨⟨_, f5 _ _ _ g3' rfl, ?_⟩, f5 _ _ _ g4 rfl, f5 _ _ _ W4.t rfl, rfl⟩, ?_⟩
        · exact (hl4.fr f5).less fun x hx => by simpa [kfs] using hx
        · have := I.len
          have := I.tl
          refine ⟨I.wf.trim hlt, ?_, fun l hl => ?_, by exact Nat.le_succ_of_le (by assumption), .inl ⟨rfl, hj⟩⟩
          · show (A.slots.take (last + 1)).length ≤ k + 1 + 1
            simp; omega
          · have := I.pg l (List.mem_of_mem_take hl); exact Nat.le_succ_of_le (by assumption)
  · have hK' : ∀ H', Keep H H' → J N sc p (k + 1) (st sc p sL fL tL kv (some (.int k)) a7 a8 a9 a10 (some (.str "refused")) a12 a13 a14) H' := fun H' kp => ⟨sL, fL, tL, kv, A, T, some (s0, f0), _, _, _, _, _, _, _, _, _, rfl, P.keep kp, W.keep kp, I.mono⟩
    rw [hj] at hkv
    simp only [s_k6, oV_, oT_, oM_, v_n, v_s, v_l, v_g, v_c, v_a, v_f, b_c, l_0, l_1, tv_, kc2_, kc1_, kg_, kw_, kf_, xl2_, xl1_, kas_, kif0, ks_n, w_0, w_1, s_a, s_i, lg, ls, cw_ref, cm_is, tr_b, Bool.not_true, hkv, Option.isSome_some, Tx.g_law_told, P.a Tx.m_trim fun _ _ _ _ _ _ _ => rfl]
    refine ⟨Tx.b_law_told.1, told_ok Tx Tx.f_trim (trim_bad (d := d + 3) Tx P (by rw [hj]; simp) fun e he => ⟨⟨_, _, upd_same _ _ _ _⟩, ?_⟩)⟩
    simp only [eq_refused, oV_, oT_, oM_, v_l, tv_, kc2_, kc1_, kif0, ks_n, w_0, lg, cm_ne, tr_b, Option.map_some, Bool.not_true]
    exact hK _ _ (hK' _ ((Keep.rfl' H).new he))

/-- one step of the script -/
theorem sel {c : Cfg} {d : Nat} {q : Bool} {σ : Lcs} {H : MH} {K : KK1} {i : Nat} {n r : Int} {a b : List S} (h : lg σ i = some (.int r)) : wpSs c d q [.ite (.cmp .eq (.loc i) (.int n)) a b] σ H K = kif c d q a b σ (ks c d q [] K) (r == n) H := by
  show oV (lg σ i) H (kc1 c d q .eq (.int n) σ (tv (kif c d q a b σ (ks c d q [] K))) (ze σ (ks c d q [] K))) = _
  rw [h]
  show oM (eqM H (.int r) (.int n)) H (tv (kif c d q a b σ (ks c d q [] K))) = _
  rw [eq_int]
  rfl
theorem sel0 {c : Cfg} {d : Nat} {q : Bool} {σ : Lcs} {H : MH} {K : KK1} {i : Nat} {n r : Int} {a b : List S} (h : lg σ i = some (.int r)) (e : (r == n) = false) (k : wpSs c d q b σ H (ks c d q [] K)) : wpSs c d q [.ite (.cmp .eq (.loc i) (.int n)) a b] σ H K := by
  rw [sel h, e]; exact k
theorem sel1 {c : Cfg} {d : Nat} {q : Bool} {σ : Lcs} {H : MH} {K : KK1} {i : Nat} {n r : Int} {a b : List S} (h : lg σ i = some (.int r)) (e : (r == n) = true) (k : wpSs c d q a σ H (ks c d q [] K)) : wpSs c d q [.ite (.cmp .eq (.loc i) (.int n)) a b] σ H K := by
  rw [sel h, e]; exact k
theorem brA {c : Cfg} {d : Nat} {q : Bool} {σ : Lcs} {H : MH} {K : KK1} {n r : Int} {a b : List S} (h8 : lg σ 8 = some (.int r)) (h10 : lg σ 10 = some (.int n)) : wpS c d q (.ite (.or (.cmp .lt (.loc 8) (.int 3)) (.cmp .eq (.loc 10) (.int 0))) a b) σ H K = kif c d q a b σ K (decide (r < 3) || (n == 0)) H := by
  show oV (lg σ 8) H (kc1 c d q .lt (.int 3) σ (tv (kot c d q (.cmp .eq (.loc 10) (.int 0)) σ (kif c d q a b σ K) (ze σ K))) (ze σ K)) = _
  rw [h8]
  show kot c d q (.cmp .eq (.loc 10) (.int 0)) σ (kif c d q a b σ K) (ze σ K) (decide (r < 3)) H = _
  cases decide (r < 3) with
  | true => rfl
  | false =>
    show oV (lg σ 10) H (kc1 c d q .eq (.int 0) σ (tv (kif c d q a b σ K)) (ze σ K)) = _
    rw [h10]
    show oM (eqM H (.int n) (.int 0)) H (tv (kif c d q a b σ K)) = _
    rw [eq_int]
    rfl
theorem br_ok (Tx : Tx c N) (P : PInv N H p A) (I : Inv k A T Kp) (W : Lw H sL fL tL kv A.slots A.free T Kp) (hk : k < 18) {m : Nat} {nr : Int} (hnr : nr = 0 ∨ nr ∈ pick true 1 A.slots) {a9 a11 a12 a13 a14 : Option MVal} {K : MFlow → Lcs → MH → Prop}
    (hK : ∀ σ' H', J N sc p (k + 1) σ' H' → K .next σ' H') : wpS c (d + 6) true s_br (st sc p sL fL tL kv (some (.int k)) (some (.int m)) (some (.int (m % 9 : Nat))) a9 (some (.int nr)) a11 a12 a13 a14) H K := by
  rw [br_eq]
  have h9 : m % 9 < 9 := Nat.mod_lt _ (by decide)
  generalize m % 9 = r at *
  rw [brA (r := (r : Int)) (n := nr) rfl rfl]
  by_cases h3 : r < 3
  · have e : decide ((r : Int) < 3) = true := by simp; exact Int.ofNat_le.mpr (by assumption)
    rw [e, Bool.true_or, kif1]
    exact k0_ok Tx P I W hk hK
  have e : decide ((r : Int) < 3) = false := by simp; omega
  rcases hnr with rfl | hnr
  · rw [e, show ((0 : Int) == 0) = true from rfl, Bool.or_true, kif1]
    exact k0_ok Tx P I W hk hK
  have e0 : (nr == 0) = false := by
    obtain ⟨i, l, rfl, h1, _⟩ := pg_of_live hnr
    rw [beq_eq_false_iff_ne]; omega
  rw [e, e0, Bool.or_false, kif0]
  have hr := (by decide : ∀ r, r < 9 → ¬ r < 3 → r = 3 ∨ r = 4 ∨ r = 5 ∨ r = 6 ∨ r = 7 ∨ r = 8) r h9 h3
  rcases hr with rfl | rfl | rfl | rfl | rfl | rfl
  · exact sel1 (r := (3 : Nat)) rfl rfl (k1_ok Tx P I W hk hnr (fun σ' H' h => hK σ' H' h))
  · exact sel0 (r := (4 : Nat)) rfl rfl (sel1 (r := (4 : Nat)) rfl rfl (k2_ok Tx P I W hk hnr (fun σ' H' h => hK σ' H' h)))
  · exact sel0 (r := (5 : Nat)) rfl rfl (sel0 (r := (5 : Nat)) rfl rfl (sel1 (r := (5 : Nat)) rfl rfl (k3_ok Tx P I W hk hnr (fun σ' H' h => hK σ' H' h))))
  · exact sel0 (r := (6 : Nat)) rfl rfl (sel0 (r := (6 : Nat)) rfl rfl (sel0 (r := (6 : Nat)) rfl rfl (sel1 (r := (6 : Nat)) rfl rfl (k4_ok Tx P I W hk (fun σ' H' h => hK σ' H' h)))))
  · exact sel0 (r := (7 : Nat)) rfl rfl (sel0 (r := (7 : Nat)) rfl rfl (sel0 (r := (7 : Nat)) rfl rfl (sel0 (r := (7 : Nat)) rfl rfl (sel1 (r := (7 : Nat)) rfl rfl (k5_ok Tx P I W hk (fun σ' H' h => hK σ' H' h))))))
  · exact sel0 (r := (8 : Nat)) rfl rfl (sel0 (r := (8 : Nat)) rfl rfl (sel0 (r := (8 : Nat)) rfl rfl (sel0 (r := (8 : Nat)) rfl rfl (sel0 (r := (8 : Nat)) rfl rfl (k6_ok Tx P I W hk (fun σ' H' h => hK σ' H' h))))))

/-- ahead of the loop -/
theorem head_ok (Tx : Tx c N) (hs : c.ro sc = some (scr.map .int)) {K : MFlow → Lcs → MH → Prop} (hR : ∀ σ, K (.ret (.bool true)) σ H) (hN : 4 ≤ scr.length → ∀ p σ H', J N sc p 0 σ H' → K .next σ H') :
    wpSs c (d + 6) true s_head [some (.ro sc), none, none, none, none, none, none, none, none, none, none, none, none, none, none] H K := by
  by_cases h4 : scr.length < 4
  · have e : decide (((scr.map MVal.int).length : Int) < 4) = true := by simp; exact Int.ofNat_le.mpr (by assumption)
    simp only [s_head, oV_, oT_, oM_, v_b, v_i, v_l, v_g, v_c, v_f, b_c, l_0, l_1, tv_, kc2_, kc1_, kw_, kf_, xl2_, xl1_, kr_, kif1, ks_r, w_1, s_i, s_r, lg, cw_bi, cm_lt, tr_b, Tx.g_len, bi_len_ro hs, e]
    exact hR _
  have e : decide (((scr.map MVal.int).length : Int) < 4) = false := by simp; omega
  simp only [s_head, oV_, oT_, oM_, v_i, v_l, v_g, v_c, v_f, b_c, l_0, l_1, tv_, kc2_, kc1_, kw_, kf_, xl2_, xl1_, kif0, ks_n, w_0, w_1, s_a, s_i, lg, cw_ref, cw_bi, cm_lt, tr_b, Tx.g_len, bi_len_ro hs, e, Tx.g_Pages]
  refine ⟨Tx.c_C, mk_ok Tx fun p H1 P1 k1 => ?_⟩
  simp only [v_n, v_li, l_0, l_1, kl_, xl2_, xl1_, kas_, ks_n, w_1, s_a, ls, List.length_nil, List.length_cons]
  refine ⟨by decide, fun sL hsL => ?_⟩
  simp only [v_li, l_0, kl_, kas_, ks_n, w_1, s_a, ls, List.length_nil]
  refine ⟨by decide, fun fL hfL => ?_⟩
  have k2 : Keep H1 (upd H1 sL t0 (.list [.none])) := (Keep.rfl' _).new hsL
  have k3 : Keep (upd H1 sL t0 (.list [.none])) (upd (upd H1 sL t0 (.list [.none])) fL t0 (.list [])) := (Keep.rfl' _).new hfL
  have gs := k3 _ _ (upd_same H1 sL t0 (.list [.none]))
  have gf := upd_same (upd H1 sL t0 (.list [.none])) fL t0 (.list [])
  have kk := (k1.trans k2).trans k3
  have P3 := P1.keep (k2.trans k3)
  generalize upd (upd H1 sL t0 (.list [.none])) fL t0 (.list []) = H3 at *
  simp only [oV_, v_n, v_g, v_li, v_f, l_0, l_1, kl_, kf_, kas_, ks_n, w_1, s_a, ls, List.length_nil, Tx.g_set]
  refine ⟨by decide, fun r4 hr4 => ?_⟩
  have k4 : Keep H3 (upd H3 r4 t0 (.list [])) := (Keep.rfl' _).new hr4
  simp only [l_0, kw_, xl2_, xl1_, kas_, ks_n, w_0, ls, cw_ty, true_and, ty_set (upd_same H3 r4 t0 _), allocW]
  intro tL htL
  have k5 : Keep (upd H3 r4 t0 (.list [])) (upd (upd H3 r4 t0 (.list [])) tL t0 (.set [])) := (Keep.rfl' _).new htL
  have k45 := k4.trans k5
  have gt := upd_same (upd H3 r4 t0 (.list [])) tL t0 (.set [])
  generalize upd (upd H3 r4 t0 (.list [])) tL t0 (.set []) = H5 at *
  refine hN (Nat.not_lt.mp (by assumption)) p _ _ ⟨sL, fL, tL, .none, ⟨[none], [], none⟩, [], none, _, _, _, _, _, _, _, _, _, rfl, P3.keep k45, ⟨⟨[.none], k45 _ _ gs, rfl, fun i v q a b => ?_⟩, k45 _ _ gf, gt, rfl⟩, ?_⟩
  · cases i with
    | zero => simp at a b; subst a; subst b; exact ⟨fun _ => rfl, fun l e => nomatch e⟩
    | succ i => simp at a
  · refine ⟨⟨rfl, .nil, fun n => ?_⟩, by decide, fun l h => by simp at h, by decide, .inl ⟨rfl, rfl⟩⟩
    constructor
    · intro h; cases h
    · rintro ⟨i, _, h1, h2⟩
      cases i with
      | zero => omega
      | succ i => simp at h2

/-- the whole law, by its contracts -/
theorem law_ok (Tx : Tx c N) (hb : ∀ (d : Nat) (q : Bool) (vs : List MVal) (H : MH) (Q : MVal → MH → Prop) (Z : Addr → MH → Prop), vs.length = 1 → wpSs c d q s_law (vs.map some ++ List.replicate (15 - 1) none) H (kB Q Z) → CallOK c (d + 1) q lw vs H Q Z) (hs : c.ro sc = some (scr.map .int)) (h63 : scr.length ≤ 63) {Q : MVal → MH → Prop} {Z : Addr → MH → Prop} (hQ : ∀ H', Q (.bool true) H') : CallOK c (d + 7) true lw [.ro sc] H Q Z := by
  refine hb (d + 6) true _ H _ _ rfl ?_
  rw [law_eq, wpSs_append]
  refine head_ok Tx hs (fun σ => hQ H) fun h4 p σ0 H0 J0 => ?_
  show wpSs c (d + 6) true [_, _] σ0 H0 _
  rw [w_1]
  simp only [oV_, oI_, v_i, v_g, v_f, l_0, l_1, kw_, kf_, xl2_, xl1_, ki_, s_f, cw_ty, ty_range1, true_and, Tx.g_range, it_rng]
  refine ⟨by decide, by decide, forW_inv (fun i σ H => J N sc p i σ H) _ 0 J0 ?_ ?_⟩
  · rintro i v σ H' K' hi hJ hn - - -
    simp only [Nat.zero_add] at *
    refine ⟨rfl, ?_⟩
    have h18 : i < 18 := by
      rcases Nat.lt_or_ge i 18 with h | h
      · exact h
      · rw [List.getElem?_eq_none (by simpa using h)] at hi; cases hi
    have hv : v = .int (i : Int) := by
      rw [List.getElem?_map, List.getElem?_range (by simpa using h18)] at hi
      simp at hi; exact hi.symm
    subst hv
    obtain ⟨sL, fL, tL, kv, A, T, Kp, a6, a7, a8, a9, a10, a11, a12, a13, a14, rfl, P, W, I⟩ := hJ
    simp only [ki1_, ls, ls]
    rw [wpSs_append]
    refine pre_ok Tx P I W hs h4 h63 h18 fun m nr lv H1 P1 f1 hnr => ?_
    show wpSs c (d + 6) true (s_br :: s_post) _ H1 K'
    rw [w_1]
    refine br_ok Tx P1 I (W.fr f1) h18 hnr fun σ2 H2 hJ2 => ?_
    obtain ⟨sL, fL, tL, kv, A, T, Kp, a6, a7, a8, a9, a10, a11, a12, a13, a14, rfl, P2, W2, I2⟩ := hJ2
    obtain ⟨sm, nn, s60⟩ := I2.small (r3 (by assumption) (by decide))
    show wpSs c (d + 6) true s_post _ H2 K'
    refine post_ok Tx P2 sm I2.wf s60 W2 (kv_is W2 I2) fun lv H3 P3 f3 => hn _ _ ⟨sL, fL, tL, kv, A, T, Kp, _, _, _, _, _, _, _, _, _, rfl, P3, W2.fr f3, I2⟩
  · rintro σ H' ⟨sL, fL, tL, kv, A, T, Kp, a6, a7, a8, a9, a10, a11, a12, a13, a14, rfl, P, W, I⟩
    refine ⟨rfl, ?_⟩
    obtain ⟨sm, nn, s60⟩ := I.small (by decide)
    simp only [oV_, v_l, v_c, v_u, v_k, l_0, km3_, km2_, km_, ks_n, w_1, s_r, lg, cw_ref, List.append_nil, P.m Tx.m_dump fun _ _ _ _ _ _ _ => rfl]
    refine ⟨Tx.b_Pages_dump.1, dump_ok Tx P sm fun r1 r2 us H5 k5 g1 l1 g2 => ?_⟩
    obtain ⟨ys, hys, hl⟩ := (W.keep k5).s
    simp only [sub_tup (k := 0) (i := 0) (vs := [MVal.ref r1, MVal.ref r2]) rfl rfl, eq_slots g1 l1 hys hl.lr, oV_, oM_, v_i, v_l, kc2_, kc1_, ks2_, ks1_, kr_, ks_r, kB_r, lg, cm_eq]
    exact hQ _
end U9
end Mine
end
section
set_option autoImplicit false
set_option linter.unusedVariables false
set_option linter.unusedSimpArgs false
set_option maxRecDepth 100000
set_option maxHeartbeats 8000000
set_option Elab.async false
namespace Mine
open PySem PySem.Calls PyProof.Rows W
namespace U9
noncomputable abbrev KK (w : World) : Frag := HD.heap w.params
noncomputable abbrev cfg (w : World) (h : Heap) (sc : Addr) (scr : List Int) : Cfg := ⟨PySem.Challenge.rw_ue0010_09.row.prog, w, h, KK w, fun a => if a = sc then some (scr.map .int) else none⟩
noncomputable def nm : Nm where
  C := 195
  BP := 51
  SE := 31
  BadPage_init := 48
  copied := 60
  Pages_init := 74
  Pages_add := 81
  Pages__check := 88
  Pages_read := 95
  Pages_write := 102
  Pages_change := 109
  Pages_drop := 116
  Pages_numbers := 121
  Pages_count := 128
  Pages_free_count := 135
  Pages__note := 142
  Pages_begin := 149
  Pages_begun := 156
  Pages_commit := 163
  Pages_rollback := 170
  Pages_trim := 175
  Pages_faults := 180
  Pages_dump := 185
  law_told := 206
  law_bad := 213
variable {w : World} {h : Heap} {sc : Addr} {scr : List Int}
noncomputable def v_BadPage_init : VM := [("self", 0), ("number", 1), ("words", 2)]
theorem o_BadPage_init (L : Link (cfg w h sc scr)) : Body (cfg w h sc scr) 48 2 3 s_BadPage_init :=
  body_of (vm := v_BadPage_init) (k := 3) (ps := ["self", "number"]) L (by kernel_rfl) (L.K 48 _ rfl) rfl rfl (codeRec_of L.K (by kernel_rfl)) (by kernel_rfl) (by repeat' (first | exact TrSs.nil | refine TrSs.cons ?_ ?_ | exact Trs.nil | refine Trs.cons (fun _ _ => rfl) ?_ ?_ | exact TrO.none | refine TrO.some ?_ | exact TrN.nil | refine TrN.cons rfl ?_ | exact Tr.none | exact Tr.bool | exact Tr.int | exact Tr.str | exact Tr.loc rfl rfl | exact Tr.glob L rfl rfl | refine Tr.bin rfl ?_ ?_ | refine Tr.neg ?_ | refine Tr.bools ?_ | refine TrB.and ?_ ?_ | refine TrB.or ?_ ?_ | refine TrB.one ?_ | refine Tr.cmp L rfl ?_ ?_ | refine Tr.attr L (fun _ _ _ => rfl) ?_ | refine Tr.slice ?_ ?_ ?_ | refine Tr.sub L (fun _ _ => rfl) ?_ ?_ | refine Tr.list ?_ | refine Tr.tup ?_ | exact Tr.dict | refine Tr.mcall L (fun _ _ _ => rfl) rfl (by decide) ?_ ?_ | refine Tr.call L (fun _ => rfl) ?_ ?_ | refine Tr.comp L (fun _ _ => rfl) rfl ?_ ?_ ?_ | refine TrS.expr (fun _ => rfl) ?_ | refine TrS.ret ?_ | refine TrS.assign rfl (fun _ => rfl) (fun _ => rfl) ?_ | refine TrS.assignC L rfl (fun _ _ => rfl) rfl ?_ ?_ ?_ | refine TrS.assignAttr L (fun _ => rfl) (fun _ => rfl) ?_ ?_ | refine TrS.assignSub L (fun _ => rfl) (fun _ => rfl) ?_ ?_ ?_ | refine TrS.unpack (fun _ => rfl) (fun _ => rfl) (by decide) ?_ ?_ | refine TrS.ite ?_ ?_ ?_ | refine TrS.whil ?_ ?_ | refine TrS.forr L (fun _ _ => rfl) rfl ?_ ?_ | refine TrS.raise L ?_ | refine TrS.tryN L ?_ ?_ ?_ | refine TrS.tryX L ?_ ?_ rfl rfl ?_ | refine TrS.delSlice ?_ ?_ ?_)) (by kernel_rfl) rfl (ar2 fun _ _ => rfl) (ar2 fun _ _ => rfl)
noncomputable def v_copied : VM := [("page", 0), ("out", 1), ("part", 2)]
theorem o_copied (L : Link (cfg w h sc scr)) : Body (cfg w h sc scr) 60 1 3 s_copied :=
  body_of (vm := v_copied) (k := 3) (ps := ["page"]) L (by kernel_rfl) (L.K 60 _ rfl) rfl rfl (codeRec_of L.K (by kernel_rfl)) (by kernel_rfl) (by repeat' (first | exact TrSs.nil | refine TrSs.cons ?_ ?_ | exact Trs.nil | refine Trs.cons (fun _ _ => rfl) ?_ ?_ | exact TrO.none | refine TrO.some ?_ | exact TrN.nil | refine TrN.cons rfl ?_ | exact Tr.none | exact Tr.bool | exact Tr.int | exact Tr.str | exact Tr.loc rfl rfl | exact Tr.glob L rfl rfl | refine Tr.bin rfl ?_ ?_ | refine Tr.neg ?_ | refine Tr.bools ?_ | refine TrB.and ?_ ?_ | refine TrB.or ?_ ?_ | refine TrB.one ?_ | refine Tr.cmp L rfl ?_ ?_ | refine Tr.attr L (fun _ _ _ => rfl) ?_ | refine Tr.slice ?_ ?_ ?_ | refine Tr.sub L (fun _ _ => rfl) ?_ ?_ | refine Tr.list ?_ | refine Tr.tup ?_ | exact Tr.dict | refine Tr.mcall L (fun _ _ _ => rfl) rfl (by decide) ?_ ?_ | refine Tr.call L (fun _ => rfl) ?_ ?_ | refine Tr.comp L (fun _ _ => rfl) rfl ?_ ?_ ?_ | refine TrS.expr (fun _ => rfl) ?_ | refine TrS.ret ?_ | refine TrS.assign rfl (fun _ => rfl) (fun _ => rfl) ?_ | refine TrS.assignC L rfl (fun _ _ => rfl) rfl ?_ ?_ ?_ | refine TrS.assignAttr L (fun _ => rfl) (fun _ => rfl) ?_ ?_ | refine TrS.assignSub L (fun _ => rfl) (fun _ => rfl) ?_ ?_ ?_ | refine TrS.unpack (fun _ => rfl) (fun _ => rfl) (by decide) ?_ ?_ | refine TrS.ite ?_ ?_ ?_ | refine TrS.whil ?_ ?_ | refine TrS.forr L (fun _ _ => rfl) rfl ?_ ?_ | refine TrS.raise L ?_ | refine TrS.tryN L ?_ ?_ ?_ | refine TrS.tryX L ?_ ?_ rfl rfl ?_ | refine TrS.delSlice ?_ ?_ ?_)) (by kernel_rfl) rfl (ar1 fun _ => rfl) (ar1 fun _ => rfl)
noncomputable def v_Pages_init : VM := [("self", 0)]
theorem o_Pages_init (L : Link (cfg w h sc scr)) : Body (cfg w h sc scr) 74 1 1 s_Pages_init :=
  body_of (vm := v_Pages_init) (k := 1) (ps := ["self"]) L (by kernel_rfl) (L.K 74 _ rfl) rfl rfl (codeRec_of L.K (by kernel_rfl)) (by kernel_rfl) (by repeat' (first | exact TrSs.nil | refine TrSs.cons ?_ ?_ | exact Trs.nil | refine Trs.cons (fun _ _ => rfl) ?_ ?_ | exact TrO.none | refine TrO.some ?_ | exact TrN.nil | refine TrN.cons rfl ?_ | exact Tr.none | exact Tr.bool | exact Tr.int | exact Tr.str | exact Tr.loc rfl rfl | exact Tr.glob L rfl rfl | refine Tr.bin rfl ?_ ?_ | refine Tr.neg ?_ | refine Tr.bools ?_ | refine TrB.and ?_ ?_ | refine TrB.or ?_ ?_ | refine TrB.one ?_ | refine Tr.cmp L rfl ?_ ?_ | refine Tr.attr L (fun _ _ _ => rfl) ?_ | refine Tr.slice ?_ ?_ ?_ | refine Tr.sub L (fun _ _ => rfl) ?_ ?_ | refine Tr.list ?_ | refine Tr.tup ?_ | exact Tr.dict | refine Tr.mcall L (fun _ _ _ => rfl) rfl (by decide) ?_ ?_ | refine Tr.call L (fun _ => rfl) ?_ ?_ | refine Tr.comp L (fun _ _ => rfl) rfl ?_ ?_ ?_ | refine TrS.expr (fun _ => rfl) ?_ | refine TrS.ret ?_ | refine TrS.assign rfl (fun _ => rfl) (fun _ => rfl) ?_ | refine TrS.assignC L rfl (fun _ _ => rfl) rfl ?_ ?_ ?_ | refine TrS.assignAttr L (fun _ => rfl) (fun _ => rfl) ?_ ?_ | refine TrS.assignSub L (fun _ => rfl) (fun _ => rfl) ?_ ?_ ?_ | refine TrS.unpack (fun _ => rfl) (fun _ => rfl) (by decide) ?_ ?_ | refine TrS.ite ?_ ?_ ?_ | refine TrS.whil ?_ ?_ | refine TrS.forr L (fun _ _ => rfl) rfl ?_ ?_ | refine TrS.raise L ?_ | refine TrS.tryN L ?_ ?_ ?_ | refine TrS.tryX L ?_ ?_ rfl rfl ?_ | refine TrS.delSlice ?_ ?_ ?_)) (by kernel_rfl) rfl (ar1 fun _ => rfl) (ar1 fun _ => rfl)
noncomputable def v_Pages_add : VM := [("self", 0), ("page", 1), ("number", 2)]
theorem o_Pages_add (L : Link (cfg w h sc scr)) : Body (cfg w h sc scr) 81 2 3 s_Pages_add :=
  body_of (vm := v_Pages_add) (k := 3) (ps := ["self", "page"]) L (by kernel_rfl) (L.K 81 _ rfl) rfl rfl (codeRec_of L.K (by kernel_rfl)) (by kernel_rfl) (by repeat' (first | exact TrSs.nil | refine TrSs.cons ?_ ?_ | exact Trs.nil | refine Trs.cons (fun _ _ => rfl) ?_ ?_ | exact TrO.none | refine TrO.some ?_ | exact TrN.nil | refine TrN.cons rfl ?_ | exact Tr.none | exact Tr.bool | exact Tr.int | exact Tr.str | exact Tr.loc rfl rfl | exact Tr.glob L rfl rfl | refine Tr.bin rfl ?_ ?_ | refine Tr.neg ?_ | refine Tr.bools ?_ | refine TrB.and ?_ ?_ | refine TrB.or ?_ ?_ | refine TrB.one ?_ | refine Tr.cmp L rfl ?_ ?_ | refine Tr.attr L (fun _ _ _ => rfl) ?_ | refine Tr.slice ?_ ?_ ?_ | refine Tr.sub L (fun _ _ => rfl) ?_ ?_ | refine Tr.list ?_ | refine Tr.tup ?_ | exact Tr.dict | refine Tr.mcall L (fun _ _ _ => rfl) rfl (by decide) ?_ ?_ | refine Tr.call L (fun _ => rfl) ?_ ?_ | refine Tr.comp L (fun _ _ => rfl) rfl ?_ ?_ ?_ | refine TrS.expr (fun _ => rfl) ?_ | refine TrS.ret ?_ | refine TrS.assign rfl (fun _ => rfl) (fun _ => rfl) ?_ | refine TrS.assignC L rfl (fun _ _ => rfl) rfl ?_ ?_ ?_ | refine TrS.assignAttr L (fun _ => rfl) (fun _ => rfl) ?_ ?_ | refine TrS.assignSub L (fun _ => rfl) (fun _ => rfl) ?_ ?_ ?_ | refine TrS.unpack (fun _ => rfl) (fun _ => rfl) (by decide) ?_ ?_ | refine TrS.ite ?_ ?_ ?_ | refine TrS.whil ?_ ?_ | refine TrS.forr L (fun _ _ => rfl) rfl ?_ ?_ | refine TrS.raise L ?_ | refine TrS.tryN L ?_ ?_ ?_ | refine TrS.tryX L ?_ ?_ rfl rfl ?_ | refine TrS.delSlice ?_ ?_ ?_)) (by kernel_rfl) rfl (ar2 fun _ _ => rfl) (ar2 fun _ _ => rfl)
noncomputable def v_Pages__check : VM := [("self", 0), ("number", 1)]
theorem o_Pages__check (L : Link (cfg w h sc scr)) : Body (cfg w h sc scr) 88 2 2 s_Pages__check :=
  body_of (vm := v_Pages__check) (k := 2) (ps := ["self", "number"]) L (by kernel_rfl) (L.K 88 _ rfl) rfl rfl (codeRec_of L.K (by kernel_rfl)) (by kernel_rfl) (by repeat' (first | exact TrSs.nil | refine TrSs.cons ?_ ?_ | exact Trs.nil | refine Trs.cons (fun _ _ => rfl) ?_ ?_ | exact TrO.none | refine TrO.some ?_ | exact TrN.nil | refine TrN.cons rfl ?_ | exact Tr.none | exact Tr.bool | exact Tr.int | exact Tr.str | exact Tr.loc rfl rfl | exact Tr.glob L rfl rfl | refine Tr.bin rfl ?_ ?_ | refine Tr.neg ?_ | refine Tr.bools ?_ | refine TrB.and ?_ ?_ | refine TrB.or ?_ ?_ | refine TrB.one ?_ | refine Tr.cmp L rfl ?_ ?_ | refine Tr.attr L (fun _ _ _ => rfl) ?_ | refine Tr.slice ?_ ?_ ?_ | refine Tr.sub L (fun _ _ => rfl) ?_ ?_ | refine Tr.list ?_ | refine Tr.tup ?_ | exact Tr.dict | refine Tr.mcall L (fun _ _ _ => rfl) rfl (by decide) ?_ ?_ | refine Tr.call L (fun _ => rfl) ?_ ?_ | refine Tr.comp L (fun _ _ => rfl) rfl ?_ ?_ ?_ | refine TrS.expr (fun _ => rfl) ?_ | refine TrS.ret ?_ | refine TrS.assign rfl (fun _ => rfl) (fun _ => rfl) ?_ | refine TrS.assignC L rfl (fun _ _ => rfl) rfl ?_ ?_ ?_ | refine TrS.assignAttr L (fun _ => rfl) (fun _ => rfl) ?_ ?_ | refine TrS.assignSub L (fun _ => rfl) (fun _ => rfl) ?_ ?_ ?_ | refine TrS.unpack (fun _ => rfl) (fun _ => rfl) (by decide) ?_ ?_ | refine TrS.ite ?_ ?_ ?_ | refine TrS.whil ?_ ?_ | refine TrS.forr L (fun _ _ => rfl) rfl ?_ ?_ | refine TrS.raise L ?_ | refine TrS.tryN L ?_ ?_ ?_ | refine TrS.tryX L ?_ ?_ rfl rfl ?_ | refine TrS.delSlice ?_ ?_ ?_)) (by kernel_rfl) rfl (ar2 fun _ _ => rfl) (ar2 fun _ _ => rfl)
noncomputable def v_Pages_read : VM := [("self", 0), ("number", 1)]
theorem o_Pages_read (L : Link (cfg w h sc scr)) : Body (cfg w h sc scr) 95 2 2 s_Pages_read :=
  body_of (vm := v_Pages_read) (k := 2) (ps := ["self", "number"]) L (by kernel_rfl) (L.K 95 _ rfl) rfl rfl (codeRec_of L.K (by kernel_rfl)) (by kernel_rfl) (by repeat' (first | exact TrSs.nil | refine TrSs.cons ?_ ?_ | exact Trs.nil | refine Trs.cons (fun _ _ => rfl) ?_ ?_ | exact TrO.none | refine TrO.some ?_ | exact TrN.nil | refine TrN.cons rfl ?_ | exact Tr.none | exact Tr.bool | exact Tr.int | exact Tr.str | exact Tr.loc rfl rfl | exact Tr.glob L rfl rfl | refine Tr.bin rfl ?_ ?_ | refine Tr.neg ?_ | refine Tr.bools ?_ | refine TrB.and ?_ ?_ | refine TrB.or ?_ ?_ | refine TrB.one ?_ | refine Tr.cmp L rfl ?_ ?_ | refine Tr.attr L (fun _ _ _ => rfl) ?_ | refine Tr.slice ?_ ?_ ?_ | refine Tr.sub L (fun _ _ => rfl) ?_ ?_ | refine Tr.list ?_ | refine Tr.tup ?_ | exact Tr.dict | refine Tr.mcall L (fun _ _ _ => rfl) rfl (by decide) ?_ ?_ | refine Tr.call L (fun _ => rfl) ?_ ?_ | refine Tr.comp L (fun _ _ => rfl) rfl ?_ ?_ ?_ | refine TrS.expr (fun _ => rfl) ?_ | refine TrS.ret ?_ | refine TrS.assign rfl (fun _ => rfl) (fun _ => rfl) ?_ | refine TrS.assignC L rfl (fun _ _ => rfl) rfl ?_ ?_ ?_ | refine TrS.assignAttr L (fun _ => rfl) (fun _ => rfl) ?_ ?_ | refine TrS.assignSub L (fun _ => rfl) (fun _ => rfl) ?_ ?_ ?_ | refine TrS.unpack (fun _ => rfl) (fun _ => rfl) (by decide) ?_ ?_ | refine TrS.ite ?_ ?_ ?_ | refine TrS.whil ?_ ?_ | refine TrS.forr L (fun _ _ => rfl) rfl ?_ ?_ | refine TrS.raise L ?_ | refine TrS.tryN L ?_ ?_ ?_ | refine TrS.tryX L ?_ ?_ rfl rfl ?_ | refine TrS.delSlice ?_ ?_ ?_)) (by kernel_rfl) rfl (ar2 fun _ _ => rfl) (ar2 fun _ _ => rfl)
noncomputable def v_Pages_write : VM := [("self", 0), ("number", 1), ("page", 2)]
theorem o_Pages_write (L : Link (cfg w h sc scr)) : Body (cfg w h sc scr) 102 3 3 s_Pages_write :=
  body_of (vm := v_Pages_write) (k := 3) (ps := ["self", "number", "page"]) L (by kernel_rfl) (L.K 102 _ rfl) rfl rfl (codeRec_of L.K (by kernel_rfl)) (by kernel_rfl) (by repeat' (first | exact TrSs.nil | refine TrSs.cons ?_ ?_ | exact Trs.nil | refine Trs.cons (fun _ _ => rfl) ?_ ?_ | exact TrO.none | refine TrO.some ?_ | exact TrN.nil | refine TrN.cons rfl ?_ | exact Tr.none | exact Tr.bool | exact Tr.int | exact Tr.str | exact Tr.loc rfl rfl | exact Tr.glob L rfl rfl | refine Tr.bin rfl ?_ ?_ | refine Tr.neg ?_ | refine Tr.bools ?_ | refine TrB.and ?_ ?_ | refine TrB.or ?_ ?_ | refine TrB.one ?_ | refine Tr.cmp L rfl ?_ ?_ | refine Tr.attr L (fun _ _ _ => rfl) ?_ | refine Tr.slice ?_ ?_ ?_ | refine Tr.sub L (fun _ _ => rfl) ?_ ?_ | refine Tr.list ?_ | refine Tr.tup ?_ | exact Tr.dict | refine Tr.mcall L (fun _ _ _ => rfl) rfl (by decide) ?_ ?_ | refine Tr.call L (fun _ => rfl) ?_ ?_ | refine Tr.comp L (fun _ _ => rfl) rfl ?_ ?_ ?_ | refine TrS.expr (fun _ => rfl) ?_ | refine TrS.ret ?_ | refine TrS.assign rfl (fun _ => rfl) (fun _ => rfl) ?_ | refine TrS.assignC L rfl (fun _ _ => rfl) rfl ?_ ?_ ?_ | refine TrS.assignAttr L (fun _ => rfl) (fun _ => rfl) ?_ ?_ | refine TrS.assignSub L (fun _ => rfl) (fun _ => rfl) ?_ ?_ ?_ | refine TrS.unpack (fun _ => rfl) (fun _ => rfl) (by decide) ?_ ?_ | refine TrS.ite ?_ ?_ ?_ | refine TrS.whil ?_ ?_ | refine TrS.forr L (fun _ _ => rfl) rfl ?_ ?_ | refine TrS.raise L ?_ | refine TrS.tryN L ?_ ?_ ?_ | refine TrS.tryX L ?_ ?_ rfl rfl ?_ | refine TrS.delSlice ?_ ?_ ?_)) (by kernel_rfl) rfl (ar3 fun _ _ _ => rfl) (ar3 fun _ _ _ => rfl)
noncomputable def v_Pages_change : VM := [("self", 0), ("number", 1)]
theorem o_Pages_change (L : Link (cfg w h sc scr)) : Body (cfg w h sc scr) 109 2 2 s_Pages_change :=
  body_of (vm := v_Pages_change) (k := 2) (ps := ["self", "number"]) L (by kernel_rfl) (L.K 109 _ rfl) rfl rfl (codeRec_of L.K (by kernel_rfl)) (by kernel_rfl) (by repeat' (first | exact TrSs.nil | refine TrSs.cons ?_ ?_ | exact Trs.nil | refine Trs.cons (fun _ _ => rfl) ?_ ?_ | exact TrO.none | refine TrO.some ?_ | exact TrN.nil | refine TrN.cons rfl ?_ | exact Tr.none | exact Tr.bool | exact Tr.int | exact Tr.str | exact Tr.loc rfl rfl | exact Tr.glob L rfl rfl | refine Tr.bin rfl ?_ ?_ | refine Tr.neg ?_ | refine Tr.bools ?_ | refine TrB.and ?_ ?_ | refine TrB.or ?_ ?_ | refine TrB.one ?_ | refine Tr.cmp L rfl ?_ ?_ | refine Tr.attr L (fun _ _ _ => rfl) ?_ | refine Tr.slice ?_ ?_ ?_ | refine Tr.sub L (fun _ _ => rfl) ?_ ?_ | refine Tr.list ?_ | refine Tr.tup ?_ | exact Tr.dict | refine Tr.mcall L (fun _ _ _ => rfl) rfl (by decide) ?_ ?_ | refine Tr.call L (fun _ => rfl) ?_ ?_ | refine Tr.comp L (fun _ _ => rfl) rfl ?_ ?_ ?_ | refine TrS.expr (fun _ => rfl) ?_ | refine TrS.ret ?_ | refine TrS.assign rfl (fun _ => rfl) (fun _ => rfl) ?_ | refine TrS.assignC L rfl (fun _ _ => rfl) rfl ?_ ?_ ?_ | refine TrS.assignAttr L (fun _ => rfl) (fun _ => rfl) ?_ ?_ | refine TrS.assignSub L (fun _ => rfl) (fun _ => rfl) ?_ ?_ ?_ | refine TrS.unpack (fun _ => rfl) (fun _ => rfl) (by decide) ?_ ?_ | refine TrS.ite ?_ ?_ ?_ | refine TrS.whil ?_ ?_ | refine TrS.forr L (fun _ _ => rfl) rfl ?_ ?_ | refine TrS.raise L ?_ | refine TrS.tryN L ?_ ?_ ?_ | refine TrS.tryX L ?_ ?_ rfl rfl ?_ | refine TrS.delSlice ?_ ?_ ?_)) (by kernel_rfl) rfl (ar2 fun _ _ => rfl) (ar2 fun _ _ => rfl)
noncomputable def v_Pages_drop : VM := [("self", 0), ("number", 1)]
theorem o_Pages_drop (L : Link (cfg w h sc scr)) : Body (cfg w h sc scr) 116 2 2 s_Pages_drop :=
  body_of (vm := v_Pages_drop) (k := 2) (ps := ["self", "number"]) L (by kernel_rfl) (L.K 116 _ rfl) rfl rfl (codeRec_of L.K (by kernel_rfl)) (by kernel_rfl) (by repeat' (first | exact TrSs.nil | refine TrSs.cons ?_ ?_ | exact Trs.nil | refine Trs.cons (fun _ _ => rfl) ?_ ?_ | exact TrO.none | refine TrO.some ?_ | exact TrN.nil | refine TrN.cons rfl ?_ | exact Tr.none | exact Tr.bool | exact Tr.int | exact Tr.str | exact Tr.loc rfl rfl | exact Tr.glob L rfl rfl | refine Tr.bin rfl ?_ ?_ | refine Tr.neg ?_ | refine Tr.bools ?_ | refine TrB.and ?_ ?_ | refine TrB.or ?_ ?_ | refine TrB.one ?_ | refine Tr.cmp L rfl ?_ ?_ | refine Tr.attr L (fun _ _ _ => rfl) ?_ | refine Tr.slice ?_ ?_ ?_ | refine Tr.sub L (fun _ _ => rfl) ?_ ?_ | refine Tr.list ?_ | refine Tr.tup ?_ | exact Tr.dict | refine Tr.mcall L (fun _ _ _ => rfl) rfl (by decide) ?_ ?_ | refine Tr.call L (fun _ => rfl) ?_ ?_ | refine Tr.comp L (fun _ _ => rfl) rfl ?_ ?_ ?_ | refine TrS.expr (fun _ => rfl) ?_ | refine TrS.ret ?_ | refine TrS.assign rfl (fun _ => rfl) (fun _ => rfl) ?_ | refine TrS.assignC L rfl (fun _ _ => rfl) rfl ?_ ?_ ?_ | refine TrS.assignAttr L (fun _ => rfl) (fun _ => rfl) ?_ ?_ | refine TrS.assignSub L (fun _ => rfl) (fun _ => rfl) ?_ ?_ ?_ | refine TrS.unpack (fun _ => rfl) (fun _ => rfl) (by decide) ?_ ?_ | refine TrS.ite ?_ ?_ ?_ | refine TrS.whil ?_ ?_ | refine TrS.forr L (fun _ _ => rfl) rfl ?_ ?_ | refine TrS.raise L ?_ | refine TrS.tryN L ?_ ?_ ?_ | refine TrS.tryX L ?_ ?_ rfl rfl ?_ | refine TrS.delSlice ?_ ?_ ?_)) (by kernel_rfl) rfl (ar2 fun _ _ => rfl) (ar2 fun _ _ => rfl)
noncomputable def v_Pages_numbers : VM := [("self", 0)]
theorem o_Pages_numbers (L : Link (cfg w h sc scr)) : Body (cfg w h sc scr) 121 1 2 s_Pages_numbers :=
  body_of (vm := v_Pages_numbers) (k := 1) (ps := ["self"]) L (by kernel_rfl) (L.K 121 _ rfl) rfl rfl (codeRec_of L.K (by kernel_rfl)) (by kernel_rfl) (by repeat' (first | exact TrSs.nil | refine TrSs.cons ?_ ?_ | exact Trs.nil | refine Trs.cons (fun _ _ => rfl) ?_ ?_ | exact TrO.none | refine TrO.some ?_ | exact TrN.nil | refine TrN.cons rfl ?_ | exact Tr.none | exact Tr.bool | exact Tr.int | exact Tr.str | exact Tr.loc rfl rfl | exact Tr.glob L rfl rfl | refine Tr.bin rfl ?_ ?_ | refine Tr.neg ?_ | refine Tr.bools ?_ | refine TrB.and ?_ ?_ | refine TrB.or ?_ ?_ | refine TrB.one ?_ | refine Tr.cmp L rfl ?_ ?_ | refine Tr.attr L (fun _ _ _ => rfl) ?_ | refine Tr.slice ?_ ?_ ?_ | refine Tr.sub L (fun _ _ => rfl) ?_ ?_ | refine Tr.list ?_ | refine Tr.tup ?_ | exact Tr.dict | refine Tr.mcall L (fun _ _ _ => rfl) rfl (by decide) ?_ ?_ | refine Tr.call L (fun _ => rfl) ?_ ?_ | refine Tr.comp L (fun _ _ => rfl) rfl ?_ ?_ ?_ | refine TrS.expr (fun _ => rfl) ?_ | refine TrS.ret ?_ | refine TrS.assign rfl (fun _ => rfl) (fun _ => rfl) ?_ | refine TrS.assignC L rfl (fun _ _ => rfl) rfl ?_ ?_ ?_ | refine TrS.assignAttr L (fun _ => rfl) (fun _ => rfl) ?_ ?_ | refine TrS.assignSub L (fun _ => rfl) (fun _ => rfl) ?_ ?_ ?_ | refine TrS.unpack (fun _ => rfl) (fun _ => rfl) (by decide) ?_ ?_ | refine TrS.ite ?_ ?_ ?_ | refine TrS.whil ?_ ?_ | refine TrS.forr L (fun _ _ => rfl) rfl ?_ ?_ | refine TrS.raise L ?_ | refine TrS.tryN L ?_ ?_ ?_ | refine TrS.tryX L ?_ ?_ rfl rfl ?_ | refine TrS.delSlice ?_ ?_ ?_)) (by kernel_rfl) rfl (ar1 fun _ => rfl) (ar1 fun _ => rfl)
noncomputable def v_Pages_count : VM := [("self", 0)]
theorem o_Pages_count (L : Link (cfg w h sc scr)) : Body (cfg w h sc scr) 128 1 1 s_Pages_count :=
  body_of (vm := v_Pages_count) (k := 1) (ps := ["self"]) L (by kernel_rfl) (L.K 128 _ rfl) rfl rfl (codeRec_of L.K (by kernel_rfl)) (by kernel_rfl) (by repeat' (first | exact TrSs.nil | refine TrSs.cons ?_ ?_ | exact Trs.nil | refine Trs.cons (fun _ _ => rfl) ?_ ?_ | exact TrO.none | refine TrO.some ?_ | exact TrN.nil | refine TrN.cons rfl ?_ | exact Tr.none | exact Tr.bool | exact Tr.int | exact Tr.str | exact Tr.loc rfl rfl | exact Tr.glob L rfl rfl | refine Tr.bin rfl ?_ ?_ | refine Tr.neg ?_ | refine Tr.bools ?_ | refine TrB.and ?_ ?_ | refine TrB.or ?_ ?_ | refine TrB.one ?_ | refine Tr.cmp L rfl ?_ ?_ | refine Tr.attr L (fun _ _ _ => rfl) ?_ | refine Tr.slice ?_ ?_ ?_ | refine Tr.sub L (fun _ _ => rfl) ?_ ?_ | refine Tr.list ?_ | refine Tr.tup ?_ | exact Tr.dict | refine Tr.mcall L (fun _ _ _ => rfl) rfl (by decide) ?_ ?_ | refine Tr.call L (fun _ => rfl) ?_ ?_ | refine Tr.comp L (fun _ _ => rfl) rfl ?_ ?_ ?_ | refine TrS.expr (fun _ => rfl) ?_ | refine TrS.ret ?_ | refine TrS.assign rfl (fun _ => rfl) (fun _ => rfl) ?_ | refine TrS.assignC L rfl (fun _ _ => rfl) rfl ?_ ?_ ?_ | refine TrS.assignAttr L (fun _ => rfl) (fun _ => rfl) ?_ ?_ | refine TrS.assignSub L (fun _ => rfl) (fun _ => rfl) ?_ ?_ ?_ | refine TrS.unpack (fun _ => rfl) (fun _ => rfl) (by decide) ?_ ?_ | refine TrS.ite ?_ ?_ ?_ | refine TrS.whil ?_ ?_ | refine TrS.forr L (fun _ _ => rfl) rfl ?_ ?_ | refine TrS.raise L ?_ | refine TrS.tryN L ?_ ?_ ?_ | refine TrS.tryX L ?_ ?_ rfl rfl ?_ | refine TrS.delSlice ?_ ?_ ?_)) (by kernel_rfl) rfl (ar1 fun _ => rfl) (ar1 fun _ => rfl)
noncomputable def v_Pages_free_count : VM := [("self", 0)]
theorem o_Pages_free_count (L : Link (cfg w h sc scr)) : Body (cfg w h sc scr) 135 1 1 s_Pages_free_count :=
  body_of (vm := v_Pages_free_count) (k := 1) (ps := ["self"]) L (by kernel_rfl) (L.K 135 _ rfl) rfl rfl (codeRec_of L.K (by kernel_rfl)) (by kernel_rfl) (by repeat' (first | exact TrSs.nil | refine TrSs.cons ?_ ?_ | exact Trs.nil | refine Trs.cons (fun _ _ => rfl) ?_ ?_ | exact TrO.none | refine TrO.some ?_ | exact TrN.nil | refine TrN.cons rfl ?_ | exact Tr.none | exact Tr.bool | exact Tr.int | exact Tr.str | exact Tr.loc rfl rfl | exact Tr.glob L rfl rfl | refine Tr.bin rfl ?_ ?_ | refine Tr.neg ?_ | refine Tr.bools ?_ | refine TrB.and ?_ ?_ | refine TrB.or ?_ ?_ | refine TrB.one ?_ | refine Tr.cmp L rfl ?_ ?_ | refine Tr.attr L (fun _ _ _ => rfl) ?_ | refine Tr.slice ?_ ?_ ?_ | refine Tr.sub L (fun _ _ => rfl) ?_ ?_ | refine Tr.list ?_ | refine Tr.tup ?_ | exact Tr.dict | refine Tr.mcall L (fun _ _ _ => rfl) rfl (by decide) ?_ ?_ | refine Tr.call L (fun _ => rfl) ?_ ?_ | refine Tr.comp L (fun _ _ => rfl) rfl ?_ ?_ ?_ | refine TrS.expr (fun _ => rfl) ?_ | refine TrS.ret ?_ | refine TrS.assign rfl (fun _ => rfl) (fun _ => rfl) ?_ | refine TrS.assignC L rfl (fun _ _ => rfl) rfl ?_ ?_ ?_ | refine TrS.assignAttr L (fun _ => rfl) (fun _ => rfl) ?_ ?_ | refine TrS.assignSub L (fun _ => rfl) (fun _ => rfl) ?_ ?_ ?_ | refine TrS.unpack (fun _ => rfl) (fun _ => rfl) (by decide) ?_ ?_ | refine TrS.ite ?_ ?_ ?_ | refine TrS.whil ?_ ?_ | refine TrS.forr L (fun _ _ => rfl) rfl ?_ ?_ | refine TrS.raise L ?_ | refine TrS.tryN L ?_ ?_ ?_ | refine TrS.tryX L ?_ ?_ rfl rfl ?_ | refine TrS.delSlice ?_ ?_ ?_)) (by kernel_rfl) rfl (ar1 fun _ => rfl) (ar1 fun _ => rfl)
noncomputable def v_Pages__note : VM := [("self", 0), ("number", 1), ("old", 2)]
theorem o_Pages__note (L : Link (cfg w h sc scr)) : Body (cfg w h sc scr) 142 2 3 s_Pages__note :=
  body_of (vm := v_Pages__note) (k := 3) (ps := ["self", "number"]) L (by kernel_rfl) (L.K 142 _ rfl) rfl rfl (codeRec_of L.K (by kernel_rfl)) (by kernel_rfl) (by repeat' (first | exact TrSs.nil | refine TrSs.cons ?_ ?_ | exact Trs.nil | refine Trs.cons (fun _ _ => rfl) ?_ ?_ | exact TrO.none | refine TrO.some ?_ | exact TrN.nil | refine TrN.cons rfl ?_ | exact Tr.none | exact Tr.bool | exact Tr.int | exact Tr.str | exact Tr.loc rfl rfl | exact Tr.glob L rfl rfl | refine Tr.bin rfl ?_ ?_ | refine Tr.neg ?_ | refine Tr.bools ?_ | refine TrB.and ?_ ?_ | refine TrB.or ?_ ?_ | refine TrB.one ?_ | refine Tr.cmp L rfl ?_ ?_ | refine Tr.attr L (fun _ _ _ => rfl) ?_ | refine Tr.slice ?_ ?_ ?_ | refine Tr.sub L (fun _ _ => rfl) ?_ ?_ | refine Tr.list ?_ | refine Tr.tup ?_ | exact Tr.dict | refine Tr.mcall L (fun _ _ _ => rfl) rfl (by decide) ?_ ?_ | refine Tr.call L (fun _ => rfl) ?_ ?_ | refine Tr.comp L (fun _ _ => rfl) rfl ?_ ?_ ?_ | refine TrS.expr (fun _ => rfl) ?_ | refine TrS.ret ?_ | refine TrS.assign rfl (fun _ => rfl) (fun _ => rfl) ?_ | refine TrS.assignC L rfl (fun _ _ => rfl) rfl ?_ ?_ ?_ | refine TrS.assignAttr L (fun _ => rfl) (fun _ => rfl) ?_ ?_ | refine TrS.assignSub L (fun _ => rfl) (fun _ => rfl) ?_ ?_ ?_ | refine TrS.unpack (fun _ => rfl) (fun _ => rfl) (by decide) ?_ ?_ | refine TrS.ite ?_ ?_ ?_ | refine TrS.whil ?_ ?_ | refine TrS.forr L (fun _ _ => rfl) rfl ?_ ?_ | refine TrS.raise L ?_ | refine TrS.tryN L ?_ ?_ ?_ | refine TrS.tryX L ?_ ?_ rfl rfl ?_ | refine TrS.delSlice ?_ ?_ ?_)) (by kernel_rfl) rfl (ar2 fun _ _ => rfl) (ar2 fun _ _ => rfl)
noncomputable def v_Pages_begin : VM := [("self", 0)]
theorem o_Pages_begin (L : Link (cfg w h sc scr)) : Body (cfg w h sc scr) 149 1 1 s_Pages_begin :=
  body_of (vm := v_Pages_begin) (k := 1) (ps := ["self"]) L (by kernel_rfl) (L.K 149 _ rfl) rfl rfl (codeRec_of L.K (by kernel_rfl)) (by kernel_rfl) (by repeat' (first | exact TrSs.nil | refine TrSs.cons ?_ ?_ | exact Trs.nil | refine Trs.cons (fun _ _ => rfl) ?_ ?_ | exact TrO.none | refine TrO.some ?_ | exact TrN.nil | refine TrN.cons rfl ?_ | exact Tr.none | exact Tr.bool | exact Tr.int | exact Tr.str | exact Tr.loc rfl rfl | exact Tr.glob L rfl rfl | refine Tr.bin rfl ?_ ?_ | refine Tr.neg ?_ | refine Tr.bools ?_ | refine TrB.and ?_ ?_ | refine TrB.or ?_ ?_ | refine TrB.one ?_ | refine Tr.cmp L rfl ?_ ?_ | refine Tr.attr L (fun _ _ _ => rfl) ?_ | refine Tr.slice ?_ ?_ ?_ | refine Tr.sub L (fun _ _ => rfl) ?_ ?_ | refine Tr.list ?_ | refine Tr.tup ?_ | exact Tr.dict | refine Tr.mcall L (fun _ _ _ => rfl) rfl (by decide) ?_ ?_ | refine Tr.call L (fun _ => rfl) ?_ ?_ | refine Tr.comp L (fun _ _ => rfl) rfl ?_ ?_ ?_ | refine TrS.expr (fun _ => rfl) ?_ | refine TrS.ret ?_ | refine TrS.assign rfl (fun _ => rfl) (fun _ => rfl) ?_ | refine TrS.assignC L rfl (fun _ _ => rfl) rfl ?_ ?_ ?_ | refine TrS.assignAttr L (fun _ => rfl) (fun _ => rfl) ?_ ?_ | refine TrS.assignSub L (fun _ => rfl) (fun _ => rfl) ?_ ?_ ?_ | refine TrS.unpack (fun _ => rfl) (fun _ => rfl) (by decide) ?_ ?_ | refine TrS.ite ?_ ?_ ?_ | refine TrS.whil ?_ ?_ | refine TrS.forr L (fun _ _ => rfl) rfl ?_ ?_ | refine TrS.raise L ?_ | refine TrS.tryN L ?_ ?_ ?_ | refine TrS.tryX L ?_ ?_ rfl rfl ?_ | refine TrS.delSlice ?_ ?_ ?_)) (by kernel_rfl) rfl (ar1 fun _ => rfl) (ar1 fun _ => rfl)
noncomputable def v_Pages_begun : VM := [("self", 0)]
theorem o_Pages_begun (L : Link (cfg w h sc scr)) : Body (cfg w h sc scr) 156 1 1 s_Pages_begun :=
  body_of (vm := v_Pages_begun) (k := 1) (ps := ["self"]) L (by kernel_rfl) (L.K 156 _ rfl) rfl rfl (codeRec_of L.K (by kernel_rfl)) (by kernel_rfl) (by repeat' (first | exact TrSs.nil | refine TrSs.cons ?_ ?_ | exact Trs.nil | refine Trs.cons (fun _ _ => rfl) ?_ ?_ | exact TrO.none | refine TrO.some ?_ | exact TrN.nil | refine TrN.cons rfl ?_ | exact Tr.none | exact Tr.bool | exact Tr.int | exact Tr.str | exact Tr.loc rfl rfl | exact Tr.glob L rfl rfl | refine Tr.bin rfl ?_ ?_ | refine Tr.neg ?_ | refine Tr.bools ?_ | refine TrB.and ?_ ?_ | refine TrB.or ?_ ?_ | refine TrB.one ?_ | refine Tr.cmp L rfl ?_ ?_ | refine Tr.attr L (fun _ _ _ => rfl) ?_ | refine Tr.slice ?_ ?_ ?_ | refine Tr.sub L (fun _ _ => rfl) ?_ ?_ | refine Tr.list ?_ | refine Tr.tup ?_ | exact Tr.dict | refine Tr.mcall L (fun _ _ _ => rfl) rfl (by decide) ?_ ?_ | refine Tr.call L (fun _ => rfl) ?_ ?_ | refine Tr.comp L (fun _ _ => rfl) rfl ?_ ?_ ?_ | refine TrS.expr (fun _ => rfl) ?_ | refine TrS.ret ?_ | refine TrS.assign rfl (fun _ => rfl) (fun _ => rfl) ?_ | refine TrS.assignC L rfl (fun _ _ => rfl) rfl ?_ ?_ ?_ | refine TrS.assignAttr L (fun _ => rfl) (fun _ => rfl) ?_ ?_ | refine TrS.assignSub L (fun _ => rfl) (fun _ => rfl) ?_ ?_ ?_ | refine TrS.unpack (fun _ => rfl) (fun _ => rfl) (by decide) ?_ ?_ | refine TrS.ite ?_ ?_ ?_ | refine TrS.whil ?_ ?_ | refine TrS.forr L (fun _ _ => rfl) rfl ?_ ?_ | refine TrS.raise L ?_ | refine TrS.tryN L ?_ ?_ ?_ | refine TrS.tryX L ?_ ?_ rfl rfl ?_ | refine TrS.delSlice ?_ ?_ ?_)) (by kernel_rfl) rfl (ar1 fun _ => rfl) (ar1 fun _ => rfl)
noncomputable def v_Pages_commit : VM := [("self", 0), ("touched", 1)]
theorem o_Pages_commit (L : Link (cfg w h sc scr)) : Body (cfg w h sc scr) 163 1 2 s_Pages_commit :=
  body_of (vm := v_Pages_commit) (k := 2) (ps := ["self"]) L (by kernel_rfl) (L.K 163 _ rfl) rfl rfl (codeRec_of L.K (by kernel_rfl)) (by kernel_rfl) (by repeat' (first | exact TrSs.nil | refine TrSs.cons ?_ ?_ | exact Trs.nil | refine Trs.cons (fun _ _ => rfl) ?_ ?_ | exact TrO.none | refine TrO.some ?_ | exact TrN.nil | refine TrN.cons rfl ?_ | exact Tr.none | exact Tr.bool | exact Tr.int | exact Tr.str | exact Tr.loc rfl rfl | exact Tr.glob L rfl rfl | refine Tr.bin rfl ?_ ?_ | refine Tr.neg ?_ | refine Tr.bools ?_ | refine TrB.and ?_ ?_ | refine TrB.or ?_ ?_ | refine TrB.one ?_ | refine Tr.cmp L rfl ?_ ?_ | refine Tr.attr L (fun _ _ _ => rfl) ?_ | refine Tr.slice ?_ ?_ ?_ | refine Tr.sub L (fun _ _ => rfl) ?_ ?_ | refine Tr.list ?_ | refine Tr.tup ?_ | exact Tr.dict | refine Tr.mcall L (fun _ _ _ => rfl) rfl (by decide) ?_ ?_ | refine Tr.call L (fun _ => rfl) ?_ ?_ | refine Tr.comp L (fun _ _ => rfl) rfl ?_ ?_ ?_ | refine TrS.expr (fun _ => rfl) ?_ | refine TrS.ret ?_ | refine TrS.assign rfl (fun _ => rfl) (fun _ => rfl) ?_ | refine TrS.assignC L rfl (fun _ _ => rfl) rfl ?_ ?_ ?_ | refine TrS.assignAttr L (fun _ => rfl) (fun _ => rfl) ?_ ?_ | refine TrS.assignSub L (fun _ => rfl) (fun _ => rfl) ?_ ?_ ?_ | refine TrS.unpack (fun _ => rfl) (fun _ => rfl) (by decide) ?_ ?_ | refine TrS.ite ?_ ?_ ?_ | refine TrS.whil ?_ ?_ | refine TrS.forr L (fun _ _ => rfl) rfl ?_ ?_ | refine TrS.raise L ?_ | refine TrS.tryN L ?_ ?_ ?_ | refine TrS.tryX L ?_ ?_ rfl rfl ?_ | refine TrS.delSlice ?_ ?_ ?_)) (by kernel_rfl) rfl (ar1 fun _ => rfl) (ar1 fun _ => rfl)
noncomputable def v_Pages_rollback : VM := [("self", 0), ("journal", 1), ("number", 2)]
theorem o_Pages_rollback (L : Link (cfg w h sc scr)) : Body (cfg w h sc scr) 170 1 3 s_Pages_rollback :=
  body_of (vm := v_Pages_rollback) (k := 3) (ps := ["self"]) L (by kernel_rfl) (L.K 170 _ rfl) rfl rfl (codeRec_of L.K (by kernel_rfl)) (by kernel_rfl) (by repeat' (first | exact TrSs.nil | refine TrSs.cons ?_ ?_ | exact Trs.nil | refine Trs.cons (fun _ _ => rfl) ?_ ?_ | exact TrO.none | refine TrO.some ?_ | exact TrN.nil | refine TrN.cons rfl ?_ | exact Tr.none | exact Tr.bool | exact Tr.int | exact Tr.str | exact Tr.loc rfl rfl | exact Tr.glob L rfl rfl | refine Tr.bin rfl ?_ ?_ | refine Tr.neg ?_ | refine Tr.bools ?_ | refine TrB.and ?_ ?_ | refine TrB.or ?_ ?_ | refine TrB.one ?_ | refine Tr.cmp L rfl ?_ ?_ | refine Tr.attr L (fun _ _ _ => rfl) ?_ | refine Tr.slice ?_ ?_ ?_ | refine Tr.sub L (fun _ _ => rfl) ?_ ?_ | refine Tr.list ?_ | refine Tr.tup ?_ | exact Tr.dict | refine Tr.mcall L (fun _ _ _ => rfl) rfl (by decide) ?_ ?_ | refine Tr.call L (fun _ => rfl) ?_ ?_ | refine Tr.comp L (fun _ _ => rfl) rfl ?_ ?_ ?_ | refine TrS.expr (fun _ => rfl) ?_ | refine TrS.ret ?_ | refine TrS.assign rfl (fun _ => rfl) (fun _ => rfl) ?_ | refine TrS.assignC L rfl (fun _ _ => rfl) rfl ?_ ?_ ?_ | refine TrS.assignAttr L (fun _ => rfl) (fun _ => rfl) ?_ ?_ | refine TrS.assignSub L (fun _ => rfl) (fun _ => rfl) ?_ ?_ ?_ | refine TrS.unpack (fun _ => rfl) (fun _ => rfl) (by decide) ?_ ?_ | refine TrS.ite ?_ ?_ ?_ | refine TrS.whil ?_ ?_ | refine TrS.forr L (fun _ _ => rfl) rfl ?_ ?_ | refine TrS.raise L ?_ | refine TrS.tryN L ?_ ?_ ?_ | refine TrS.tryX L ?_ ?_ rfl rfl ?_ | refine TrS.delSlice ?_ ?_ ?_)) (by kernel_rfl) rfl (ar1 fun _ => rfl) (ar1 fun _ => rfl)
noncomputable def v_Pages_trim : VM := [("self", 0), ("gone", 1)]
theorem o_Pages_trim (L : Link (cfg w h sc scr)) : Body (cfg w h sc scr) 175 1 3 s_Pages_trim :=
  body_of (vm := v_Pages_trim) (k := 2) (ps := ["self"]) L (by kernel_rfl) (L.K 175 _ rfl) rfl rfl (codeRec_of L.K (by kernel_rfl)) (by kernel_rfl) (by repeat' (first | exact TrSs.nil | refine TrSs.cons ?_ ?_ | exact Trs.nil | refine Trs.cons (fun _ _ => rfl) ?_ ?_ | exact TrO.none | refine TrO.some ?_ | exact TrN.nil | refine TrN.cons rfl ?_ | exact Tr.none | exact Tr.bool | exact Tr.int | exact Tr.str | exact Tr.loc rfl rfl | exact Tr.glob L rfl rfl | refine Tr.bin rfl ?_ ?_ | refine Tr.neg ?_ | refine Tr.bools ?_ | refine TrB.and ?_ ?_ | refine TrB.or ?_ ?_ | refine TrB.one ?_ | refine Tr.cmp L rfl ?_ ?_ | refine Tr.attr L (fun _ _ _ => rfl) ?_ | refine Tr.slice ?_ ?_ ?_ | refine Tr.sub L (fun _ _ => rfl) ?_ ?_ | refine Tr.list ?_ | refine Tr.tup ?_ | exact Tr.dict | refine Tr.mcall L (fun _ _ _ => rfl) rfl (by decide) ?_ ?_ | refine Tr.call L (fun _ => rfl) ?_ ?_ | refine Tr.comp L (fun _ _ => rfl) rfl ?_ ?_ ?_ | refine TrS.expr (fun _ => rfl) ?_ | refine TrS.ret ?_ | refine TrS.assign rfl (fun _ => rfl) (fun _ => rfl) ?_ | refine TrS.assignC L rfl (fun _ _ => rfl) rfl ?_ ?_ ?_ | refine TrS.assignAttr L (fun _ => rfl) (fun _ => rfl) ?_ ?_ | refine TrS.assignSub L (fun _ => rfl) (fun _ => rfl) ?_ ?_ ?_ | refine TrS.unpack (fun _ => rfl) (fun _ => rfl) (by decide) ?_ ?_ | refine TrS.ite ?_ ?_ ?_ | refine TrS.whil ?_ ?_ | refine TrS.forr L (fun _ _ => rfl) rfl ?_ ?_ | refine TrS.raise L ?_ | refine TrS.tryN L ?_ ?_ ?_ | refine TrS.tryX L ?_ ?_ rfl rfl ?_ | refine TrS.delSlice ?_ ?_ ?_)) (by kernel_rfl) rfl (ar1 fun _ => rfl) (ar1 fun _ => rfl)
noncomputable def v_Pages_faults : VM := [("self", 0), ("out", 1)]
theorem o_Pages_faults (L : Link (cfg w h sc scr)) : Body (cfg w h sc scr) 180 1 3 s_Pages_faults :=
  body_of (vm := v_Pages_faults) (k := 2) (ps := ["self"]) L (by kernel_rfl) (L.K 180 _ rfl) rfl rfl (codeRec_of L.K (by kernel_rfl)) (by kernel_rfl) (by repeat' (first | exact TrSs.nil | refine TrSs.cons ?_ ?_ | exact Trs.nil | refine Trs.cons (fun _ _ => rfl) ?_ ?_ | exact TrO.none | refine TrO.some ?_ | exact TrN.nil | refine TrN.cons rfl ?_ | exact Tr.none | exact Tr.bool | exact Tr.int | exact Tr.str | exact Tr.loc rfl rfl | exact Tr.glob L rfl rfl | refine Tr.bin rfl ?_ ?_ | refine Tr.neg ?_ | refine Tr.bools ?_ | refine TrB.and ?_ ?_ | refine TrB.or ?_ ?_ | refine TrB.one ?_ | refine Tr.cmp L rfl ?_ ?_ | refine Tr.attr L (fun _ _ _ => rfl) ?_ | refine Tr.slice ?_ ?_ ?_ | refine Tr.sub L (fun _ _ => rfl) ?_ ?_ | refine Tr.list ?_ | refine Tr.tup ?_ | exact Tr.dict | refine Tr.mcall L (fun _ _ _ => rfl) rfl (by decide) ?_ ?_ | refine Tr.call L (fun _ => rfl) ?_ ?_ | refine Tr.comp L (fun _ _ => rfl) rfl ?_ ?_ ?_ | refine TrS.expr (fun _ => rfl) ?_ | refine TrS.ret ?_ | refine TrS.assign rfl (fun _ => rfl) (fun _ => rfl) ?_ | refine TrS.assignC L rfl (fun _ _ => rfl) rfl ?_ ?_ ?_ | refine TrS.assignAttr L (fun _ => rfl) (fun _ => rfl) ?_ ?_ | refine TrS.assignSub L (fun _ => rfl) (fun _ => rfl) ?_ ?_ ?_ | refine TrS.unpack (fun _ => rfl) (fun _ => rfl) (by decide) ?_ ?_ | refine TrS.ite ?_ ?_ ?_ | refine TrS.whil ?_ ?_ | refine TrS.forr L (fun _ _ => rfl) rfl ?_ ?_ | refine TrS.raise L ?_ | refine TrS.tryN L ?_ ?_ ?_ | refine TrS.tryX L ?_ ?_ rfl rfl ?_ | refine TrS.delSlice ?_ ?_ ?_)) (by kernel_rfl) rfl (ar1 fun _ => rfl) (ar1 fun _ => rfl)
noncomputable def v_Pages_dump : VM := [("self", 0)]
theorem o_Pages_dump (L : Link (cfg w h sc scr)) : Body (cfg w h sc scr) 185 1 2 s_Pages_dump :=
  body_of (vm := v_Pages_dump) (k := 1) (ps := ["self"]) L (by kernel_rfl) (L.K 185 _ rfl) rfl rfl (codeRec_of L.K (by kernel_rfl)) (by kernel_rfl) (by repeat' (first | exact TrSs.nil | refine TrSs.cons ?_ ?_ | exact Trs.nil | refine Trs.cons (fun _ _ => rfl) ?_ ?_ | exact TrO.none | refine TrO.some ?_ | exact TrN.nil | refine TrN.cons rfl ?_ | exact Tr.none | exact Tr.bool | exact Tr.int | exact Tr.str | exact Tr.loc rfl rfl | exact Tr.glob L rfl rfl | refine Tr.bin rfl ?_ ?_ | refine Tr.neg ?_ | refine Tr.bools ?_ | refine TrB.and ?_ ?_ | refine TrB.or ?_ ?_ | refine TrB.one ?_ | refine Tr.cmp L rfl ?_ ?_ | refine Tr.attr L (fun _ _ _ => rfl) ?_ | refine Tr.slice ?_ ?_ ?_ | refine Tr.sub L (fun _ _ => rfl) ?_ ?_ | refine Tr.list ?_ | refine Tr.tup ?_ | exact Tr.dict | refine Tr.mcall L (fun _ _ _ => rfl) rfl (by decide) ?_ ?_ | refine Tr.call L (fun _ => rfl) ?_ ?_ | refine Tr.comp L (fun _ _ => rfl) rfl ?_ ?_ ?_ | refine TrS.expr (fun _ => rfl) ?_ | refine TrS.ret ?_ | refine TrS.assign rfl (fun _ => rfl) (fun _ => rfl) ?_ | refine TrS.assignC L rfl (fun _ _ => rfl) rfl ?_ ?_ ?_ | refine TrS.assignAttr L (fun _ => rfl) (fun _ => rfl) ?_ ?_ | refine TrS.assignSub L (fun _ => rfl) (fun _ => rfl) ?_ ?_ ?_ | refine TrS.unpack (fun _ => rfl) (fun _ => rfl) (by decide) ?_ ?_ | refine TrS.ite ?_ ?_ ?_ | refine TrS.whil ?_ ?_ | refine TrS.forr L (fun _ _ => rfl) rfl ?_ ?_ | refine TrS.raise L ?_ | refine TrS.tryN L ?_ ?_ ?_ | refine TrS.tryX L ?_ ?_ rfl rfl ?_ | refine TrS.delSlice ?_ ?_ ?_)) (by kernel_rfl) rfl (ar1 fun _ => rfl) (ar1 fun _ => rfl)
noncomputable def v_law_told : VM := [("ask", 0), ("out", 1)]
theorem o_law_told (L : Link (cfg w h sc scr)) : Body (cfg w h sc scr) 206 1 2 s_law_told :=
  body_of (vm := v_law_told) (k := 2) (ps := ["ask"]) L (by kernel_rfl) (L.K 206 _ rfl) rfl rfl (codeRec_of L.K (by kernel_rfl)) (by kernel_rfl) (by repeat' (first | exact TrSs.nil | refine TrSs.cons ?_ ?_ | exact Trs.nil | refine Trs.cons (fun _ _ => rfl) ?_ ?_ | exact TrO.none | refine TrO.some ?_ | exact TrN.nil | refine TrN.cons rfl ?_ | exact Tr.none | exact Tr.bool | exact Tr.int | exact Tr.str | exact Tr.loc rfl rfl | exact Tr.glob L rfl rfl | refine Tr.bin rfl ?_ ?_ | refine Tr.neg ?_ | refine Tr.bools ?_ | refine TrB.and ?_ ?_ | refine TrB.or ?_ ?_ | refine TrB.one ?_ | refine Tr.cmp L rfl ?_ ?_ | refine Tr.attr L (fun _ _ _ => rfl) ?_ | refine Tr.slice ?_ ?_ ?_ | refine Tr.sub L (fun _ _ => rfl) ?_ ?_ | refine Tr.list ?_ | refine Tr.tup ?_ | exact Tr.dict | refine Tr.mcall L (fun _ _ _ => rfl) rfl (by decide) ?_ ?_ | refine Tr.call L (fun _ => rfl) ?_ ?_ | refine Tr.comp L (fun _ _ => rfl) rfl ?_ ?_ ?_ | refine TrS.expr (fun _ => rfl) ?_ | refine TrS.ret ?_ | refine TrS.assign rfl (fun _ => rfl) (fun _ => rfl) ?_ | refine TrS.assignC L rfl (fun _ _ => rfl) rfl ?_ ?_ ?_ | refine TrS.assignAttr L (fun _ => rfl) (fun _ => rfl) ?_ ?_ | refine TrS.assignSub L (fun _ => rfl) (fun _ => rfl) ?_ ?_ ?_ | refine TrS.unpack (fun _ => rfl) (fun _ => rfl) (by decide) ?_ ?_ | refine TrS.ite ?_ ?_ ?_ | refine TrS.whil ?_ ?_ | refine TrS.forr L (fun _ _ => rfl) rfl ?_ ?_ | refine TrS.raise L ?_ | refine TrS.tryN L ?_ ?_ ?_ | refine TrS.tryX L ?_ ?_ rfl rfl ?_ | refine TrS.delSlice ?_ ?_ ?_)) (by kernel_rfl) rfl (ar1 fun _ => rfl) (ar1 fun _ => rfl)
noncomputable def v_law_bad : VM := [("pages", 0), ("number", 1), ("out", 2), ("error", 3)]
theorem o_law_bad (L : Link (cfg w h sc scr)) : Body (cfg w h sc scr) 213 2 4 s_law_bad :=
  body_of (vm := v_law_bad) (k := 4) (ps := ["pages", "number"]) L (by kernel_rfl) (L.K 213 _ rfl) rfl rfl (codeRec_of L.K (by kernel_rfl)) (by kernel_rfl) (by repeat' (first | exact TrSs.nil | refine TrSs.cons ?_ ?_ | exact Trs.nil | refine Trs.cons (fun _ _ => rfl) ?_ ?_ | exact TrO.none | refine TrO.some ?_ | exact TrN.nil | refine TrN.cons rfl ?_ | exact Tr.none | exact Tr.bool | exact Tr.int | exact Tr.str | exact Tr.loc rfl rfl | exact Tr.glob L rfl rfl | refine Tr.bin rfl ?_ ?_ | refine Tr.neg ?_ | refine Tr.bools ?_ | refine TrB.and ?_ ?_ | refine TrB.or ?_ ?_ | refine TrB.one ?_ | refine Tr.cmp L rfl ?_ ?_ | refine Tr.attr L (fun _ _ _ => rfl) ?_ | refine Tr.slice ?_ ?_ ?_ | refine Tr.sub L (fun _ _ => rfl) ?_ ?_ | refine Tr.list ?_ | refine Tr.tup ?_ | exact Tr.dict | refine Tr.mcall L (fun _ _ _ => rfl) rfl (by decide) ?_ ?_ | refine Tr.call L (fun _ => rfl) ?_ ?_ | refine Tr.comp L (fun _ _ => rfl) rfl ?_ ?_ ?_ | refine TrS.expr (fun _ => rfl) ?_ | refine TrS.ret ?_ | refine TrS.assign rfl (fun _ => rfl) (fun _ => rfl) ?_ | refine TrS.assignC L rfl (fun _ _ => rfl) rfl ?_ ?_ ?_ | refine TrS.assignAttr L (fun _ => rfl) (fun _ => rfl) ?_ ?_ | refine TrS.assignSub L (fun _ => rfl) (fun _ => rfl) ?_ ?_ ?_ | refine TrS.unpack (fun _ => rfl) (fun _ => rfl) (by decide) ?_ ?_ | refine TrS.ite ?_ ?_ ?_ | refine TrS.whil ?_ ?_ | refine TrS.forr L (fun _ _ => rfl) rfl ?_ ?_ | refine TrS.raise L ?_ | refine TrS.tryN L ?_ ?_ ?_ | refine TrS.tryX L ?_ ?_ rfl rfl ?_ | refine TrS.delSlice ?_ ?_ ?_)) (by kernel_rfl) rfl (ar2 fun _ _ => rfl) (ar2 fun _ _ => rfl)
noncomputable def v_law : VM := [("script", 0), ("pages", 1), ("slots", 2), ("free", 3), ("kept", 4), ("touched", 5), ("k", 6), ("n", 7), ("kind", 8), ("live", 9), ("number", 10), ("due", 11), ("back", 12), ("last", 13)]
theorem o_law (L : Link (cfg w h sc scr)) : Body (cfg w h sc scr) 218 1 15 s_law :=
  body_of (vm := v_law) (k := 14) (ps := ["script"]) L (by kernel_rfl) (L.K 218 _ rfl) rfl rfl (codeRec_of L.K (by kernel_rfl)) (by kernel_rfl) (by repeat' (first | exact TrSs.nil | refine TrSs.cons ?_ ?_ | exact Trs.nil | refine Trs.cons (fun _ _ => rfl) ?_ ?_ | exact TrO.none | refine TrO.some ?_ | exact TrN.nil | refine TrN.cons rfl ?_ | exact Tr.none | exact Tr.bool | exact Tr.int | exact Tr.str | exact Tr.loc rfl rfl | exact Tr.glob L rfl rfl | refine Tr.bin rfl ?_ ?_ | refine Tr.neg ?_ | refine Tr.bools ?_ | refine TrB.and ?_ ?_ | refine TrB.or ?_ ?_ | refine TrB.one ?_ | refine Tr.cmp L rfl ?_ ?_ | refine Tr.attr L (fun _ _ _ => rfl) ?_ | refine Tr.slice ?_ ?_ ?_ | refine Tr.sub L (fun _ _ => rfl) ?_ ?_ | refine Tr.list ?_ | refine Tr.tup ?_ | exact Tr.dict | refine Tr.mcall L (fun _ _ _ => rfl) rfl (by decide) ?_ ?_ | refine Tr.call L (fun _ => rfl) ?_ ?_ | refine Tr.comp L (fun _ _ => rfl) rfl ?_ ?_ ?_ | refine TrS.expr (fun _ => rfl) ?_ | refine TrS.ret ?_ | refine TrS.assign rfl (fun _ => rfl) (fun _ => rfl) ?_ | refine TrS.assignC L rfl (fun _ _ => rfl) rfl ?_ ?_ ?_ | refine TrS.assignAttr L (fun _ => rfl) (fun _ => rfl) ?_ ?_ | refine TrS.assignSub L (fun _ => rfl) (fun _ => rfl) ?_ ?_ ?_ | refine TrS.unpack (fun _ => rfl) (fun _ => rfl) (by decide) ?_ ?_ | refine TrS.ite ?_ ?_ ?_ | refine TrS.whil ?_ ?_ | refine TrS.forr L (fun _ _ => rfl) rfl ?_ ?_ | refine TrS.raise L ?_ | refine TrS.tryN L ?_ ?_ ?_ | refine TrS.tryX L ?_ ?_ rfl rfl ?_ | refine TrS.delSlice ?_ ?_ ?_)) (by kernel_rfl) rfl (ar1 fun _ => rfl) (ar1 fun _ => rfl)
end U9
end Mine
end
section
set_option autoImplicit false
set_option linter.unusedVariables false
set_option linter.unusedSimpArgs false
set_option maxRecDepth 100000
set_option maxHeartbeats 8000000
set_option Elab.async false
namespace Mine
open PySem PySem.Calls PyProof.Rows W
namespace U9
variable {w : World} {h : Heap} {sc : Addr} {scr : List Int}
theorem tailS (L : Link (cfg w h sc scr)) : OwnTail h [.type "ValueError", .type "Exception", .type "BaseException", .type "object"] [.ref 31, .type "ValueError", .type "Exception", .type "BaseException", .type "object"] :=
  .own (L.K 31 _ rfl) (ns_of (L.K 30 _ rfl) rfl (by kernel_rfl)) (by kernel_rfl) .base
theorem tx (L : Link (cfg w h sc scr)) : Tx (cfg w h sc scr) nm where
  g_len := by kernel_rfl
  g_abs := by kernel_rfl
  g_sorted := by kernel_rfl
  g_max := by kernel_rfl
  g_type := by kernel_rfl
  g_int := by kernel_rfl
  g_list := by kernel_rfl
  g_str := by kernel_rfl
  g_set := by kernel_rfl
  g_range := by kernel_rfl
  g_copied := by kernel_rfl
  g_Pages := by kernel_rfl
  g_BadPage := by kernel_rfl
  g_StoreError := by kernel_rfl
  g_law_told := by kernel_rfl
  g_law_bad := by kernel_rfl
  m_add := by kernel_rfl
  m_check := by kernel_rfl
  m_read := by kernel_rfl
  m_write := by kernel_rfl
  m_change := by kernel_rfl
  m_drop := by kernel_rfl
  m_numbers := by kernel_rfl
  m_count := by kernel_rfl
  m_free_count := by kernel_rfl
  m_note := by kernel_rfl
  m_begin := by kernel_rfl
  m_begun := by kernel_rfl
  m_commit := by kernel_rfl
  m_rollback := by kernel_rfl
  m_trim := by kernel_rfl
  m_faults := by kernel_rfl
  m_dump := by kernel_rfl
  f_begin := by kernel_rfl
  f_commit := by kernel_rfl
  f_rollback := by kernel_rfl
  f_trim := by kernel_rfl
  r_slots := by kernel_rfl
  w_slots := by kernel_rfl
  r_free := by kernel_rfl
  w_free := by kernel_rfl
  r_journal := by kernel_rfl
  w_journal := by kernel_rfl
  r_old_free := by kernel_rfl
  w_old_free := by kernel_rfl
  r_old_length := by kernel_rfl
  w_old_length := by kernel_rfl
  r_reads := by kernel_rfl
  w_reads := by kernel_rfl
  r_writes := by kernel_rfl
  w_writes := by kernel_rfl
  c_C := by kernel_rfl
  c_BP := by kernel_rfl
  c_SE := by kernel_rfl
  o_SE := by show ((h.get? 31).isSome) = true; rw [L.K 31 _ rfl]; rfl
  e_BP := by kernel_rfl
  e_SE := by kernel_rfl
  s_BB := by kernel_rfl
  s_BS := by kernel_rfl
  s_SS := by kernel_rfl
  re := by kernel_rfl
  we := by kernel_rfl
  ve := by kernel_rfl
  cm := by kernel_rfl
  b_BadPage_init := o_BadPage_init L
  b_copied := o_copied L
  b_Pages_init := o_Pages_init L
  b_Pages_add := o_Pages_add L
  b_Pages__check := o_Pages__check L
  b_Pages_read := o_Pages_read L
  b_Pages_write := o_Pages_write L
  b_Pages_change := o_Pages_change L
  b_Pages_drop := o_Pages_drop L
  b_Pages_numbers := o_Pages_numbers L
  b_Pages_count := o_Pages_count L
  b_Pages_free_count := o_Pages_free_count L
  b_Pages__note := o_Pages__note L
  b_Pages_begin := o_Pages_begin L
  b_Pages_begun := o_Pages_begun L
  b_Pages_commit := o_Pages_commit L
  b_Pages_rollback := o_Pages_rollback L
  b_Pages_trim := o_Pages_trim L
  b_Pages_faults := o_Pages_faults L
  b_Pages_dump := o_Pages_dump L
  b_law_told := o_law_told L
  b_law_bad := o_law_bad L
  mk_C := fun d q H Q Z hh => call_cls L (by kernel_rfl) (by kernel_rfl) (by kernel_rfl) fun a dx h1 h2 h3 => hh a dx h1 h2 h3
  mk_BP := fun d q v H Q Z hh => call_exc1 L PySem.F.excBase_ValueError (L.K 51 _ rfl) (tailS L) (by kernel_rfl) (by kernel_rfl) (by simp) fun a h1 => hh a h1
  mk_SE := fun d q v H Q Z hh => call_exc0 PySem.F.excBase_ValueError (L.K 31 _ rfl) .base (ns_of (L.K 30 _ rfl) rfl (by kernel_rfl)) (by kernel_rfl) (by simp) fun a h1 => hh a h1
end U9
end Mine
end
section
open PySem PySem.W PyProof.Rows
set_option maxRecDepth 100000
set_option maxHeartbeats 8000000
set_option Elab.async false
set_option pp.maxSteps 3000
namespace Mine
theorem script_obj {P : Params} {h : Heap} {sc : Addr} {scr : List Int} {vs : List Value} (hL : h.IsList sc vs.toArray) (w1 : Well P h (.ref sc) (ofPy (PyData.list (List.map PyData.int scr)))) : ∃ n, h.get? sc = some ⟨.type "list", none, .seq vs.toArray n, #[]⟩ := by
  obtain ⟨o', g', _, n', d'⟩ := hL
  generalize hW : ofPy (PyData.list (List.map PyData.int scr)) = W at w1
  cases w1 with
  | list g _ =>
    rw [g] at g'; cases g'
    exact ⟨n', by rw [g]; exact congrArg (fun d => some (Obj.mk (.type "list") none d #[])) d'⟩
  | _ => simp [ofPy] at hW
theorem global_at {h : Heap} {mg : Str → Option Value} {o : Obj} {es : Array DictEntry} {ep : Nat} {x : Str} {a b : Addr} (T : h.Ns mainGlobals mg) (g : h.get? 3 = some o) (hd : o.data = .dict es ep) (hf : nsFind es x = some (.ref b)) (hm : mg x = some (.ref a)) : a = b := by
  obtain ⟨o3, es3, ep3, g3, d3, _, f3⟩ := T
  rw [show mainGlobals = 3 from rfl, g] at g3
  cases g3
  rw [hd] at d3
  cases d3
  rw [f3, hm] at hf
  cases hf
  rfl
end Mine
theorem PySem.Challenge.cw_ue0010_09_holds : PySem.Challenge.rw_ue0010_09.Holds := by
  refine Mine.HD.hd ?_
  intro w s₀ s₁ mg mb G Y fa o pm cd doc dV kV ho hd hcd hD hmg hg args vals as hpre hlay hrd hwl hlo
  have KX := kIn_of Y
  refine Ground.open G ?_
  intro T B D TE TW
  wrow_args hpre hlay hrd hwl hlo
  rename_i scr hsS hlay0 hL1 hr1 hl2 as1 as2 sc vsS asS hL ra w1 r0 hI hr hc1 hc2
  refine enter_call ?_
  have hobj := Mine.script_obj hL w1
  have hlen := Mine.ints_len hI
  have ros : ∀ (a : Addr) (xs : List Mine.MVal), (if a = sc then some (scr.map Mine.MVal.int) else none) = some xs → ∃ vs n, s₁.heap.get? a = some ⟨.type "list", none, .seq vs n, #[]⟩ ∧ vs.size ≤ Mine.BIG ∧ Mine.VRs s₁.heap xs vs.toList := by
    intro a xs e
    by_cases ha : a = sc
    · rw [if_pos ha] at e
      subst ha
      cases e
      obtain ⟨n, g⟩ := hobj
      refine ⟨vsS.toArray, n, g, ?_, ?_⟩
      · have : Mine.BIG = 4194304 := rfl
        simp; omega
      · simpa using Mine.vrs_ints hI
    · rw [if_neg ha] at e; cases e
  have L : Mine.Link (Mine.U9.cfg w s₁.heap sc scr) := ⟨KX, ⟨mg, T.g⟩, ⟨mb, T.b, T.builtins⟩, T.nolimit, (let ⟨mm, ⟨o, _, _, g, _⟩, _⟩ := (T.seer (by decide +kernel)).mods; ⟨o, g⟩), ros, fun C cd _ hc => Mine.exr_of (by kernel_rfl) hc⟩
  have efa : fa = 218 := by
    exact Mine.global_at T.g (KX 3 _ rfl) rfl (by kernel_rfl) hmg
  subst efa
  have key := Mine.U9.law_ok (d := 0) (sc := sc) (scr := scr) (H := fun _ => none) (Q := fun v _ => v = .bool true) (Z := fun _ _ => False) (Mine.U9.tx L) (Mine.U9.o_law L).2 (by simp) (by omega) (fun _ => rfl)
  refine codeAny_mono (key callerA [] s₁ [.ref sc] ⟨rfl, by decide, by decide, fun _ => rfl⟩ ⟨fun b o e => e, fun env he => (by cases he), fun a t o e => (by cases e)⟩ (by simp [Mine.VRs, Mine.VR])) fun r s' z => ?_
  cases r with
  | error e => obtain ⟨_, _, _, _, _, _, f⟩ := z; exact f.elim
  | ok fl =>
    cases fl with
    | ret v =>
      obtain ⟨m, H', vr, dy, ex, rfl⟩ := z
      have vr : v = .bool true := vr
      subst vr
      refine ⟨.inl ⟨_, _, [], rfl, fun _ => rfl, ReadsW.bool true, ?_, fun _ => ⟨List.nodup_nil, fun _ hm => (nomatch hm)⟩⟩, .of_keep dy.keep, ex.os, ?_⟩
      · first | rfl | wrow_post
      · obtain ⟨l, e, hl⟩ := ex.gens
        intro y hy
        rw [hg] at e
        have hy : y ∈ s'.gens.toList := by simpa using hy
        rw [e] at hy
        have hy : y ∈ l := by simpa using hy
        rw [hl y hy]; rfl
    | _ => exact z.elim
end
