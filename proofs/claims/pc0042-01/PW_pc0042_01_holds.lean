import PyProof.Rows.All
import Wide.All
import OpenK.AllK
import Wide.FinOn
import PySem.Challenge.RW_pc0042_01
open PySem PySem.W PyProof.Rows PySem.Calls
set_option Elab.async false
set_option linter.unusedVariables false
set_option maxRecDepth 100000
set_option maxHeartbeats 1000000
namespace Hd
section
open PySem.PyData renaming keyHash → kh
noncomputable abbrev pg : Program := PySem.Challenge.rw_pc0042_01.row.prog
noncomputable def tp (i : Nat) : Stmt := pg.main.body.getD i default
noncomputable def ic (i j : Nat) : Stmt := match tp i with
  | .ClassDef _ _ _ l _ _ _ _ _ _ _ => l.getD j default
  | s => s
noncomputable def fn (s : Stmt) (name qual : Str) (g : Addr) (clo : List (Str × Addr)) (d k doc pm : Value) (an : Option Addr) (cd ct : Value) (bi : Addr) : Data := match s with
  | .FunctionDef _ as l _ _ _ sc _ _ _ => .func ⟨name, qual, as, .stmts l, sc, g, clo, d, k, doc, pm, an, cd, ct, bi⟩
  | _ => .plain
noncomputable abbrev o43 : Obj := ⟨(.type "tuple"),none,(.seq #[] 0),#[]⟩
noncomputable abbrev o44 : Obj := ⟨.none,none,(.fields #[]),#[]⟩
noncomputable abbrev o45 : Obj := ⟨(.type "code"),none,(.fields #[(.str "<module>" 182),(.str "<module>" 183),(.str "/claim/cut.py" 184),(.int 1 0),(.int 0 0),(.int 0 0),(.int 0 0),(.int 0 0),(.ref 11),(.bool false),(.int 181 0),(.ref 12),.none,.none,.none,.none,(.int 185 0),(.int 1 0),(.str "/claim/cut.py" 186)]),#[]⟩
noncomputable abbrev o46 : Obj := ⟨(.type "frame"),none,.plain,#[(some (.ref 13)),(some (.ref 3)),(some (.ref 3)),none,(some (.str "__main__" 164)),none,(some (.ref 0))]⟩
noncomputable abbrev o49 (P : Params) : Obj := ⟨.none,none,(.dict #[⟨(kh P "type.__subclasses__.Exception.0"),(.str "type.__subclasses__.Exception.0" 230),(.int 47 0)⟩,⟨(kh P "type.__subclasses__.Exception.n"),(.str "type.__subclasses__.Exception.n" 231),(.int 1 0)⟩] 2),#[]⟩
noncomputable abbrev o50 (P : Params) : Obj := ⟨(.type "dict"),none,(.dict #[⟨(kh P "__name__"),(.str "__name__" 165),(.str "fdsolve.domains" 234)⟩,⟨(kh P "__doc__"),(.str "__doc__" 166),.none⟩,⟨(kh P "__package__"),(.str "__package__" 167),.none⟩,⟨(kh P "__loader__"),(.str "__loader__" 168),(.builtin "__main__.__loader__#opaque")⟩,⟨(kh P "__spec__"),(.str "__spec__" 169),.none⟩,⟨(kh P "__annotations__"),(.str "__annotations__" 170),(.ref 6)⟩,⟨(kh P "__builtins__"),(.str "__builtins__" 171),(.ref 4)⟩,⟨(kh P "__file__"),(.str "__file__" 173),(.str "/claim/cut.py" 172)⟩,⟨(kh P "__cached__"),(.str "__cached__" 174),.none⟩,⟨(kh P "_wall"),(.str "_wall" 193),(.ref 21)⟩,⟨(kh P "FdError"),(.str "FdError" 233),(.ref 47)⟩,⟨(kh P "least"),(.str "least" 242),(.ref 57)⟩,⟨(kh P "greatest"),(.str "greatest" 249),(.ref 64)⟩] 13),#[]⟩
noncomputable abbrev o51 : Obj := ⟨.none,none,(.fields #[(.int 1 0),(.int 0 0),(.ref 20),(.int 5 0),(.int 0 0),(.ref 28),(.int 14 0),(.int 0 0),(.ref 56),(.int 16 0),(.int 0 0),(.ref 63)]),#[]⟩
noncomputable abbrev o52 : Obj := ⟨(.type "tuple"),none,(.seq #[] 0),#[]⟩
noncomputable abbrev o53 : Obj := ⟨.none,none,(.fields #[]),#[]⟩
noncomputable abbrev o54 : Obj := ⟨(.type "tuple"),none,(.seq #[(.str "k" 190)] 0),#[]⟩
noncomputable abbrev o55 : Obj := ⟨(.type "tuple"),none,(.seq #[] 0),#[]⟩
noncomputable abbrev o56 : Obj := ⟨.none,none,(fn (tp 0) "_wall" "_wall" 0 [] .none .none .none .none none .none .none 0),#[]⟩
noncomputable abbrev o57 : Obj := ⟨(.type "code"),none,(.fields #[(.str "_wall" 187),(.str "_wall" 188),(.str "/claim/cut.py" 189),(.int 1 0),(.int 1 0),(.int 0 0),(.int 0 0),(.int 3 0),(.ref 15),(.bool true),(.int 181 0),(.ref 16),.none,(.ref 17),(.ref 18),(.ref 19),(.int 191 0),(.int 1 0),(.str "/claim/cut.py" 192)]),#[]⟩
noncomputable abbrev o58 : Obj := ⟨(.type "function"),none,(fn (tp 0) "_wall" "_wall" 3 [] .none .none .none (.str "__main__" 164) none (.ref 20) .none 0),#[]⟩
noncomputable abbrev o59 : Obj := ⟨(.type "tuple"),none,(.seq #[(.type "Exception")] 0),#[]⟩
noncomputable abbrev o60 : Obj := ⟨(.type "builtin_function_or_method"),none,(.fields #[(.builtin "type.__prepare__"),(.type "type")]),#[]⟩
noncomputable abbrev o61 (P : Params) : Obj := ⟨(.type "dict"),none,(.dict #[⟨(kh P "__module__"),(.str "__module__" 203),(.str "fdsolve.errors" 194)⟩,⟨(kh P "__qualname__"),(.str "__qualname__" 205),(.str "FdError" 204)⟩,⟨(kh P "__firstlineno__"),(.str "__firstlineno__" 207),(.int 5 206)⟩,⟨(kh P "__init__"),(.str "__init__" 216),(.ref 37)⟩,⟨(kh P "told"),(.str "told" 223),(.ref 44)⟩,⟨(kh P "__static_attributes__"),(.str "__static_attributes__" 225),(.ref 45)⟩,⟨(kh P "__classcell__"),(.str "__classcell__" 226),(.ref 25)⟩] 7),#[]⟩
noncomputable abbrev o62 : Obj := ⟨(.type "cell"),none,(.cell (some (.ref 47))),#[]⟩
noncomputable abbrev o63 : Obj := ⟨(.type "tuple"),none,(.seq #[] 0),#[]⟩
noncomputable abbrev o64 : Obj := ⟨.none,none,(.fields #[(.int 7 0),(.int 4 0),(.ref 36),(.int 11 0),(.int 4 0),(.ref 43)]),#[]⟩
noncomputable abbrev o65 : Obj := ⟨(.type "code"),none,(.fields #[(.str "FdError" 198),(.str "FdError" 199),(.str "/claim/cut.py" 200),(.int 5 0),(.int 0 0),(.int 0 0),(.int 0 0),(.int 0 0),(.ref 26),(.bool false),(.int 181 0),(.ref 27),.none,.none,.none,.none,(.int 201 0),(.int 5 0),(.str "/claim/cut.py" 202)]),#[]⟩
noncomputable abbrev o66 : Obj := ⟨(.type "frame"),none,.plain,#[(some (.ref 28)),(some (.ref 3)),(some (.ref 24)),none,(some (.str "fdsolve.errors" 194)),none,(some (.ref 0))]⟩
noncomputable abbrev o67 : Obj := ⟨(.type "tuple"),none,(.seq #[(.ref 25)] 0),#[]⟩
noncomputable abbrev o68 : Obj := ⟨(.type "tuple"),none,(.seq #[(.str "__class__" 211)] 0),#[]⟩
noncomputable abbrev o69 : Obj := ⟨.none,none,(.fields #[]),#[]⟩
noncomputable abbrev o70 : Obj := ⟨(.type "tuple"),none,(.seq #[(.str "self" 212),(.str "what" 213)] 0),#[]⟩
noncomputable abbrev o71 : Obj := ⟨(.type "tuple"),none,(.seq #[] 0),#[]⟩
noncomputable abbrev o72 : Obj := ⟨.none,none,(fn (ic 2 0) "__init__" "FdError.__init__" 0 [] .none .none .none .none none .none .none 0),#[]⟩
noncomputable abbrev o73 : Obj := ⟨(.type "code"),none,(.fields #[(.str "__init__" 208),(.str "FdError.__init__" 209),(.str "/claim/cut.py" 210),(.int 7 0),(.int 2 0),(.int 0 0),(.int 0 0),(.int 3 0),(.ref 31),(.bool true),(.int 181 0),(.ref 32),.none,(.ref 33),(.ref 34),(.ref 35),(.int 214 0),(.int 7 0),(.str "/claim/cut.py" 215)]),#[]⟩
noncomputable abbrev o74 : Obj := ⟨(.type "function"),none,(fn (ic 2 0) "__init__" "FdError.__init__" 3 [("__class__",25)] .none .none .none (.str "fdsolve.errors" 194) none (.ref 36) (.ref 30) 0),#[]⟩
noncomputable abbrev o75 : Obj := ⟨(.type "tuple"),none,(.seq #[] 0),#[]⟩
noncomputable abbrev o76 : Obj := ⟨.none,none,(.fields #[]),#[]⟩
noncomputable abbrev o77 : Obj := ⟨(.type "tuple"),none,(.seq #[(.str "self" 220)] 0),#[]⟩
noncomputable abbrev o78 : Obj := ⟨(.type "tuple"),none,(.seq #[] 0),#[]⟩
noncomputable abbrev o79 : Obj := ⟨.none,none,(fn (ic 2 1) "told" "FdError.told" 0 [] .none .none .none .none none .none .none 0),#[]⟩
noncomputable abbrev o80 : Obj := ⟨(.type "code"),none,(.fields #[(.str "told" 217),(.str "FdError.told" 218),(.str "/claim/cut.py" 219),(.int 11 0),(.int 1 0),(.int 0 0),(.int 0 0),(.int 3 0),(.ref 38),(.bool true),(.int 181 0),(.ref 39),.none,(.ref 40),(.ref 41),(.ref 42),(.int 221 0),(.int 11 0),(.str "/claim/cut.py" 222)]),#[]⟩
noncomputable abbrev o81 : Obj := ⟨(.type "function"),none,(fn (ic 2 1) "told" "FdError.told" 3 [] .none .none .none (.str "fdsolve.errors" 194) none (.ref 43) .none 0),#[]⟩
noncomputable abbrev o82 : Obj := ⟨(.type "tuple"),none,(.seq #[(.str "what" 224)] 0),#[]⟩
noncomputable abbrev o83 (P : Params) : Obj := ⟨(.type "dict"),none,(.dict #[⟨(kh P "__module__"),(.str "__module__" 203),(.str "fdsolve.errors" 194)⟩,⟨(kh P "__firstlineno__"),(.str "__firstlineno__" 207),(.int 5 206)⟩,⟨(kh P "__init__"),(.str "__init__" 216),(.ref 37)⟩,⟨(kh P "told"),(.str "told" 223),(.ref 44)⟩,⟨(kh P "__static_attributes__"),(.str "__static_attributes__" 225),(.ref 45)⟩,⟨(kh P "__weakref__"),(.str "__weakref__" 228),(.ref 48)⟩,⟨(kh P "__doc__"),(.str "__doc__" 229),.none⟩] 4),#[]⟩
noncomputable abbrev o84 : Obj := ⟨(.type "type"),none,(.cls ⟨"FdError",[(.type "Exception")],[(.ref 47),(.type "Exception"),(.type "BaseException"),(.type "object")],46,"FdError",true,[],[],false,none,false⟩),#[(some (.ref 22)),none,(some (.str "FdError" 196)),(some (.str "FdError" 204)),(some (.builtin "Exception.__new__")),(some (.bool true))]⟩
noncomputable abbrev o85 : Obj := ⟨(.type "getset_descriptor"),none,(.fields #[(.str "__weakref__" 227),(.ref 47),(.builtin "ExceptionGroup.__weakref__"),.none]),#[]⟩
noncomputable abbrev o86 : Obj := ⟨(.type "super"),none,(.fields #[(.ref 47),(.ref 47),(.ref 47)]),#[]⟩
noncomputable abbrev o87 : Obj := ⟨(.type "builtin_function_or_method"),none,(.fields #[(.builtin "object.__init_subclass__"),(.ref 47)]),#[]⟩
noncomputable abbrev o88 : Obj := ⟨(.type "tuple"),none,(.seq #[] 0),#[]⟩
noncomputable abbrev o89 : Obj := ⟨.none,none,(.fields #[]),#[]⟩
noncomputable abbrev o90 : Obj := ⟨(.type "tuple"),none,(.seq #[(.str "d" 239)] 0),#[]⟩
noncomputable abbrev o91 : Obj := ⟨(.type "tuple"),none,(.seq #[] 0),#[]⟩
noncomputable abbrev o92 : Obj := ⟨.none,none,(fn (tp 4) "least" "least" 0 [] .none .none .none .none none .none .none 0),#[]⟩
noncomputable abbrev o93 : Obj := ⟨(.type "code"),none,(.fields #[(.str "least" 236),(.str "least" 237),(.str "/claim/cut.py" 238),(.int 14 0),(.int 1 0),(.int 0 0),(.int 0 0),(.int 3 0),(.ref 51),(.bool true),(.int 181 0),(.ref 52),.none,(.ref 53),(.ref 54),(.ref 55),(.int 240 0),(.int 14 0),(.str "/claim/cut.py" 241)]),#[]⟩
noncomputable abbrev o94 : Obj := ⟨(.type "function"),none,(fn (tp 4) "least" "least" 3 [] .none .none .none (.str "fdsolve.domains" 234) none (.ref 56) .none 0),#[]⟩
noncomputable abbrev o95 : Obj := ⟨(.type "tuple"),none,(.seq #[] 0),#[]⟩
noncomputable abbrev o96 : Obj := ⟨.none,none,(.fields #[]),#[]⟩
noncomputable abbrev o97 : Obj := ⟨(.type "tuple"),none,(.seq #[(.str "d" 246)] 0),#[]⟩
noncomputable abbrev o98 : Obj := ⟨(.type "tuple"),none,(.seq #[] 0),#[]⟩
noncomputable abbrev o99 : Obj := ⟨.none,none,(fn (tp 5) "greatest" "greatest" 0 [] .none .none .none .none none .none .none 0),#[]⟩
noncomputable abbrev o100 : Obj := ⟨(.type "code"),none,(.fields #[(.str "greatest" 243),(.str "greatest" 244),(.str "/claim/cut.py" 245),(.int 16 0),(.int 1 0),(.int 0 0),(.int 0 0),(.int 3 0),(.ref 58),(.bool true),(.int 181 0),(.ref 59),.none,(.ref 60),(.ref 61),(.ref 62),(.int 247 0),(.int 16 0),(.str "/claim/cut.py" 248)]),#[]⟩
noncomputable abbrev o101 : Obj := ⟨(.type "function"),none,(fn (tp 5) "greatest" "greatest" 3 [] .none .none .none (.str "fdsolve.domains" 234) none (.ref 63) .none 0),#[]⟩
noncomputable abbrev o102 (P : Params) : Obj := ⟨(.type "dict"),none,(.dict #[⟨(kh P "__name__"),(.str "__name__" 165),(.str "fdsolve.store" 331)⟩,⟨(kh P "__doc__"),(.str "__doc__" 166),.none⟩,⟨(kh P "__package__"),(.str "__package__" 167),.none⟩,⟨(kh P "__loader__"),(.str "__loader__" 168),(.builtin "__main__.__loader__#opaque")⟩,⟨(kh P "__spec__"),(.str "__spec__" 169),.none⟩,⟨(kh P "__annotations__"),(.str "__annotations__" 170),(.ref 6)⟩,⟨(kh P "__builtins__"),(.str "__builtins__" 171),(.ref 4)⟩,⟨(kh P "__file__"),(.str "__file__" 173),(.str "/claim/cut.py" 172)⟩,⟨(kh P "__cached__"),(.str "__cached__" 174),.none⟩,⟨(kh P "_wall"),(.str "_wall" 193),(.ref 21)⟩,⟨(kh P "FdError"),(.str "FdError" 233),(.ref 47)⟩,⟨(kh P "least"),(.str "least" 242),(.ref 57)⟩,⟨(kh P "greatest"),(.str "greatest" 249),(.ref 64)⟩,⟨(kh P "next_from"),(.str "next_from" 259),(.ref 71)⟩,⟨(kh P "has"),(.str "has" 267),(.ref 78)⟩,⟨(kh P "has_domains"),(.str "has_domains" 268),(.ref 78)⟩,⟨(kh P "up_to"),(.str "up_to" 274),(.ref 83)⟩,⟨(kh P "from_on"),(.str "from_on" 280),(.ref 88)⟩,⟨(kh P "without"),(.str "without" 288),(.ref 95)⟩,⟨(kh P "meet"),(.str "meet" 301),(.ref 102)⟩,⟨(kh P "negation"),(.str "negation" 311),(.ref 109)⟩,⟨(kh P "struck"),(.str "struck" 321),(.ref 116)⟩,⟨(kh P "said_of"),(.str "said_of" 330),(.ref 123)⟩] 23),#[]⟩
noncomputable abbrev o103 : Obj := ⟨.none,none,(.fields #[(.int 1 0),(.int 0 0),(.ref 20),(.int 5 0),(.int 0 0),(.ref 28),(.int 14 0),(.int 0 0),(.ref 56),(.int 16 0),(.int 0 0),(.ref 63),(.int 18 0),(.int 0 0),(.ref 70),(.int 23 0),(.int 0 0),(.ref 77),(.int 26 0),(.int 0 0),(.ref 82),(.int 28 0),(.int 0 0),(.ref 87),(.int 30 0),(.int 0 0),(.ref 94),(.int 32 0),(.int 0 0),(.ref 101),(.int 43 0),(.int 0 0),(.ref 108),(.int 50 0),(.int 0 0),(.ref 115),(.int 57 0),(.int 0 0),(.ref 122)]),#[]⟩
noncomputable abbrev o104 : Obj := ⟨(.type "tuple"),none,(.seq #[] 0),#[]⟩
noncomputable abbrev o105 : Obj := ⟨.none,none,(.fields #[]),#[]⟩
noncomputable abbrev o106 : Obj := ⟨(.type "tuple"),none,(.seq #[(.str "d" 253),(.str "v" 254),(.str "low" 255),(.str "high" 256)] 0),#[]⟩
noncomputable abbrev o107 : Obj := ⟨(.type "tuple"),none,(.seq #[] 0),#[]⟩
noncomputable abbrev o108 : Obj := ⟨.none,none,(fn (tp 6) "next_from" "next_from" 0 [] .none .none .none .none none .none .none 0),#[]⟩
noncomputable abbrev o109 : Obj := ⟨(.type "code"),none,(.fields #[(.str "next_from" 250),(.str "next_from" 251),(.str "/claim/cut.py" 252),(.int 18 0),(.int 2 0),(.int 0 0),(.int 0 0),(.int 3 0),(.ref 65),(.bool true),(.int 181 0),(.ref 66),.none,(.ref 67),(.ref 68),(.ref 69),(.int 257 0),(.int 18 0),(.str "/claim/cut.py" 258)]),#[]⟩
noncomputable abbrev o110 : Obj := ⟨(.type "function"),none,(fn (tp 6) "next_from" "next_from" 3 [] .none .none .none (.str "fdsolve.domains" 234) none (.ref 70) .none 0),#[]⟩
noncomputable abbrev o111 : Obj := ⟨(.type "tuple"),none,(.seq #[] 0),#[]⟩
noncomputable abbrev o112 : Obj := ⟨.none,none,(.fields #[]),#[]⟩
noncomputable abbrev o113 : Obj := ⟨(.type "tuple"),none,(.seq #[(.str "d" 263),(.str "v" 264)] 0),#[]⟩
noncomputable abbrev o114 : Obj := ⟨(.type "tuple"),none,(.seq #[] 0),#[]⟩
noncomputable abbrev o115 : Obj := ⟨.none,none,(fn (tp 7) "has" "has" 0 [] .none .none .none .none none .none .none 0),#[]⟩
noncomputable abbrev o116 : Obj := ⟨(.type "code"),none,(.fields #[(.str "has" 260),(.str "has" 261),(.str "/claim/cut.py" 262),(.int 23 0),(.int 2 0),(.int 0 0),(.int 0 0),(.int 3 0),(.ref 72),(.bool true),(.int 181 0),(.ref 73),.none,(.ref 74),(.ref 75),(.ref 76),(.int 265 0),(.int 23 0),(.str "/claim/cut.py" 266)]),#[]⟩
noncomputable abbrev o117 : Obj := ⟨(.type "function"),none,(fn (tp 7) "has" "has" 3 [] .none .none .none (.str "fdsolve.domains" 234) none (.ref 77) .none 0),#[]⟩
noncomputable abbrev o118 : Obj := ⟨(.type "tuple"),none,(.seq #[] 0),#[]⟩
noncomputable abbrev o119 : Obj := ⟨.none,none,(.fields #[]),#[]⟩
noncomputable abbrev o120 : Obj := ⟨.none,none,(fn (tp 9) "up_to" "up_to" 0 [] .none .none .none .none none .none .none 0),#[]⟩
noncomputable abbrev o121 : Obj := ⟨(.type "code"),none,(.fields #[(.str "up_to" 269),(.str "up_to" 270),(.str "/claim/cut.py" 271),(.int 26 0),(.int 2 0),(.int 0 0),(.int 0 0),(.int 3 0),(.ref 79),(.bool true),(.int 181 0),(.ref 80),.none,.none,.none,(.ref 81),(.int 272 0),(.int 26 0),(.str "/claim/cut.py" 273)]),#[]⟩
noncomputable abbrev o122 : Obj := ⟨(.type "function"),none,(fn (tp 9) "up_to" "up_to" 3 [] .none .none .none (.str "fdsolve.domains" 234) none (.ref 82) .none 0),#[]⟩
noncomputable abbrev o123 : Obj := ⟨(.type "tuple"),none,(.seq #[] 0),#[]⟩
noncomputable abbrev o124 : Obj := ⟨.none,none,(.fields #[]),#[]⟩
noncomputable abbrev o125 : Obj := ⟨.none,none,(fn (tp 10) "from_on" "from_on" 0 [] .none .none .none .none none .none .none 0),#[]⟩
noncomputable abbrev o126 : Obj := ⟨(.type "code"),none,(.fields #[(.str "from_on" 275),(.str "from_on" 276),(.str "/claim/cut.py" 277),(.int 28 0),(.int 2 0),(.int 0 0),(.int 0 0),(.int 3 0),(.ref 84),(.bool true),(.int 181 0),(.ref 85),.none,.none,.none,(.ref 86),(.int 278 0),(.int 28 0),(.str "/claim/cut.py" 279)]),#[]⟩
noncomputable abbrev o127 : Obj := ⟨(.type "function"),none,(fn (tp 10) "from_on" "from_on" 3 [] .none .none .none (.str "fdsolve.domains" 234) none (.ref 87) .none 0),#[]⟩
noncomputable abbrev o128 : Obj := ⟨(.type "tuple"),none,(.seq #[] 0),#[]⟩
noncomputable abbrev o129 : Obj := ⟨.none,none,(.fields #[]),#[]⟩
noncomputable abbrev o130 : Obj := ⟨(.type "tuple"),none,(.seq #[(.str "d" 284),(.str "v" 285)] 0),#[]⟩
noncomputable abbrev o131 : Obj := ⟨(.type "tuple"),none,(.seq #[] 0),#[]⟩
noncomputable abbrev o132 : Obj := ⟨.none,none,(fn (tp 11) "without" "without" 0 [] .none .none .none .none none .none .none 0),#[]⟩
noncomputable abbrev o133 : Obj := ⟨(.type "code"),none,(.fields #[(.str "without" 281),(.str "without" 282),(.str "/claim/cut.py" 283),(.int 30 0),(.int 2 0),(.int 0 0),(.int 0 0),(.int 3 0),(.ref 89),(.bool true),(.int 181 0),(.ref 90),.none,(.ref 91),(.ref 92),(.ref 93),(.int 286 0),(.int 30 0),(.str "/claim/cut.py" 287)]),#[]⟩
noncomputable abbrev o134 : Obj := ⟨(.type "function"),none,(fn (tp 11) "without" "without" 3 [] .none .none .none (.str "fdsolve.domains" 234) none (.ref 94) .none 0),#[]⟩
noncomputable abbrev o135 : Obj := ⟨(.type "tuple"),none,(.seq #[] 0),#[]⟩
noncomputable abbrev o136 : Obj := ⟨.none,none,(.fields #[]),#[]⟩
noncomputable abbrev o137 : Obj := ⟨(.type "tuple"),none,(.seq #[(.str "d" 292),(.str "e" 293),(.str "found" 294),(.str "i" 295),(.str "j" 296),(.str "low" 297),(.str "high" 298)] 0),#[]⟩
noncomputable abbrev o138 : Obj := ⟨(.type "tuple"),none,(.seq #[] 0),#[]⟩
noncomputable abbrev o139 : Obj := ⟨.none,none,(fn (tp 12) "meet" "meet" 0 [] .none .none .none .none none .none .none 0),#[]⟩
noncomputable abbrev o140 : Obj := ⟨(.type "code"),none,(.fields #[(.str "meet" 289),(.str "meet" 290),(.str "/claim/cut.py" 291),(.int 32 0),(.int 2 0),(.int 0 0),(.int 0 0),(.int 3 0),(.ref 96),(.bool true),(.int 181 0),(.ref 97),.none,(.ref 98),(.ref 99),(.ref 100),(.int 299 0),(.int 32 0),(.str "/claim/cut.py" 300)]),#[]⟩
noncomputable abbrev o141 : Obj := ⟨(.type "function"),none,(fn (tp 12) "meet" "meet" 3 [] .none .none .none (.str "fdsolve.domains" 234) none (.ref 101) .none 0),#[]⟩
noncomputable abbrev o142 : Obj := ⟨(.type "tuple"),none,(.seq #[] 0),#[]⟩
noncomputable abbrev o143 : Obj := ⟨.none,none,(.fields #[]),#[]⟩
noncomputable abbrev o144 : Obj := ⟨(.type "tuple"),none,(.seq #[(.str "literal" 305),(.str "x" 306),(.str "sign" 307),(.str "k" 308)] 0),#[]⟩
noncomputable abbrev o145 : Obj := ⟨(.type "tuple"),none,(.seq #[] 0),#[]⟩
noncomputable abbrev o146 : Obj := ⟨.none,none,(fn (tp 13) "negation" "negation" 0 [] .none .none .none .none none .none .none 0),#[]⟩
noncomputable abbrev o147 : Obj := ⟨(.type "code"),none,(.fields #[(.str "negation" 302),(.str "negation" 303),(.str "/claim/cut.py" 304),(.int 43 0),(.int 1 0),(.int 0 0),(.int 0 0),(.int 3 0),(.ref 103),(.bool true),(.int 181 0),(.ref 104),.none,(.ref 105),(.ref 106),(.ref 107),(.int 309 0),(.int 43 0),(.str "/claim/cut.py" 310)]),#[]⟩
noncomputable abbrev o148 : Obj := ⟨(.type "function"),none,(fn (tp 13) "negation" "negation" 3 [] .none .none .none (.str "fdsolve.domains" 234) none (.ref 108) .none 0),#[]⟩
noncomputable abbrev o149 : Obj := ⟨(.type "tuple"),none,(.seq #[] 0),#[]⟩
noncomputable abbrev o150 : Obj := ⟨.none,none,(.fields #[]),#[]⟩
noncomputable abbrev o151 : Obj := ⟨(.type "tuple"),none,(.seq #[(.str "literal" 315),(.str "d" 316),(.str "sign" 317),(.str "k" 318)] 0),#[]⟩
noncomputable abbrev o152 : Obj := ⟨(.type "tuple"),none,(.seq #[] 0),#[]⟩
noncomputable abbrev o153 : Obj := ⟨.none,none,(fn (tp 14) "struck" "struck" 0 [] .none .none .none .none none .none .none 0),#[]⟩
noncomputable abbrev o154 : Obj := ⟨(.type "code"),none,(.fields #[(.str "struck" 312),(.str "struck" 313),(.str "/claim/cut.py" 314),(.int 50 0),(.int 2 0),(.int 0 0),(.int 0 0),(.int 3 0),(.ref 110),(.bool true),(.int 181 0),(.ref 111),.none,(.ref 112),(.ref 113),(.ref 114),(.int 319 0),(.int 50 0),(.str "/claim/cut.py" 320)]),#[]⟩
noncomputable abbrev o155 : Obj := ⟨(.type "function"),none,(fn (tp 14) "struck" "struck" 3 [] .none .none .none (.str "fdsolve.domains" 234) none (.ref 115) .none 0),#[]⟩
noncomputable abbrev o156 : Obj := ⟨(.type "tuple"),none,(.seq #[] 0),#[]⟩
noncomputable abbrev o157 : Obj := ⟨.none,none,(.fields #[]),#[]⟩
noncomputable abbrev o158 : Obj := ⟨(.type "tuple"),none,(.seq #[(.str "literal" 325),(.str "d" 326),(.str "kept" 327)] 0),#[]⟩
noncomputable abbrev o159 : Obj := ⟨(.type "tuple"),none,(.seq #[] 0),#[]⟩
noncomputable abbrev o160 : Obj := ⟨.none,none,(fn (tp 15) "said_of" "said_of" 0 [] .none .none .none .none none .none .none 0),#[]⟩
noncomputable abbrev o161 : Obj := ⟨(.type "code"),none,(.fields #[(.str "said_of" 322),(.str "said_of" 323),(.str "/claim/cut.py" 324),(.int 57 0),(.int 2 0),(.int 0 0),(.int 0 0),(.int 3 0),(.ref 117),(.bool true),(.int 181 0),(.ref 118),.none,(.ref 119),(.ref 120),(.ref 121),(.int 328 0),(.int 57 0),(.str "/claim/cut.py" 329)]),#[]⟩
noncomputable abbrev o162 : Obj := ⟨(.type "function"),none,(fn (tp 15) "said_of" "said_of" 3 [] .none .none .none (.str "fdsolve.domains" 234) none (.ref 122) .none 0),#[]⟩
noncomputable abbrev o163 (P : Params) : Obj := ⟨(.type "dict"),none,(.dict #[⟨(kh P "__name__"),(.str "__name__" 165),(.str "fdsolve.store" 331)⟩,⟨(kh P "__doc__"),(.str "__doc__" 166),.none⟩,⟨(kh P "__package__"),(.str "__package__" 167),.none⟩,⟨(kh P "__loader__"),(.str "__loader__" 168),(.builtin "__main__.__loader__#opaque")⟩,⟨(kh P "__spec__"),(.str "__spec__" 169),.none⟩,⟨(kh P "__annotations__"),(.str "__annotations__" 170),(.ref 6)⟩,⟨(kh P "__builtins__"),(.str "__builtins__" 171),(.ref 4)⟩,⟨(kh P "__file__"),(.str "__file__" 173),(.str "/claim/cut.py" 172)⟩,⟨(kh P "__cached__"),(.str "__cached__" 174),.none⟩,⟨(kh P "_wall"),(.str "_wall" 193),(.ref 21)⟩,⟨(kh P "FdError"),(.str "FdError" 233),(.ref 47)⟩,⟨(kh P "least"),(.str "least" 242),(.ref 57)⟩,⟨(kh P "greatest"),(.str "greatest" 249),(.ref 64)⟩,⟨(kh P "next_from"),(.str "next_from" 259),(.ref 71)⟩,⟨(kh P "has"),(.str "has" 267),(.ref 78)⟩,⟨(kh P "has_domains"),(.str "has_domains" 268),(.ref 78)⟩,⟨(kh P "up_to"),(.str "up_to" 274),(.ref 83)⟩,⟨(kh P "from_on"),(.str "from_on" 280),(.ref 88)⟩,⟨(kh P "without"),(.str "without" 288),(.ref 95)⟩,⟨(kh P "meet"),(.str "meet" 301),(.ref 102)⟩,⟨(kh P "negation"),(.str "negation" 311),(.ref 109)⟩,⟨(kh P "struck"),(.str "struck" 321),(.ref 116)⟩,⟨(kh P "said_of"),(.str "said_of" 330),(.ref 123)⟩,⟨(kh P "Store"),(.str "Store" 522),(.ref 273)⟩] 24),#[]⟩
noncomputable abbrev o164 : Obj := ⟨.none,none,(.fields #[(.int 1 0),(.int 0 0),(.ref 20),(.int 5 0),(.int 0 0),(.ref 28),(.int 14 0),(.int 0 0),(.ref 56),(.int 16 0),(.int 0 0),(.ref 63),(.int 18 0),(.int 0 0),(.ref 70),(.int 23 0),(.int 0 0),(.ref 77),(.int 26 0),(.int 0 0),(.ref 82),(.int 28 0),(.int 0 0),(.ref 87),(.int 30 0),(.int 0 0),(.ref 94),(.int 32 0),(.int 0 0),(.ref 101),(.int 43 0),(.int 0 0),(.ref 108),(.int 50 0),(.int 0 0),(.ref 115),(.int 57 0),(.int 0 0),(.ref 122),(.int 63 0),(.int 0 0),(.ref 129)]),#[]⟩
noncomputable abbrev o165 : Obj := ⟨(.type "tuple"),none,(.seq #[] 0),#[]⟩
noncomputable abbrev o166 : Obj := ⟨(.type "builtin_function_or_method"),none,(.fields #[(.builtin "type.__prepare__"),(.type "type")]),#[]⟩
noncomputable abbrev o167 (P : Params) : Obj := ⟨(.type "dict"),none,(.dict #[⟨(kh P "__module__"),(.str "__module__" 340),(.str "fdsolve.store" 331)⟩,⟨(kh P "__qualname__"),(.str "__qualname__" 342),(.str "Store" 341)⟩,⟨(kh P "__firstlineno__"),(.str "__firstlineno__" 344),(.int 63 343)⟩,⟨(kh P "__init__"),(.str "__init__" 351),(.ref 137)⟩,⟨(kh P "new_var"),(.str "new_var" 359),(.ref 144)⟩,⟨(kh P "size"),(.str "size" 366),(.ref 151)⟩,⟨(kh P "dom"),(.str "dom" 374),(.ref 158)⟩,⟨(kh P "initial"),(.str "initial" 382),(.ref 165)⟩,⟨(kh P "low"),(.str "low" 390),(.ref 172)⟩,⟨(kh P "high"),(.str "high" 398),(.ref 179)⟩,⟨(kh P "has"),(.str "has" 407),(.ref 186)⟩,⟨(kh P "is_fixed"),(.str "is_fixed" 415),(.ref 193)⟩,⟨(kh P "value"),(.str "value" 423),(.ref 200)⟩,⟨(kh P "width"),(.str "width" 431),(.ref 207)⟩,⟨(kh P "holds"),(.str "holds" 439),(.ref 214)⟩,⟨(kh P "enter"),(.str "enter" 452),(.ref 221)⟩,⟨(kh P "strike"),(.str "strike" 461),(.ref 228)⟩,⟨(kh P "decide"),(.str "decide" 469),(.ref 235)⟩,⟨(kh P "fail"),(.str "fail" 477),(.ref 242)⟩,⟨(kh P "push"),(.str "push" 484),(.ref 249)⟩,⟨(kh P "pop"),(.str "pop" 492),(.ref 256)⟩,⟨(kh P "depth"),(.str "depth" 499),(.ref 263)⟩,⟨(kh P "changed"),(.str "changed" 506),(.ref 270)⟩,⟨(kh P "__static_attributes__"),(.str "__static_attributes__" 515),(.ref 271)⟩] 24),#[]⟩
noncomputable abbrev o168 : Obj := ⟨(.type "tuple"),none,(.seq #[] 0),#[]⟩
noncomputable abbrev o169 : Obj := ⟨.none,none,(.fields (List.toArray ((.int 65 0)::(.int 4 0)::(.ref 136)::(.int 75 0)::(.int 4 0)::(.ref 143)::(.int 82 0)::(.int 4 0)::(.ref 150)::(.int 85 0)::(.int 4 0)::(.ref 157)::(.int 88 0)::(.int 4 0)::(.ref 164)::(.int 91 0)::(.int 4 0)::(.ref 171)::(.int 94 0)::(.int 4 0)::(.ref 178)::(.int 97 0)::(.int 4 0)::(.ref 185)::(.int 100 0)::(.int 4 0)::(.ref 192)::(.int 103 0)::(.int 4 0)::(.ref 199)::(.int 106 0)::(.int 4 0)::(.ref 206)::(.int 109 0)::(.int 4 0)::(.ref 213)::(.int 112 0)::(.int 4 0)::(.ref 220)::(.int 125 0)::(.int 4 0)::(.ref 227)::(.int 128 0)::(.int 4 0)::(.ref 234)::(.int 131 0)::(.int 4 0)::(.ref 241)::(.int 136 0)::(.int 4 0)::(.ref 248)::(.int 139 0)::(.int 4 0)::(.ref 255)::(.int 142 0)::(.int 4 0)::(.ref 262)::(.int 145 0)::(.int 4 0)::(.ref 269)::[]))),#[]⟩
noncomputable abbrev o170 : Obj := ⟨(.type "code"),none,(.fields #[(.str "Store" 335),(.str "Store" 336),(.str "/claim/cut.py" 337),(.int 63 0),(.int 0 0),(.int 0 0),(.int 0 0),(.int 0 0),(.ref 127),(.bool false),(.int 181 0),(.ref 128),.none,.none,.none,.none,(.int 338 0),(.int 63 0),(.str "/claim/cut.py" 339)]),#[]⟩
noncomputable abbrev o171 : Obj := ⟨(.type "frame"),none,.plain,#[(some (.ref 129)),(some (.ref 3)),(some (.ref 126)),none,(some (.str "fdsolve.store" 331)),none,(some (.ref 0))]⟩
noncomputable abbrev o172 : Obj := ⟨(.type "tuple"),none,(.seq #[] 0),#[]⟩
noncomputable abbrev o173 : Obj := ⟨.none,none,(.fields #[]),#[]⟩
noncomputable abbrev o174 : Obj := ⟨(.type "tuple"),none,(.seq #[(.str "self" 348)] 0),#[]⟩
noncomputable abbrev o175 : Obj := ⟨(.type "tuple"),none,(.seq #[] 0),#[]⟩
noncomputable abbrev o176 : Obj := ⟨.none,none,(fn (ic 17 0) "__init__" "Store.__init__" 0 [] .none .none .none .none none .none .none 0),#[]⟩
noncomputable abbrev o177 : Obj := ⟨(.type "code"),none,(.fields #[(.str "__init__" 345),(.str "Store.__init__" 346),(.str "/claim/cut.py" 347),(.int 65 0),(.int 1 0),(.int 0 0),(.int 0 0),(.int 3 0),(.ref 131),(.bool true),(.int 181 0),(.ref 132),.none,(.ref 133),(.ref 134),(.ref 135),(.int 349 0),(.int 65 0),(.str "/claim/cut.py" 350)]),#[]⟩
noncomputable abbrev o178 : Obj := ⟨(.type "function"),none,(fn (ic 17 0) "__init__" "Store.__init__" 3 [] .none .none .none (.str "fdsolve.store" 331) none (.ref 136) .none 0),#[]⟩
noncomputable abbrev o179 : Obj := ⟨(.type "tuple"),none,(.seq #[] 0),#[]⟩
noncomputable abbrev o180 : Obj := ⟨.none,none,(.fields #[]),#[]⟩
noncomputable abbrev o181 : Obj := ⟨(.type "tuple"),none,(.seq #[(.str "self" 355),(.str "domain" 356)] 0),#[]⟩
noncomputable abbrev o182 : Obj := ⟨(.type "tuple"),none,(.seq #[] 0),#[]⟩
noncomputable abbrev o183 : Obj := ⟨.none,none,(fn (ic 17 1) "new_var" "Store.new_var" 0 [] .none .none .none .none none .none .none 0),#[]⟩
noncomputable abbrev o184 : Obj := ⟨(.type "code"),none,(.fields #[(.str "new_var" 352),(.str "Store.new_var" 353),(.str "/claim/cut.py" 354),(.int 75 0),(.int 2 0),(.int 0 0),(.int 0 0),(.int 3 0),(.ref 138),(.bool true),(.int 181 0),(.ref 139),.none,(.ref 140),(.ref 141),(.ref 142),(.int 357 0),(.int 75 0),(.str "/claim/cut.py" 358)]),#[]⟩
noncomputable abbrev o185 : Obj := ⟨(.type "function"),none,(fn (ic 17 1) "new_var" "Store.new_var" 3 [] .none .none .none (.str "fdsolve.store" 331) none (.ref 143) .none 0),#[]⟩
noncomputable abbrev o186 : Obj := ⟨(.type "tuple"),none,(.seq #[] 0),#[]⟩
noncomputable abbrev o187 : Obj := ⟨.none,none,(.fields #[]),#[]⟩
noncomputable abbrev o188 : Obj := ⟨(.type "tuple"),none,(.seq #[(.str "self" 363)] 0),#[]⟩
noncomputable abbrev o189 : Obj := ⟨(.type "tuple"),none,(.seq #[] 0),#[]⟩
noncomputable abbrev o190 : Obj := ⟨.none,none,(fn (ic 17 2) "size" "Store.size" 0 [] .none .none .none .none none .none .none 0),#[]⟩
noncomputable abbrev o191 : Obj := ⟨(.type "code"),none,(.fields #[(.str "size" 360),(.str "Store.size" 361),(.str "/claim/cut.py" 362),(.int 82 0),(.int 1 0),(.int 0 0),(.int 0 0),(.int 3 0),(.ref 145),(.bool true),(.int 181 0),(.ref 146),.none,(.ref 147),(.ref 148),(.ref 149),(.int 364 0),(.int 82 0),(.str "/claim/cut.py" 365)]),#[]⟩
noncomputable abbrev o192 : Obj := ⟨(.type "function"),none,(fn (ic 17 2) "size" "Store.size" 3 [] .none .none .none (.str "fdsolve.store" 331) none (.ref 150) .none 0),#[]⟩
noncomputable abbrev o193 : Obj := ⟨(.type "tuple"),none,(.seq #[] 0),#[]⟩
noncomputable abbrev o194 : Obj := ⟨.none,none,(.fields #[]),#[]⟩
noncomputable abbrev o195 : Obj := ⟨(.type "tuple"),none,(.seq #[(.str "self" 370),(.str "x" 371)] 0),#[]⟩
noncomputable abbrev o196 : Obj := ⟨(.type "tuple"),none,(.seq #[] 0),#[]⟩
noncomputable abbrev o197 : Obj := ⟨.none,none,(fn (ic 17 3) "dom" "Store.dom" 0 [] .none .none .none .none none .none .none 0),#[]⟩
noncomputable abbrev o198 : Obj := ⟨(.type "code"),none,(.fields #[(.str "dom" 367),(.str "Store.dom" 368),(.str "/claim/cut.py" 369),(.int 85 0),(.int 2 0),(.int 0 0),(.int 0 0),(.int 3 0),(.ref 152),(.bool true),(.int 181 0),(.ref 153),.none,(.ref 154),(.ref 155),(.ref 156),(.int 372 0),(.int 85 0),(.str "/claim/cut.py" 373)]),#[]⟩
noncomputable abbrev o199 : Obj := ⟨(.type "function"),none,(fn (ic 17 3) "dom" "Store.dom" 3 [] .none .none .none (.str "fdsolve.store" 331) none (.ref 157) .none 0),#[]⟩
noncomputable abbrev o200 : Obj := ⟨(.type "tuple"),none,(.seq #[] 0),#[]⟩
noncomputable abbrev o201 : Obj := ⟨.none,none,(.fields #[]),#[]⟩
noncomputable abbrev o202 : Obj := ⟨(.type "tuple"),none,(.seq #[(.str "self" 378),(.str "x" 379)] 0),#[]⟩
noncomputable abbrev o203 : Obj := ⟨(.type "tuple"),none,(.seq #[] 0),#[]⟩
noncomputable abbrev o204 : Obj := ⟨.none,none,(fn (ic 17 4) "initial" "Store.initial" 0 [] .none .none .none .none none .none .none 0),#[]⟩
noncomputable abbrev o205 : Obj := ⟨(.type "code"),none,(.fields #[(.str "initial" 375),(.str "Store.initial" 376),(.str "/claim/cut.py" 377),(.int 88 0),(.int 2 0),(.int 0 0),(.int 0 0),(.int 3 0),(.ref 159),(.bool true),(.int 181 0),(.ref 160),.none,(.ref 161),(.ref 162),(.ref 163),(.int 380 0),(.int 88 0),(.str "/claim/cut.py" 381)]),#[]⟩
noncomputable abbrev o206 : Obj := ⟨(.type "function"),none,(fn (ic 17 4) "initial" "Store.initial" 3 [] .none .none .none (.str "fdsolve.store" 331) none (.ref 164) .none 0),#[]⟩
noncomputable abbrev o207 : Obj := ⟨(.type "tuple"),none,(.seq #[] 0),#[]⟩
noncomputable abbrev o208 : Obj := ⟨.none,none,(.fields #[]),#[]⟩
noncomputable abbrev o209 : Obj := ⟨(.type "tuple"),none,(.seq #[(.str "self" 386),(.str "x" 387)] 0),#[]⟩
noncomputable abbrev o210 : Obj := ⟨(.type "tuple"),none,(.seq #[] 0),#[]⟩
noncomputable abbrev o211 : Obj := ⟨.none,none,(fn (ic 17 5) "low" "Store.low" 0 [] .none .none .none .none none .none .none 0),#[]⟩
noncomputable abbrev o212 : Obj := ⟨(.type "code"),none,(.fields #[(.str "low" 383),(.str "Store.low" 384),(.str "/claim/cut.py" 385),(.int 91 0),(.int 2 0),(.int 0 0),(.int 0 0),(.int 3 0),(.ref 166),(.bool true),(.int 181 0),(.ref 167),.none,(.ref 168),(.ref 169),(.ref 170),(.int 388 0),(.int 91 0),(.str "/claim/cut.py" 389)]),#[]⟩
noncomputable abbrev o213 : Obj := ⟨(.type "function"),none,(fn (ic 17 5) "low" "Store.low" 3 [] .none .none .none (.str "fdsolve.store" 331) none (.ref 171) .none 0),#[]⟩
noncomputable abbrev o214 : Obj := ⟨(.type "tuple"),none,(.seq #[] 0),#[]⟩
noncomputable abbrev o215 : Obj := ⟨.none,none,(.fields #[]),#[]⟩
noncomputable abbrev o216 : Obj := ⟨(.type "tuple"),none,(.seq #[(.str "self" 394),(.str "x" 395)] 0),#[]⟩
noncomputable abbrev o217 : Obj := ⟨(.type "tuple"),none,(.seq #[] 0),#[]⟩
noncomputable abbrev o218 : Obj := ⟨.none,none,(fn (ic 17 6) "high" "Store.high" 0 [] .none .none .none .none none .none .none 0),#[]⟩
noncomputable abbrev o219 : Obj := ⟨(.type "code"),none,(.fields #[(.str "high" 391),(.str "Store.high" 392),(.str "/claim/cut.py" 393),(.int 94 0),(.int 2 0),(.int 0 0),(.int 0 0),(.int 3 0),(.ref 173),(.bool true),(.int 181 0),(.ref 174),.none,(.ref 175),(.ref 176),(.ref 177),(.int 396 0),(.int 94 0),(.str "/claim/cut.py" 397)]),#[]⟩
noncomputable abbrev o220 : Obj := ⟨(.type "function"),none,(fn (ic 17 6) "high" "Store.high" 3 [] .none .none .none (.str "fdsolve.store" 331) none (.ref 178) .none 0),#[]⟩
noncomputable abbrev o221 : Obj := ⟨(.type "tuple"),none,(.seq #[] 0),#[]⟩
noncomputable abbrev o222 : Obj := ⟨.none,none,(.fields #[]),#[]⟩
noncomputable abbrev o223 : Obj := ⟨(.type "tuple"),none,(.seq #[(.str "self" 402),(.str "x" 403),(.str "v" 404)] 0),#[]⟩
noncomputable abbrev o224 : Obj := ⟨(.type "tuple"),none,(.seq #[] 0),#[]⟩
noncomputable abbrev o225 : Obj := ⟨.none,none,(fn (ic 17 7) "has" "Store.has" 0 [] .none .none .none .none none .none .none 0),#[]⟩
noncomputable abbrev o226 : Obj := ⟨(.type "code"),none,(.fields #[(.str "has" 399),(.str "Store.has" 400),(.str "/claim/cut.py" 401),(.int 97 0),(.int 3 0),(.int 0 0),(.int 0 0),(.int 3 0),(.ref 180),(.bool true),(.int 181 0),(.ref 181),.none,(.ref 182),(.ref 183),(.ref 184),(.int 405 0),(.int 97 0),(.str "/claim/cut.py" 406)]),#[]⟩
noncomputable abbrev o227 : Obj := ⟨(.type "function"),none,(fn (ic 17 7) "has" "Store.has" 3 [] .none .none .none (.str "fdsolve.store" 331) none (.ref 185) .none 0),#[]⟩
noncomputable abbrev o228 : Obj := ⟨(.type "tuple"),none,(.seq #[] 0),#[]⟩
noncomputable abbrev o229 : Obj := ⟨.none,none,(.fields #[]),#[]⟩
noncomputable abbrev o230 : Obj := ⟨(.type "tuple"),none,(.seq #[(.str "self" 411),(.str "x" 412)] 0),#[]⟩
noncomputable abbrev o231 : Obj := ⟨(.type "tuple"),none,(.seq #[] 0),#[]⟩
noncomputable abbrev o232 : Obj := ⟨.none,none,(fn (ic 17 8) "is_fixed" "Store.is_fixed" 0 [] .none .none .none .none none .none .none 0),#[]⟩
noncomputable abbrev o233 : Obj := ⟨(.type "code"),none,(.fields #[(.str "is_fixed" 408),(.str "Store.is_fixed" 409),(.str "/claim/cut.py" 410),(.int 100 0),(.int 2 0),(.int 0 0),(.int 0 0),(.int 3 0),(.ref 187),(.bool true),(.int 181 0),(.ref 188),.none,(.ref 189),(.ref 190),(.ref 191),(.int 413 0),(.int 100 0),(.str "/claim/cut.py" 414)]),#[]⟩
noncomputable abbrev o234 : Obj := ⟨(.type "function"),none,(fn (ic 17 8) "is_fixed" "Store.is_fixed" 3 [] .none .none .none (.str "fdsolve.store" 331) none (.ref 192) .none 0),#[]⟩
noncomputable abbrev o235 : Obj := ⟨(.type "tuple"),none,(.seq #[] 0),#[]⟩
noncomputable abbrev o236 : Obj := ⟨.none,none,(.fields #[]),#[]⟩
noncomputable abbrev o237 : Obj := ⟨(.type "tuple"),none,(.seq #[(.str "self" 419),(.str "x" 420)] 0),#[]⟩
noncomputable abbrev o238 : Obj := ⟨(.type "tuple"),none,(.seq #[] 0),#[]⟩
noncomputable abbrev o239 : Obj := ⟨.none,none,(fn (ic 17 9) "value" "Store.value" 0 [] .none .none .none .none none .none .none 0),#[]⟩
noncomputable abbrev o240 : Obj := ⟨(.type "code"),none,(.fields #[(.str "value" 416),(.str "Store.value" 417),(.str "/claim/cut.py" 418),(.int 103 0),(.int 2 0),(.int 0 0),(.int 0 0),(.int 3 0),(.ref 194),(.bool true),(.int 181 0),(.ref 195),.none,(.ref 196),(.ref 197),(.ref 198),(.int 421 0),(.int 103 0),(.str "/claim/cut.py" 422)]),#[]⟩
noncomputable abbrev o241 : Obj := ⟨(.type "function"),none,(fn (ic 17 9) "value" "Store.value" 3 [] .none .none .none (.str "fdsolve.store" 331) none (.ref 199) .none 0),#[]⟩
noncomputable abbrev o242 : Obj := ⟨(.type "tuple"),none,(.seq #[] 0),#[]⟩
noncomputable abbrev o243 : Obj := ⟨.none,none,(.fields #[]),#[]⟩
noncomputable abbrev o244 : Obj := ⟨(.type "tuple"),none,(.seq #[(.str "self" 427),(.str "x" 428)] 0),#[]⟩
noncomputable abbrev o245 : Obj := ⟨(.type "tuple"),none,(.seq #[] 0),#[]⟩
noncomputable abbrev o246 : Obj := ⟨.none,none,(fn (ic 17 10) "width" "Store.width" 0 [] .none .none .none .none none .none .none 0),#[]⟩
noncomputable abbrev o247 : Obj := ⟨(.type "code"),none,(.fields #[(.str "width" 424),(.str "Store.width" 425),(.str "/claim/cut.py" 426),(.int 106 0),(.int 2 0),(.int 0 0),(.int 0 0),(.int 3 0),(.ref 201),(.bool true),(.int 181 0),(.ref 202),.none,(.ref 203),(.ref 204),(.ref 205),(.int 429 0),(.int 106 0),(.str "/claim/cut.py" 430)]),#[]⟩
noncomputable abbrev o248 : Obj := ⟨(.type "function"),none,(fn (ic 17 10) "width" "Store.width" 3 [] .none .none .none (.str "fdsolve.store" 331) none (.ref 206) .none 0),#[]⟩
noncomputable abbrev o249 : Obj := ⟨(.type "tuple"),none,(.seq #[] 0),#[]⟩
noncomputable abbrev o250 : Obj := ⟨.none,none,(.fields #[]),#[]⟩
noncomputable abbrev o251 : Obj := ⟨(.type "tuple"),none,(.seq #[(.str "self" 435),(.str "literal" 436)] 0),#[]⟩
noncomputable abbrev o252 : Obj := ⟨(.type "tuple"),none,(.seq #[] 0),#[]⟩
noncomputable abbrev o253 : Obj := ⟨.none,none,(fn (ic 17 11) "holds" "Store.holds" 0 [] .none .none .none .none none .none .none 0),#[]⟩
noncomputable abbrev o254 : Obj := ⟨(.type "code"),none,(.fields #[(.str "holds" 432),(.str "Store.holds" 433),(.str "/claim/cut.py" 434),(.int 109 0),(.int 2 0),(.int 0 0),(.int 0 0),(.int 3 0),(.ref 208),(.bool true),(.int 181 0),(.ref 209),.none,(.ref 210),(.ref 211),(.ref 212),(.int 437 0),(.int 109 0),(.str "/claim/cut.py" 438)]),#[]⟩
noncomputable abbrev o255 : Obj := ⟨(.type "function"),none,(fn (ic 17 11) "holds" "Store.holds" 3 [] .none .none .none (.str "fdsolve.store" 331) none (.ref 213) .none 0),#[]⟩
noncomputable abbrev o256 : Obj := ⟨(.type "tuple"),none,(.seq #[] 0),#[]⟩
noncomputable abbrev o257 : Obj := ⟨.none,none,(.fields #[]),#[]⟩
noncomputable abbrev o258 : Obj := ⟨(.type "tuple"),none,(.seq #[(.str "self" 443),(.str "literal" 444),(.str "reasons" 445),(.str "speaker" 446),(.str "x" 447),(.str "old" 448),(.str "fresh" 449)] 0),#[]⟩
noncomputable abbrev o259 : Obj := ⟨(.type "tuple"),none,(.seq #[] 0),#[]⟩
noncomputable abbrev o260 : Obj := ⟨.none,none,(fn (ic 17 12) "enter" "Store.enter" 0 [] .none .none .none .none none .none .none 0),#[]⟩
noncomputable abbrev o261 : Obj := ⟨(.type "code"),none,(.fields #[(.str "enter" 440),(.str "Store.enter" 441),(.str "/claim/cut.py" 442),(.int 112 0),(.int 4 0),(.int 0 0),(.int 0 0),(.int 3 0),(.ref 215),(.bool true),(.int 181 0),(.ref 216),.none,(.ref 217),(.ref 218),(.ref 219),(.int 450 0),(.int 112 0),(.str "/claim/cut.py" 451)]),#[]⟩
noncomputable abbrev o262 : Obj := ⟨(.type "function"),none,(fn (ic 17 12) "enter" "Store.enter" 3 [] .none .none .none (.str "fdsolve.store" 331) none (.ref 220) .none 0),#[]⟩
noncomputable abbrev o263 : Obj := ⟨(.type "tuple"),none,(.seq #[] 0),#[]⟩
noncomputable abbrev o264 : Obj := ⟨.none,none,(.fields #[]),#[]⟩
noncomputable abbrev o265 : Obj := ⟨(.type "tuple"),none,(.seq #[(.str "self" 456),(.str "literal" 457),(.str "reasons" 458)] 0),#[]⟩
noncomputable abbrev o266 : Obj := ⟨(.type "tuple"),none,(.seq #[] 0),#[]⟩
noncomputable abbrev o267 : Obj := ⟨.none,none,(fn (ic 17 13) "strike" "Store.strike" 0 [] .none .none .none .none none .none .none 0),#[]⟩
noncomputable abbrev o268 : Obj := ⟨(.type "code"),none,(.fields #[(.str "strike" 453),(.str "Store.strike" 454),(.str "/claim/cut.py" 455),(.int 125 0),(.int 3 0),(.int 0 0),(.int 0 0),(.int 3 0),(.ref 222),(.bool true),(.int 181 0),(.ref 223),.none,(.ref 224),(.ref 225),(.ref 226),(.int 459 0),(.int 125 0),(.str "/claim/cut.py" 460)]),#[]⟩
noncomputable abbrev o269 : Obj := ⟨(.type "function"),none,(fn (ic 17 13) "strike" "Store.strike" 3 [] .none .none .none (.str "fdsolve.store" 331) none (.ref 227) .none 0),#[]⟩
noncomputable abbrev o270 : Obj := ⟨(.type "tuple"),none,(.seq #[] 0),#[]⟩
noncomputable abbrev o271 : Obj := ⟨.none,none,(.fields #[]),#[]⟩
noncomputable abbrev o272 : Obj := ⟨(.type "tuple"),none,(.seq #[(.str "self" 465),(.str "literal" 466)] 0),#[]⟩
noncomputable abbrev o273 : Obj := ⟨(.type "tuple"),none,(.seq #[] 0),#[]⟩
noncomputable abbrev o274 : Obj := ⟨.none,none,(fn (ic 17 14) "decide" "Store.decide" 0 [] .none .none .none .none none .none .none 0),#[]⟩
noncomputable abbrev o275 : Obj := ⟨(.type "code"),none,(.fields #[(.str "decide" 462),(.str "Store.decide" 463),(.str "/claim/cut.py" 464),(.int 128 0),(.int 2 0),(.int 0 0),(.int 0 0),(.int 3 0),(.ref 229),(.bool true),(.int 181 0),(.ref 230),.none,(.ref 231),(.ref 232),(.ref 233),(.int 467 0),(.int 128 0),(.str "/claim/cut.py" 468)]),#[]⟩
noncomputable abbrev o276 : Obj := ⟨(.type "function"),none,(fn (ic 17 14) "decide" "Store.decide" 3 [] .none .none .none (.str "fdsolve.store" 331) none (.ref 234) .none 0),#[]⟩
noncomputable abbrev o277 : Obj := ⟨(.type "tuple"),none,(.seq #[] 0),#[]⟩
noncomputable abbrev o278 : Obj := ⟨.none,none,(.fields #[]),#[]⟩
noncomputable abbrev o279 : Obj := ⟨(.type "tuple"),none,(.seq #[(.str "self" 473),(.str "reasons" 474)] 0),#[]⟩
noncomputable abbrev o280 : Obj := ⟨(.type "tuple"),none,(.seq #[] 0),#[]⟩
noncomputable abbrev o281 : Obj := ⟨.none,none,(fn (ic 17 15) "fail" "Store.fail" 0 [] .none .none .none .none none .none .none 0),#[]⟩
noncomputable abbrev o282 : Obj := ⟨(.type "code"),none,(.fields #[(.str "fail" 470),(.str "Store.fail" 471),(.str "/claim/cut.py" 472),(.int 131 0),(.int 2 0),(.int 0 0),(.int 0 0),(.int 3 0),(.ref 236),(.bool true),(.int 181 0),(.ref 237),.none,(.ref 238),(.ref 239),(.ref 240),(.int 475 0),(.int 131 0),(.str "/claim/cut.py" 476)]),#[]⟩
noncomputable abbrev o283 : Obj := ⟨(.type "function"),none,(fn (ic 17 15) "fail" "Store.fail" 3 [] .none .none .none (.str "fdsolve.store" 331) none (.ref 241) .none 0),#[]⟩
noncomputable abbrev o284 : Obj := ⟨(.type "tuple"),none,(.seq #[] 0),#[]⟩
noncomputable abbrev o285 : Obj := ⟨.none,none,(.fields #[]),#[]⟩
noncomputable abbrev o286 : Obj := ⟨(.type "tuple"),none,(.seq #[(.str "self" 481)] 0),#[]⟩
noncomputable abbrev o287 : Obj := ⟨(.type "tuple"),none,(.seq #[] 0),#[]⟩
noncomputable abbrev o288 : Obj := ⟨.none,none,(fn (ic 17 16) "push" "Store.push" 0 [] .none .none .none .none none .none .none 0),#[]⟩
noncomputable abbrev o289 : Obj := ⟨(.type "code"),none,(.fields #[(.str "push" 478),(.str "Store.push" 479),(.str "/claim/cut.py" 480),(.int 136 0),(.int 1 0),(.int 0 0),(.int 0 0),(.int 3 0),(.ref 243),(.bool true),(.int 181 0),(.ref 244),.none,(.ref 245),(.ref 246),(.ref 247),(.int 482 0),(.int 136 0),(.str "/claim/cut.py" 483)]),#[]⟩
noncomputable abbrev o290 : Obj := ⟨(.type "function"),none,(fn (ic 17 16) "push" "Store.push" 3 [] .none .none .none (.str "fdsolve.store" 331) none (.ref 248) .none 0),#[]⟩
noncomputable abbrev o291 : Obj := ⟨(.type "tuple"),none,(.seq #[] 0),#[]⟩
noncomputable abbrev o292 : Obj := ⟨.none,none,(.fields #[]),#[]⟩
noncomputable abbrev o293 : Obj := ⟨(.type "tuple"),none,(.seq #[(.str "self" 488),(.str "n" 489)] 0),#[]⟩
noncomputable abbrev o294 : Obj := ⟨(.type "tuple"),none,(.seq #[] 0),#[]⟩
noncomputable abbrev o295 : Obj := ⟨.none,none,(fn (ic 17 17) "pop" "Store.pop" 0 [] .none .none .none .none none .none .none 0),#[]⟩
noncomputable abbrev o296 : Obj := ⟨(.type "code"),none,(.fields #[(.str "pop" 485),(.str "Store.pop" 486),(.str "/claim/cut.py" 487),(.int 139 0),(.int 2 0),(.int 0 0),(.int 0 0),(.int 3 0),(.ref 250),(.bool true),(.int 181 0),(.ref 251),.none,(.ref 252),(.ref 253),(.ref 254),(.int 490 0),(.int 139 0),(.str "/claim/cut.py" 491)]),#[]⟩
noncomputable abbrev o297 : Obj := ⟨(.type "function"),none,(fn (ic 17 17) "pop" "Store.pop" 3 [] .none .none .none (.str "fdsolve.store" 331) none (.ref 255) .none 0),#[]⟩
noncomputable abbrev o298 : Obj := ⟨(.type "tuple"),none,(.seq #[] 0),#[]⟩
noncomputable abbrev o299 : Obj := ⟨.none,none,(.fields #[]),#[]⟩
noncomputable abbrev o300 : Obj := ⟨(.type "tuple"),none,(.seq #[(.str "self" 496)] 0),#[]⟩
noncomputable abbrev o301 : Obj := ⟨(.type "tuple"),none,(.seq #[] 0),#[]⟩
noncomputable abbrev o302 : Obj := ⟨.none,none,(fn (ic 17 18) "depth" "Store.depth" 0 [] .none .none .none .none none .none .none 0),#[]⟩
noncomputable abbrev o303 : Obj := ⟨(.type "code"),none,(.fields #[(.str "depth" 493),(.str "Store.depth" 494),(.str "/claim/cut.py" 495),(.int 142 0),(.int 1 0),(.int 0 0),(.int 0 0),(.int 3 0),(.ref 257),(.bool true),(.int 181 0),(.ref 258),.none,(.ref 259),(.ref 260),(.ref 261),(.int 497 0),(.int 142 0),(.str "/claim/cut.py" 498)]),#[]⟩
noncomputable abbrev o304 : Obj := ⟨(.type "function"),none,(fn (ic 17 18) "depth" "Store.depth" 3 [] .none .none .none (.str "fdsolve.store" 331) none (.ref 262) .none 0),#[]⟩
noncomputable abbrev o305 : Obj := ⟨(.type "tuple"),none,(.seq #[] 0),#[]⟩
noncomputable abbrev o306 : Obj := ⟨.none,none,(.fields #[]),#[]⟩
noncomputable abbrev o307 : Obj := ⟨(.type "tuple"),none,(.seq #[(.str "self" 503)] 0),#[]⟩
noncomputable abbrev o308 : Obj := ⟨(.type "tuple"),none,(.seq #[] 0),#[]⟩
noncomputable abbrev o309 : Obj := ⟨.none,none,(fn (ic 17 19) "changed" "Store.changed" 0 [] .none .none .none .none none .none .none 0),#[]⟩
noncomputable abbrev o310 : Obj := ⟨(.type "code"),none,(.fields #[(.str "changed" 500),(.str "Store.changed" 501),(.str "/claim/cut.py" 502),(.int 145 0),(.int 1 0),(.int 0 0),(.int 0 0),(.int 3 0),(.ref 264),(.bool true),(.int 181 0),(.ref 265),.none,(.ref 266),(.ref 267),(.ref 268),(.int 504 0),(.int 145 0),(.str "/claim/cut.py" 505)]),#[]⟩
noncomputable abbrev o311 : Obj := ⟨(.type "function"),none,(fn (ic 17 19) "changed" "Store.changed" 3 [] .none .none .none (.str "fdsolve.store" 331) none (.ref 269) .none 0),#[]⟩
noncomputable abbrev o312 : Obj := ⟨(.type "tuple"),none,(.seq #[(.str "clash" 507),(.str "domains" 508),(.str "firsts" 509),(.str "is_failed" 510),(.str "marks" 511),(.str "news" 512),(.str "speaker" 513),(.str "trail" 514)] 0),#[]⟩
noncomputable abbrev o313 (P : Params) : Obj := ⟨(.type "dict"),none,(.dict #[⟨(kh P "__module__"),(.str "__module__" 340),(.str "fdsolve.store" 331)⟩,⟨(kh P "__firstlineno__"),(.str "__firstlineno__" 344),(.int 63 343)⟩,⟨(kh P "__init__"),(.str "__init__" 351),(.ref 137)⟩,⟨(kh P "new_var"),(.str "new_var" 359),(.ref 144)⟩,⟨(kh P "size"),(.str "size" 366),(.ref 151)⟩,⟨(kh P "dom"),(.str "dom" 374),(.ref 158)⟩,⟨(kh P "initial"),(.str "initial" 382),(.ref 165)⟩,⟨(kh P "low"),(.str "low" 390),(.ref 172)⟩,⟨(kh P "high"),(.str "high" 398),(.ref 179)⟩,⟨(kh P "has"),(.str "has" 407),(.ref 186)⟩,⟨(kh P "is_fixed"),(.str "is_fixed" 415),(.ref 193)⟩,⟨(kh P "value"),(.str "value" 423),(.ref 200)⟩,⟨(kh P "width"),(.str "width" 431),(.ref 207)⟩,⟨(kh P "holds"),(.str "holds" 439),(.ref 214)⟩,⟨(kh P "enter"),(.str "enter" 452),(.ref 221)⟩,⟨(kh P "strike"),(.str "strike" 461),(.ref 228)⟩,⟨(kh P "decide"),(.str "decide" 469),(.ref 235)⟩,⟨(kh P "fail"),(.str "fail" 477),(.ref 242)⟩,⟨(kh P "push"),(.str "push" 484),(.ref 249)⟩,⟨(kh P "pop"),(.str "pop" 492),(.ref 256)⟩,⟨(kh P "depth"),(.str "depth" 499),(.ref 263)⟩,⟨(kh P "changed"),(.str "changed" 506),(.ref 270)⟩,⟨(kh P "__static_attributes__"),(.str "__static_attributes__" 515),(.ref 271)⟩,⟨(kh P "__dict__"),(.str "__dict__" 517),(.ref 274)⟩,⟨(kh P "__weakref__"),(.str "__weakref__" 519),(.ref 275)⟩,⟨(kh P "__doc__"),(.str "__doc__" 520),.none⟩] 4),#[]⟩
noncomputable abbrev o314 : Obj := ⟨(.type "type"),none,(.cls ⟨"Store",[(.type "object")],[(.ref 273),(.type "object")],272,"Store",true,[],[],false,none,false⟩),#[none,none,(some (.str "Store" 333)),(some (.str "Store" 341)),(some (.builtin "object.__new__")),(some (.bool true))]⟩
noncomputable abbrev o315 : Obj := ⟨(.type "getset_descriptor"),none,(.fields #[(.str "__dict__" 516),(.ref 273),(.builtin "function.__dict__"),(.builtin "function.__dict__#set")]),#[]⟩
noncomputable abbrev o316 : Obj := ⟨(.type "getset_descriptor"),none,(.fields #[(.str "__weakref__" 518),(.ref 273),(.builtin "ExceptionGroup.__weakref__"),.none]),#[]⟩
noncomputable abbrev o317 : Obj := ⟨(.type "super"),none,(.fields #[(.ref 273),(.ref 273),(.ref 273)]),#[]⟩
noncomputable abbrev o318 : Obj := ⟨(.type "builtin_function_or_method"),none,(.fields #[(.builtin "object.__init_subclass__"),(.ref 273)]),#[]⟩
noncomputable abbrev o319 : Obj := ⟨.none,none,(.fields #[(.int 1 0),(.int 0 0),(.ref 20),(.int 5 0),(.int 0 0),(.ref 28),(.int 14 0),(.int 0 0),(.ref 56),(.int 16 0),(.int 0 0),(.ref 63),(.int 18 0),(.int 0 0),(.ref 70),(.int 23 0),(.int 0 0),(.ref 77),(.int 26 0),(.int 0 0),(.ref 82),(.int 28 0),(.int 0 0),(.ref 87),(.int 30 0),(.int 0 0),(.ref 94),(.int 32 0),(.int 0 0),(.ref 101),(.int 43 0),(.int 0 0),(.ref 108),(.int 50 0),(.int 0 0),(.ref 115),(.int 57 0),(.int 0 0),(.ref 122),(.int 63 0),(.int 0 0),(.ref 129)]),#[]⟩
noncomputable abbrev o320 : Obj := ⟨(.type "tuple"),none,(.seq #[] 0),#[]⟩
noncomputable abbrev o321 : Obj := ⟨(.type "builtin_function_or_method"),none,(.fields #[(.builtin "type.__prepare__"),(.type "type")]),#[]⟩
noncomputable abbrev o322 (P : Params) : Obj := ⟨(.type "dict"),none,(.dict #[⟨(kh P "__module__"),(.str "__module__" 340),(.str "fdsolve.store" 331)⟩,⟨(kh P "__qualname__"),(.str "__qualname__" 342),(.str "Store" 341)⟩,⟨(kh P "__firstlineno__"),(.str "__firstlineno__" 344),(.int 63 343)⟩,⟨(kh P "__init__"),(.str "__init__" 351),(.ref 137)⟩,⟨(kh P "new_var"),(.str "new_var" 359),(.ref 144)⟩,⟨(kh P "size"),(.str "size" 366),(.ref 151)⟩,⟨(kh P "dom"),(.str "dom" 374),(.ref 158)⟩,⟨(kh P "initial"),(.str "initial" 382),(.ref 165)⟩,⟨(kh P "low"),(.str "low" 390),(.ref 172)⟩,⟨(kh P "high"),(.str "high" 398),(.ref 179)⟩,⟨(kh P "has"),(.str "has" 407),(.ref 186)⟩,⟨(kh P "is_fixed"),(.str "is_fixed" 415),(.ref 193)⟩,⟨(kh P "value"),(.str "value" 423),(.ref 200)⟩,⟨(kh P "width"),(.str "width" 431),(.ref 207)⟩] 14),#[]⟩
noncomputable abbrev o323 : Obj := ⟨(.type "tuple"),none,(.seq #[] 0),#[]⟩
noncomputable abbrev o324 : Obj := ⟨.none,none,(.fields #[(.int 65 0),(.int 4 0),(.ref 136),(.int 75 0),(.int 4 0),(.ref 143),(.int 82 0),(.int 4 0),(.ref 150),(.int 85 0),(.int 4 0),(.ref 157),(.int 88 0),(.int 4 0),(.ref 164),(.int 91 0),(.int 4 0),(.ref 171),(.int 94 0),(.int 4 0),(.ref 178),(.int 97 0),(.int 4 0),(.ref 185),(.int 100 0),(.int 4 0),(.ref 192),(.int 103 0),(.int 4 0),(.ref 199),(.int 106 0),(.int 4 0),(.ref 206)]),#[]⟩
noncomputable abbrev o325 : Obj := ⟨(.type "code"),none,(.fields #[(.str "Store" 335),(.str "Store" 336),(.str "/claim/cut.py" 337),(.int 63 0),(.int 0 0),(.int 0 0),(.int 0 0),(.int 0 0),(.ref 127),(.bool false),(.int 181 0),(.ref 128),.none,.none,.none,.none,(.int 338 0),(.int 63 0),(.str "/claim/cut.py" 339)]),#[]⟩
noncomputable abbrev o326 : Obj := ⟨(.type "frame"),none,.plain,#[(some (.ref 129)),(some (.ref 3)),(some (.ref 126)),none,(some (.str "fdsolve.store" 331)),none,(some (.ref 0))]⟩
noncomputable abbrev o327 : Obj := ⟨(.type "tuple"),none,(.seq #[] 0),#[]⟩
noncomputable abbrev o328 : Obj := ⟨.none,none,(.fields #[]),#[]⟩
noncomputable abbrev o329 : Obj := ⟨(.type "tuple"),none,(.seq #[(.str "self" 348)] 0),#[]⟩
noncomputable abbrev o330 : Obj := ⟨(.type "tuple"),none,(.seq #[] 0),#[]⟩
noncomputable abbrev o331 : Obj := ⟨.none,none,(fn (ic 17 0) "__init__" "Store.__init__" 0 [] .none .none .none .none none .none .none 0),#[]⟩
noncomputable abbrev o332 : Obj := ⟨(.type "code"),none,(.fields #[(.str "__init__" 345),(.str "Store.__init__" 346),(.str "/claim/cut.py" 347),(.int 65 0),(.int 1 0),(.int 0 0),(.int 0 0),(.int 3 0),(.ref 131),(.bool true),(.int 181 0),(.ref 132),.none,(.ref 133),(.ref 134),(.ref 135),(.int 349 0),(.int 65 0),(.str "/claim/cut.py" 350)]),#[]⟩
noncomputable abbrev o333 : Obj := ⟨(.type "function"),none,(fn (ic 17 0) "__init__" "Store.__init__" 3 [] .none .none .none (.str "fdsolve.store" 331) none (.ref 136) .none 0),#[]⟩
noncomputable abbrev o334 : Obj := ⟨(.type "tuple"),none,(.seq #[] 0),#[]⟩
noncomputable abbrev o335 : Obj := ⟨.none,none,(.fields #[]),#[]⟩
noncomputable abbrev o336 : Obj := ⟨(.type "tuple"),none,(.seq #[(.str "self" 355),(.str "domain" 356)] 0),#[]⟩
noncomputable abbrev o337 : Obj := ⟨(.type "tuple"),none,(.seq #[] 0),#[]⟩
noncomputable abbrev o338 : Obj := ⟨.none,none,(fn (ic 17 1) "new_var" "Store.new_var" 0 [] .none .none .none .none none .none .none 0),#[]⟩
noncomputable abbrev o339 : Obj := ⟨(.type "code"),none,(.fields #[(.str "new_var" 352),(.str "Store.new_var" 353),(.str "/claim/cut.py" 354),(.int 75 0),(.int 2 0),(.int 0 0),(.int 0 0),(.int 3 0),(.ref 138),(.bool true),(.int 181 0),(.ref 139),.none,(.ref 140),(.ref 141),(.ref 142),(.int 357 0),(.int 75 0),(.str "/claim/cut.py" 358)]),#[]⟩
noncomputable abbrev o340 : Obj := ⟨(.type "function"),none,(fn (ic 17 1) "new_var" "Store.new_var" 3 [] .none .none .none (.str "fdsolve.store" 331) none (.ref 143) .none 0),#[]⟩
noncomputable abbrev o341 : Obj := ⟨(.type "tuple"),none,(.seq #[] 0),#[]⟩
noncomputable abbrev o342 : Obj := ⟨.none,none,(.fields #[]),#[]⟩
noncomputable abbrev o343 : Obj := ⟨(.type "tuple"),none,(.seq #[(.str "self" 363)] 0),#[]⟩
noncomputable abbrev o344 : Obj := ⟨(.type "tuple"),none,(.seq #[] 0),#[]⟩
noncomputable abbrev o345 : Obj := ⟨.none,none,(fn (ic 17 2) "size" "Store.size" 0 [] .none .none .none .none none .none .none 0),#[]⟩
noncomputable abbrev o346 : Obj := ⟨(.type "code"),none,(.fields #[(.str "size" 360),(.str "Store.size" 361),(.str "/claim/cut.py" 362),(.int 82 0),(.int 1 0),(.int 0 0),(.int 0 0),(.int 3 0),(.ref 145),(.bool true),(.int 181 0),(.ref 146),.none,(.ref 147),(.ref 148),(.ref 149),(.int 364 0),(.int 82 0),(.str "/claim/cut.py" 365)]),#[]⟩
noncomputable abbrev o347 : Obj := ⟨(.type "function"),none,(fn (ic 17 2) "size" "Store.size" 3 [] .none .none .none (.str "fdsolve.store" 331) none (.ref 150) .none 0),#[]⟩
noncomputable abbrev o348 : Obj := ⟨(.type "tuple"),none,(.seq #[] 0),#[]⟩
noncomputable abbrev o349 : Obj := ⟨.none,none,(.fields #[]),#[]⟩
noncomputable abbrev o350 : Obj := ⟨(.type "tuple"),none,(.seq #[(.str "self" 370),(.str "x" 371)] 0),#[]⟩
noncomputable abbrev o351 : Obj := ⟨(.type "tuple"),none,(.seq #[] 0),#[]⟩
noncomputable abbrev o352 : Obj := ⟨.none,none,(fn (ic 17 3) "dom" "Store.dom" 0 [] .none .none .none .none none .none .none 0),#[]⟩
noncomputable abbrev o353 : Obj := ⟨(.type "code"),none,(.fields #[(.str "dom" 367),(.str "Store.dom" 368),(.str "/claim/cut.py" 369),(.int 85 0),(.int 2 0),(.int 0 0),(.int 0 0),(.int 3 0),(.ref 152),(.bool true),(.int 181 0),(.ref 153),.none,(.ref 154),(.ref 155),(.ref 156),(.int 372 0),(.int 85 0),(.str "/claim/cut.py" 373)]),#[]⟩
noncomputable abbrev o354 : Obj := ⟨(.type "function"),none,(fn (ic 17 3) "dom" "Store.dom" 3 [] .none .none .none (.str "fdsolve.store" 331) none (.ref 157) .none 0),#[]⟩
noncomputable abbrev o355 : Obj := ⟨(.type "tuple"),none,(.seq #[] 0),#[]⟩
noncomputable abbrev o356 : Obj := ⟨.none,none,(.fields #[]),#[]⟩
noncomputable abbrev o357 : Obj := ⟨(.type "tuple"),none,(.seq #[(.str "self" 378),(.str "x" 379)] 0),#[]⟩
noncomputable abbrev o358 : Obj := ⟨(.type "tuple"),none,(.seq #[] 0),#[]⟩
noncomputable abbrev o359 : Obj := ⟨.none,none,(fn (ic 17 4) "initial" "Store.initial" 0 [] .none .none .none .none none .none .none 0),#[]⟩
noncomputable abbrev o360 : Obj := ⟨(.type "code"),none,(.fields #[(.str "initial" 375),(.str "Store.initial" 376),(.str "/claim/cut.py" 377),(.int 88 0),(.int 2 0),(.int 0 0),(.int 0 0),(.int 3 0),(.ref 159),(.bool true),(.int 181 0),(.ref 160),.none,(.ref 161),(.ref 162),(.ref 163),(.int 380 0),(.int 88 0),(.str "/claim/cut.py" 381)]),#[]⟩
noncomputable abbrev o361 : Obj := ⟨(.type "function"),none,(fn (ic 17 4) "initial" "Store.initial" 3 [] .none .none .none (.str "fdsolve.store" 331) none (.ref 164) .none 0),#[]⟩
noncomputable abbrev o362 : Obj := ⟨(.type "tuple"),none,(.seq #[] 0),#[]⟩
noncomputable abbrev o363 : Obj := ⟨.none,none,(.fields #[]),#[]⟩
noncomputable abbrev o364 : Obj := ⟨(.type "tuple"),none,(.seq #[(.str "self" 386),(.str "x" 387)] 0),#[]⟩
noncomputable abbrev o365 : Obj := ⟨(.type "tuple"),none,(.seq #[] 0),#[]⟩
noncomputable abbrev o366 : Obj := ⟨.none,none,(fn (ic 17 5) "low" "Store.low" 0 [] .none .none .none .none none .none .none 0),#[]⟩
noncomputable abbrev o367 : Obj := ⟨(.type "code"),none,(.fields #[(.str "low" 383),(.str "Store.low" 384),(.str "/claim/cut.py" 385),(.int 91 0),(.int 2 0),(.int 0 0),(.int 0 0),(.int 3 0),(.ref 166),(.bool true),(.int 181 0),(.ref 167),.none,(.ref 168),(.ref 169),(.ref 170),(.int 388 0),(.int 91 0),(.str "/claim/cut.py" 389)]),#[]⟩
noncomputable abbrev o368 : Obj := ⟨(.type "function"),none,(fn (ic 17 5) "low" "Store.low" 3 [] .none .none .none (.str "fdsolve.store" 331) none (.ref 171) .none 0),#[]⟩
noncomputable abbrev o369 : Obj := ⟨(.type "tuple"),none,(.seq #[] 0),#[]⟩
noncomputable abbrev o370 : Obj := ⟨.none,none,(.fields #[]),#[]⟩
noncomputable abbrev o371 : Obj := ⟨(.type "tuple"),none,(.seq #[(.str "self" 394),(.str "x" 395)] 0),#[]⟩
noncomputable abbrev o372 : Obj := ⟨(.type "tuple"),none,(.seq #[] 0),#[]⟩
noncomputable abbrev o373 : Obj := ⟨.none,none,(fn (ic 17 6) "high" "Store.high" 0 [] .none .none .none .none none .none .none 0),#[]⟩
noncomputable abbrev o374 : Obj := ⟨(.type "code"),none,(.fields #[(.str "high" 391),(.str "Store.high" 392),(.str "/claim/cut.py" 393),(.int 94 0),(.int 2 0),(.int 0 0),(.int 0 0),(.int 3 0),(.ref 173),(.bool true),(.int 181 0),(.ref 174),.none,(.ref 175),(.ref 176),(.ref 177),(.int 396 0),(.int 94 0),(.str "/claim/cut.py" 397)]),#[]⟩
noncomputable abbrev o375 : Obj := ⟨(.type "function"),none,(fn (ic 17 6) "high" "Store.high" 3 [] .none .none .none (.str "fdsolve.store" 331) none (.ref 178) .none 0),#[]⟩
noncomputable abbrev o376 : Obj := ⟨(.type "tuple"),none,(.seq #[] 0),#[]⟩
noncomputable abbrev o377 : Obj := ⟨.none,none,(.fields #[]),#[]⟩
noncomputable abbrev o378 : Obj := ⟨(.type "tuple"),none,(.seq #[(.str "self" 402),(.str "x" 403),(.str "v" 404)] 0),#[]⟩
noncomputable abbrev o379 : Obj := ⟨(.type "tuple"),none,(.seq #[] 0),#[]⟩
noncomputable abbrev o380 : Obj := ⟨.none,none,(fn (ic 17 7) "has" "Store.has" 0 [] .none .none .none .none none .none .none 0),#[]⟩
noncomputable abbrev o381 : Obj := ⟨(.type "code"),none,(.fields #[(.str "has" 399),(.str "Store.has" 400),(.str "/claim/cut.py" 401),(.int 97 0),(.int 3 0),(.int 0 0),(.int 0 0),(.int 3 0),(.ref 180),(.bool true),(.int 181 0),(.ref 181),.none,(.ref 182),(.ref 183),(.ref 184),(.int 405 0),(.int 97 0),(.str "/claim/cut.py" 406)]),#[]⟩
noncomputable abbrev o382 : Obj := ⟨(.type "function"),none,(fn (ic 17 7) "has" "Store.has" 3 [] .none .none .none (.str "fdsolve.store" 331) none (.ref 185) .none 0),#[]⟩
noncomputable abbrev o383 : Obj := ⟨(.type "tuple"),none,(.seq #[] 0),#[]⟩
noncomputable abbrev o384 : Obj := ⟨.none,none,(.fields #[]),#[]⟩
noncomputable abbrev o385 : Obj := ⟨(.type "tuple"),none,(.seq #[(.str "self" 411),(.str "x" 412)] 0),#[]⟩
noncomputable abbrev o386 : Obj := ⟨(.type "tuple"),none,(.seq #[] 0),#[]⟩
noncomputable abbrev o387 : Obj := ⟨.none,none,(fn (ic 17 8) "is_fixed" "Store.is_fixed" 0 [] .none .none .none .none none .none .none 0),#[]⟩
noncomputable abbrev o388 : Obj := ⟨(.type "code"),none,(.fields #[(.str "is_fixed" 408),(.str "Store.is_fixed" 409),(.str "/claim/cut.py" 410),(.int 100 0),(.int 2 0),(.int 0 0),(.int 0 0),(.int 3 0),(.ref 187),(.bool true),(.int 181 0),(.ref 188),.none,(.ref 189),(.ref 190),(.ref 191),(.int 413 0),(.int 100 0),(.str "/claim/cut.py" 414)]),#[]⟩
noncomputable abbrev o389 : Obj := ⟨(.type "function"),none,(fn (ic 17 8) "is_fixed" "Store.is_fixed" 3 [] .none .none .none (.str "fdsolve.store" 331) none (.ref 192) .none 0),#[]⟩
noncomputable abbrev o390 : Obj := ⟨(.type "tuple"),none,(.seq #[] 0),#[]⟩
noncomputable abbrev o391 : Obj := ⟨.none,none,(.fields #[]),#[]⟩
noncomputable abbrev o392 : Obj := ⟨(.type "tuple"),none,(.seq #[(.str "self" 419),(.str "x" 420)] 0),#[]⟩
noncomputable abbrev o393 : Obj := ⟨(.type "tuple"),none,(.seq #[] 0),#[]⟩
noncomputable abbrev o394 : Obj := ⟨.none,none,(fn (ic 17 9) "value" "Store.value" 0 [] .none .none .none .none none .none .none 0),#[]⟩
noncomputable abbrev o395 : Obj := ⟨(.type "code"),none,(.fields #[(.str "value" 416),(.str "Store.value" 417),(.str "/claim/cut.py" 418),(.int 103 0),(.int 2 0),(.int 0 0),(.int 0 0),(.int 3 0),(.ref 194),(.bool true),(.int 181 0),(.ref 195),.none,(.ref 196),(.ref 197),(.ref 198),(.int 421 0),(.int 103 0),(.str "/claim/cut.py" 422)]),#[]⟩
noncomputable abbrev o396 : Obj := ⟨(.type "function"),none,(fn (ic 17 9) "value" "Store.value" 3 [] .none .none .none (.str "fdsolve.store" 331) none (.ref 199) .none 0),#[]⟩
noncomputable abbrev o397 : Obj := ⟨(.type "tuple"),none,(.seq #[] 0),#[]⟩
noncomputable abbrev o398 : Obj := ⟨.none,none,(.fields #[]),#[]⟩
noncomputable abbrev o399 : Obj := ⟨(.type "tuple"),none,(.seq #[(.str "self" 427),(.str "x" 428)] 0),#[]⟩
noncomputable abbrev o400 : Obj := ⟨(.type "tuple"),none,(.seq #[] 0),#[]⟩
noncomputable abbrev o401 : Obj := ⟨.none,none,(fn (ic 17 10) "width" "Store.width" 0 [] .none .none .none .none none .none .none 0),#[]⟩
noncomputable abbrev o402 : Obj := ⟨(.type "code"),none,(.fields #[(.str "width" 424),(.str "Store.width" 425),(.str "/claim/cut.py" 426),(.int 106 0),(.int 2 0),(.int 0 0),(.int 0 0),(.int 3 0),(.ref 201),(.bool true),(.int 181 0),(.ref 202),.none,(.ref 203),(.ref 204),(.ref 205),(.int 429 0),(.int 106 0),(.str "/claim/cut.py" 430)]),#[]⟩
noncomputable abbrev o403 : Obj := ⟨(.type "function"),none,(fn (ic 17 10) "width" "Store.width" 3 [] .none .none .none (.str "fdsolve.store" 331) none (.ref 206) .none 0),#[]⟩
noncomputable abbrev o407 (P : Params) : Obj := ⟨(.type "dict"),none,(.dict #[⟨(kh P "__name__"),(.str "__name__" 165),(.str "fdsolve.cumulative" 578)⟩,⟨(kh P "__doc__"),(.str "__doc__" 166),.none⟩,⟨(kh P "__package__"),(.str "__package__" 167),.none⟩,⟨(kh P "__loader__"),(.str "__loader__" 168),(.builtin "__main__.__loader__#opaque")⟩,⟨(kh P "__spec__"),(.str "__spec__" 169),.none⟩,⟨(kh P "__annotations__"),(.str "__annotations__" 170),(.ref 6)⟩,⟨(kh P "__builtins__"),(.str "__builtins__" 171),(.ref 4)⟩,⟨(kh P "__file__"),(.str "__file__" 173),(.str "/claim/cut.py" 172)⟩,⟨(kh P "__cached__"),(.str "__cached__" 174),.none⟩,⟨(kh P "_wall"),(.str "_wall" 193),(.ref 21)⟩,⟨(kh P "FdError"),(.str "FdError" 233),(.ref 47)⟩,⟨(kh P "least"),(.str "least" 242),(.ref 57)⟩,⟨(kh P "greatest"),(.str "greatest" 249),(.ref 64)⟩,⟨(kh P "next_from"),(.str "next_from" 259),(.ref 71)⟩,⟨(kh P "has"),(.str "has" 267),(.ref 78)⟩,⟨(kh P "has_domains"),(.str "has_domains" 268),(.ref 78)⟩,⟨(kh P "up_to"),(.str "up_to" 274),(.ref 83)⟩,⟨(kh P "from_on"),(.str "from_on" 280),(.ref 88)⟩,⟨(kh P "without"),(.str "without" 288),(.ref 95)⟩,⟨(kh P "meet"),(.str "meet" 301),(.ref 102)⟩,⟨(kh P "negation"),(.str "negation" 311),(.ref 109)⟩,⟨(kh P "struck"),(.str "struck" 321),(.ref 116)⟩,⟨(kh P "said_of"),(.str "said_of" 330),(.ref 123)⟩,⟨(kh P "Store"),(.str "Store" 522),(.ref 273)⟩,⟨(kh P "Propagator"),(.str "Propagator" 577),(.ref 315)⟩,⟨(kh P "as_numbers"),(.str "as_numbers" 589),(.ref 326)⟩] 26),#[]⟩
noncomputable abbrev o408 : Obj := ⟨.none,none,(.fields #[(.int 1 0),(.int 0 0),(.ref 20),(.int 5 0),(.int 0 0),(.ref 28),(.int 14 0),(.int 0 0),(.ref 56),(.int 16 0),(.int 0 0),(.ref 63),(.int 18 0),(.int 0 0),(.ref 70),(.int 23 0),(.int 0 0),(.ref 77),(.int 26 0),(.int 0 0),(.ref 82),(.int 28 0),(.int 0 0),(.ref 87),(.int 30 0),(.int 0 0),(.ref 94),(.int 32 0),(.int 0 0),(.ref 101),(.int 43 0),(.int 0 0),(.ref 108),(.int 50 0),(.int 0 0),(.ref 115),(.int 57 0),(.int 0 0),(.ref 122),(.int 63 0),(.int 0 0),(.ref 129),(.int 147 0),(.int 0 0),(.ref 283),(.int 163 0),(.int 0 0),(.ref 325)]),#[]⟩
noncomputable abbrev o409 : Obj := ⟨(.type "tuple"),none,(.seq #[] 0),#[]⟩
noncomputable abbrev o410 : Obj := ⟨(.type "builtin_function_or_method"),none,(.fields #[(.builtin "type.__prepare__"),(.type "type")]),#[]⟩
noncomputable abbrev o411 (P : Params) : Obj := ⟨(.type "dict"),none,(.dict #[⟨(kh P "__module__"),(.str "__module__" 530),(.str "fdsolve.store" 331)⟩,⟨(kh P "__qualname__"),(.str "__qualname__" 532),(.str "Propagator" 531)⟩,⟨(kh P "__firstlineno__"),(.str "__firstlineno__" 534),(.int 147 533)⟩,⟨(kh P "__init__"),(.str "__init__" 543),(.ref 291)⟩,⟨(kh P "propagate"),(.str "propagate" 551),(.ref 298)⟩,⟨(kh P "check"),(.str "check" 559),(.ref 305)⟩,⟨(kh P "told"),(.str "told" 566),(.ref 312)⟩,⟨(kh P "__static_attributes__"),(.str "__static_attributes__" 570),(.ref 313)⟩] 8),#[]⟩
noncomputable abbrev o412 : Obj := ⟨(.type "tuple"),none,(.seq #[] 0),#[]⟩
noncomputable abbrev o413 : Obj := ⟨.none,none,(.fields #[(.int 149 0),(.int 4 0),(.ref 290),(.int 154 0),(.int 4 0),(.ref 297),(.int 157 0),(.int 4 0),(.ref 304),(.int 160 0),(.int 4 0),(.ref 311)]),#[]⟩
noncomputable abbrev o414 : Obj := ⟨(.type "code"),none,(.fields #[(.str "Propagator" 525),(.str "Propagator" 526),(.str "/claim/cut.py" 527),(.int 147 0),(.int 0 0),(.int 0 0),(.int 0 0),(.int 0 0),(.ref 281),(.bool false),(.int 181 0),(.ref 282),.none,.none,.none,.none,(.int 528 0),(.int 147 0),(.str "/claim/cut.py" 529)]),#[]⟩
noncomputable abbrev o415 : Obj := ⟨(.type "frame"),none,.plain,#[(some (.ref 283)),(some (.ref 3)),(some (.ref 280)),none,(some (.str "fdsolve.store" 331)),none,(some (.ref 0))]⟩
noncomputable abbrev o416 : Obj := ⟨(.type "tuple"),none,(.seq #[] 0),#[]⟩
noncomputable abbrev o417 : Obj := ⟨.none,none,(.fields #[]),#[]⟩
noncomputable abbrev o418 : Obj := ⟨(.type "tuple"),none,(.seq #[(.str "self" 538),(.str "scope" 539),(.str "strength" 540)] 0),#[]⟩
noncomputable abbrev o419 : Obj := ⟨(.type "tuple"),none,(.seq #[] 0),#[]⟩
noncomputable abbrev o420 : Obj := ⟨.none,none,(fn (ic 18 0) "__init__" "Propagator.__init__" 0 [] .none .none .none .none none .none .none 0),#[]⟩
noncomputable abbrev o421 : Obj := ⟨(.type "code"),none,(.fields #[(.str "__init__" 535),(.str "Propagator.__init__" 536),(.str "/claim/cut.py" 537),(.int 149 0),(.int 3 0),(.int 0 0),(.int 0 0),(.int 3 0),(.ref 285),(.bool true),(.int 181 0),(.ref 286),.none,(.ref 287),(.ref 288),(.ref 289),(.int 541 0),(.int 149 0),(.str "/claim/cut.py" 542)]),#[]⟩
noncomputable abbrev o422 : Obj := ⟨(.type "function"),none,(fn (ic 18 0) "__init__" "Propagator.__init__" 3 [] .none .none .none (.str "fdsolve.store" 331) none (.ref 290) .none 0),#[]⟩
noncomputable abbrev o423 : Obj := ⟨(.type "tuple"),none,(.seq #[] 0),#[]⟩
noncomputable abbrev o424 : Obj := ⟨.none,none,(.fields #[]),#[]⟩
noncomputable abbrev o425 : Obj := ⟨(.type "tuple"),none,(.seq #[(.str "self" 547),(.str "store" 548)] 0),#[]⟩
noncomputable abbrev o426 : Obj := ⟨(.type "tuple"),none,(.seq #[] 0),#[]⟩
noncomputable abbrev o427 : Obj := ⟨.none,none,(fn (ic 18 1) "propagate" "Propagator.propagate" 0 [] .none .none .none .none none .none .none 0),#[]⟩
noncomputable abbrev o428 : Obj := ⟨(.type "code"),none,(.fields #[(.str "propagate" 544),(.str "Propagator.propagate" 545),(.str "/claim/cut.py" 546),(.int 154 0),(.int 2 0),(.int 0 0),(.int 0 0),(.int 3 0),(.ref 292),(.bool true),(.int 181 0),(.ref 293),.none,(.ref 294),(.ref 295),(.ref 296),(.int 549 0),(.int 154 0),(.str "/claim/cut.py" 550)]),#[]⟩
noncomputable abbrev o429 : Obj := ⟨(.type "function"),none,(fn (ic 18 1) "propagate" "Propagator.propagate" 3 [] .none .none .none (.str "fdsolve.store" 331) none (.ref 297) .none 0),#[]⟩
noncomputable abbrev o430 : Obj := ⟨(.type "tuple"),none,(.seq #[] 0),#[]⟩
noncomputable abbrev o431 : Obj := ⟨.none,none,(.fields #[]),#[]⟩
noncomputable abbrev o432 : Obj := ⟨(.type "tuple"),none,(.seq #[(.str "self" 555),(.str "values" 556)] 0),#[]⟩
noncomputable abbrev o433 : Obj := ⟨(.type "tuple"),none,(.seq #[] 0),#[]⟩
noncomputable abbrev o434 : Obj := ⟨.none,none,(fn (ic 18 2) "check" "Propagator.check" 0 [] .none .none .none .none none .none .none 0),#[]⟩
noncomputable abbrev o435 : Obj := ⟨(.type "code"),none,(.fields #[(.str "check" 552),(.str "Propagator.check" 553),(.str "/claim/cut.py" 554),(.int 157 0),(.int 2 0),(.int 0 0),(.int 0 0),(.int 3 0),(.ref 299),(.bool true),(.int 181 0),(.ref 300),.none,(.ref 301),(.ref 302),(.ref 303),(.int 557 0),(.int 157 0),(.str "/claim/cut.py" 558)]),#[]⟩
noncomputable abbrev o436 : Obj := ⟨(.type "function"),none,(fn (ic 18 2) "check" "Propagator.check" 3 [] .none .none .none (.str "fdsolve.store" 331) none (.ref 304) .none 0),#[]⟩
noncomputable abbrev o437 : Obj := ⟨(.type "tuple"),none,(.seq #[] 0),#[]⟩
noncomputable abbrev o438 : Obj := ⟨.none,none,(.fields #[]),#[]⟩
noncomputable abbrev o439 : Obj := ⟨(.type "tuple"),none,(.seq #[(.str "self" 563)] 0),#[]⟩
noncomputable abbrev o440 : Obj := ⟨(.type "tuple"),none,(.seq #[] 0),#[]⟩
noncomputable abbrev o441 : Obj := ⟨.none,none,(fn (ic 18 3) "told" "Propagator.told" 0 [] .none .none .none .none none .none .none 0),#[]⟩
noncomputable abbrev o442 : Obj := ⟨(.type "code"),none,(.fields #[(.str "told" 560),(.str "Propagator.told" 561),(.str "/claim/cut.py" 562),(.int 160 0),(.int 1 0),(.int 0 0),(.int 0 0),(.int 3 0),(.ref 306),(.bool true),(.int 181 0),(.ref 307),.none,(.ref 308),(.ref 309),(.ref 310),(.int 564 0),(.int 160 0),(.str "/claim/cut.py" 565)]),#[]⟩
noncomputable abbrev o443 : Obj := ⟨(.type "function"),none,(fn (ic 18 3) "told" "Propagator.told" 3 [] .none .none .none (.str "fdsolve.store" 331) none (.ref 311) .none 0),#[]⟩
noncomputable abbrev o444 : Obj := ⟨(.type "tuple"),none,(.seq #[(.str "number" 567),(.str "scope" 568),(.str "strength" 569)] 0),#[]⟩
noncomputable abbrev o445 (P : Params) : Obj := ⟨(.type "dict"),none,(.dict #[⟨(kh P "__module__"),(.str "__module__" 530),(.str "fdsolve.store" 331)⟩,⟨(kh P "__firstlineno__"),(.str "__firstlineno__" 534),(.int 147 533)⟩,⟨(kh P "__init__"),(.str "__init__" 543),(.ref 291)⟩,⟨(kh P "propagate"),(.str "propagate" 551),(.ref 298)⟩,⟨(kh P "check"),(.str "check" 559),(.ref 305)⟩,⟨(kh P "told"),(.str "told" 566),(.ref 312)⟩,⟨(kh P "__static_attributes__"),(.str "__static_attributes__" 570),(.ref 313)⟩,⟨(kh P "__dict__"),(.str "__dict__" 572),(.ref 316)⟩,⟨(kh P "__weakref__"),(.str "__weakref__" 574),(.ref 317)⟩,⟨(kh P "__doc__"),(.str "__doc__" 575),.none⟩] 4),#[]⟩
noncomputable abbrev o446 : Obj := ⟨(.type "type"),none,(.cls ⟨"Propagator",[(.type "object")],[(.ref 315),(.type "object")],314,"Propagator",true,[],[],false,none,false⟩),#[none,none,(some (.str "Propagator" 523)),(some (.str "Propagator" 531)),(some (.builtin "object.__new__")),(some (.bool true))]⟩
noncomputable abbrev o447 : Obj := ⟨(.type "getset_descriptor"),none,(.fields #[(.str "__dict__" 571),(.ref 315),(.builtin "function.__dict__"),(.builtin "function.__dict__#set")]),#[]⟩
noncomputable abbrev o448 : Obj := ⟨(.type "getset_descriptor"),none,(.fields #[(.str "__weakref__" 573),(.ref 315),(.builtin "ExceptionGroup.__weakref__"),.none]),#[]⟩
noncomputable abbrev o449 : Obj := ⟨(.type "super"),none,(.fields #[(.ref 315),(.ref 315),(.ref 315)]),#[]⟩
noncomputable abbrev o450 : Obj := ⟨(.type "builtin_function_or_method"),none,(.fields #[(.builtin "object.__init_subclass__"),(.ref 315)]),#[]⟩
noncomputable abbrev o451 : Obj := ⟨(.type "tuple"),none,(.seq #[] 0),#[]⟩
noncomputable abbrev o452 : Obj := ⟨.none,none,(.fields #[]),#[]⟩
noncomputable abbrev o453 : Obj := ⟨(.type "tuple"),none,(.seq #[(.str "some" 583),(.str "many" 584),(.str "what" 585),(.str "found" 586)] 0),#[]⟩
noncomputable abbrev o454 : Obj := ⟨(.type "tuple"),none,(.seq #[] 0),#[]⟩
noncomputable abbrev o455 : Obj := ⟨.none,none,(fn (tp 20) "as_numbers" "as_numbers" 0 [] .none .none .none .none none .none .none 0),#[]⟩
noncomputable abbrev o456 : Obj := ⟨(.type "code"),none,(.fields #[(.str "as_numbers" 580),(.str "as_numbers" 581),(.str "/claim/cut.py" 582),(.int 163 0),(.int 3 0),(.int 0 0),(.int 0 0),(.int 3 0),(.ref 320),(.bool true),(.int 181 0),(.ref 321),.none,(.ref 322),(.ref 323),(.ref 324),(.int 587 0),(.int 163 0),(.str "/claim/cut.py" 588)]),#[]⟩
noncomputable abbrev o457 : Obj := ⟨(.type "function"),none,(fn (tp 20) "as_numbers" "as_numbers" 3 [] .none .none .none (.str "fdsolve.cumulative" 578) none (.ref 325) .none 0),#[]⟩
noncomputable abbrev o458 (P : Params) : Obj := ⟨(.type "dict"),none,(.dict #[⟨(kh P "__name__"),(.str "__name__" 165),(.str "fdsolve.cumulative" 578)⟩,⟨(kh P "__doc__"),(.str "__doc__" 166),.none⟩,⟨(kh P "__package__"),(.str "__package__" 167),.none⟩,⟨(kh P "__loader__"),(.str "__loader__" 168),(.builtin "__main__.__loader__#opaque")⟩,⟨(kh P "__spec__"),(.str "__spec__" 169),.none⟩,⟨(kh P "__annotations__"),(.str "__annotations__" 170),(.ref 6)⟩,⟨(kh P "__builtins__"),(.str "__builtins__" 171),(.ref 4)⟩,⟨(kh P "__file__"),(.str "__file__" 173),(.str "/claim/cut.py" 172)⟩,⟨(kh P "__cached__"),(.str "__cached__" 174),.none⟩,⟨(kh P "_wall"),(.str "_wall" 193),(.ref 21)⟩,⟨(kh P "FdError"),(.str "FdError" 233),(.ref 47)⟩,⟨(kh P "least"),(.str "least" 242),(.ref 57)⟩,⟨(kh P "greatest"),(.str "greatest" 249),(.ref 64)⟩,⟨(kh P "next_from"),(.str "next_from" 259),(.ref 71)⟩,⟨(kh P "has"),(.str "has" 267),(.ref 78)⟩,⟨(kh P "has_domains"),(.str "has_domains" 268),(.ref 78)⟩,⟨(kh P "up_to"),(.str "up_to" 274),(.ref 83)⟩,⟨(kh P "from_on"),(.str "from_on" 280),(.ref 88)⟩,⟨(kh P "without"),(.str "without" 288),(.ref 95)⟩,⟨(kh P "meet"),(.str "meet" 301),(.ref 102)⟩,⟨(kh P "negation"),(.str "negation" 311),(.ref 109)⟩,⟨(kh P "struck"),(.str "struck" 321),(.ref 116)⟩,⟨(kh P "said_of"),(.str "said_of" 330),(.ref 123)⟩,⟨(kh P "Store"),(.str "Store" 522),(.ref 273)⟩,⟨(kh P "Propagator"),(.str "Propagator" 577),(.ref 315)⟩,⟨(kh P "as_numbers"),(.str "as_numbers" 589),(.ref 326)⟩,⟨(kh P "Disjunctive"),(.str "Disjunctive" 694),(.ref 404)⟩] 27),#[]⟩
noncomputable abbrev o459 : Obj := ⟨.none,none,(.fields #[(.int 1 0),(.int 0 0),(.ref 20),(.int 5 0),(.int 0 0),(.ref 28),(.int 14 0),(.int 0 0),(.ref 56),(.int 16 0),(.int 0 0),(.ref 63),(.int 18 0),(.int 0 0),(.ref 70),(.int 23 0),(.int 0 0),(.ref 77),(.int 26 0),(.int 0 0),(.ref 82),(.int 28 0),(.int 0 0),(.ref 87),(.int 30 0),(.int 0 0),(.ref 94),(.int 32 0),(.int 0 0),(.ref 101),(.int 43 0),(.int 0 0),(.ref 108),(.int 50 0),(.int 0 0),(.ref 115),(.int 57 0),(.int 0 0),(.ref 122),(.int 63 0),(.int 0 0),(.ref 129),(.int 147 0),(.int 0 0),(.ref 283),(.int 163 0),(.int 0 0),(.ref 325),(.int 168 0),(.int 0 0),(.ref 333)]),#[]⟩
noncomputable abbrev o460 : Obj := ⟨(.type "type"),none,(.cls ⟨"Propagator",[(.type "object")],[(.ref 315),(.type "object")],314,"Propagator",true,[],[(.ref 404)],false,none,false⟩),#[none,none,(some (.str "Propagator" 523)),(some (.str "Propagator" 531)),(some (.builtin "object.__new__")),(some (.bool true))]⟩
noncomputable abbrev o461 : Obj := ⟨(.type "tuple"),none,(.seq #[(.ref 315)] 0),#[]⟩
noncomputable abbrev o462 : Obj := ⟨(.type "builtin_function_or_method"),none,(.fields #[(.builtin "type.__prepare__"),(.type "type")]),#[]⟩
noncomputable abbrev o463 (P : Params) : Obj := ⟨(.type "dict"),none,(.dict #[⟨(kh P "__module__"),(.str "__module__" 597),(.str "fdsolve.cumulative" 578)⟩,⟨(kh P "__qualname__"),(.str "__qualname__" 599),(.str "Disjunctive" 598)⟩,⟨(kh P "__firstlineno__"),(.str "__firstlineno__" 601),(.int 168 600)⟩,⟨(kh P "__init__"),(.str "__init__" 611),(.ref 342)⟩,⟨(kh P "tasks"),(.str "tasks" 617),(.ref 347)⟩,⟨(kh P "order_two"),(.str "order_two" 627),(.ref 354)⟩,⟨(kh P "within"),(.str "within" 639),(.ref 361)⟩,⟨(kh P "reasons_for"),(.str "reasons_for" 651),(.ref 368)⟩,⟨(kh P "fit_stretch"),(.str "fit_stretch" 657),(.ref 373)⟩,⟨(kh P "sweep"),(.str "sweep" 665),(.ref 380)⟩,⟨(kh P "propagate"),(.str "propagate" 673),(.ref 387)⟩,⟨(kh P "check"),(.str "check" 681),(.ref 394)⟩,⟨(kh P "told"),(.str "told" 688),(.ref 401)⟩,⟨(kh P "__static_attributes__"),(.str "__static_attributes__" 690),(.ref 402)⟩,⟨(kh P "__classcell__"),(.str "__classcell__" 691),(.ref 330)⟩] 15),#[]⟩
noncomputable abbrev o464 : Obj := ⟨(.type "cell"),none,(.cell (some (.ref 404))),#[]⟩
noncomputable abbrev o465 : Obj := ⟨(.type "tuple"),none,(.seq #[] 0),#[]⟩
noncomputable abbrev o466 : Obj := ⟨.none,none,(.fields #[(.int 170 0),(.int 4 0),(.ref 341),(.int 174 0),(.int 4 0),(.ref 346),(.int 177 0),(.int 4 0),(.ref 353),(.int 180 0),(.int 4 0),(.ref 360),(.int 187 0),(.int 4 0),(.ref 367),(.int 194 0),(.int 4 0),(.ref 372),(.int 213 0),(.int 4 0),(.ref 379),(.int 216 0),(.int 4 0),(.ref 386),(.int 219 0),(.int 4 0),(.ref 393),(.int 222 0),(.int 4 0),(.ref 400)]),#[]⟩
noncomputable abbrev o467 : Obj := ⟨(.type "code"),none,(.fields #[(.str "Disjunctive" 592),(.str "Disjunctive" 593),(.str "/claim/cut.py" 594),(.int 168 0),(.int 0 0),(.int 0 0),(.int 0 0),(.int 0 0),(.ref 331),(.bool false),(.int 181 0),(.ref 332),.none,.none,.none,.none,(.int 595 0),(.int 168 0),(.str "/claim/cut.py" 596)]),#[]⟩
noncomputable abbrev o468 : Obj := ⟨(.type "frame"),none,.plain,#[(some (.ref 333)),(some (.ref 3)),(some (.ref 329)),none,(some (.str "fdsolve.cumulative" 578)),none,(some (.ref 0))]⟩
noncomputable abbrev o469 : Obj := ⟨(.type "tuple"),none,(.seq #[(.ref 330)] 0),#[]⟩
noncomputable abbrev o470 : Obj := ⟨(.type "tuple"),none,(.seq #[(.str "__class__" 605)] 0),#[]⟩
noncomputable abbrev o471 : Obj := ⟨.none,none,(.fields #[]),#[]⟩
noncomputable abbrev o472 : Obj := ⟨(.type "tuple"),none,(.seq #[(.str "self" 606),(.str "starts" 607),(.str "lasts" 608)] 0),#[]⟩
noncomputable abbrev o473 : Obj := ⟨(.type "tuple"),none,(.seq #[] 0),#[]⟩
noncomputable abbrev o474 : Obj := ⟨.none,none,(fn (ic 21 0) "__init__" "Disjunctive.__init__" 0 [] .none .none .none .none none .none .none 0),#[]⟩
noncomputable abbrev o475 : Obj := ⟨(.type "code"),none,(.fields #[(.str "__init__" 602),(.str "Disjunctive.__init__" 603),(.str "/claim/cut.py" 604),(.int 170 0),(.int 3 0),(.int 0 0),(.int 0 0),(.int 3 0),(.ref 336),(.bool true),(.int 181 0),(.ref 337),.none,(.ref 338),(.ref 339),(.ref 340),(.int 609 0),(.int 170 0),(.str "/claim/cut.py" 610)]),#[]⟩
noncomputable abbrev o476 : Obj := ⟨(.type "function"),none,(fn (ic 21 0) "__init__" "Disjunctive.__init__" 3 [("__class__",330)] .none .none .none (.str "fdsolve.cumulative" 578) none (.ref 341) (.ref 335) 0),#[]⟩
noncomputable abbrev o477 : Obj := ⟨(.type "tuple"),none,(.seq #[] 0),#[]⟩
noncomputable abbrev o478 : Obj := ⟨.none,none,(.fields #[]),#[]⟩
noncomputable abbrev o479 : Obj := ⟨.none,none,(fn (ic 21 1) "tasks" "Disjunctive.tasks" 0 [] .none .none .none .none none .none .none 0),#[]⟩
noncomputable abbrev o480 : Obj := ⟨(.type "code"),none,(.fields #[(.str "tasks" 612),(.str "Disjunctive.tasks" 613),(.str "/claim/cut.py" 614),(.int 174 0),(.int 1 0),(.int 0 0),(.int 0 0),(.int 3 0),(.ref 343),(.bool true),(.int 181 0),(.ref 344),.none,.none,.none,(.ref 345),(.int 615 0),(.int 174 0),(.str "/claim/cut.py" 616)]),#[]⟩
noncomputable abbrev o481 : Obj := ⟨(.type "function"),none,(fn (ic 21 1) "tasks" "Disjunctive.tasks" 3 [] .none .none .none (.str "fdsolve.cumulative" 578) none (.ref 346) .none 0),#[]⟩
noncomputable abbrev o482 : Obj := ⟨(.type "tuple"),none,(.seq #[] 0),#[]⟩
noncomputable abbrev o483 : Obj := ⟨.none,none,(.fields #[]),#[]⟩
noncomputable abbrev o484 : Obj := ⟨(.type "tuple"),none,(.seq #[(.str "self" 621),(.str "store" 622),(.str "a" 623),(.str "b" 624)] 0),#[]⟩
noncomputable abbrev o485 : Obj := ⟨(.type "tuple"),none,(.seq #[] 0),#[]⟩
noncomputable abbrev o486 : Obj := ⟨.none,none,(fn (ic 21 2) "order_two" "Disjunctive.order_two" 0 [] .none .none .none .none none .none .none 0),#[]⟩
noncomputable abbrev o487 : Obj := ⟨(.type "code"),none,(.fields #[(.str "order_two" 618),(.str "Disjunctive.order_two" 619),(.str "/claim/cut.py" 620),(.int 177 0),(.int 4 0),(.int 0 0),(.int 0 0),(.int 3 0),(.ref 348),(.bool true),(.int 181 0),(.ref 349),.none,(.ref 350),(.ref 351),(.ref 352),(.int 625 0),(.int 177 0),(.str "/claim/cut.py" 626)]),#[]⟩
noncomputable abbrev o488 : Obj := ⟨(.type "function"),none,(fn (ic 21 2) "order_two" "Disjunctive.order_two" 3 [] .none .none .none (.str "fdsolve.cumulative" 578) none (.ref 353) .none 0),#[]⟩
noncomputable abbrev o489 : Obj := ⟨(.type "tuple"),none,(.seq #[] 0),#[]⟩
noncomputable abbrev o490 : Obj := ⟨.none,none,(.fields #[]),#[]⟩
noncomputable abbrev o491 : Obj := ⟨(.type "tuple"),none,(.seq #[(.str "self" 631),(.str "store" 632),(.str "begin" 633),(.str "end" 634),(.str "found" 635),(.str "k" 636)] 0),#[]⟩
noncomputable abbrev o492 : Obj := ⟨(.type "tuple"),none,(.seq #[] 0),#[]⟩
noncomputable abbrev o493 : Obj := ⟨.none,none,(fn (ic 21 3) "within" "Disjunctive.within" 0 [] .none .none .none .none none .none .none 0),#[]⟩
noncomputable abbrev o494 : Obj := ⟨(.type "code"),none,(.fields #[(.str "within" 628),(.str "Disjunctive.within" 629),(.str "/claim/cut.py" 630),(.int 180 0),(.int 4 0),(.int 0 0),(.int 0 0),(.int 3 0),(.ref 355),(.bool true),(.int 181 0),(.ref 356),.none,(.ref 357),(.ref 358),(.ref 359),(.int 637 0),(.int 180 0),(.str "/claim/cut.py" 638)]),#[]⟩
noncomputable abbrev o495 : Obj := ⟨(.type "function"),none,(fn (ic 21 3) "within" "Disjunctive.within" 3 [] .none .none .none (.str "fdsolve.cumulative" 578) none (.ref 360) .none 0),#[]⟩
noncomputable abbrev o496 : Obj := ⟨(.type "tuple"),none,(.seq #[] 0),#[]⟩
noncomputable abbrev o497 : Obj := ⟨.none,none,(.fields #[]),#[]⟩
noncomputable abbrev o498 : Obj := ⟨(.type "tuple"),none,(.seq #[(.str "self" 643),(.str "some" 644),(.str "begin" 645),(.str "end" 646),(.str "found" 647),(.str "k" 648)] 0),#[]⟩
noncomputable abbrev o499 : Obj := ⟨(.type "tuple"),none,(.seq #[] 0),#[]⟩
noncomputable abbrev o500 : Obj := ⟨.none,none,(fn (ic 21 4) "reasons_for" "Disjunctive.reasons_for" 0 [] .none .none .none .none none .none .none 0),#[]⟩
noncomputable abbrev o501 : Obj := ⟨(.type "code"),none,(.fields #[(.str "reasons_for" 640),(.str "Disjunctive.reasons_for" 641),(.str "/claim/cut.py" 642),(.int 187 0),(.int 4 0),(.int 0 0),(.int 0 0),(.int 3 0),(.ref 362),(.bool true),(.int 181 0),(.ref 363),.none,(.ref 364),(.ref 365),(.ref 366),(.int 649 0),(.int 187 0),(.str "/claim/cut.py" 650)]),#[]⟩
noncomputable abbrev o502 : Obj := ⟨(.type "function"),none,(fn (ic 21 4) "reasons_for" "Disjunctive.reasons_for" 3 [] .none .none .none (.str "fdsolve.cumulative" 578) none (.ref 367) .none 0),#[]⟩
noncomputable abbrev o503 : Obj := ⟨(.type "tuple"),none,(.seq #[] 0),#[]⟩
noncomputable abbrev o504 : Obj := ⟨.none,none,(.fields #[]),#[]⟩
noncomputable abbrev o505 : Obj := ⟨.none,none,(fn (ic 21 5) "fit_stretch" "Disjunctive.fit_stretch" 0 [] .none .none .none .none none .none .none 0),#[]⟩
noncomputable abbrev o506 : Obj := ⟨(.type "code"),none,(.fields #[(.str "fit_stretch" 652),(.str "Disjunctive.fit_stretch" 653),(.str "/claim/cut.py" 654),(.int 194 0),(.int 4 0),(.int 0 0),(.int 0 0),(.int 3 0),(.ref 369),(.bool true),(.int 181 0),(.ref 370),.none,.none,.none,(.ref 371),(.int 655 0),(.int 194 0),(.str "/claim/cut.py" 656)]),#[]⟩
noncomputable abbrev o507 : Obj := ⟨(.type "function"),none,(fn (ic 21 5) "fit_stretch" "Disjunctive.fit_stretch" 3 [] .none .none .none (.str "fdsolve.cumulative" 578) none (.ref 372) .none 0),#[]⟩
noncomputable abbrev o508 : Obj := ⟨(.type "tuple"),none,(.seq #[] 0),#[]⟩
noncomputable abbrev o509 : Obj := ⟨.none,none,(.fields #[]),#[]⟩
noncomputable abbrev o510 : Obj := ⟨(.type "tuple"),none,(.seq #[(.str "self" 661),(.str "store" 662)] 0),#[]⟩
noncomputable abbrev o511 : Obj := ⟨(.type "tuple"),none,(.seq #[] 0),#[]⟩
noncomputable abbrev o512 : Obj := ⟨.none,none,(fn (ic 21 6) "sweep" "Disjunctive.sweep" 0 [] .none .none .none .none none .none .none 0),#[]⟩
noncomputable abbrev o513 : Obj := ⟨(.type "code"),none,(.fields #[(.str "sweep" 658),(.str "Disjunctive.sweep" 659),(.str "/claim/cut.py" 660),(.int 213 0),(.int 2 0),(.int 0 0),(.int 0 0),(.int 3 0),(.ref 374),(.bool true),(.int 181 0),(.ref 375),.none,(.ref 376),(.ref 377),(.ref 378),(.int 663 0),(.int 213 0),(.str "/claim/cut.py" 664)]),#[]⟩
noncomputable abbrev o514 : Obj := ⟨(.type "function"),none,(fn (ic 21 6) "sweep" "Disjunctive.sweep" 3 [] .none .none .none (.str "fdsolve.cumulative" 578) none (.ref 379) .none 0),#[]⟩
noncomputable abbrev o515 : Obj := ⟨(.type "tuple"),none,(.seq #[] 0),#[]⟩
noncomputable abbrev o516 : Obj := ⟨.none,none,(.fields #[]),#[]⟩
noncomputable abbrev o517 : Obj := ⟨(.type "tuple"),none,(.seq #[(.str "self" 669),(.str "store" 670)] 0),#[]⟩
noncomputable abbrev o518 : Obj := ⟨(.type "tuple"),none,(.seq #[] 0),#[]⟩
noncomputable abbrev o519 : Obj := ⟨.none,none,(fn (ic 21 7) "propagate" "Disjunctive.propagate" 0 [] .none .none .none .none none .none .none 0),#[]⟩
noncomputable abbrev o520 : Obj := ⟨(.type "code"),none,(.fields #[(.str "propagate" 666),(.str "Disjunctive.propagate" 667),(.str "/claim/cut.py" 668),(.int 216 0),(.int 2 0),(.int 0 0),(.int 0 0),(.int 3 0),(.ref 381),(.bool true),(.int 181 0),(.ref 382),.none,(.ref 383),(.ref 384),(.ref 385),(.int 671 0),(.int 216 0),(.str "/claim/cut.py" 672)]),#[]⟩
noncomputable abbrev o521 : Obj := ⟨(.type "function"),none,(fn (ic 21 7) "propagate" "Disjunctive.propagate" 3 [] .none .none .none (.str "fdsolve.cumulative" 578) none (.ref 386) .none 0),#[]⟩
noncomputable abbrev o522 : Obj := ⟨(.type "tuple"),none,(.seq #[] 0),#[]⟩
noncomputable abbrev o523 : Obj := ⟨.none,none,(.fields #[]),#[]⟩
noncomputable abbrev o524 : Obj := ⟨(.type "tuple"),none,(.seq #[(.str "self" 677),(.str "values" 678)] 0),#[]⟩
noncomputable abbrev o525 : Obj := ⟨(.type "tuple"),none,(.seq #[] 0),#[]⟩
noncomputable abbrev o526 : Obj := ⟨.none,none,(fn (ic 21 8) "check" "Disjunctive.check" 0 [] .none .none .none .none none .none .none 0),#[]⟩
noncomputable abbrev o527 : Obj := ⟨(.type "code"),none,(.fields #[(.str "check" 674),(.str "Disjunctive.check" 675),(.str "/claim/cut.py" 676),(.int 219 0),(.int 2 0),(.int 0 0),(.int 0 0),(.int 3 0),(.ref 388),(.bool true),(.int 181 0),(.ref 389),.none,(.ref 390),(.ref 391),(.ref 392),(.int 679 0),(.int 219 0),(.str "/claim/cut.py" 680)]),#[]⟩
noncomputable abbrev o528 : Obj := ⟨(.type "function"),none,(fn (ic 21 8) "check" "Disjunctive.check" 3 [] .none .none .none (.str "fdsolve.cumulative" 578) none (.ref 393) .none 0),#[]⟩
noncomputable abbrev o529 : Obj := ⟨(.type "tuple"),none,(.seq #[] 0),#[]⟩
noncomputable abbrev o530 : Obj := ⟨.none,none,(.fields #[]),#[]⟩
noncomputable abbrev o531 : Obj := ⟨(.type "tuple"),none,(.seq #[(.str "self" 685)] 0),#[]⟩
noncomputable abbrev o532 : Obj := ⟨(.type "tuple"),none,(.seq #[] 0),#[]⟩
noncomputable abbrev o533 : Obj := ⟨.none,none,(fn (ic 21 9) "told" "Disjunctive.told" 0 [] .none .none .none .none none .none .none 0),#[]⟩
noncomputable abbrev o534 : Obj := ⟨(.type "code"),none,(.fields #[(.str "told" 682),(.str "Disjunctive.told" 683),(.str "/claim/cut.py" 684),(.int 222 0),(.int 1 0),(.int 0 0),(.int 0 0),(.int 3 0),(.ref 395),(.bool true),(.int 181 0),(.ref 396),.none,(.ref 397),(.ref 398),(.ref 399),(.int 686 0),(.int 222 0),(.str "/claim/cut.py" 687)]),#[]⟩
noncomputable abbrev o535 : Obj := ⟨(.type "function"),none,(fn (ic 21 9) "told" "Disjunctive.told" 3 [] .none .none .none (.str "fdsolve.cumulative" 578) none (.ref 400) .none 0),#[]⟩
noncomputable abbrev o536 : Obj := ⟨(.type "tuple"),none,(.seq #[(.str "lasts" 689)] 0),#[]⟩
noncomputable abbrev o537 (P : Params) : Obj := ⟨(.type "dict"),none,(.dict #[⟨(kh P "__module__"),(.str "__module__" 597),(.str "fdsolve.cumulative" 578)⟩,⟨(kh P "__firstlineno__"),(.str "__firstlineno__" 601),(.int 168 600)⟩,⟨(kh P "__init__"),(.str "__init__" 611),(.ref 342)⟩,⟨(kh P "tasks"),(.str "tasks" 617),(.ref 347)⟩,⟨(kh P "order_two"),(.str "order_two" 627),(.ref 354)⟩,⟨(kh P "within"),(.str "within" 639),(.ref 361)⟩,⟨(kh P "reasons_for"),(.str "reasons_for" 651),(.ref 368)⟩,⟨(kh P "fit_stretch"),(.str "fit_stretch" 657),(.ref 373)⟩,⟨(kh P "sweep"),(.str "sweep" 665),(.ref 380)⟩,⟨(kh P "propagate"),(.str "propagate" 673),(.ref 387)⟩,⟨(kh P "check"),(.str "check" 681),(.ref 394)⟩,⟨(kh P "told"),(.str "told" 688),(.ref 401)⟩,⟨(kh P "__static_attributes__"),(.str "__static_attributes__" 690),(.ref 402)⟩,⟨(kh P "__doc__"),(.str "__doc__" 692),.none⟩] 3),#[]⟩
noncomputable abbrev o538 : Obj := ⟨(.type "type"),none,(.cls ⟨"Disjunctive",[(.ref 315)],[(.ref 404),(.ref 315),(.type "object")],403,"Disjunctive",true,[],[],false,none,false⟩),#[(some (.ref 327)),none,(some (.str "Disjunctive" 590)),(some (.str "Disjunctive" 598)),(some (.builtin "object.__new__")),(some (.bool true))]⟩
noncomputable abbrev o539 : Obj := ⟨(.type "super"),none,(.fields #[(.ref 404),(.ref 404),(.ref 404)]),#[]⟩
noncomputable abbrev o540 : Obj := ⟨(.type "builtin_function_or_method"),none,(.fields #[(.builtin "object.__init_subclass__"),(.ref 404)]),#[]⟩
noncomputable abbrev o541 (P : Params) : Obj := ⟨(.type "dict"),none,(.dict #[⟨(kh P "__name__"),(.str "__name__" 165),(.str "law_pc0042_01" 695)⟩,⟨(kh P "__doc__"),(.str "__doc__" 166),.none⟩,⟨(kh P "__package__"),(.str "__package__" 167),.none⟩,⟨(kh P "__loader__"),(.str "__loader__" 168),(.builtin "__main__.__loader__#opaque")⟩,⟨(kh P "__spec__"),(.str "__spec__" 169),.none⟩,⟨(kh P "__annotations__"),(.str "__annotations__" 170),(.ref 6)⟩,⟨(kh P "__builtins__"),(.str "__builtins__" 171),(.ref 4)⟩,⟨(kh P "__file__"),(.str "__file__" 173),(.str "/claim/cut.py" 172)⟩,⟨(kh P "__cached__"),(.str "__cached__" 174),.none⟩,⟨(kh P "_wall"),(.str "_wall" 193),(.ref 21)⟩,⟨(kh P "FdError"),(.str "FdError" 233),(.ref 47)⟩,⟨(kh P "least"),(.str "least" 242),(.ref 57)⟩,⟨(kh P "greatest"),(.str "greatest" 249),(.ref 64)⟩,⟨(kh P "next_from"),(.str "next_from" 259),(.ref 71)⟩,⟨(kh P "has"),(.str "has" 267),(.ref 78)⟩,⟨(kh P "has_domains"),(.str "has_domains" 268),(.ref 78)⟩,⟨(kh P "up_to"),(.str "up_to" 274),(.ref 83)⟩,⟨(kh P "from_on"),(.str "from_on" 280),(.ref 88)⟩,⟨(kh P "without"),(.str "without" 288),(.ref 95)⟩,⟨(kh P "meet"),(.str "meet" 301),(.ref 102)⟩,⟨(kh P "negation"),(.str "negation" 311),(.ref 109)⟩,⟨(kh P "struck"),(.str "struck" 321),(.ref 116)⟩,⟨(kh P "said_of"),(.str "said_of" 330),(.ref 123)⟩,⟨(kh P "Store"),(.str "Store" 522),(.ref 273)⟩,⟨(kh P "Propagator"),(.str "Propagator" 577),(.ref 315)⟩,⟨(kh P "as_numbers"),(.str "as_numbers" 589),(.ref 326)⟩,⟨(kh P "Disjunctive"),(.str "Disjunctive" 694),(.ref 404)⟩,⟨(kh P "_law_pull"),(.str "_law_pull" 706),(.ref 413)⟩,⟨(kh P "_law_is"),(.str "_law_is" 715),(.ref 420)⟩,⟨(kh P "_law_rows"),(.str "_law_rows" 721),(.ref 425)⟩,⟨(kh P "_law_due"),(.str "_law_due" 727),(.ref 430)⟩,⟨(kh P "_law_keep"),(.str "_law_keep" 733),(.ref 435)⟩,⟨(kh P "law"),(.str "law" 739),(.ref 440)⟩] 33),#[]⟩
noncomputable abbrev o542 : Obj := ⟨.none,none,(.fields (List.toArray ((.int 1 0)::(.int 0 0)::(.ref 20)::(.int 5 0)::(.int 0 0)::(.ref 28)::(.int 14 0)::(.int 0 0)::(.ref 56)::(.int 16 0)::(.int 0 0)::(.ref 63)::(.int 18 0)::(.int 0 0)::(.ref 70)::(.int 23 0)::(.int 0 0)::(.ref 77)::(.int 26 0)::(.int 0 0)::(.ref 82)::(.int 28 0)::(.int 0 0)::(.ref 87)::(.int 30 0)::(.int 0 0)::(.ref 94)::(.int 32 0)::(.int 0 0)::(.ref 101)::(.int 43 0)::(.int 0 0)::(.ref 108)::(.int 50 0)::(.int 0 0)::(.ref 115)::(.int 57 0)::(.int 0 0)::(.ref 122)::(.int 63 0)::(.int 0 0)::(.ref 129)::(.int 147 0)::(.int 0 0)::(.ref 283)::(.int 163 0)::(.int 0 0)::(.ref 325)::(.int 168 0)::(.int 0 0)::(.ref 333)::(.int 225 0)::(.int 0 0)::(.ref 412)::(.int 229 0)::(.int 0 0)::(.ref 419)::(.int 232 0)::(.int 0 0)::(.ref 424)::(.int 241 0)::(.int 0 0)::(.ref 429)::(.int 256 0)::(.int 0 0)::(.ref 434)::(.int 258 0)::(.int 0 0)::(.ref 439)::[]))),#[]⟩
noncomputable abbrev o543 : Obj := ⟨(.type "tuple"),none,(.seq #[] 0),#[]⟩
noncomputable abbrev o544 : Obj := ⟨.none,none,(.fields #[]),#[]⟩
noncomputable abbrev o545 : Obj := ⟨(.type "tuple"),none,(.seq #[(.str "tape" 700),(.str "many" 701),(.str "cells" 702),(.str "spot" 703)] 0),#[]⟩
noncomputable abbrev o546 : Obj := ⟨(.type "tuple"),none,(.seq #[] 0),#[]⟩
noncomputable abbrev o547 : Obj := ⟨.none,none,(fn (tp 23) "_law_pull" "_law_pull" 0 [] .none .none .none .none none .none .none 0),#[]⟩
noncomputable abbrev o548 : Obj := ⟨(.type "code"),none,(.fields #[(.str "_law_pull" 697),(.str "_law_pull" 698),(.str "/claim/cut.py" 699),(.int 225 0),(.int 2 0),(.int 0 0),(.int 0 0),(.int 3 0),(.ref 407),(.bool true),(.int 181 0),(.ref 408),.none,(.ref 409),(.ref 410),(.ref 411),(.int 704 0),(.int 225 0),(.str "/claim/cut.py" 705)]),#[]⟩
noncomputable abbrev o549 : Obj := ⟨(.type "function"),none,(fn (tp 23) "_law_pull" "_law_pull" 3 [] .none .none .none (.str "law_pc0042_01" 695) none (.ref 412) .none 0),#[]⟩
noncomputable abbrev o550 : Obj := ⟨(.type "tuple"),none,(.seq #[] 0),#[]⟩
noncomputable abbrev o551 : Obj := ⟨.none,none,(.fields #[]),#[]⟩
noncomputable abbrev o552 : Obj := ⟨(.type "tuple"),none,(.seq #[(.str "literal" 710),(.str "v" 711),(.str "k" 712)] 0),#[]⟩
noncomputable abbrev o553 : Obj := ⟨(.type "tuple"),none,(.seq #[] 0),#[]⟩
noncomputable abbrev o554 : Obj := ⟨.none,none,(fn (tp 24) "_law_is" "_law_is" 0 [] .none .none .none .none none .none .none 0),#[]⟩
noncomputable abbrev o555 : Obj := ⟨(.type "code"),none,(.fields #[(.str "_law_is" 707),(.str "_law_is" 708),(.str "/claim/cut.py" 709),(.int 229 0),(.int 2 0),(.int 0 0),(.int 0 0),(.int 3 0),(.ref 414),(.bool true),(.int 181 0),(.ref 415),.none,(.ref 416),(.ref 417),(.ref 418),(.int 713 0),(.int 229 0),(.str "/claim/cut.py" 714)]),#[]⟩
noncomputable abbrev o556 : Obj := ⟨(.type "function"),none,(fn (tp 24) "_law_is" "_law_is" 3 [] .none .none .none (.str "law_pc0042_01" 695) none (.ref 419) .none 0),#[]⟩
noncomputable abbrev o557 : Obj := ⟨(.type "tuple"),none,(.seq #[] 0),#[]⟩
noncomputable abbrev o558 : Obj := ⟨.none,none,(.fields #[]),#[]⟩
noncomputable abbrev o559 : Obj := ⟨.none,none,(fn (tp 25) "_law_rows" "_law_rows" 0 [] .none .none .none .none none .none .none 0),#[]⟩
noncomputable abbrev o560 : Obj := ⟨(.type "code"),none,(.fields #[(.str "_law_rows" 716),(.str "_law_rows" 717),(.str "/claim/cut.py" 718),(.int 232 0),(.int 2 0),(.int 0 0),(.int 0 0),(.int 3 0),(.ref 421),(.bool true),(.int 181 0),(.ref 422),.none,.none,.none,(.ref 423),(.int 719 0),(.int 232 0),(.str "/claim/cut.py" 720)]),#[]⟩
noncomputable abbrev o561 : Obj := ⟨(.type "function"),none,(fn (tp 25) "_law_rows" "_law_rows" 3 [] .none .none .none (.str "law_pc0042_01" 695) none (.ref 424) .none 0),#[]⟩
noncomputable abbrev o562 : Obj := ⟨(.type "tuple"),none,(.seq #[] 0),#[]⟩
noncomputable abbrev o563 : Obj := ⟨.none,none,(.fields #[]),#[]⟩
noncomputable abbrev o564 : Obj := ⟨.none,none,(fn (tp 26) "_law_due" "_law_due" 0 [] .none .none .none .none none .none .none 0),#[]⟩
noncomputable abbrev o565 : Obj := ⟨(.type "code"),none,(.fields #[(.str "_law_due" 722),(.str "_law_due" 723),(.str "/claim/cut.py" 724),(.int 241 0),(.int 4 0),(.int 0 0),(.int 0 0),(.int 3 0),(.ref 426),(.bool true),(.int 181 0),(.ref 427),.none,.none,.none,(.ref 428),(.int 725 0),(.int 241 0),(.str "/claim/cut.py" 726)]),#[]⟩
noncomputable abbrev o566 : Obj := ⟨(.type "function"),none,(fn (tp 26) "_law_due" "_law_due" 3 [] .none .none .none (.str "law_pc0042_01" 695) none (.ref 429) .none 0),#[]⟩
noncomputable abbrev o567 : Obj := ⟨(.type "tuple"),none,(.seq #[] 0),#[]⟩
noncomputable abbrev o568 : Obj := ⟨.none,none,(.fields #[]),#[]⟩
noncomputable abbrev o569 : Obj := ⟨.none,none,(fn (tp 27) "_law_keep" "_law_keep" 0 [] .none .none .none .none none .none .none 0),#[]⟩
noncomputable abbrev o570 : Obj := ⟨(.type "code"),none,(.fields #[(.str "_law_keep" 728),(.str "_law_keep" 729),(.str "/claim/cut.py" 730),(.int 256 0),(.int 2 0),(.int 0 0),(.int 0 0),(.int 3 0),(.ref 431),(.bool true),(.int 181 0),(.ref 432),.none,.none,.none,(.ref 433),(.int 731 0),(.int 256 0),(.str "/claim/cut.py" 732)]),#[]⟩
noncomputable abbrev o571 : Obj := ⟨(.type "function"),none,(fn (tp 27) "_law_keep" "_law_keep" 3 [] .none .none .none (.str "law_pc0042_01" 695) none (.ref 434) .none 0),#[]⟩
noncomputable abbrev o572 : Obj := ⟨(.type "tuple"),none,(.seq #[] 0),#[]⟩
noncomputable abbrev o573 : Obj := ⟨.none,none,(.fields #[]),#[]⟩
noncomputable abbrev o574 : Obj := ⟨.none,none,(fn (tp 28) "law" "law" 0 [] .none .none .none .none none .none .none 0),#[]⟩
noncomputable abbrev o575 : Obj := ⟨(.type "code"),none,(.fields #[(.str "law" 734),(.str "law" 735),(.str "/claim/cut.py" 736),(.int 258 0),(.int 1 0),(.int 0 0),(.int 0 0),(.int 3 0),(.ref 436),(.bool true),(.int 181 0),(.ref 437),.none,.none,.none,(.ref 438),(.int 737 0),(.int 258 0),(.str "/claim/cut.py" 738)]),#[]⟩
noncomputable abbrev o576 : Obj := ⟨(.type "function"),none,(fn (tp 28) "law" "law" 3 [] .none .none .none (.str "law_pc0042_01" 695) none (.ref 439) .none 0),#[]⟩
noncomputable def h46 (P : Params) : Heap := ⟨⟨[(boot_o_0 P),(boot_o_1 P),(boot_o_2 P),(boot_o_3 P),(boot_o_4 P),(boot_o_5 P),(boot_o_6 P),(boot_o_7 P),(boot_o_8 P),(boot_o_9 P),(boot_o_10 P),o43,o44,o45,o46]⟩,⟨[],[],[],0,[],[],false,#[],[],0,false,false,false,0,[2000,10,10],false,0,true,[],[],0,false⟩⟩
noncomputable def t47 (P : Params) : BT := (.node (boot_o_0 P) (.node (boot_o_1 P) (.node (boot_o_3 P) (.node (boot_o_7 P) .nil .nil) (.node o43 .nil .nil)) (.node (boot_o_5 P) (.node (boot_o_9 P) .nil .nil) (.node o45 .nil .nil))) (.node (boot_o_2 P) (.node (boot_o_4 P) (.node (boot_o_8 P) .nil .nil) (.node o44 .nil .nil)) (.node (boot_o_6 P) (.node (boot_o_10 P) .nil .nil) (.node o46 .nil .nil))))
noncomputable def t101 (P : Params) : BT := (.node (boot_o_0 P) (.node (boot_o_1 P) (.node (o50 P) (.node (boot_o_7 P) (.node o52 (.node o68 (.node o100 .nil .nil) .nil) (.node o84 .nil .nil)) (.node o60 (.node o76 .nil .nil) (.node o92 .nil .nil))) (.node o43 (.node o56 (.node o72 .nil .nil) (.node o88 .nil .nil)) (.node o64 (.node o80 .nil .nil) (.node o96 .nil .nil)))) (.node (boot_o_5 P) (.node (boot_o_9 P) (.node o54 (.node o70 .nil .nil) (.node o86 .nil .nil)) (.node o62 (.node o78 .nil .nil) (.node o94 .nil .nil))) (.node o45 (.node o58 (.node o74 .nil .nil) (.node o90 .nil .nil)) (.node o66 (.node o82 .nil .nil) (.node o98 .nil .nil))))) (.node (o49 P) (.node (boot_o_4 P) (.node (boot_o_8 P) (.node o53 (.node o69 (.node o101 .nil .nil) .nil) (.node o85 .nil .nil)) (.node (o61 P) (.node o77 .nil .nil) (.node o93 .nil .nil))) (.node o51 (.node o57 (.node o73 .nil .nil) (.node o89 .nil .nil)) (.node o65 (.node o81 .nil .nil) (.node o97 .nil .nil)))) (.node (boot_o_6 P) (.node (boot_o_10 P) (.node o55 (.node o71 .nil .nil) (.node o87 .nil .nil)) (.node o63 (.node o79 .nil .nil) (.node o95 .nil .nil))) (.node o46 (.node o59 (.node o75 .nil .nil) (.node o91 .nil .nil)) (.node o67 (.node (o83 P) .nil .nil) (.node o99 .nil .nil))))))
noncomputable def t162 (P : Params) : BT := (.node (boot_o_0 P) (.node (boot_o_1 P) (.node (o102 P) (.node (boot_o_7 P) (.node o52 (.node o68 (.node o100 .nil .nil) (.node o134 .nil .nil)) (.node o84 (.node o118 .nil .nil) (.node o150 .nil .nil))) (.node o60 (.node o76 (.node o110 .nil .nil) (.node o142 .nil .nil)) (.node o92 (.node o126 .nil .nil) (.node o158 .nil .nil)))) (.node o43 (.node o56 (.node o72 (.node o106 .nil .nil) (.node o138 .nil .nil)) (.node o88 (.node o122 .nil .nil) (.node o154 .nil .nil))) (.node o64 (.node o80 (.node o114 .nil .nil) (.node o146 .nil .nil)) (.node o96 (.node o130 .nil .nil) (.node o162 .nil .nil))))) (.node (boot_o_5 P) (.node (boot_o_9 P) (.node o54 (.node o70 (.node o104 .nil .nil) (.node o136 .nil .nil)) (.node o86 (.node o120 .nil .nil) (.node o152 .nil .nil))) (.node o62 (.node o78 (.node o112 .nil .nil) (.node o144 .nil .nil)) (.node o94 (.node o128 .nil .nil) (.node o160 .nil .nil)))) (.node o45 (.node o58 (.node o74 (.node o108 .nil .nil) (.node o140 .nil .nil)) (.node o90 (.node o124 .nil .nil) (.node o156 .nil .nil))) (.node o66 (.node o82 (.node o116 .nil .nil) (.node o148 .nil .nil)) (.node o98 (.node o132 .nil .nil) .nil))))) (.node (o49 P) (.node (boot_o_4 P) (.node (boot_o_8 P) (.node o53 (.node o69 (.node o101 .nil .nil) (.node o135 .nil .nil)) (.node o85 (.node o119 .nil .nil) (.node o151 .nil .nil))) (.node (o61 P) (.node o77 (.node o111 .nil .nil) (.node o143 .nil .nil)) (.node o93 (.node o127 .nil .nil) (.node o159 .nil .nil)))) (.node o103 (.node o57 (.node o73 (.node o107 .nil .nil) (.node o139 .nil .nil)) (.node o89 (.node o123 .nil .nil) (.node o155 .nil .nil))) (.node o65 (.node o81 (.node o115 .nil .nil) (.node o147 .nil .nil)) (.node o97 (.node o131 .nil .nil) .nil)))) (.node (boot_o_6 P) (.node (boot_o_10 P) (.node o55 (.node o71 (.node o105 .nil .nil) (.node o137 .nil .nil)) (.node o87 (.node o121 .nil .nil) (.node o153 .nil .nil))) (.node o63 (.node o79 (.node o113 .nil .nil) (.node o145 .nil .nil)) (.node o95 (.node o129 .nil .nil) (.node o161 .nil .nil)))) (.node o46 (.node o59 (.node o75 (.node o109 .nil .nil) (.node o141 .nil .nil)) (.node o91 (.node o125 .nil .nil) (.node o157 .nil .nil))) (.node o67 (.node (o83 P) (.node o117 .nil .nil) (.node o149 .nil .nil)) (.node o99 (.node o133 .nil .nil) .nil))))))
noncomputable def t318 (P : Params) : BT := (.node (boot_o_0 P) (.node (boot_o_1 P) (.node (o163 P) (.node (boot_o_7 P) (.node o52 (.node o68 (.node o100 (.node o168 (.node o296 .nil .nil) .nil) (.node o232 .nil .nil)) (.node o134 (.node o200 .nil .nil) (.node o264 .nil .nil))) (.node o84 (.node o118 (.node o184 (.node o312 .nil .nil) .nil) (.node o248 .nil .nil)) (.node o150 (.node o216 .nil .nil) (.node o280 .nil .nil)))) (.node o60 (.node o76 (.node o110 (.node o176 (.node o304 .nil .nil) .nil) (.node o240 .nil .nil)) (.node o142 (.node o208 .nil .nil) (.node o272 .nil .nil))) (.node o92 (.node o126 (.node o192 .nil .nil) (.node o256 .nil .nil)) (.node o158 (.node o224 .nil .nil) (.node o288 .nil .nil))))) (.node o43 (.node o56 (.node o72 (.node o106 (.node o172 (.node o300 .nil .nil) .nil) (.node o236 .nil .nil)) (.node o138 (.node o204 .nil .nil) (.node o268 .nil .nil))) (.node o88 (.node o122 (.node o188 (.node o316 .nil .nil) .nil) (.node o252 .nil .nil)) (.node o154 (.node o220 .nil .nil) (.node o284 .nil .nil)))) (.node o64 (.node o80 (.node o114 (.node o180 (.node o308 .nil .nil) .nil) (.node o244 .nil .nil)) (.node o146 (.node o212 .nil .nil) (.node o276 .nil .nil))) (.node o96 (.node o130 (.node o196 .nil .nil) (.node o260 .nil .nil)) (.node o162 (.node o228 .nil .nil) (.node o292 .nil .nil)))))) (.node (boot_o_5 P) (.node (boot_o_9 P) (.node o54 (.node o70 (.node o104 (.node o170 (.node o298 .nil .nil) .nil) (.node o234 .nil .nil)) (.node o136 (.node o202 .nil .nil) (.node o266 .nil .nil))) (.node o86 (.node o120 (.node o186 (.node o314 .nil .nil) .nil) (.node o250 .nil .nil)) (.node o152 (.node o218 .nil .nil) (.node o282 .nil .nil)))) (.node o62 (.node o78 (.node o112 (.node o178 (.node o306 .nil .nil) .nil) (.node o242 .nil .nil)) (.node o144 (.node o210 .nil .nil) (.node o274 .nil .nil))) (.node o94 (.node o128 (.node o194 .nil .nil) (.node o258 .nil .nil)) (.node o160 (.node o226 .nil .nil) (.node o290 .nil .nil))))) (.node o45 (.node o58 (.node o74 (.node o108 (.node o174 (.node o302 .nil .nil) .nil) (.node o238 .nil .nil)) (.node o140 (.node o206 .nil .nil) (.node o270 .nil .nil))) (.node o90 (.node o124 (.node o190 (.node o318 .nil .nil) .nil) (.node o254 .nil .nil)) (.node o156 (.node o222 .nil .nil) (.node o286 .nil .nil)))) (.node o66 (.node o82 (.node o116 (.node o182 (.node o310 .nil .nil) .nil) (.node o246 .nil .nil)) (.node o148 (.node o214 .nil .nil) (.node o278 .nil .nil))) (.node o98 (.node o132 (.node o198 .nil .nil) (.node o262 .nil .nil)) (.node o166 (.node o230 .nil .nil) (.node o294 .nil .nil))))))) (.node (o49 P) (.node (boot_o_4 P) (.node (boot_o_8 P) (.node o53 (.node o69 (.node o101 (.node o169 (.node o297 .nil .nil) .nil) (.node o233 .nil .nil)) (.node o135 (.node o201 .nil .nil) (.node o265 .nil .nil))) (.node o85 (.node o119 (.node o185 (.node (o313 P) .nil .nil) .nil) (.node o249 .nil .nil)) (.node o151 (.node o217 .nil .nil) (.node o281 .nil .nil)))) (.node (o61 P) (.node o77 (.node o111 (.node o177 (.node o305 .nil .nil) .nil) (.node o241 .nil .nil)) (.node o143 (.node o209 .nil .nil) (.node o273 .nil .nil))) (.node o93 (.node o127 (.node o193 .nil .nil) (.node o257 .nil .nil)) (.node o159 (.node o225 .nil .nil) (.node o289 .nil .nil))))) (.node o164 (.node o57 (.node o73 (.node o107 (.node o173 (.node o301 .nil .nil) .nil) (.node o237 .nil .nil)) (.node o139 (.node o205 .nil .nil) (.node o269 .nil .nil))) (.node o89 (.node o123 (.node o189 (.node o317 .nil .nil) .nil) (.node o253 .nil .nil)) (.node o155 (.node o221 .nil .nil) (.node o285 .nil .nil)))) (.node o65 (.node o81 (.node o115 (.node o181 (.node o309 .nil .nil) .nil) (.node o245 .nil .nil)) (.node o147 (.node o213 .nil .nil) (.node o277 .nil .nil))) (.node o97 (.node o131 (.node o197 .nil .nil) (.node o261 .nil .nil)) (.node o165 (.node o229 .nil .nil) (.node o293 .nil .nil)))))) (.node (boot_o_6 P) (.node (boot_o_10 P) (.node o55 (.node o71 (.node o105 (.node o171 (.node o299 .nil .nil) .nil) (.node o235 .nil .nil)) (.node o137 (.node o203 .nil .nil) (.node o267 .nil .nil))) (.node o87 (.node o121 (.node o187 (.node o315 .nil .nil) .nil) (.node o251 .nil .nil)) (.node o153 (.node o219 .nil .nil) (.node o283 .nil .nil)))) (.node o63 (.node o79 (.node o113 (.node o179 (.node o307 .nil .nil) .nil) (.node o243 .nil .nil)) (.node o145 (.node o211 .nil .nil) (.node o275 .nil .nil))) (.node o95 (.node o129 (.node o195 .nil .nil) (.node o259 .nil .nil)) (.node o161 (.node o227 .nil .nil) (.node o291 .nil .nil))))) (.node o46 (.node o59 (.node o75 (.node o109 (.node o175 (.node o303 .nil .nil) .nil) (.node o239 .nil .nil)) (.node o141 (.node o207 .nil .nil) (.node o271 .nil .nil))) (.node o91 (.node o125 (.node o191 .nil .nil) (.node o255 .nil .nil)) (.node o157 (.node o223 .nil .nil) (.node o287 .nil .nil)))) (.node o67 (.node (o83 P) (.node o117 (.node o183 (.node o311 .nil .nil) .nil) (.node o247 .nil .nil)) (.node o149 (.node o215 .nil .nil) (.node o279 .nil .nil))) (.node o99 (.node o133 (.node o199 .nil .nil) (.node o263 .nil .nil)) (.node (o167 P) (.node o231 .nil .nil) (.node o295 .nil .nil))))))))
noncomputable def t403 (P : Params) : BT := (.node (boot_o_0 P) (.node (boot_o_1 P) (.node (o102 P) (.node (boot_o_7 P) (.node o52 (.node o68 (.node o100 (.node o323 .nil .nil) (.node o387 .nil .nil)) (.node o134 (.node o355 .nil .nil) .nil)) (.node o84 (.node o118 (.node o339 .nil .nil) (.node o403 .nil .nil)) (.node o150 (.node o371 .nil .nil) .nil))) (.node o60 (.node o76 (.node o110 (.node o331 .nil .nil) (.node o395 .nil .nil)) (.node o142 (.node o363 .nil .nil) .nil)) (.node o92 (.node o126 (.node o347 .nil .nil) .nil) (.node o158 (.node o379 .nil .nil) .nil)))) (.node o43 (.node o56 (.node o72 (.node o106 (.node o327 .nil .nil) (.node o391 .nil .nil)) (.node o138 (.node o359 .nil .nil) .nil)) (.node o88 (.node o122 (.node o343 .nil .nil) .nil) (.node o154 (.node o375 .nil .nil) .nil))) (.node o64 (.node o80 (.node o114 (.node o335 .nil .nil) (.node o399 .nil .nil)) (.node o146 (.node o367 .nil .nil) .nil)) (.node o96 (.node o130 (.node o351 .nil .nil) .nil) (.node o162 (.node o383 .nil .nil) .nil))))) (.node (boot_o_5 P) (.node (boot_o_9 P) (.node o54 (.node o70 (.node o104 (.node o325 .nil .nil) (.node o389 .nil .nil)) (.node o136 (.node o357 .nil .nil) .nil)) (.node o86 (.node o120 (.node o341 .nil .nil) .nil) (.node o152 (.node o373 .nil .nil) .nil))) (.node o62 (.node o78 (.node o112 (.node o333 .nil .nil) (.node o397 .nil .nil)) (.node o144 (.node o365 .nil .nil) .nil)) (.node o94 (.node o128 (.node o349 .nil .nil) .nil) (.node o160 (.node o381 .nil .nil) .nil)))) (.node o45 (.node o58 (.node o74 (.node o108 (.node o329 .nil .nil) (.node o393 .nil .nil)) (.node o140 (.node o361 .nil .nil) .nil)) (.node o90 (.node o124 (.node o345 .nil .nil) .nil) (.node o156 (.node o377 .nil .nil) .nil))) (.node o66 (.node o82 (.node o116 (.node o337 .nil .nil) (.node o401 .nil .nil)) (.node o148 (.node o369 .nil .nil) .nil)) (.node o98 (.node o132 (.node o353 .nil .nil) .nil) (.node o321 (.node o385 .nil .nil) .nil)))))) (.node (o49 P) (.node (boot_o_4 P) (.node (boot_o_8 P) (.node o53 (.node o69 (.node o101 (.node o324 .nil .nil) (.node o388 .nil .nil)) (.node o135 (.node o356 .nil .nil) .nil)) (.node o85 (.node o119 (.node o340 .nil .nil) .nil) (.node o151 (.node o372 .nil .nil) .nil))) (.node (o61 P) (.node o77 (.node o111 (.node o332 .nil .nil) (.node o396 .nil .nil)) (.node o143 (.node o364 .nil .nil) .nil)) (.node o93 (.node o127 (.node o348 .nil .nil) .nil) (.node o159 (.node o380 .nil .nil) .nil)))) (.node o319 (.node o57 (.node o73 (.node o107 (.node o328 .nil .nil) (.node o392 .nil .nil)) (.node o139 (.node o360 .nil .nil) .nil)) (.node o89 (.node o123 (.node o344 .nil .nil) .nil) (.node o155 (.node o376 .nil .nil) .nil))) (.node o65 (.node o81 (.node o115 (.node o336 .nil .nil) (.node o400 .nil .nil)) (.node o147 (.node o368 .nil .nil) .nil)) (.node o97 (.node o131 (.node o352 .nil .nil) .nil) (.node o320 (.node o384 .nil .nil) .nil))))) (.node (boot_o_6 P) (.node (boot_o_10 P) (.node o55 (.node o71 (.node o105 (.node o326 .nil .nil) (.node o390 .nil .nil)) (.node o137 (.node o358 .nil .nil) .nil)) (.node o87 (.node o121 (.node o342 .nil .nil) .nil) (.node o153 (.node o374 .nil .nil) .nil))) (.node o63 (.node o79 (.node o113 (.node o334 .nil .nil) (.node o398 .nil .nil)) (.node o145 (.node o366 .nil .nil) .nil)) (.node o95 (.node o129 (.node o350 .nil .nil) .nil) (.node o161 (.node o382 .nil .nil) .nil)))) (.node o46 (.node o59 (.node o75 (.node o109 (.node o330 .nil .nil) (.node o394 .nil .nil)) (.node o141 (.node o362 .nil .nil) .nil)) (.node o91 (.node o125 (.node o346 .nil .nil) .nil) (.node o157 (.node o378 .nil .nil) .nil))) (.node o67 (.node (o83 P) (.node o117 (.node o338 .nil .nil) (.node o402 .nil .nil)) (.node o149 (.node o370 .nil .nil) .nil)) (.node o99 (.node o133 (.node o354 .nil .nil) .nil) (.node (o322 P) (.node o386 .nil .nil) .nil)))))))
noncomputable def t457 (P : Params) : BT := (.node (boot_o_0 P) (.node (boot_o_1 P) (.node (o407 P) (.node (boot_o_7 P) (.node o52 (.node o68 (.node o100 (.node o168 (.node o296 .nil .nil) .nil) (.node o232 (.node o450 .nil .nil) .nil)) (.node o134 (.node o200 (.node o418 .nil .nil) .nil) (.node o264 .nil .nil))) (.node o84 (.node o118 (.node o184 (.node o312 .nil .nil) .nil) (.node o248 .nil .nil)) (.node o150 (.node o216 (.node o434 .nil .nil) .nil) (.node o280 .nil .nil)))) (.node o60 (.node o76 (.node o110 (.node o176 (.node o304 .nil .nil) .nil) (.node o240 .nil .nil)) (.node o142 (.node o208 (.node o426 .nil .nil) .nil) (.node o272 .nil .nil))) (.node o92 (.node o126 (.node o192 (.node o410 .nil .nil) .nil) (.node o256 .nil .nil)) (.node o158 (.node o224 (.node o442 .nil .nil) .nil) (.node o288 .nil .nil))))) (.node o43 (.node o56 (.node o72 (.node o106 (.node o172 (.node o300 .nil .nil) .nil) (.node o236 (.node o454 .nil .nil) .nil)) (.node o138 (.node o204 (.node o422 .nil .nil) .nil) (.node o268 .nil .nil))) (.node o88 (.node o122 (.node o188 (.node o316 .nil .nil) .nil) (.node o252 .nil .nil)) (.node o154 (.node o220 (.node o438 .nil .nil) .nil) (.node o284 .nil .nil)))) (.node o64 (.node o80 (.node o114 (.node o180 (.node o308 .nil .nil) .nil) (.node o244 .nil .nil)) (.node o146 (.node o212 (.node o430 .nil .nil) .nil) (.node o276 .nil .nil))) (.node o96 (.node o130 (.node o196 (.node o414 .nil .nil) .nil) (.node o260 .nil .nil)) (.node o162 (.node o228 (.node o446 .nil .nil) .nil) (.node o292 .nil .nil)))))) (.node (boot_o_5 P) (.node (boot_o_9 P) (.node o54 (.node o70 (.node o104 (.node o170 (.node o298 .nil .nil) .nil) (.node o234 (.node o452 .nil .nil) .nil)) (.node o136 (.node o202 (.node o420 .nil .nil) .nil) (.node o266 .nil .nil))) (.node o86 (.node o120 (.node o186 (.node o314 .nil .nil) .nil) (.node o250 .nil .nil)) (.node o152 (.node o218 (.node o436 .nil .nil) .nil) (.node o282 .nil .nil)))) (.node o62 (.node o78 (.node o112 (.node o178 (.node o306 .nil .nil) .nil) (.node o242 .nil .nil)) (.node o144 (.node o210 (.node o428 .nil .nil) .nil) (.node o274 .nil .nil))) (.node o94 (.node o128 (.node o194 (.node o412 .nil .nil) .nil) (.node o258 .nil .nil)) (.node o160 (.node o226 (.node o444 .nil .nil) .nil) (.node o290 .nil .nil))))) (.node o45 (.node o58 (.node o74 (.node o108 (.node o174 (.node o302 .nil .nil) .nil) (.node o238 (.node o456 .nil .nil) .nil)) (.node o140 (.node o206 (.node o424 .nil .nil) .nil) (.node o270 .nil .nil))) (.node o90 (.node o124 (.node o190 (.node o318 .nil .nil) .nil) (.node o254 .nil .nil)) (.node o156 (.node o222 (.node o440 .nil .nil) .nil) (.node o286 .nil .nil)))) (.node o66 (.node o82 (.node o116 (.node o182 (.node o310 .nil .nil) .nil) (.node o246 .nil .nil)) (.node o148 (.node o214 (.node o432 .nil .nil) .nil) (.node o278 .nil .nil))) (.node o98 (.node o132 (.node o198 (.node o416 .nil .nil) .nil) (.node o262 .nil .nil)) (.node o166 (.node o230 (.node o448 .nil .nil) .nil) (.node o294 .nil .nil))))))) (.node (o49 P) (.node (boot_o_4 P) (.node (boot_o_8 P) (.node o53 (.node o69 (.node o101 (.node o169 (.node o297 .nil .nil) .nil) (.node o233 (.node o451 .nil .nil) .nil)) (.node o135 (.node o201 (.node o419 .nil .nil) .nil) (.node o265 .nil .nil))) (.node o85 (.node o119 (.node o185 (.node (o313 P) .nil .nil) .nil) (.node o249 .nil .nil)) (.node o151 (.node o217 (.node o435 .nil .nil) .nil) (.node o281 .nil .nil)))) (.node (o61 P) (.node o77 (.node o111 (.node o177 (.node o305 .nil .nil) .nil) (.node o241 .nil .nil)) (.node o143 (.node o209 (.node o427 .nil .nil) .nil) (.node o273 .nil .nil))) (.node o93 (.node o127 (.node o193 (.node (o411 P) .nil .nil) .nil) (.node o257 .nil .nil)) (.node o159 (.node o225 (.node o443 .nil .nil) .nil) (.node o289 .nil .nil))))) (.node o408 (.node o57 (.node o73 (.node o107 (.node o173 (.node o301 .nil .nil) .nil) (.node o237 (.node o455 .nil .nil) .nil)) (.node o139 (.node o205 (.node o423 .nil .nil) .nil) (.node o269 .nil .nil))) (.node o89 (.node o123 (.node o189 (.node o317 .nil .nil) .nil) (.node o253 .nil .nil)) (.node o155 (.node o221 (.node o439 .nil .nil) .nil) (.node o285 .nil .nil)))) (.node o65 (.node o81 (.node o115 (.node o181 (.node o309 .nil .nil) .nil) (.node o245 .nil .nil)) (.node o147 (.node o213 (.node o431 .nil .nil) .nil) (.node o277 .nil .nil))) (.node o97 (.node o131 (.node o197 (.node o415 .nil .nil) .nil) (.node o261 .nil .nil)) (.node o165 (.node o229 (.node o447 .nil .nil) .nil) (.node o293 .nil .nil)))))) (.node (boot_o_6 P) (.node (boot_o_10 P) (.node o55 (.node o71 (.node o105 (.node o171 (.node o299 .nil .nil) .nil) (.node o235 (.node o453 .nil .nil) .nil)) (.node o137 (.node o203 (.node o421 .nil .nil) .nil) (.node o267 .nil .nil))) (.node o87 (.node o121 (.node o187 (.node o315 .nil .nil) .nil) (.node o251 .nil .nil)) (.node o153 (.node o219 (.node o437 .nil .nil) .nil) (.node o283 .nil .nil)))) (.node o63 (.node o79 (.node o113 (.node o179 (.node o307 .nil .nil) .nil) (.node o243 .nil .nil)) (.node o145 (.node o211 (.node o429 .nil .nil) .nil) (.node o275 .nil .nil))) (.node o95 (.node o129 (.node o195 (.node o413 .nil .nil) .nil) (.node o259 .nil .nil)) (.node o161 (.node o227 (.node (o445 P) .nil .nil) .nil) (.node o291 .nil .nil))))) (.node o46 (.node o59 (.node o75 (.node o109 (.node o175 (.node o303 .nil .nil) .nil) (.node o239 (.node o457 .nil .nil) .nil)) (.node o141 (.node o207 (.node o425 .nil .nil) .nil) (.node o271 .nil .nil))) (.node o91 (.node o125 (.node o191 (.node o409 .nil .nil) .nil) (.node o255 .nil .nil)) (.node o157 (.node o223 (.node o441 .nil .nil) .nil) (.node o287 .nil .nil)))) (.node o67 (.node (o83 P) (.node o117 (.node o183 (.node o311 .nil .nil) .nil) (.node o247 .nil .nil)) (.node o149 (.node o215 (.node o433 .nil .nil) .nil) (.node o279 .nil .nil))) (.node o99 (.node o133 (.node o199 (.node o417 .nil .nil) .nil) (.node o263 .nil .nil)) (.node (o167 P) (.node o231 (.node o449 .nil .nil) .nil) (.node o295 .nil .nil))))))))
noncomputable def t540 (P : Params) : BT := (.node (boot_o_0 P) (.node (boot_o_1 P) (.node (o458 P) (.node (boot_o_7 P) (.node o52 (.node o68 (.node o100 (.node o168 (.node o296 .nil .nil) (.node o517 .nil .nil)) (.node o232 (.node o450 .nil .nil) .nil)) (.node o134 (.node o200 (.node o418 .nil .nil) .nil) (.node o264 (.node o485 .nil .nil) .nil))) (.node o84 (.node o118 (.node o184 (.node o312 .nil .nil) (.node o533 .nil .nil)) (.node o248 (.node o469 .nil .nil) .nil)) (.node o150 (.node o216 (.node o434 .nil .nil) .nil) (.node o280 (.node o501 .nil .nil) .nil)))) (.node o60 (.node o76 (.node o110 (.node o176 (.node o304 .nil .nil) (.node o525 .nil .nil)) (.node o240 (.node o461 .nil .nil) .nil)) (.node o142 (.node o208 (.node o426 .nil .nil) .nil) (.node o272 (.node o493 .nil .nil) .nil))) (.node o92 (.node o126 (.node o192 (.node o410 .nil .nil) .nil) (.node o256 (.node o477 .nil .nil) .nil)) (.node o158 (.node o224 (.node o442 .nil .nil) .nil) (.node o288 (.node o509 .nil .nil) .nil))))) (.node o43 (.node o56 (.node o72 (.node o106 (.node o172 (.node o300 .nil .nil) (.node o521 .nil .nil)) (.node o236 (.node o454 .nil .nil) .nil)) (.node o138 (.node o204 (.node o422 .nil .nil) .nil) (.node o268 (.node o489 .nil .nil) .nil))) (.node o88 (.node o122 (.node o188 (.node o316 .nil .nil) (.node (o537 P) .nil .nil)) (.node o252 (.node o473 .nil .nil) .nil)) (.node o154 (.node o220 (.node o438 .nil .nil) .nil) (.node o284 (.node o505 .nil .nil) .nil)))) (.node o64 (.node o80 (.node o114 (.node o180 (.node o308 .nil .nil) (.node o529 .nil .nil)) (.node o244 (.node o465 .nil .nil) .nil)) (.node o146 (.node o212 (.node o430 .nil .nil) .nil) (.node o276 (.node o497 .nil .nil) .nil))) (.node o96 (.node o130 (.node o196 (.node o414 .nil .nil) .nil) (.node o260 (.node o481 .nil .nil) .nil)) (.node o162 (.node o228 (.node o460 .nil .nil) .nil) (.node o292 (.node o513 .nil .nil) .nil)))))) (.node (boot_o_5 P) (.node (boot_o_9 P) (.node o54 (.node o70 (.node o104 (.node o170 (.node o298 .nil .nil) (.node o519 .nil .nil)) (.node o234 (.node o452 .nil .nil) .nil)) (.node o136 (.node o202 (.node o420 .nil .nil) .nil) (.node o266 (.node o487 .nil .nil) .nil))) (.node o86 (.node o120 (.node o186 (.node o314 .nil .nil) (.node o535 .nil .nil)) (.node o250 (.node o471 .nil .nil) .nil)) (.node o152 (.node o218 (.node o436 .nil .nil) .nil) (.node o282 (.node o503 .nil .nil) .nil)))) (.node o62 (.node o78 (.node o112 (.node o178 (.node o306 .nil .nil) (.node o527 .nil .nil)) (.node o242 (.node (o463 P) .nil .nil) .nil)) (.node o144 (.node o210 (.node o428 .nil .nil) .nil) (.node o274 (.node o495 .nil .nil) .nil))) (.node o94 (.node o128 (.node o194 (.node o412 .nil .nil) .nil) (.node o258 (.node o479 .nil .nil) .nil)) (.node o160 (.node o226 (.node o444 .nil .nil) .nil) (.node o290 (.node o511 .nil .nil) .nil))))) (.node o45 (.node o58 (.node o74 (.node o108 (.node o174 (.node o302 .nil .nil) (.node o523 .nil .nil)) (.node o238 (.node o456 .nil .nil) .nil)) (.node o140 (.node o206 (.node o424 .nil .nil) .nil) (.node o270 (.node o491 .nil .nil) .nil))) (.node o90 (.node o124 (.node o190 (.node o318 .nil .nil) (.node o539 .nil .nil)) (.node o254 (.node o475 .nil .nil) .nil)) (.node o156 (.node o222 (.node o440 .nil .nil) .nil) (.node o286 (.node o507 .nil .nil) .nil)))) (.node o66 (.node o82 (.node o116 (.node o182 (.node o310 .nil .nil) (.node o531 .nil .nil)) (.node o246 (.node o467 .nil .nil) .nil)) (.node o148 (.node o214 (.node o432 .nil .nil) .nil) (.node o278 (.node o499 .nil .nil) .nil))) (.node o98 (.node o132 (.node o198 (.node o416 .nil .nil) .nil) (.node o262 (.node o483 .nil .nil) .nil)) (.node o166 (.node o230 (.node o448 .nil .nil) .nil) (.node o294 (.node o515 .nil .nil) .nil))))))) (.node (o49 P) (.node (boot_o_4 P) (.node (boot_o_8 P) (.node o53 (.node o69 (.node o101 (.node o169 (.node o297 .nil .nil) (.node o518 .nil .nil)) (.node o233 (.node o451 .nil .nil) .nil)) (.node o135 (.node o201 (.node o419 .nil .nil) .nil) (.node o265 (.node o486 .nil .nil) .nil))) (.node o85 (.node o119 (.node o185 (.node (o313 P) .nil .nil) (.node o534 .nil .nil)) (.node o249 (.node o470 .nil .nil) .nil)) (.node o151 (.node o217 (.node o435 .nil .nil) .nil) (.node o281 (.node o502 .nil .nil) .nil)))) (.node (o61 P) (.node o77 (.node o111 (.node o177 (.node o305 .nil .nil) (.node o526 .nil .nil)) (.node o241 (.node o462 .nil .nil) .nil)) (.node o143 (.node o209 (.node o427 .nil .nil) .nil) (.node o273 (.node o494 .nil .nil) .nil))) (.node o93 (.node o127 (.node o193 (.node (o411 P) .nil .nil) .nil) (.node o257 (.node o478 .nil .nil) .nil)) (.node o159 (.node o225 (.node o443 .nil .nil) .nil) (.node o289 (.node o510 .nil .nil) .nil))))) (.node o459 (.node o57 (.node o73 (.node o107 (.node o173 (.node o301 .nil .nil) (.node o522 .nil .nil)) (.node o237 (.node o455 .nil .nil) .nil)) (.node o139 (.node o205 (.node o423 .nil .nil) .nil) (.node o269 (.node o490 .nil .nil) .nil))) (.node o89 (.node o123 (.node o189 (.node o317 .nil .nil) (.node o538 .nil .nil)) (.node o253 (.node o474 .nil .nil) .nil)) (.node o155 (.node o221 (.node o439 .nil .nil) .nil) (.node o285 (.node o506 .nil .nil) .nil)))) (.node o65 (.node o81 (.node o115 (.node o181 (.node o309 .nil .nil) (.node o530 .nil .nil)) (.node o245 (.node o466 .nil .nil) .nil)) (.node o147 (.node o213 (.node o431 .nil .nil) .nil) (.node o277 (.node o498 .nil .nil) .nil))) (.node o97 (.node o131 (.node o197 (.node o415 .nil .nil) .nil) (.node o261 (.node o482 .nil .nil) .nil)) (.node o165 (.node o229 (.node o447 .nil .nil) .nil) (.node o293 (.node o514 .nil .nil) .nil)))))) (.node (boot_o_6 P) (.node (boot_o_10 P) (.node o55 (.node o71 (.node o105 (.node o171 (.node o299 .nil .nil) (.node o520 .nil .nil)) (.node o235 (.node o453 .nil .nil) .nil)) (.node o137 (.node o203 (.node o421 .nil .nil) .nil) (.node o267 (.node o488 .nil .nil) .nil))) (.node o87 (.node o121 (.node o187 (.node o315 .nil .nil) (.node o536 .nil .nil)) (.node o251 (.node o472 .nil .nil) .nil)) (.node o153 (.node o219 (.node o437 .nil .nil) .nil) (.node o283 (.node o504 .nil .nil) .nil)))) (.node o63 (.node o79 (.node o113 (.node o179 (.node o307 .nil .nil) (.node o528 .nil .nil)) (.node o243 (.node o464 .nil .nil) .nil)) (.node o145 (.node o211 (.node o429 .nil .nil) .nil) (.node o275 (.node o496 .nil .nil) .nil))) (.node o95 (.node o129 (.node o195 (.node o413 .nil .nil) .nil) (.node o259 (.node o480 .nil .nil) .nil)) (.node o161 (.node o227 (.node (o445 P) .nil .nil) .nil) (.node o291 (.node o512 .nil .nil) .nil))))) (.node o46 (.node o59 (.node o75 (.node o109 (.node o175 (.node o303 .nil .nil) (.node o524 .nil .nil)) (.node o239 (.node o457 .nil .nil) .nil)) (.node o141 (.node o207 (.node o425 .nil .nil) .nil) (.node o271 (.node o492 .nil .nil) .nil))) (.node o91 (.node o125 (.node o191 (.node o409 .nil .nil) (.node o540 .nil .nil)) (.node o255 (.node o476 .nil .nil) .nil)) (.node o157 (.node o223 (.node o441 .nil .nil) .nil) (.node o287 (.node o508 .nil .nil) .nil)))) (.node o67 (.node (o83 P) (.node o117 (.node o183 (.node o311 .nil .nil) (.node o532 .nil .nil)) (.node o247 (.node o468 .nil .nil) .nil)) (.node o149 (.node o215 (.node o433 .nil .nil) .nil) (.node o279 (.node o500 .nil .nil) .nil))) (.node o99 (.node o133 (.node o199 (.node o417 .nil .nil) .nil) (.node o263 (.node o484 .nil .nil) .nil)) (.node (o167 P) (.node o231 (.node o449 .nil .nil) .nil) (.node o295 (.node o516 .nil .nil) .nil))))))))
noncomputable def t576 (P : Params) : BT := (.node (boot_o_0 P) (.node (boot_o_1 P) (.node (o541 P) (.node (boot_o_7 P) (.node o52 (.node o68 (.node o100 (.node o168 (.node o296 .nil .nil) (.node o517 .nil .nil)) (.node o232 (.node o450 .nil .nil) .nil)) (.node o134 (.node o200 (.node o418 .nil .nil) (.node o551 .nil .nil)) (.node o264 (.node o485 .nil .nil) .nil))) (.node o84 (.node o118 (.node o184 (.node o312 .nil .nil) (.node o533 .nil .nil)) (.node o248 (.node o469 .nil .nil) .nil)) (.node o150 (.node o216 (.node o434 .nil .nil) (.node o567 .nil .nil)) (.node o280 (.node o501 .nil .nil) .nil)))) (.node o60 (.node o76 (.node o110 (.node o176 (.node o304 .nil .nil) (.node o525 .nil .nil)) (.node o240 (.node o461 .nil .nil) .nil)) (.node o142 (.node o208 (.node o426 .nil .nil) (.node o559 .nil .nil)) (.node o272 (.node o493 .nil .nil) .nil))) (.node o92 (.node o126 (.node o192 (.node o410 .nil .nil) (.node o543 .nil .nil)) (.node o256 (.node o477 .nil .nil) .nil)) (.node o158 (.node o224 (.node o442 .nil .nil) (.node o575 .nil .nil)) (.node o288 (.node o509 .nil .nil) .nil))))) (.node o43 (.node o56 (.node o72 (.node o106 (.node o172 (.node o300 .nil .nil) (.node o521 .nil .nil)) (.node o236 (.node o454 .nil .nil) .nil)) (.node o138 (.node o204 (.node o422 .nil .nil) (.node o555 .nil .nil)) (.node o268 (.node o489 .nil .nil) .nil))) (.node o88 (.node o122 (.node o188 (.node o316 .nil .nil) (.node (o537 P) .nil .nil)) (.node o252 (.node o473 .nil .nil) .nil)) (.node o154 (.node o220 (.node o438 .nil .nil) (.node o571 .nil .nil)) (.node o284 (.node o505 .nil .nil) .nil)))) (.node o64 (.node o80 (.node o114 (.node o180 (.node o308 .nil .nil) (.node o529 .nil .nil)) (.node o244 (.node o465 .nil .nil) .nil)) (.node o146 (.node o212 (.node o430 .nil .nil) (.node o563 .nil .nil)) (.node o276 (.node o497 .nil .nil) .nil))) (.node o96 (.node o130 (.node o196 (.node o414 .nil .nil) (.node o547 .nil .nil)) (.node o260 (.node o481 .nil .nil) .nil)) (.node o162 (.node o228 (.node o460 .nil .nil) .nil) (.node o292 (.node o513 .nil .nil) .nil)))))) (.node (boot_o_5 P) (.node (boot_o_9 P) (.node o54 (.node o70 (.node o104 (.node o170 (.node o298 .nil .nil) (.node o519 .nil .nil)) (.node o234 (.node o452 .nil .nil) .nil)) (.node o136 (.node o202 (.node o420 .nil .nil) (.node o553 .nil .nil)) (.node o266 (.node o487 .nil .nil) .nil))) (.node o86 (.node o120 (.node o186 (.node o314 .nil .nil) (.node o535 .nil .nil)) (.node o250 (.node o471 .nil .nil) .nil)) (.node o152 (.node o218 (.node o436 .nil .nil) (.node o569 .nil .nil)) (.node o282 (.node o503 .nil .nil) .nil)))) (.node o62 (.node o78 (.node o112 (.node o178 (.node o306 .nil .nil) (.node o527 .nil .nil)) (.node o242 (.node (o463 P) .nil .nil) .nil)) (.node o144 (.node o210 (.node o428 .nil .nil) (.node o561 .nil .nil)) (.node o274 (.node o495 .nil .nil) .nil))) (.node o94 (.node o128 (.node o194 (.node o412 .nil .nil) (.node o545 .nil .nil)) (.node o258 (.node o479 .nil .nil) .nil)) (.node o160 (.node o226 (.node o444 .nil .nil) .nil) (.node o290 (.node o511 .nil .nil) .nil))))) (.node o45 (.node o58 (.node o74 (.node o108 (.node o174 (.node o302 .nil .nil) (.node o523 .nil .nil)) (.node o238 (.node o456 .nil .nil) .nil)) (.node o140 (.node o206 (.node o424 .nil .nil) (.node o557 .nil .nil)) (.node o270 (.node o491 .nil .nil) .nil))) (.node o90 (.node o124 (.node o190 (.node o318 .nil .nil) (.node o539 .nil .nil)) (.node o254 (.node o475 .nil .nil) .nil)) (.node o156 (.node o222 (.node o440 .nil .nil) (.node o573 .nil .nil)) (.node o286 (.node o507 .nil .nil) .nil)))) (.node o66 (.node o82 (.node o116 (.node o182 (.node o310 .nil .nil) (.node o531 .nil .nil)) (.node o246 (.node o467 .nil .nil) .nil)) (.node o148 (.node o214 (.node o432 .nil .nil) (.node o565 .nil .nil)) (.node o278 (.node o499 .nil .nil) .nil))) (.node o98 (.node o132 (.node o198 (.node o416 .nil .nil) (.node o549 .nil .nil)) (.node o262 (.node o483 .nil .nil) .nil)) (.node o166 (.node o230 (.node o448 .nil .nil) .nil) (.node o294 (.node o515 .nil .nil) .nil))))))) (.node (o49 P) (.node (boot_o_4 P) (.node (boot_o_8 P) (.node o53 (.node o69 (.node o101 (.node o169 (.node o297 .nil .nil) (.node o518 .nil .nil)) (.node o233 (.node o451 .nil .nil) .nil)) (.node o135 (.node o201 (.node o419 .nil .nil) (.node o552 .nil .nil)) (.node o265 (.node o486 .nil .nil) .nil))) (.node o85 (.node o119 (.node o185 (.node (o313 P) .nil .nil) (.node o534 .nil .nil)) (.node o249 (.node o470 .nil .nil) .nil)) (.node o151 (.node o217 (.node o435 .nil .nil) (.node o568 .nil .nil)) (.node o281 (.node o502 .nil .nil) .nil)))) (.node (o61 P) (.node o77 (.node o111 (.node o177 (.node o305 .nil .nil) (.node o526 .nil .nil)) (.node o241 (.node o462 .nil .nil) .nil)) (.node o143 (.node o209 (.node o427 .nil .nil) (.node o560 .nil .nil)) (.node o273 (.node o494 .nil .nil) .nil))) (.node o93 (.node o127 (.node o193 (.node (o411 P) .nil .nil) (.node o544 .nil .nil)) (.node o257 (.node o478 .nil .nil) .nil)) (.node o159 (.node o225 (.node o443 .nil .nil) (.node o576 .nil .nil)) (.node o289 (.node o510 .nil .nil) .nil))))) (.node o542 (.node o57 (.node o73 (.node o107 (.node o173 (.node o301 .nil .nil) (.node o522 .nil .nil)) (.node o237 (.node o455 .nil .nil) .nil)) (.node o139 (.node o205 (.node o423 .nil .nil) (.node o556 .nil .nil)) (.node o269 (.node o490 .nil .nil) .nil))) (.node o89 (.node o123 (.node o189 (.node o317 .nil .nil) (.node o538 .nil .nil)) (.node o253 (.node o474 .nil .nil) .nil)) (.node o155 (.node o221 (.node o439 .nil .nil) (.node o572 .nil .nil)) (.node o285 (.node o506 .nil .nil) .nil)))) (.node o65 (.node o81 (.node o115 (.node o181 (.node o309 .nil .nil) (.node o530 .nil .nil)) (.node o245 (.node o466 .nil .nil) .nil)) (.node o147 (.node o213 (.node o431 .nil .nil) (.node o564 .nil .nil)) (.node o277 (.node o498 .nil .nil) .nil))) (.node o97 (.node o131 (.node o197 (.node o415 .nil .nil) (.node o548 .nil .nil)) (.node o261 (.node o482 .nil .nil) .nil)) (.node o165 (.node o229 (.node o447 .nil .nil) .nil) (.node o293 (.node o514 .nil .nil) .nil)))))) (.node (boot_o_6 P) (.node (boot_o_10 P) (.node o55 (.node o71 (.node o105 (.node o171 (.node o299 .nil .nil) (.node o520 .nil .nil)) (.node o235 (.node o453 .nil .nil) .nil)) (.node o137 (.node o203 (.node o421 .nil .nil) (.node o554 .nil .nil)) (.node o267 (.node o488 .nil .nil) .nil))) (.node o87 (.node o121 (.node o187 (.node o315 .nil .nil) (.node o536 .nil .nil)) (.node o251 (.node o472 .nil .nil) .nil)) (.node o153 (.node o219 (.node o437 .nil .nil) (.node o570 .nil .nil)) (.node o283 (.node o504 .nil .nil) .nil)))) (.node o63 (.node o79 (.node o113 (.node o179 (.node o307 .nil .nil) (.node o528 .nil .nil)) (.node o243 (.node o464 .nil .nil) .nil)) (.node o145 (.node o211 (.node o429 .nil .nil) (.node o562 .nil .nil)) (.node o275 (.node o496 .nil .nil) .nil))) (.node o95 (.node o129 (.node o195 (.node o413 .nil .nil) (.node o546 .nil .nil)) (.node o259 (.node o480 .nil .nil) .nil)) (.node o161 (.node o227 (.node (o445 P) .nil .nil) .nil) (.node o291 (.node o512 .nil .nil) .nil))))) (.node o46 (.node o59 (.node o75 (.node o109 (.node o175 (.node o303 .nil .nil) (.node o524 .nil .nil)) (.node o239 (.node o457 .nil .nil) .nil)) (.node o141 (.node o207 (.node o425 .nil .nil) (.node o558 .nil .nil)) (.node o271 (.node o492 .nil .nil) .nil))) (.node o91 (.node o125 (.node o191 (.node o409 .nil .nil) (.node o540 .nil .nil)) (.node o255 (.node o476 .nil .nil) .nil)) (.node o157 (.node o223 (.node o441 .nil .nil) (.node o574 .nil .nil)) (.node o287 (.node o508 .nil .nil) .nil)))) (.node o67 (.node (o83 P) (.node o117 (.node o183 (.node o311 .nil .nil) (.node o532 .nil .nil)) (.node o247 (.node o468 .nil .nil) .nil)) (.node o149 (.node o215 (.node o433 .nil .nil) (.node o566 .nil .nil)) (.node o279 (.node o500 .nil .nil) .nil))) (.node o99 (.node o133 (.node o199 (.node o417 .nil .nil) (.node o550 .nil .nil)) (.node o263 (.node o484 .nil .nil) .nil)) (.node (o167 P) (.node o231 (.node o449 .nil .nil) .nil) (.node o295 (.node o516 .nil .nil) .nil))))))))
noncomputable def h577 (P : Params) : Heap := ⟨⟨((boot_o_0 P)::(boot_o_1 P)::(o49 P)::(o541 P)::(boot_o_4 P)::(boot_o_5 P)::(boot_o_6 P)::(boot_o_7 P)::(boot_o_8 P)::(boot_o_9 P)::(boot_o_10 P)::o43::o542::o45::o46::o52::o53::o54::o55::o56::o57::o58::o59::o60::(o61 P)::o62::o63::o64::o65::o66::o67::o68::o69::o70::o71::o72::o73::o74::o75::o76::o77::o78::o79::o80::o81::o82::(o83 P)::o84::o85::o86::o87::o88::o89::o90::o91::o92::o93::o94::o95::o96::o97::o98::o99::o100::o101::o104::o105::o106::o107::o108::o109::o110::o111::o112::o113::o114::o115::o116::o117::o118::o119::o120::o121::o122::o123::o124::o125::o126::o127::o128::o129::o130::o131::o132::o133::o134::o135::o136::o137::o138::o139::o140::o141::o142::o143::o144::o145::o146::o147::o148::o149::o150::o151::o152::o153::o154::o155::o156::o157::o158::o159::o160::o161::o162::o165::o166::(o167 P)::o168::o169::o170::o171::o172::o173::o174::o175::o176::o177::o178::o179::o180::o181::o182::o183::o184::o185::o186::o187::o188::o189::o190::o191::o192::o193::o194::o195::o196::o197::o198::o199::o200::o201::o202::o203::o204::o205::o206::o207::o208::o209::o210::o211::o212::o213::o214::o215::o216::o217::o218::o219::o220::o221::o222::o223::o224::o225::o226::o227::o228::o229::o230::o231::o232::o233::o234::o235::o236::o237::o238::o239::o240::o241::o242::o243::o244::o245::o246::o247::o248::o249::o250::o251::o252::o253::o254::o255::o256::o257::o258::o259::o260::o261::o262::o263::o264::o265::o266::o267::o268::o269::o270::o271::o272::o273::o274::o275::o276::o277::o278::o279::o280::o281::o282::o283::o284::o285::o286::o287::o288::o289::o290::o291::o292::o293::o294::o295::o296::o297::o298::o299::o300::o301::o302::o303::o304::o305::o306::o307::o308::o309::o310::o311::o312::(o313 P)::o314::o315::o316::o317::o318::o409::o410::(o411 P)::o412::o413::o414::o415::o416::o417::o418::o419::o420::o421::o422::o423::o424::o425::o426::o427::o428::o429::o430::o431::o432::o433::o434::o435::o436::o437::o438::o439::o440::o441::o442::o443::o444::(o445 P)::o460::o447::o448::o449::o450::o451::o452::o453::o454::o455::o456::o457::o461::o462::(o463 P)::o464::o465::o466::o467::o468::o469::o470::o471::o472::o473::o474::o475::o476::o477::o478::o479::o480::o481::o482::o483::o484::o485::o486::o487::o488::o489::o490::o491::o492::o493::o494::o495::o496::o497::o498::o499::o500::o501::o502::o503::o504::o505::o506::o507::o508::o509::o510::o511::o512::o513::o514::o515::o516::o517::o518::o519::o520::o521::o522::o523::o524::o525::o526::o527::o528::o529::o530::o531::o532::o533::o534::o535::o536::(o537 P)::o538::o539::o540::o543::o544::o545::o546::o547::o548::o549::o550::o551::o552::o553::o554::o555::o556::o557::o558::o559::o560::o561::o562::o563::o564::o565::o566::o567::o568::o569::o570::o571::o572::o573::o574::o575::o576::[])⟩,⟨[],[],[],0,[],[],false,#[],[],0,false,false,false,0,[2000,10,10],false,0,true,[],[],0,false⟩⟩
noncomputable def env0 : Env := { scope := pg.main.scope, locals := mainNs, globals := mainNs, cells := [], code := .ref 13, frame := some 14 }
noncomputable def bd : List Stmt := behindTheImports pg
noncomputable def b1 : List Stmt := bd.take 6
noncomputable def b2 : List Stmt := (bd.drop 6).take 11
noncomputable def b3 : List Stmt := (bd.drop 17).take 1
noncomputable def b4 : List Stmt := (bd.drop 18).take 3
noncomputable def b5 : List Stmt := (bd.drop 21).take 1
noncomputable def b6 : List Stmt := (bd.drop 22).take 7
theorem bsplit : behindTheImports pg = b1 ++ (b2 ++ (b3 ++ (b4 ++ (b5 ++ (b6 ++ []))))) := by kernel_rfl
noncomputable abbrev tq : Frame := topFrame ⟨0, 0, 0, 0⟩
noncomputable abbrev cd0 : Code := .body (behindTheImports pg) env0
noncomputable abbrev St (t : BT) (n k : Nat) (os : OsState) : SharedT := { tree := t, n := n, life := {}, gens := ⟨[]⟩, drawn := {}, toks := k, os := os }
noncomputable abbrev Fs (w : World) (os : OsState) : Shared := { heap := h577 w.params, gens := ⟨[]⟩, drawn := {}, toks := 740, os := os }
theorem r1 (w : World) (os : OsState) : segRunT treeTable pg w 11 (some (.ref 6)) 1 381 (St (t47 w.params) 15 187 os) (piecesOf b1 env0 cd0 ⟨0, 0, 0, 0⟩ [tq]) = some (.next, St (t101 w.params) 65 250 os, cd0, ⟨16, 0, 17, 19⟩) := by
  rw [Fast.te10110043849684766642, Fast.te14364793385576792824]; kernel_rfl
theorem r2 (w : World) (os : OsState) : segRunT treeTable pg w 11 (some (.ref 6)) 1 294 (St (t101 w.params) 65 250 os) (piecesOf b2 env0 cd0 ⟨16, 0, 17, 19⟩ [tq]) = some (.next, St (t162 w.params) 124 333 os, cd0, ⟨62, 0, 62, 8⟩) := by
  rw [Fast.te10110043849684766642, Fast.te14364793385576792824]; kernel_rfl
theorem r3 (w : World) (os : OsState) : segRunT treeTable pg w 11 (some (.ref 6)) 1 840 (St (t162 w.params) 124 333 os) (piecesOf b3 env0 cd0 ⟨62, 0, 62, 8⟩ [tq]) = some (.next, St (t318 w.params) 278 523 os, cd0, ⟨63, 0, 146, 16⟩) := by
  rw [Fast.te10110043849684766642, Fast.te14364793385576792824]; kernel_rfl
theorem r4 (w : World) (os : OsState) : segRunT treeTable pg w 11 (some (.ref 6)) 1 362 (St (t318 w.params) 278 523 os) (piecesOf b4 env0 cd0 ⟨63, 0, 146, 16⟩ [tq]) = some (.next, St (t457 w.params) 327 590 os, cd0, ⟨163, 0, 167, 16⟩) := by
  rw [Fast.te10110043849684766642, Fast.te14364793385576792824]; kernel_rfl
theorem r5 (w : World) (os : OsState) : segRunT treeTable pg w 11 (some (.ref 6)) 1 552 (St (t457 w.params) 327 590 os) (piecesOf b5 env0 cd0 ⟨163, 0, 167, 16⟩ [tq]) = some (.next, St (t540 w.params) 407 695 os, cd0, ⟨168, 0, 223, 54⟩) := by
  rw [Fast.te10110043849684766642, Fast.te14364793385576792824]; kernel_rfl
theorem r6 (w : World) (os : OsState) : segRunT treeTable pg w 11 (some (.ref 6)) 1 177 (St (t540 w.params) 407 695 os) (piecesOf b6 env0 cd0 ⟨168, 0, 223, 54⟩ [tq]) = some (.next, St (t576 w.params) 441 740 os, cd0, ⟨258, 0, 287, 40⟩) := by
  rw [Fast.te10110043849684766642, Fast.te14364793385576792824]; kernel_rfl
theorem r7 (w : World) (os : OsState) : topRun treeTable pg w 11 (some (.ref 6)) 2 (St (t576 w.params) 441 740 os).abs ⟨doneF .next, cd0, ⟨258, 0, 287, 40⟩, [tq]⟩ = some (Fs w os) := by
  rw [Fast.te14082659384304107361, Fast.te14364793385576792824]; kernel_rfl
theorem ra (w : World) (os : OsState) : topGo treeTable pg w 11 (some (.ref 6)) 12 ⟨boot_heap w.params, ⟨[]⟩, boot_drawn, boot_toks, os⟩ (topStub pg) = some (⟨h46 w.params, ⟨[]⟩, {}, 187, os⟩, ⟨denote treeTable cd0, cd0, ⟨0, 0, 0, 0⟩, [tq]⟩) := by
  rw [Fast.te15667345088766844465, Fast.te14364793385576792824, Fast.te11892475500146522536]; kernel_rfl
theorem rb (w : World) (os : OsState) : segRun treeTable pg w 11 (some (.ref 6)) 1 1 ⟨h46 w.params, ⟨[]⟩, {}, 187, os⟩ (blockOf (behindTheImports pg) env0 cd0 ⟨0, 0, 0, 0⟩ [tq]) = some (.next, (St (t47 w.params) 15 187 os).abs, cd0, ⟨0, 0, 0, 0⟩) := by
  rw [Fast.te14374325043358763698, Fast.te14364793385576792824]; kernel_rfl
theorem chain (w : World) (os : OsState) (b : List Stmt) (hb : b = b1 ++ (b2 ++ (b3 ++ (b4 ++ (b5 ++ (b6 ++ [])))))) :
    topRun treeTable pg w 11 (some (.ref 6)) (381 + (294 + (840 + (362 + (552 + (177 + 2)))))) (St (t47 w.params) 15 187 os).abs (restOf b env0 cd0 ⟨0, 0, 0, 0⟩ [tq]) = some (Fs w os) := by
  subst hb
  exact piece_app (segRun_of (r1 w os)) (piece_app (segRun_of (r2 w os)) (piece_app (segRun_of (r3 w os)) (piece_app (segRun_of (r4 w os)) (piece_app (segRun_of (r5 w os)) (piece_app (segRun_of (r6 w os)) (piece_nil (r7 w os)))))))
theorem ran (w : World) (os : OsState) : topRun treeTable pg w 11 (some (.ref 6)) (12 + (1 + (381 + (294 + (840 + (362 + (552 + (177 + 2)))))))) ⟨boot_heap w.params, ⟨[]⟩, boot_drawn, boot_toks, os⟩ (topStub pg) = some (Fs w os) :=
  go_top (ra w os) (piece_block (rb w os) (chain w os _ bsplit))
noncomputable def sel : List Stmt → List Stmt
  | [c0, _, c2, _, c4, c5, c6, c7, c8, c9, c10, c11, c12, c13, c14, c15, _, c17, c18, _, c20, c21, _, c23, c24, c25, c26, c27, c28] => [c0, c2, c4, c5, c6, c7, c8, c9, c10, c11, c12, c13, c14, c15, c17, c18, c20, c21, c23, c24, c25, c26, c27, c28]
  | _ => []
noncomputable def vw : Program := { pg with main := { pg.main with body := sel pg.main.body } }
noncomputable abbrev Ls : List Str := [Str.ofString "has_domains"]
noncomputable abbrev Xs : Shared → Bool := fun s => xlAt vw [] s && recOk (RowW.records PySem.Challenge.rw_pc0042_01.row.toRowW) s
theorem sized (w : World) : ((boot_heap w.params).isNs mainGlobals && (⟨[]⟩ : Array GenState).size == 0, (boot_heap w.params).objs.size, (boot_heap w.params).nsMap mainGlobals "__annotations__") = (true, 11, some (.ref 6)) := by
  rw [Fast.te8920871248978507458]; kernel_rfl
theorem v1 (w : World) (os : OsState) : (openSeen vw Ls [] Xs true (Fs w os)).1 = (openGood vw Ls).1 := by
  dsimp only [openSeen, openGood]
  rw [Fast.te5160383126252970620, Fast.te3399658132070893891, Fast.te5991557255702980513]; kernel_rfl
theorem v2 (w : World) (os : OsState) : (openSeen vw Ls [] Xs true (Fs w os)).2.1 = (openGood vw Ls).2.1 := by
  dsimp only [openSeen, openGood]
  kernel_rfl
theorem v3 (w : World) (os : OsState) : (openSeen vw Ls [] Xs true (Fs w os)).2.2.1 = (openGood vw Ls).2.2.1 := by
  dsimp only [openSeen, openGood]
  rw [Fast.te10880121769531294198, Fast.te821141287760084731, Fast.te3399658132070893891, Fast.te7409074990110511671, Fast.te13664370479719496447, Fast.te14722251495701143533, Fast.te10994771534591457954]; kernel_rfl
theorem v4 (w : World) (os : OsState) : (openSeen vw Ls [] Xs true (Fs w os)).2.2.2.1 = (openGood vw Ls).2.2.2.1 := by
  dsimp only [openSeen, openGood]
  rw [Fast.te479339242167458305]; kernel_rfl
theorem v5 (w : World) (os : OsState) : (openSeen vw Ls [] Xs true (Fs w os)).2.2.2.2.1 = (openGood vw Ls).2.2.2.2.1 := by
  dsimp only [openSeen, openGood]
  rw [Fast.te16090120013241838585, Fast.te3247288618530077131]; kernel_rfl
theorem v6 (w : World) (os : OsState) : (openSeen vw Ls [] Xs true (Fs w os)).2.2.2.2.2.1 = (openGood vw Ls).2.2.2.2.2.1 := by
  dsimp only [openSeen, openGood]
  rw [Fast.te2386780881361962483, Fast.te821141287760084731]; kernel_rfl
theorem v7 (w : World) (os : OsState) : (openSeen vw Ls [] Xs true (Fs w os)).2.2.2.2.2.2.1 = (openGood vw Ls).2.2.2.2.2.2.1 := by
  dsimp only [openSeen, openGood]
  rw [Fast.te11698064438423848299]; kernel_rfl
theorem v8 (w : World) (os : OsState) : (openSeen vw Ls [] Xs true (Fs w os)).2.2.2.2.2.2.2.1 = (openGood vw Ls).2.2.2.2.2.2.2.1 := by
  dsimp only [openSeen, openGood]
  rw [Fast.te7317090234206586261]; kernel_rfl
theorem v9 (w : World) (os : OsState) : (openSeen vw Ls [] Xs true (Fs w os)).2.2.2.2.2.2.2.2 = (openGood vw Ls).2.2.2.2.2.2.2.2 := by
  dsimp only [openSeen, openGood]
  rw [Fast.te7369524293546568484]; kernel_rfl
theorem left {α : Type} {Yf : Shared → α} {Ya : World → α} (hY : ∀ w os, Yf (Fs w os) = Ya w) : LeftO pg vw Ls Xs Yf Ya 5326 :=
  LeftO.of_pieces (boot_open (by kernel_rfl) (by decide) (fun s => by kernel_rfl)) sized ran (by decide) fun w => funext fun os => by
    refine Prod.ext ?_ (Prod.ext ?_ (hY w os))
    · show (staticsOk _ (boot_heap w.params) (h577 w.params) && namesBound pg (h577 w.params) && gensDone (Fs w os) && laidKept (boot_heap w.params) (h577 w.params)) = true
      rw [Fast.te5923862056798008813]; kernel_rfl
    · show openSeen vw Ls _ Xs true (Fs w os) = openGood vw Ls
      refine Eq.trans (congrArg (fun I => openSeen vw Ls I Xs true (Fs w os)) (?_ : _ = [])) ?_
      · rw [Fast.te5923862056798008813]; kernel_rfl
      · exact Prod.ext (v1 w os) (Prod.ext (v2 w os) (Prod.ext (v3 w os) (Prod.ext (v4 w os) (Prod.ext (v5 w os) (Prod.ext (v6 w os) (Prod.ext (v7 w os) (Prod.ext (v8 w os) (v9 w os))))))))
theorem said : PySem.Challenge.rw_pc0042_01.wellSaid = true := by
  unfold OpenLaw.wellSaid OpenRow.wellSaid OpenRow.partSaid looksOpen
  repeat' with_reducible refine Bool.and_eq_true_iff.mpr ⟨?_, ?_⟩
  all_goals as_aux_lemma => ((try rw [Fast.te11788848310118352699]); (try rw [Fast.te9807087744658564304]); (try rw [Fast.te12862048085361865435]); (try rw [Fast.te8377067652309620493]); (try rw [R.allR_eq]); (try rw [Fast.te18344453789297297638]); (try rw [Fast.te3471404346716756564]); (try rw [Fast.sDec_eq]); (try rw [Fast.te14412699480532031325]); (try rw [Fast.te8326940854005059898]); (try rw [Fast.te5923862056798008813]); (try rw [Fast.te17691160309236699985]); (try rw [R.filterR_eq]); (try rw [Fast.te13343964577679436407]); (try rw [Fast.te17119622794617984870]); (try rw [Fast.te17868728402115742887]); (try rw [Fast.te9706382859710513879]); (try rw [S.strDecS_eq]); (try rw [Fast.te2357444279172408678]); (try rw [R.mapR_eq]); (try rw [Fast.te4857012375875476094]); (try rw [Fast.named_eq]); (try rw [Fast.te13582783067957832011]); (try rw [Fast.te5318747976498570220]); (try rw [Fast.te4579403493507170074]); (try rw [R.anyR_eq]); (try rw [Fast.te4274047373036748609]); (try rw [Fast.te12749700546528644094]); (try rw [Fast.te10501279942588096481]); (try rw [Fast.te8179353310426384613]); (try rw [Fast.te797321630700447069]); (try rw [Fast.te9572597257264208301]); (try rw [Fast.te9558739934217749035]); (try rw [Fast.te16286561074155671207]); (try rw [Fast.te6984425678791042302]); (try rw [Fast.te17095254045102204799]); (try rw [Fast.te12879404354523853263]); (try rw [Fast.te482687673346738481]); (try rw [Fast.te10792542408131684335]); (try rw [Fast.te7723801398212525404]); first | done | kernel_rfl)
end
end Hd
local macro_rules | `(tactic| o_law) => `(tactic| refine holds_law Hd.said fun said => ?_)
local macro_rules | `(tactic| o_head $H) => `(tactic| refine holds_open (q := Hd.vw) (loose := [PySem.Str.ofString "has_domains"]) (Xt := fun s => xlAt Hd.vw [] s && recOk (RowW.records PySem.Challenge.rw_pc0042_01.row.toRowW) s) (XP := XL Hd.vw []) (Yf := Hook.obs $H) (Ya := Hook.val $H) (YP := Hook.says $H) (N := 5326)
    (Hd.left (fun w os => by kernel_rfl)) (Hook.of $H) (Hook.keeps $H) (fun s e => xl_of s (Bool.and_eq_true_iff.mp e).1) XL.keeps (by rfl) (by rfl) (by rfl) (fun s e => recFacts_of (Bool.and_eq_true_iff.mp e).2) (by rfl) (by assumption) (by decide +kernel) ⟨rfl, rfl, rfl, rfl, rfl, by decide +kernel⟩ ?hw ?hc)
local macro_rules | `(tactic| k_qdec) => `(tactic| first | (rw [Fast.te17448422675489707002]; kernel_rfl) | (rw [Fast.te2458874890965802552]; kernel_rfl))
set_option maxHeartbeats 8000000 in
open_top hd for PySem.Challenge.rw_pc0042_01
namespace Mine
theorem fill : PySem.Challenge.rw_pc0042_01.Holds → (hd.heap_1 = hd.heap_1) → True := by k_fill; intros; trivial


abbrev Led := List (Addr × Obj)

inductive LV where
  | d (x : Dat)
  | r (v : Value)
  | o (x : Obj)
  | rng (a b : Int)
  | pr (φ : Obj → Prop)

def rngObj (a b : Int) (t u w : Tok) : Obj := { cls := .type "range", data := .fields #[.int a t, .int b u, .int 1 w] }

def LVIn (V : Led) (v : Value) : LV → Prop
  | .d x => DatIn V v x
  | .r u => v = u
  | .o x => ∃ a, v = .ref a ∧ (a, x) ∈ V
  | .rng a b => ∃ x t u w, v = .ref x ∧ (x, rngObj a b t u w) ∈ V
  | .pr φ => ∃ x o, v = .ref x ∧ (x, o) ∈ V ∧ φ o

inductive LVAll (V : Led) : List Value → List LV → Prop
  | nil : LVAll V [] []
  | cons {v vs x xs} : LVIn V v x → LVAll V vs xs → LVAll V (v :: vs) (x :: xs)

inductive AO where
  | list (xs : List LV)
  | cell (x : Option LV)
  | inst (C dx : Addr)
  | dict (fs : List (Str × LV))
  | raw (o : Obj)
  | own (φ : Obj → Prop)

inductive FsIn (V : Led) : List DictEntry → List (Str × LV) → Prop
  | nil : FsIn V [] []
  | cons {h name t v es x fs} : LVIn V v x → FsIn V es fs → FsIn V (⟨h, .str name t, v⟩ :: es) ((name, x) :: fs)

def OIn (V : Led) (o : Obj) : AO → Prop
  | .list xs => ∃ vs n, o = listOf (List.toArray vs) n ∧ LVAll V vs xs
  | .cell none => o.data = .cell none
  | .cell (some x) => ∃ v, o.data = .cell (some v) ∧ LVIn V v x
  | .inst C dx => o = instObj C dx
  | .dict fs => ∃ es n, o = dictOf es n ∧ FsIn V es fs
  | .raw o' => o = o'
  | .own φ => φ o

theorem LVIn.mono {V V' : Led} (h : ∀ p ∈ V, p ∈ V') {v : Value} : ∀ {x : LV}, LVIn V v x → LVIn V' v x
  | .d _, q => DatIn.mono h q
  | .r _, q => q
  | .o _, ⟨a, e, q⟩ => ⟨a, e, h _ q⟩
  | .rng _ _, ⟨x, t, u, w, e, q⟩ => ⟨x, t, u, w, e, h _ q⟩
  | .pr _, ⟨x, o, e, q, z⟩ => ⟨x, o, e, h _ q, z⟩
theorem LVAll.mono {V V' : Led} (h : ∀ p ∈ V, p ∈ V') {vs : List Value} {xs : List LV} (q : LVAll V vs xs) : LVAll V' vs xs := by
  induction q with
  | nil => exact .nil
  | cons a _ ih => exact .cons (a.mono h) ih
theorem FsIn.mono {V V' : Led} (h : ∀ p ∈ V, p ∈ V') {es : List DictEntry} {fs : List (Str × LV)} (q : FsIn V es fs) : FsIn V' es fs := by
  induction q with
  | nil => exact .nil
  | cons a _ ih => exact .cons (a.mono h) ih
theorem OIn.mono {V V' : Led} (h : ∀ p ∈ V, p ∈ V') {o : Obj} : ∀ {x : AO}, OIn V o x → OIn V' o x
  | .list _, ⟨vs, n, e, q⟩ => ⟨vs, n, e, q.mono h⟩
  | .cell none, q => q
  | .cell (some _), ⟨v, e, q⟩ => ⟨v, e, q.mono h⟩
  | .inst _ _, q => q
  | .dict _, ⟨es, n, e, q⟩ => ⟨es, n, e, q.mono h⟩
  | .raw _, q => q
  | .own _, q => q

/-- the concrete ledger bears the abstract one -/
inductive OAll (V : Led) : Led → List (Addr × AO) → Prop
  | nil : OAll V [] []
  | cons {a o x O M} : OIn V o x → OAll V O M → OAll V ((a, o) :: O) ((a, x) :: M)
theorem OAll.mono {V V' : Led} (h : ∀ p ∈ V, p ∈ V') {O : Led} {M : List (Addr × AO)} (q : OAll V O M) : OAll V' O M := by
  induction q with
  | nil => exact .nil
  | cons a _ ih => exact .cons (a.mono h) ih
theorem OAll.get {V : Led} {O : Led} {M : List (Addr × AO)} (q : OAll V O M) : ∀ {j : Nat} {a : Addr} {x : AO}, M[j]? = some (a, x) → ∃ o, O[j]? = some (a, o) ∧ OIn V o x := by
  induction q with
  | nil => intro j a x h; simp at h
  | cons hx _ ih =>
    intro j a x h
    cases j with
    | zero => simp at h; obtain ⟨rfl, rfl⟩ := h; exact ⟨_, by simp, hx⟩
    | succ j => simp at h; simpa using ih h
theorem OAll.set {V : Led} {O : Led} {M : List (Addr × AO)} (q : OAll V O M) {a : Addr} {o : Obj} {x : AO} (hx : OIn V o x) : ∀ {j : Nat} {y : AO}, M[j]? = some (a, y) → OAll V (O.set j (a, o)) (M.set j (a, x)) := by
  induction q with
  | nil => intro j y h; simp at h
  | cons hy q' ih =>
    intro j y h
    cases j with
    | zero => simp at h; obtain ⟨rfl, rfl⟩ := h; exact .cons hx q'
    | succ j => simp at h; exact .cons hy (ih h)
theorem OAll.fst {V : Led} {O : Led} {M : List (Addr × AO)} (q : OAll V O M) : O.map (·.1) = M.map (·.1) := by
  induction q with
  | nil => rfl
  | cons _ _ ih => simp [ih]
theorem set_fst {β : Type} {l : List (Addr × β)} : ∀ {j : Nat} {a : Addr} {x y : β}, l[j]? = some (a, x) → (l.set j (a, y)).map (·.1) = l.map (·.1) := by
  induction l with
  | nil => intro j a x y h; simp at h
  | cons p l ih =>
    intro j a x y h
    cases j with
    | zero => simp at h; subst h; simp
    | succ j => simp at h; simp [ih h]

structure FX (s₀ : Shared) (L : Addr) (ρ : List (Str × LV)) (M : List (Addr × AO)) (τ : List (Value × LV)) (V O : Led) (m : Str → Option Value) (s : Shared) : Prop where
  fr : Fr s₀.heap L s.heap m
  nv : News s₀.heap L s.heap (O ++ V)
  om : OAll V O M
  nd : (O.map (·.1)).Nodup
  dj : ∀ p ∈ V, p.1 ∉ O.map (·.1)
  loc : ∀ x lv, ρ.lookup x = some lv → ∃ v, m x = some v ∧ LVIn V v lv
  tmp : ∀ p ∈ τ, LVIn V p.1 p.2
  same : ∃ h tk, s = { s₀ with heap := h, toks := tk }

def FS (s₀ : Shared) (L : Addr) (ρ : List (Str × LV)) (M : List (Addr × AO)) (τ : List (Value × LV)) (s : Shared) : Prop := ∃ V O m, FX s₀ L ρ M τ V O m s

section
variable {s₀ s : Shared} {L : Addr} {ρ ρ' : List (Str × LV)} {M : List (Addr × AO)} {τ τ' : List (Value × LV)} {V O : Led} {m : Str → Option Value}

theorem News.app {h₀ h : Heap} {O V : Led} (N : News h₀ L h (O ++ V)) : News h₀ L h O ∧ News h₀ L h V := ⟨fun p hp => N p (List.mem_append.mpr (.inl hp)), fun p hp => N p (List.mem_append.mpr (.inr hp))⟩

theorem FX.tok (F : FX s₀ L ρ M τ V O m s) (tk : Nat) : FX s₀ L ρ M τ V O m { s with toks := tk } :=
  ⟨F.fr, F.nv, F.om, F.nd, F.dj, F.loc, F.tmp, let ⟨h, _, e⟩ := F.same; ⟨h, tk, by rw [e]⟩⟩
theorem FX.grow (F : FX s₀ L ρ M τ V O m s) {h' : Heap} {tk : Nat} (hk : ∀ b o, s.heap.get? b = some o → h'.get? b = some o) : FX s₀ L ρ M τ V O m { s with heap := h', toks := tk } :=
  ⟨F.fr.keeps hk, F.nv.grown hk, F.om, F.nd, F.dj, F.loc, F.tmp, let ⟨_, _, e⟩ := F.same; ⟨h', tk, by rw [e]⟩⟩
theorem FX.temp (F : FX s₀ L ρ M τ V O m s) {v : Value} {x : LV} (h : LVIn V v x) : FX s₀ L ρ M ((v, x) :: τ) V O m s :=
  ⟨F.fr, F.nv, F.om, F.nd, F.dj, F.loc, fun p hp => by rcases List.mem_cons.mp hp with rfl | hp; exact h; exact F.tmp p hp, F.same⟩
theorem FX.tempd (F : FX s₀ L ρ M τ V O m s) {v : Value} {x : Dat} (h : DatIn V v x) : FX s₀ L ρ M ((v, .d x) :: τ) V O m s := F.temp (x := .d x) h
theorem FX.tempr (F : FX s₀ L ρ M τ V O m s) (v : Value) : FX s₀ L ρ M ((v, .r v) :: τ) V O m s := F.temp (x := .r v) rfl
theorem FX.freshAddr (F : FX s₀ L ρ M τ V O m s) : (∀ p ∈ O ++ V, p.1 ≠ s.heap.objs.size) ∧ s.heap.objs.size ≠ L ∧ s₀.heap.get? s.heap.objs.size = none := by
  refine ⟨fun p hp => Nat.ne_of_lt (Heap.lt_size (F.nv p hp).1), fun e => ?_, ?_⟩
  · exact absurd (show L < L from Nat.lt_of_lt_of_eq (show L < s.heap.objs.size from F.fr.ns.lt) e) (Nat.lt_irrefl _)
  · cases q : s₀.heap.get? s.heap.objs.size with
    | none => rfl
    | some o => exact absurd (Heap.lt_size (F.fr.keep _ _ q)) (Nat.lt_irrefl _)

/-- a frozen object at any free place of a grown heap -/
theorem FX.newV (F : FX s₀ L ρ M τ V O m s) {a : Addr} {o : Obj} {h' : Heap} {tk : Nat} (hk : ∀ b o, s.heap.get? b = some o → h'.get? b = some o) (ha : s.heap.get? a = none) (ho : h'.get? a = some o) :
    FX s₀ L ρ M τ ((a, o) :: V) O m { s with heap := h', toks := tk } := by
  have G := F.grow (tk := tk) hk
  have s1 : ∀ p ∈ V, p ∈ (a, o) :: V := fun _ hp => .tail _ hp
  have hL : a ≠ L := by
    obtain ⟨oL, _, _, hoL, _⟩ := F.fr.ns
    intro e; subst e; rw [ha] at hoL; cases hoL
  have h0 : s₀.heap.get? a = none := by
    cases q : s₀.heap.get? a with
    | none => rfl
    | some o' => have := F.fr.keep _ _ q; rw [ha] at this; cases this
  refine ⟨G.fr, fun p hp => ?_, F.om.mono s1, F.nd, fun p hp => ?_, fun x lv e => ?_, fun p hp => (F.tmp p hp).mono s1, G.same⟩
  · rcases List.mem_append.mp hp with hp | hp
    · exact G.nv p (List.mem_append.mpr (.inl hp))
    · rcases List.mem_cons.mp hp with rfl | hp
      · exact ⟨ho, hL, h0⟩
      · exact G.nv p (List.mem_append.mpr (.inr hp))
  · rcases List.mem_cons.mp hp with rfl | hp
    · intro hm
      obtain ⟨q, hq, e⟩ := List.mem_map.mp hm
      have := (F.nv q (List.mem_append.mpr (.inl hq))).1
      rw [e] at this
      simp only at this
      rw [ha] at this; cases this
    · exact F.dj p hp
  · obtain ⟨v, e1, e2⟩ := F.loc x lv e
    exact ⟨v, e1, e2.mono s1⟩

/-- a mutable object at any free place of a grown heap -/
theorem FX.newM (F : FX s₀ L ρ M τ V O m s) {a : Addr} {o : Obj} {x : AO} {h' : Heap} {tk : Nat} (hk : ∀ b o, s.heap.get? b = some o → h'.get? b = some o) (ha : s.heap.get? a = none) (ho : h'.get? a = some o) (hx : OIn V o x) :
    FX s₀ L ρ ((a, x) :: M) τ V ((a, o) :: O) m { s with heap := h', toks := tk } := by
  have G := F.grow (tk := tk) hk
  have hL : a ≠ L := by
    obtain ⟨oL, _, _, hoL, _⟩ := F.fr.ns
    intro e; subst e; rw [ha] at hoL; cases hoL
  have h0 : s₀.heap.get? a = none := by
    cases q : s₀.heap.get? a with
    | none => rfl
    | some o' => have := F.fr.keep _ _ q; rw [ha] at this; cases this
  have hn : ∀ p ∈ O ++ V, p.1 ≠ a := fun p hp e => by
    have := (F.nv p hp).1; rw [e, ha] at this; cases this
  refine ⟨G.fr, fun p hp => ?_, .cons hx F.om, ?_, fun p hp hm => ?_, F.loc, F.tmp, G.same⟩
  · rcases List.mem_cons.mp hp with rfl | hp
    · exact ⟨ho, hL, h0⟩
    · exact G.nv p hp
  · rw [List.map_cons, List.nodup_cons]
    refine ⟨fun hm => ?_, F.nd⟩
    obtain ⟨q, hq, e⟩ := List.mem_map.mp hm
    exact hn q (List.mem_append.mpr (.inl hq)) e
  · rw [List.map_cons] at hm
    rcases List.mem_cons.mp hm with e | hm
    · exact hn p (List.mem_append.mpr (.inr hp)) e
    · exact F.dj p hp hm

theorem news_upd1 {h₀ h h' : Heap} {O : Led} {a : Addr} {o : Obj} (N : News h₀ L h O) (hs : Heap.SameBut a h h') (ho : h'.get? a = some o) : ∀ {j : Nat} {o₁ : Obj}, O[j]? = some (a, o₁) → (O.map (·.1)).Nodup → News h₀ L h' (O.set j (a, o)) := by
  induction O with
  | nil => intro j o₁ h; simp at h
  | cons p O ih =>
    intro j o₁ hj nd
    rw [List.map_cons, List.nodup_cons] at nd
    have N' : News h₀ L h O := fun q hq => N q (.tail _ hq)
    cases j with
    | zero =>
      simp at hj; subst hj
      intro q hq
      rw [List.set_cons_zero] at hq
      rcases List.mem_cons.mp hq with rfl | hq
      · exact ⟨ho, (N _ (.head _)).2⟩
      · refine ⟨(hs.2 _ fun e => nd.1 ?_).trans (N' q hq).1, (N' q hq).2⟩
        exact List.mem_map.mpr ⟨q, hq, e⟩
    | succ j =>
      simp at hj
      intro q hq
      rw [List.set_cons_succ] at hq
      rcases List.mem_cons.mp hq with rfl | hq
      · refine ⟨(hs.2 _ fun e => nd.1 ?_).trans (N _ (.head _)).1, (N _ (.head _)).2⟩
        exact List.mem_map.mpr ⟨_, List.mem_of_getElem? hj, e.symm⟩
      · exact ih N' hj nd.2 q hq

theorem FX.getM (F : FX s₀ L ρ M τ V O m s) {j : Nat} {a : Addr} {x : AO} (h : M[j]? = some (a, x)) : ∃ o, O[j]? = some (a, o) ∧ OIn V o x ∧ s.heap.get? a = some o ∧ a ≠ L ∧ s₀.heap.get? a = none := by
  obtain ⟨o, e, q⟩ := F.om.get h
  exact ⟨o, e, q, F.nv _ (List.mem_append.mpr (.inl (List.mem_of_getElem? e)))⟩

theorem FX.setM (F : FX s₀ L ρ M τ V O m s) {j : Nat} {a : Addr} {x y : AO} {o : Obj} {h' : Heap} {tk : Nat} (h : M[j]? = some (a, y)) (hs : Heap.SameBut a s.heap h') (ho : h'.get? a = some o) (hx : OIn V o x) :
    FX s₀ L ρ (M.set j (a, x)) τ V (O.set j (a, o)) m { s with heap := h', toks := tk } := by
  obtain ⟨o₁, e, q, g1, g2, g3⟩ := F.getM h
  have fst : (O.set j (a, o)).map (·.1) = O.map (·.1) := set_fst e
  refine ⟨F.fr.change hs g2 g3, fun p hp => ?_, F.om.set hx h, by rw [fst]; exact F.nd, fun p hp => by rw [fst]; exact F.dj p hp, F.loc, F.tmp, let ⟨_, _, e⟩ := F.same; ⟨h', tk, by rw [e]⟩⟩
  rcases List.mem_append.mp hp with hp | hp
  · exact news_upd1 (News.app F.nv).1 hs ho e F.nd p hp
  · have z := F.nv p (List.mem_append.mpr (.inr hp))
    refine ⟨(hs.2 _ fun q => F.dj p hp ?_).trans z.1, z.2⟩
    exact List.mem_map.mpr ⟨_, List.mem_of_getElem? e, q.symm⟩

/-- a mutable list of data turns to frozen data -/
theorem FX.freeze (F : FX s₀ L ρ M τ V O m s) {a : Addr} {ds : List Dat} {M' : List (Addr × AO)} (h : M = (a, .list (ds.map .d)) :: M') :
    ∃ V' O', FX s₀ L ρ M' ((.ref a, .d (.list ds)) :: τ) V' O' m s := by
  subst h
  obtain ⟨fr, nv, om, nd, dj, loc, tmp, same⟩ := F
  cases om with
  | cons hx om' =>
    rename_i o O'
    obtain ⟨vs, n, rfl, q⟩ := hx
    have s1 : ∀ p ∈ V, p ∈ (a, listOf vs.toArray n) :: V := fun _ hp => .tail _ hp
    rw [List.map_cons, List.nodup_cons] at nd
    refine ⟨(a, listOf vs.toArray n) :: V, O', fr, fun p hp => ?_, om'.mono s1, nd.2, fun p hp => ?_, fun x lv e => ?_, fun p hp => ?_, same⟩
    · rcases List.mem_append.mp hp with hp | hp
      · exact nv p (List.mem_append.mpr (.inl (.tail _ hp)))
      · rcases List.mem_cons.mp hp with rfl | hp
        · exact nv _ (List.mem_append.mpr (.inl (.head _)))
        · exact nv p (List.mem_append.mpr (.inr hp))
    · rcases List.mem_cons.mp hp with rfl | hp
      · exact nd.1
      · have := dj p hp
        rw [List.map_cons] at this
        exact fun e => this (.tail _ e)
    · obtain ⟨v, e1, e2⟩ := loc x lv e
      exact ⟨v, e1, e2.mono s1⟩
    · rcases List.mem_cons.mp hp with rfl | hp
      · show DatIn _ _ _
        refine .list (.head _) ?_
        have : ∀ {vs : List Value} {ds : List Dat}, LVAll V vs (ds.map .d) → DatAll V vs ds := by
          intro vs
          induction vs with
          | nil => intro ds q; cases ds with
            | nil => exact .nil
            | cons d ds => cases q
          | cons v vs ih => intro ds q; cases ds with
            | nil => cases q
            | cons d ds => cases q with | cons a b => exact .cons a (ih b)
        exact (this q).mono s1
      · exact (tmp p hp).mono s1

theorem FX.weak (F : FX s₀ L ρ M τ V O m s) (hρ : ∀ x lv, ρ'.lookup x = some lv → ρ.lookup x = some lv) (hτ : ∀ p ∈ τ', p ∈ τ) : FX s₀ L ρ' M τ' V O m s :=
  ⟨F.fr, F.nv, F.om, F.nd, F.dj, fun x lv e => F.loc x lv (hρ x lv e), fun p hp => F.tmp p (hτ p hp), F.same⟩

theorem lookup_sub (h : ∀ p ∈ ρ', ρ.lookup p.1 = some p.2) : ∀ x lv, ρ'.lookup x = some lv → ρ.lookup x = some lv := by
  intro x lv e
  exact h (x, lv) (mem_of_lookup e)

theorem FS.weak (F : FS s₀ L ρ M τ s) (hρ : ∀ p ∈ ρ', ρ.lookup p.1 = some p.2) (hτ : ∀ p ∈ τ', p ∈ τ) : FS s₀ L ρ' M τ' s :=
  let ⟨V, O, m, f⟩ := F; ⟨V, O, m, f.weak (lookup_sub hρ) hτ⟩
theorem FS.tok (F : FS s₀ L ρ M τ s) (tk : Nat) : FS s₀ L ρ M τ { s with toks := tk } := let ⟨V, O, m, f⟩ := F; ⟨V, O, m, f.tok tk⟩
end


section
variable {prog : Program} {w : World} {A : Around} {E : Value → Shared → Prop} {s₀ s : Shared} {env : Env} {L : Addr} {ρ : List (Str × LV)} {M : List (Addr × AO)} {τ : List (Value × LV)} {Q : Value → Shared → Prop} {x : Str} {pos : Pos} {lv : LV}

theorem at_head {α : Type} {p : α} {l : List α} : (p :: l)[0]? = some p := rfl
theorem at_tail {α : Type} {p q : α} {l : List α} {j : Nat} (h : l[j]? = some p) : (q :: l)[j + 1]? = some p := h

theorem FS.nm {lv : LV} (F : FS s₀ L ρ M τ s) (hl : ρ.lookup x = some lv) (k : ∀ m v, s.heap.Ns L m → m x = some v → FS s₀ L ρ M ((v, lv) :: τ) s → Q v s) : ∃ m v, s.heap.Ns L m ∧ m x = some v ∧ Q v s := by
  obtain ⟨V, O, m, f⟩ := F
  obtain ⟨v, e, h⟩ := f.loc x lv hl
  exact ⟨m, v, f.fr.ns, e, k m v f.fr.ns e ⟨V, O, m, f.temp h⟩⟩

theorem nm_local (F : FS s₀ env.locals ρ M τ s) (hl : ρ.lookup x = some lv) (h : ∀ v, FS s₀ env.locals ρ M ((v, lv) :: τ) s → Q v s)
    (hk : env.scope.kind = .function := by rfl) (hx : env.kindOf x = some .local := by rfl) (hd : (x == ("__debug__" : Str)) = false := by decide) :
    wpAny (model prog w) A (eval (.Name x pos) env) Q E s := by
  obtain ⟨m, v, h1, h2, h3⟩ := F.nm hl (fun _ v _ _ F' => h v F')
  exact wpAny_Name (wpAny_loadName_local hk hx h1 h2 h3) hd
theorem nm_local_r {v₀ : Value} (F : FS s₀ env.locals ρ M τ s) (hl : ρ.lookup x = some (.r v₀)) (h : FS s₀ env.locals ρ M τ s → Q v₀ s)
    (hk : env.scope.kind = .function := by rfl) (hx : env.kindOf x = some .local := by rfl) (hd : (x == ("__debug__" : Str)) = false := by decide) :
    wpAny (model prog w) A (eval (.Name x pos) env) Q E s := by
  refine nm_local F hl (fun v F' => ?_) hk hx hd
  obtain ⟨V, O, m, f⟩ := F'
  have e : v = v₀ := f.tmp _ (.head _)
  subst e
  exact h F

theorem FS.cellAt {c : Addr} {j : Nat} (F : FS s₀ L ρ M τ s) (hm : M[j]? = some (c, .cell (some lv))) : ∃ v, s.heap.IsCell c (some v) ∧ FS s₀ L ρ M ((v, lv) :: τ) s := by
  obtain ⟨V, O, m, f⟩ := F
  obtain ⟨o, _, ⟨v, e, q⟩, g, _⟩ := f.getM hm
  exact ⟨v, ⟨o, g, e⟩, V, O, m, f.temp q⟩
theorem nm_cell {c : Addr} {j : Nat} (F : FS s₀ L ρ M τ s) (hc : env.cells.lookup x = some c) (hm : M[j]? = some (c, .cell (some lv))) (h : ∀ v, FS s₀ L ρ M ((v, lv) :: τ) s → Q v s)
    (hk : env.scope.kind = .function) (hx : env.kindOf x = some .cell) (hd : (x == ("__debug__" : Str)) = false := by decide) :
    wpAny (model prog w) A (eval (.Name x pos) env) Q E s := by
  obtain ⟨v, h1, h2⟩ := F.cellAt hm
  exact wpAny_Name (wpAny_loadName_cell hk hx hc h1 (h v h2)) hd
theorem nm_free {c : Addr} {j : Nat} (F : FS s₀ L ρ M τ s) (hc : env.cells.lookup x = some c) (hm : M[j]? = some (c, .cell (some lv))) (h : ∀ v, FS s₀ L ρ M ((v, lv) :: τ) s → Q v s)
    (hk : env.scope.kind = .function) (hx : env.kindOf x = some .free) (hd : (x == ("__debug__" : Str)) = false := by decide) (hn : (x == ("__classdict__" : Str)) = false := by decide) :
    wpAny (model prog w) A (eval (.Name x pos) env) Q E s := by
  obtain ⟨v, h1, h2⟩ := F.cellAt hm
  exact wpAny_Name (wpAny_loadName_free hk hx hc h1 (h v h2) hn) hd
theorem FS.rval {v v₀ : Value} (F : FS s₀ L ρ M τ s) (h : (v, LV.r v₀) ∈ τ) : v = v₀ := by
  obtain ⟨V, O, m, f⟩ := F
  exact f.tmp _ h
theorem nm_cell_r {c : Addr} {j : Nat} {v₀ : Value} (F : FS s₀ L ρ M τ s) (hc : env.cells.lookup x = some c) (hm : M[j]? = some (c, .cell (some (.r v₀)))) (h : FS s₀ L ρ M τ s → Q v₀ s)
    (hk : env.scope.kind = .function) (hx : env.kindOf x = some .cell) (hd : (x == ("__debug__" : Str)) = false := by decide) :
    wpAny (model prog w) A (eval (.Name x pos) env) Q E s :=
  nm_cell F hc hm (fun v F' => by obtain rfl := F'.rval (.head _); exact h F) hk hx hd
theorem nm_free_r {c : Addr} {j : Nat} {v₀ : Value} (F : FS s₀ L ρ M τ s) (hc : env.cells.lookup x = some c) (hm : M[j]? = some (c, .cell (some (.r v₀)))) (h : FS s₀ L ρ M τ s → Q v₀ s)
    (hk : env.scope.kind = .function) (hx : env.kindOf x = some .free) (hd : (x == ("__debug__" : Str)) = false := by decide) (hn : (x == ("__classdict__" : Str)) = false := by decide) :
    wpAny (model prog w) A (eval (.Name x pos) env) Q E s :=
  nm_free F hc hm (fun v F' => by obtain rfl := F'.rval (.head _); exact h F) hk hx hd hn

structure Base (p : Program) (loose : List Str) (K : Frag) (s₀ : Shared) : Prop where
  X : K.In s₀.heap
  T : ∃ mean mg mb, Top p loose mean mg mb s₀.heap

theorem nm_glob {p : Program} {loose : List Str} {K : Frag} {v : Value} (B : Base p loose K s₀) (F : FS s₀ L ρ M τ s) (e : nsIn K mainGlobals x = some (some v)) (h : Q v s)
    (hg : env.globals = mainGlobals := by rfl) (hk : env.scope.kind = .function := by rfl) (hx : env.kindOf x = some .globalImplicit := by rfl) (hd : (x == ("__debug__" : Str)) = false := by decide) :
    wpAny (model prog w) A (eval (.Name x pos) env) Q E s := by
  obtain ⟨V, O, m, f⟩ := F
  obtain ⟨mean, mg, mb, T⟩ := B.T
  exact Name_function_global hk hx (loadGlobal_global (env := env) (show s.heap.Ns env.globals mg from hg ▸ (T.keeps f.fr.keep).g) (mg_of B.X T.g e) h) hd
theorem nm_built {p : Program} {loose : List Str} {K : Frag} {v : Value} (B : Base p loose K s₀) (F : FS s₀ L ρ M τ s) (e : nsIn K mainGlobals x = some none) (hv : bootBuiltins x = some v) (hn : x ≠ "__name__") (h : Q v s)
    (hg : env.globals = mainGlobals := by rfl) (hb : env.builtins = builtinsNs := by rfl) (hk : env.scope.kind = .function := by rfl) (hx : env.kindOf x = some .globalImplicit := by rfl) (hd : (x == ("__debug__" : Str)) = false := by decide) :
    wpAny (model prog w) A (eval (.Name x pos) env) Q E s := by
  obtain ⟨V, O, m, f⟩ := F
  obtain ⟨mean, mg, mb, T⟩ := B.T
  exact Name_function_global hk hx (loadGlobal_builtin (env := env) (show s.heap.Ns env.globals mg from hg ▸ (T.keeps f.fr.keep).g) (mg_none_of B.X T.g e) (show s.heap.Ns env.builtins mb from hb ▸ (T.keeps f.fr.keep).b) ((T.builtins x hn).trans hv) h) hd

/- constants -/
theorem c_int {i : Int} {k} (F : FS s₀ L ρ M τ s) (h : ∀ v s', FS s₀ L ρ M ((v, .d (.int i)) :: τ) s' → Q v s') : wpAny (model prog w) A (eval (.Constant (.int i) k pos) env) Q E s := by
  obtain ⟨V, O, m, f⟩ := F
  exact wpAny_Constant_int (h _ _ ⟨V, O, m, (f.tok _).tempd (.int _ _)⟩)
theorem c_str {y : Str} {k} (F : FS s₀ L ρ M τ s) (h : ∀ v s', FS s₀ L ρ M ((v, .d (.str y)) :: τ) s' → Q v s') : wpAny (model prog w) A (eval (.Constant (.str y) k pos) env) Q E s := by
  obtain ⟨V, O, m, f⟩ := F
  exact wpAny_Constant_str (h _ _ ⟨V, O, m, (f.tok _).tempd (.str _ _)⟩)
theorem c_none {k} (F : FS s₀ L ρ M τ s) (h : FS s₀ L ρ M ((Value.none, .d .none) :: τ) s → Q Value.none s) : wpAny (model prog w) A (eval (.Constant .none k pos) env) Q E s := by
  obtain ⟨V, O, m, f⟩ := F
  exact wpAny_Constant_none (h ⟨V, O, m, f.tempd .none⟩)
theorem c_bool {b : Bool} {k} (F : FS s₀ L ρ M τ s) (h : FS s₀ L ρ M ((Value.bool b, .d (.bool b)) :: τ) s → Q (Value.bool b) s) : wpAny (model prog w) A (eval (.Constant (.bool b) k pos) env) Q E s := by
  obtain ⟨V, O, m, f⟩ := F
  exact wpAny_Constant_bool (h ⟨V, O, m, f.tempd (.bool b)⟩)

/- ints -/
theorem FS.int {v : Value} {i : Int} (F : FS s₀ L ρ M τ s) (h : (v, LV.d (.int i)) ∈ τ) : ∃ t, v = .int i t := by
  obtain ⟨V, O, m, f⟩ := F
  have q : DatIn V v (.int i) := f.tmp _ h
  cases q with | int _ t => exact ⟨t, rfl⟩
theorem FS.bool {v : Value} {b : Bool} (F : FS s₀ L ρ M τ s) (h : (v, LV.d (.bool b)) ∈ τ) : v = .bool b := by
  obtain ⟨V, O, m, f⟩ := F
  have q : DatIn V v (.bool b) := f.tmp _ h
  cases q with | bool _ => rfl
theorem FS.none' {v : Value} (F : FS s₀ L ρ M τ s) (h : (v, LV.d .none) ∈ τ) : v = .none := by
  obtain ⟨V, O, m, f⟩ := F
  have q : DatIn V v .none := f.tmp _ h
  cases q with | none => rfl
theorem FS.str {v : Value} {y : Str} (F : FS s₀ L ρ M τ s) (h : (v, LV.d (.str y)) ∈ τ) : ∃ t, v = .str y t := by
  obtain ⟨V, O, m, f⟩ := F
  have q : DatIn V v (.str y) := f.tmp _ h
  cases q with | str _ t => exact ⟨t, rfl⟩
theorem FS.tint (F : FS s₀ L ρ M τ s) (i : Int) (t tk : Nat) : FS s₀ L ρ M ((Value.int i t, .d (.int i)) :: τ) { s with toks := tk } := by
  obtain ⟨V, O, m, f⟩ := F
  exact ⟨V, O, m, (f.tok _).tempd (.int _ _)⟩
theorem FS.tbool (F : FS s₀ L ρ M τ s) (b : Bool) : FS s₀ L ρ M ((Value.bool b, .d (.bool b)) :: τ) s := by
  obtain ⟨V, O, m, f⟩ := F
  exact ⟨V, O, m, f.tempd (.bool _)⟩

variable {u v : Value} {a b : Int}
theorem o_add (F : FS s₀ L ρ M τ s) (h1 : (u, LV.d (.int a)) ∈ τ) (h2 : (v, LV.d (.int b)) ∈ τ) (h : ∀ y s', FS s₀ L ρ M ((y, .d (.int (a + b))) :: τ) s' → Q y s') : wpAny (model prog w) A (binaryOp .Add u v) Q E s := by
  obtain ⟨t1, rfl⟩ := F.int h1
  obtain ⟨t2, rfl⟩ := F.int h2
  exact P.add_int (h _ _ (F.tint _ _ _))
theorem o_sub (F : FS s₀ L ρ M τ s) (h1 : (u, LV.d (.int a)) ∈ τ) (h2 : (v, LV.d (.int b)) ∈ τ) (h : ∀ y s', FS s₀ L ρ M ((y, .d (.int (a - b))) :: τ) s' → Q y s') : wpAny (model prog w) A (binaryOp .Sub u v) Q E s := by
  obtain ⟨t1, rfl⟩ := F.int h1
  obtain ⟨t2, rfl⟩ := F.int h2
  exact P.sub_int (h _ _ (F.tint _ _ _))
theorem o_mul (F : FS s₀ L ρ M τ s) (h1 : (u, LV.d (.int a)) ∈ τ) (h2 : (v, LV.d (.int b)) ∈ τ) (hm : IntMulOk a b) (h : ∀ y s', FS s₀ L ρ M ((y, .d (.int (a * b))) :: τ) s' → Q y s') : wpAny (model prog w) A (binaryOp .Mult u v) Q E s := by
  obtain ⟨t1, rfl⟩ := F.int h1
  obtain ⟨t2, rfl⟩ := F.int h2
  exact P.mul_int (h _ _ (F.tint _ _ _)) hm
theorem o_mod (F : FS s₀ L ρ M τ s) (h1 : (u, LV.d (.int a)) ∈ τ) (h2 : (v, LV.d (.int b)) ∈ τ) (hb : b ≠ 0) (h : ∀ y s', FS s₀ L ρ M ((y, .d (.int (a.fmod b))) :: τ) s' → Q y s') : wpAny (model prog w) A (binaryOp .Mod u v) Q E s := by
  obtain ⟨t1, rfl⟩ := F.int h1
  obtain ⟨t2, rfl⟩ := F.int h2
  exact mod_int' hb (h _ _ (F.tint _ _ _))
theorem o_neg (F : FS s₀ L ρ M τ s) (h1 : (u, LV.d (.int a)) ∈ τ) (h : ∀ y s', FS s₀ L ρ M ((y, .d (.int (-a))) :: τ) s' → Q y s') : wpAny (model prog w) A (unaryOp .USub u) Q E s := by
  obtain ⟨t1, rfl⟩ := F.int h1
  exact P.neg_int (h _ _ (F.tint _ _ _))
theorem o_lt (F : FS s₀ L ρ M τ s) (h1 : (u, LV.d (.int a)) ∈ τ) (h2 : (v, LV.d (.int b)) ∈ τ) (h : FS s₀ L ρ M ((Value.bool (decide (a < b)), .d (.bool (decide (a < b)))) :: τ) s → Q (.bool (decide (a < b))) s) : wpAny (model prog w) A (compareOp .Lt u v) Q E s := by
  obtain ⟨t1, rfl⟩ := F.int h1
  obtain ⟨t2, rfl⟩ := F.int h2
  exact P.lt_int (h (F.tbool _))
theorem o_le (F : FS s₀ L ρ M τ s) (h1 : (u, LV.d (.int a)) ∈ τ) (h2 : (v, LV.d (.int b)) ∈ τ) (h : FS s₀ L ρ M ((Value.bool (decide (a ≤ b)), .d (.bool (decide (a ≤ b)))) :: τ) s → Q (.bool (decide (a ≤ b))) s) : wpAny (model prog w) A (compareOp .LtE u v) Q E s := by
  obtain ⟨t1, rfl⟩ := F.int h1
  obtain ⟨t2, rfl⟩ := F.int h2
  exact P.le_int (h (F.tbool _))
theorem o_gt (F : FS s₀ L ρ M τ s) (h1 : (u, LV.d (.int a)) ∈ τ) (h2 : (v, LV.d (.int b)) ∈ τ) (h : FS s₀ L ρ M ((Value.bool (decide (b < a)), .d (.bool (decide (b < a)))) :: τ) s → Q (.bool (decide (b < a))) s) : wpAny (model prog w) A (compareOp .Gt u v) Q E s := by
  obtain ⟨t1, rfl⟩ := F.int h1
  obtain ⟨t2, rfl⟩ := F.int h2
  exact P.gt_int (h (F.tbool _))
theorem o_ge (F : FS s₀ L ρ M τ s) (h1 : (u, LV.d (.int a)) ∈ τ) (h2 : (v, LV.d (.int b)) ∈ τ) (h : FS s₀ L ρ M ((Value.bool (decide (b ≤ a)), .d (.bool (decide (b ≤ a)))) :: τ) s → Q (.bool (decide (b ≤ a))) s) : wpAny (model prog w) A (compareOp .GtE u v) Q E s := by
  obtain ⟨t1, rfl⟩ := F.int h1
  obtain ⟨t2, rfl⟩ := F.int h2
  exact P.ge_int (h (F.tbool _))
theorem o_eq (F : FS s₀ L ρ M τ s) (h1 : (u, LV.d (.int a)) ∈ τ) (h2 : (v, LV.d (.int b)) ∈ τ) (h : FS s₀ L ρ M ((Value.bool (decide (a = b)), .d (.bool (decide (a = b)))) :: τ) s → Q (.bool (decide (a = b))) s) : wpAny (model prog w) A (compareOp .Eq u v) Q E s := by
  obtain ⟨t1, rfl⟩ := F.int h1
  obtain ⟨t2, rfl⟩ := F.int h2
  exact P.eq_int (h (F.tbool _))
theorem o_ne (F : FS s₀ L ρ M τ s) (h1 : (u, LV.d (.int a)) ∈ τ) (h2 : (v, LV.d (.int b)) ∈ τ) (h : FS s₀ L ρ M ((Value.bool (decide (a ≠ b)), .d (.bool (decide (a ≠ b)))) :: τ) s → Q (.bool (decide (a ≠ b))) s) : wpAny (model prog w) A (compareOp .NotEq u v) Q E s := by
  obtain ⟨t1, rfl⟩ := F.int h1
  obtain ⟨t2, rfl⟩ := F.int h2
  refine P.ne_int ?_
  have e : (a != b) = decide (a ≠ b) := by by_cases q : a = b <;> simp [q]
  rw [e]
  exact h (F.tbool _)
theorem t_bool {b : Bool} {Q : Bool → Shared → Prop} (F : FS s₀ L ρ M τ s) (h1 : (u, LV.d (.bool b)) ∈ τ) (h : FS s₀ L ρ M τ s → Q b s) : wpAny (model prog w) A (truthy u) Q E s := by
  obtain rfl := F.bool h1
  exact wpAny_truthy_bool (h F)
end


theorem get_size (h : Heap) : h.get? h.objs.size = none := by
  cases q : h.get? h.objs.size with
  | none => rfl
  | some o => exact absurd (Heap.lt_size q) (Nat.lt_irrefl _)

section
variable {prog : Program} {w : World} {A : Around} {E : Value → Shared → Prop} {s₀ s : Shared} {env : Env} {L : Addr} {ρ : List (Str × LV)} {M : List (Addr × AO)} {τ : List (Value × LV)} {Q : Value → Shared → Prop} {x : Str} {pos : Pos} {lv : LV}
  {V O : Led} {m : Str → Option Value} {u v : Value} {a b : Addr} {ds es : List Dat} {d : Dat} {value slice : Expr}

/- what a temporary is -/
theorem FX.lst (f : FX s₀ L ρ M τ V O m s) (h : (v, LV.d (.list ds)) ∈ τ) : ∃ a vs n, v = .ref a ∧ (a, listOf (List.toArray vs) n) ∈ V ∧ s.heap.get? a = some (listOf vs.toArray n) ∧ DatAll V vs ds := by
  have q : DatIn V v (.list ds) := f.tmp _ h
  cases q with
  | list hm r => exact ⟨_, _, _, rfl, hm, (f.nv _ (List.mem_append.mpr (.inr hm))).1, r⟩
theorem FX.tup (f : FX s₀ L ρ M τ V O m s) (h : (v, LV.d (.tuple ds)) ∈ τ) : ∃ a vs n, v = .ref a ∧ (a, ({ cls := .type "tuple", data := .seq (List.toArray vs) n } : Obj)) ∈ V ∧ s.heap.get? a = some { cls := .type "tuple", data := .seq vs.toArray n } ∧ DatAll V vs ds := by
  have q : DatIn V v (.tuple ds) := f.tmp _ h
  cases q with
  | tuple hm r => exact ⟨_, _, _, rfl, hm, (f.nv _ (List.mem_append.mpr (.inr hm))).1, r⟩
theorem datAll_get (h : DatAll V vs ds) {j : Nat} (hj : ds[j]? = some d) : ∃ v, vs[j]? = some v ∧ DatIn V v d := by
  obtain ⟨hlt, e⟩ := List.getElem?_eq_some_iff.mp hj
  obtain ⟨v, e1, e2⟩ := h.get hlt
  exact ⟨v, e1, e ▸ e2⟩
theorem lvAll_get {vs : List Value} {xs : List LV} (h : LVAll V vs xs) : ∀ {j : Nat} {y : LV}, xs[j]? = some y → ∃ v, vs[j]? = some v ∧ LVIn V v y := by
  induction h with
  | nil => intro j y e; simp at e
  | cons a _ ih =>
    intro j y e
    cases j with
    | zero => simp at e; subst e; exact ⟨_, by simp, a⟩
    | succ j => simp at e; simpa using ih e
theorem lvAll_len {vs : List Value} {xs : List LV} (h : LVAll V vs xs) : vs.length = xs.length := by
  induction h with
  | nil => rfl
  | cons _ _ ih => simp [ih]
theorem lvAll_of {vs : List Value} (h : DatAll V vs ds) : LVAll V vs (ds.map .d) := by
  induction vs generalizing ds with
  | nil => cases h; exact .nil
  | cons v vs ih => cases h with | cons a b => exact .cons a (ih b)
theorem lvAll_snoc {vs : List Value} {xs : List LV} (h : LVAll V vs xs) {v : Value} {y : LV} (hy : LVIn V v y) : LVAll V (vs ++ [v]) (xs ++ [y]) := by
  induction h with
  | nil => exact .cons hy .nil
  | cons a _ ih => exact .cons a ih
theorem lvAll_set {vs : List Value} {xs : List LV} (h : LVAll V vs xs) {v : Value} {y : LV} (hy : LVIn V v y) : ∀ j, LVAll V (vs.set j v) (xs.set j y) := by
  induction h with
  | nil => intro j; exact .nil
  | cons a b ih =>
    intro j
    cases j with
    | zero => exact .cons hy b
    | succ j => exact .cons a (ih j)

/- displays -/
inductive TD (τ : List (Value × LV)) : List Value → List Dat → Prop
  | nil : TD τ [] []
  | cons {v d vs ds} : (v, LV.d d) ∈ τ → TD τ vs ds → TD τ (v :: vs) (d :: ds)
inductive TL (τ : List (Value × LV)) : List Value → List LV → Prop
  | nil : TL τ [] []
  | cons {v d vs ds} : (v, d) ∈ τ → TL τ vs ds → TL τ (v :: vs) (d :: ds)
theorem FX.td (f : FX s₀ L ρ M τ V O m s) {vs : List Value} (h : TD τ vs ds) : DatAll V vs ds := by
  induction h with
  | nil => exact .nil
  | cons a _ ih => exact .cons (f.tmp _ a) ih
theorem FX.tl (f : FX s₀ L ρ M τ V O m s) {vs : List Value} {xs : List LV} (h : TL τ vs xs) : LVAll V vs xs := by
  induction h with
  | nil => exact .nil
  | cons a _ ih => exact .cons (f.tmp _ a) ih

theorem FX.pushV (f : FX s₀ L ρ M τ V O m s) (o : Obj) (ho : o.isFreed = false := by rfl) : FX s₀ L ρ M τ ((s.heap.objs.size, o) :: V) O m { s with heap := s.heap.push o } :=
  f.newV (tk := s.toks) (fun _ _ e => Heap.get?_push_of_some _ e) (get_size s.heap) (Heap.get?_push_size _ ho)
theorem FX.pushM (f : FX s₀ L ρ M τ V O m s) (o : Obj) {y : AO} (hy : OIn V o y) (ho : o.isFreed = false := by rfl) : FX s₀ L ρ ((s.heap.objs.size, y) :: M) τ V ((s.heap.objs.size, o) :: O) m { s with heap := s.heap.push o } :=
  f.newM (tk := s.toks) (fun _ _ e => Heap.get?_push_of_some _ e) (get_size s.heap) (Heap.get?_push_size _ ho) hy

theorem d_tuple {vs : List Value} (F : FS s₀ L ρ M τ s) (ht : TD τ vs ds) (hz : vs.length ≤ 1000) (h : ∀ v s', FS s₀ L ρ M ((v, .d (.tuple ds)) :: τ) s' → Q v s') : wpAny (model prog w) A (newTuple vs) Q E s := by
  obtain ⟨V, O, m, f⟩ := F
  refine wpAny_newObj_type (h _ _ ⟨_, O, m, (f.pushV { cls := .type "tuple", data := .seq vs.toArray }).tempd (.tuple (n := 0) (.head _) ((f.td ht).mono fun _ hp => .tail _ hp))⟩) ?_
  show vs.toArray.size ≤ sizeLine
  rw [List.size_toArray, sizeLine_eq]; omega
theorem d_listD {vs : List Value} (F : FS s₀ L ρ M τ s) (ht : TD τ vs ds) (hz : vs.length ≤ 1000) (h : ∀ v s', FS s₀ L ρ M ((v, .d (.list ds)) :: τ) s' → Q v s') : wpAny (model prog w) A (newList vs) Q E s := by
  obtain ⟨V, O, m, f⟩ := F
  refine wpAny_newObj_type (h _ _ ⟨_, O, m, (f.pushV { cls := .type "list", data := .seq vs.toArray }).tempd (.list (n := 0) (.head _) ((f.td ht).mono fun _ hp => .tail _ hp))⟩) ?_
  show vs.toArray.size ≤ sizeLine
  rw [List.size_toArray, sizeLine_eq]; omega
theorem d_listM {vs : List Value} {xs : List LV} (F : FS s₀ L ρ M τ s) (ht : TL τ vs xs) (hz : vs.length ≤ 1000) (h : ∀ a s', FS s₀ L ρ ((a, .list xs) :: M) ((.ref a, .r (.ref a)) :: τ) s' → Q (.ref a) s') : wpAny (model prog w) A (newList vs) Q E s := by
  obtain ⟨V, O, m, f⟩ := F
  refine wpAny_newObj_type (h _ _ ⟨V, _, m, (f.pushM (listOf vs.toArray 0) (y := .list xs) ⟨vs, 0, rfl, f.tl ht⟩).tempr _⟩) ?_
  show vs.toArray.size ≤ sizeLine
  rw [List.size_toArray, sizeLine_eq]; omega

/- items -/
theorem i_list {k : Int} (F : FS s₀ L ρ M τ s) (h1 : (u, LV.d (.list ds)) ∈ τ) (h2 : (v, LV.d (.int k)) ∈ τ) (h0 : 0 ≤ k) (hk : k < 2 ^ 62) (hd : ds[k.toNat]? = some d) (h : ∀ y, FS s₀ L ρ M ((y, .d d) :: τ) s → Q y s)
    (hs : ∀ l t, subscripted slice false (.ref l) (.int k t) = operate [.ref l, .int k t] (getItem (.ref l) (.int k t))) : wpAny (model prog w) A (subscriptTail value slice u v) Q E s := by
  obtain ⟨t, rfl⟩ := F.int h2
  obtain ⟨V, O, m, f⟩ := F
  obtain ⟨a, vs, n, rfl, hm, hg, q⟩ := f.lst h1
  obtain ⟨y, e1, e2⟩ := datAll_get q hd
  have hl : s.heap.IsList a vs.toArray := ⟨_, hg, rfl, n, rfl⟩
  exact tail_any hl.typeIs slot_list_getitem.lookup (wpAny_getItem_list hl h0 (by omega) (by simpa using e1) (h y ⟨V, O, m, f.tempd e2⟩)) (hs _ _)
theorem i_list_neg {k : Int} (F : FS s₀ L ρ M τ s) (h1 : (u, LV.d (.list ds)) ∈ τ) (h2 : (v, LV.d (.int k)) ∈ τ) (h0 : k < 0) (hk : -1000 ≤ k) (hk1 : -(ds.length : Int) ≤ k) (hd : ds[(k + ds.length).toNat]? = some d) (h : ∀ y, FS s₀ L ρ M ((y, .d d) :: τ) s → Q y s)
    (hs : ∀ l t, subscripted slice false (.ref l) (.int k t) = operate [.ref l, .int k t] (getItem (.ref l) (.int k t))) : wpAny (model prog w) A (subscriptTail value slice u v) Q E s := by
  obtain ⟨t, rfl⟩ := F.int h2
  obtain ⟨V, O, m, f⟩ := F
  obtain ⟨a, vs, n, rfl, hm, hg, q⟩ := f.lst h1
  obtain ⟨y, e1, e2⟩ := datAll_get q hd
  have hl : s.heap.IsList a vs.toArray := ⟨_, hg, rfl, n, rfl⟩
  have hlen := q.length
  exact tail_any hl.typeIs slot_list_getitem.lookup (wpAny_getItem_list_neg hl h0 (by simp; omega) (by omega) (by simpa [hlen] using e1) (h y ⟨V, O, m, f.tempd e2⟩)) (hs _ _)
theorem i_tuple {k : Int} {j : Nat} (F : FS s₀ L ρ M τ s) (h1 : (u, LV.d (.tuple ds)) ∈ τ) (h2 : (v, LV.d (.int k)) ∈ τ) (h0 : -1000 ≤ k) (hk : k < 2 ^ 62) (hj : seqIndex? k ds.length = some j) (hd : ds[j]? = some d) (h : ∀ y, FS s₀ L ρ M ((y, .d d) :: τ) s → Q y s)
    (hs : ∀ l t, subscripted slice false (.ref l) (.int k t) = operate [.ref l, .int k t] (getItem (.ref l) (.int k t))) : wpAny (model prog w) A (subscriptTail value slice u v) Q E s := by
  obtain ⟨t, rfl⟩ := F.int h2
  obtain ⟨V, O, m, f⟩ := F
  obtain ⟨a, vs, n, rfl, hm, hg, q⟩ := f.tup h1
  obtain ⟨y, e1, e2⟩ := datAll_get q hd
  have hl : IsTup s.heap a vs.toArray := ⟨_, hg, rfl, n, rfl⟩
  exact item_tupleT hl (by omega) (by omega) (by rw [q.length]; exact hj) e1 (h y ⟨V, O, m, f.tempd e2⟩) (hs _ _)
/-- an item of a mutable list -/
theorem i_mlist {k : Int} {xs : List LV} {j : Nat} (F : FS s₀ L ρ M τ s) (h1 : M[j]? = some (a, .list xs)) (h2 : (v, LV.d (.int k)) ∈ τ) (h0 : 0 ≤ k) (hk : k < 2 ^ 62) (hd : xs[k.toNat]? = some lv) (h : ∀ y, FS s₀ L ρ M ((y, lv) :: τ) s → Q y s)
    (hs : ∀ l t, subscripted slice false (.ref l) (.int k t) = operate [.ref l, .int k t] (getItem (.ref l) (.int k t))) : wpAny (model prog w) A (subscriptTail value slice (.ref a) v) Q E s := by
  obtain ⟨t, rfl⟩ := F.int h2
  obtain ⟨V, O, m, f⟩ := F
  obtain ⟨o, e0, ⟨vs, n, rfl, q⟩, hg, _⟩ := f.getM h1
  obtain ⟨y, e1, e2⟩ := lvAll_get q hd
  have hl : s.heap.IsList a vs.toArray := ⟨_, hg, rfl, n, rfl⟩
  exact tail_any hl.typeIs slot_list_getitem.lookup (wpAny_getItem_list hl h0 (by omega) (by simpa using e1) (h y ⟨V, O, m, f.temp e2⟩)) (hs _ _)

/- len -/
theorem FX.tok2 (f : FX s₀ L ρ M τ V O m s) (i : Int) (t tk : Nat) : FX s₀ L ρ M ((Value.int i t, .d (.int i)) :: τ) V O m { s with toks := tk } := (f.tok tk).tempd (.int _ _)
theorem l_list (F : FS s₀ L ρ M τ s) (h1 : (u, LV.d (.list ds)) ∈ τ) (hz : ds.length < 2 ^ 62) (h : ∀ y s', FS s₀ L ρ M ((y, .d (.int (ds.length : Int))) :: τ) s' → Q y s') : wpAny (model prog w) A (call (.builtin "len") [u]) Q E s := by
  obtain ⟨V, O, m, f⟩ := F
  obtain ⟨a, vs, n, rfl, hm, hg, q⟩ := f.lst h1
  have hl : s.heap.IsList a vs.toArray := ⟨_, hg, rfl, n, rfl⟩
  have hlen := q.length
  refine len_list hl (by simp; omega) ?_
  rw [List.size_toArray, hlen]
  exact h _ _ ⟨V, O, m, f.tok2 _ _ _⟩
theorem l_tuple (F : FS s₀ L ρ M τ s) (h1 : (u, LV.d (.tuple ds)) ∈ τ) (hz : ds.length < 2 ^ 62) (h : ∀ y s', FS s₀ L ρ M ((y, .d (.int (ds.length : Int))) :: τ) s' → Q y s') : wpAny (model prog w) A (call (.builtin "len") [u]) Q E s := by
  obtain ⟨V, O, m, f⟩ := F
  obtain ⟨a, vs, n, rfl, hm, hg, q⟩ := f.tup h1
  have hl : IsTup s.heap a vs.toArray := ⟨_, hg, rfl, n, rfl⟩
  have hlen := q.length
  refine len_tuple hl (by simp; omega) ?_
  rw [List.size_toArray, hlen]
  exact h _ _ ⟨V, O, m, f.tok2 _ _ _⟩
theorem l_mlist {xs : List LV} {j : Nat} (F : FS s₀ L ρ M τ s) (h1 : M[j]? = some (a, .list xs)) (hz : xs.length < 2 ^ 62) (h : ∀ y s', FS s₀ L ρ M ((y, .d (.int (xs.length : Int))) :: τ) s' → Q y s') : wpAny (model prog w) A (call (.builtin "len") [.ref a]) Q E s := by
  obtain ⟨V, O, m, f⟩ := F
  obtain ⟨o, e0, ⟨vs, n, rfl, q⟩, hg, _⟩ := f.getM h1
  have hl : s.heap.IsList a vs.toArray := ⟨_, hg, rfl, n, rfl⟩
  have hlen := lvAll_len q
  refine len_list hl (by simp; omega) ?_
  rw [List.size_toArray, hlen]
  exact h _ _ ⟨V, O, m, f.tok2 _ _ _⟩

/- append, item store -/
theorem a_append {xs : List LV} {j : Nat} (F : FS s₀ L ρ M τ s) (h1 : M[j]? = some (a, .list xs)) (h2 : (v, lv) ∈ τ) (hz : xs.length ≤ 10000) (h : ∀ s', FS s₀ L ρ (M.set j (a, .list (xs ++ [lv]))) τ s' → Q .none s') : wpAny (model prog w) A (call (.builtin "list.append") [.ref a, v]) Q E s := by
  obtain ⟨V, O, m, f⟩ := F
  obtain ⟨o, e0, ⟨vs, n, rfl, q⟩, hg, _⟩ := f.getM h1
  have hlen := lvAll_len q
  refine append_at (its := vs.toArray) (n := n) hg (fun h' hs ho => h _ ⟨V, _, m, f.setM (tk := s.toks) h1 hs ho ⟨vs ++ [v], n + 1, by simp, lvAll_snoc q (f.tmp _ h2)⟩⟩) ?_
  rw [List.size_toArray, sizeLine_eq]; omega
end


theorem sub_refl {α : Type} {l : List α} : ∀ p ∈ l, p ∈ l := fun _ h => h
theorem sub_tail {α : Type} {l l' : List α} {q : α} (h : ∀ p ∈ l, p ∈ l') : ∀ p ∈ l, p ∈ q :: l' := fun p hp => .tail _ (h p hp)
theorem sub_head {α : Type} {l l' : List α} {q : α} (h0 : q ∈ l') (h : ∀ p ∈ l, p ∈ l') : ∀ p ∈ q :: l, p ∈ l' := fun p hp => by
  rcases List.mem_cons.mp hp with rfl | hp
  · exact h0
  · exact h p hp
theorem sub_nil {α : Type} {l' : List α} : ∀ p ∈ ([] : List α), p ∈ l' := fun _ hp => nomatch hp

section
variable {prog : Program} {w : World} {A : Around} {E : Value → Shared → Prop} {s₀ s : Shared} {env : Env} {L : Addr} {ρ ρ' : List (Str × LV)} {M : List (Addr × AO)} {τ τ' : List (Value × LV)} {Q : Value → Shared → Prop} {x : Str} {pos : Pos} {lv : LV}
  {V O : Led} {m : Str → Option Value} {u v : Value} {a b : Addr} {ds es : List Dat} {d : Dat} {value slice : Expr}

/- stores -/
theorem FX.store (f : FX s₀ L ρ M τ V O m s) {h' : Heap} {tk : Nat} (hn : h'.Ns L (fun y => if y = x then some v else m y)) (hs : Heap.SameBut L s.heap h') (hv : LVIn V v lv) :
    FX s₀ L ((x, lv) :: ρ) M τ V O (fun y => if y = x then some v else m y) { s with heap := h', toks := tk } := by
  refine ⟨f.fr.set hn hs, f.nv.set hs, f.om, f.nd, f.dj, fun y l e => ?_, f.tmp, let ⟨_, _, e⟩ := f.same; ⟨h', tk, by rw [e]⟩⟩
  rw [List.lookup_cons] at e
  by_cases hy : y = x
  · subst hy
    simp at e
    subst e
    exact ⟨v, by simp, hv⟩
  · have hb : (y == x) = false := by simpa using hy
    rw [hb] at e
    obtain ⟨v', e1, e2⟩ := f.loc y l e
    exact ⟨v', by simp [hy, e1], e2⟩
theorem st_local {Q : Unit → Shared → Prop} (F : FS s₀ env.locals ρ M τ s) (hv : (v, lv) ∈ τ) (h : ∀ s', FS s₀ env.locals ((x, lv) :: ρ) M τ s' → Q () s')
    (hx : env.kindOf x = some .local) (hp : (env.scope.kind == .class || (env.scope.kind == .module && env.locals != env.globals)) = false) : wpAny (model prog w) A (storeName env x v) Q E s := by
  obtain ⟨V, O, m, f⟩ := F
  exact wpAny_storeName_local hx f.fr.ns (fun h' hn hs => h _ ⟨V, O, _, f.store hn hs (f.tmp _ hv)⟩) hp
theorem st_cell {Q : Unit → Shared → Prop} {c : Addr} {j : Nat} {y : Option LV} (F : FS s₀ L ρ M τ s) (hc : env.cells.lookup x = some c) (hm : M[j]? = some (c, .cell y)) (hv : (v, lv) ∈ τ) (h : ∀ s', FS s₀ L ρ (M.set j (c, .cell (some lv))) τ s' → Q () s')
    (hk : env.scope.kind = .function) (hx : env.kindOf x = some .cell) : wpAny (model prog w) A (storeName env x v) Q E s := by
  obtain ⟨V, O, m, f⟩ := F
  obtain ⟨o, e0, q, hg, _⟩ := f.getM hm
  have hcell : ∃ v₀, s.heap.IsCell c v₀ := by
    cases y with
    | none => exact ⟨none, o, hg, q⟩
    | some y => obtain ⟨v₀, e, _⟩ := q; exact ⟨some v₀, o, hg, e⟩
  obtain ⟨v₀, hcell⟩ := hcell
  refine wpAny_storeName_cell hk hx hc hcell fun h' hc' hs => ?_
  obtain ⟨o', ho', hd'⟩ := hc'
  exact h _ ⟨V, _, m, f.setM (tk := s.toks) hm hs ho' ⟨v, hd', f.tmp _ hv⟩⟩

/- a store into a mutable list -/
theorem s_mlist {Q : Unit → Shared → Prop} {k : Int} {xs : List LV} {j : Nat} (F : FS s₀ L ρ M τ s) (h1 : M[j]? = some (a, .list xs)) (h2 : (u, LV.d (.int k)) ∈ τ) (hv : (v, lv) ∈ τ) (h0 : 0 ≤ k) (hk : k < xs.length) (hk2 : k < 2 ^ 62)
    (h : ∀ s', FS s₀ L ρ (M.set j (a, .list (xs.set k.toNat lv))) τ s' → Q () s') : wpAny (model prog w) A (setItem (.ref a) u v) Q E s := by
  obtain ⟨t, rfl⟩ := F.int h2
  obtain ⟨V, O, m, f⟩ := F
  obtain ⟨o, e0, ⟨vs, n, rfl, q⟩, hg, _⟩ := f.getM h1
  have hlen := lvAll_len q
  refine ki_setAt hg h0 (by omega) (by simp; omega) (h _ ⟨V, _, m, f.setM (tk := s.toks) (o := listOf ((vs.set k.toNat v).toArray) n) h1 (Heap.SameBut.update ..) ?_ ⟨vs.set k.toNat v, n, rfl, lvAll_set q (f.tmp _ hv) _⟩⟩)
  have z := PySem.IsL.update hg (·.setIfInBounds k.toNat v)
  simpa using z

/- unpacking -/
theorem FX.ext (f : FX s₀ L ρ M τ V O m s) {h' : Heap} (hk : Heap.ExtBut s.heap.objs.size s.heap h') : FX s₀ L ρ M τ V O m { s with heap := h' } :=
  f.grow (tk := s.toks) fun b o e => hk b o (Nat.ne_of_lt (Heap.lt_size e)) e
theorem u_tuple {Q : Unit → Shared → Prop} {elts : List Expr} {k : Nat} (hh : A.handled = none) (F : FS s₀ L ρ M τ s) (h1 : (u, LV.d (.tuple ds)) ∈ τ) (hn : (assignEach elts env).length = ds.length) (hstar : (assignEach elts env).findIdx? (·.1) = none)
    (h : ∀ vs s', vs.length = ds.length → FS s₀ L ρ M (vs.zip (ds.map .d) ++ τ) s' → wpAny (model prog w) A (assignInOrder ((assignEach elts env).map (·.2)) vs) Q E s') : wpAny (model prog w) A (assign (.Tuple elts k pos) env u) Q E s := by
  obtain ⟨V, O, m, f⟩ := F
  obtain ⟨a, vs, n, rfl, hm, hg, q⟩ := f.tup h1
  have hlen := q.length
  refine wpAny_assign_Tuple hh (items := vs.toArray) ⟨_, hg, rfl, n, rfl⟩ (by rw [hn, List.size_toArray, hlen]) hstar fun h' hk => ?_
  refine h vs _ hlen ⟨V, O, m, ?_⟩
  have g := f.ext hk
  refine ⟨g.fr, g.nv, g.om, g.nd, g.dj, g.loc, fun p hp => ?_, g.same⟩
  rcases List.mem_append.mp hp with hp | hp
  · have : ∀ {vs : List Value} {ds : List Dat}, DatAll V vs ds → ∀ p ∈ vs.zip (ds.map LV.d), LVIn V p.1 p.2 := by
      intro vs
      induction vs with
      | nil => intro ds _ p hp; simp at hp
      | cons v vs ih =>
        intro ds q p hp
        cases q with
        | cons a b =>
          simp only [List.map_cons, List.zip_cons_cons] at hp
          rcases List.mem_cons.mp hp with rfl | hp
          · exact a
          · exact ih b p hp
    exact this q p hp
  · exact g.tmp p hp
/-- unpacking a tuple that was just displayed -/
theorem u_new {Q : Unit → Shared → Prop} {elts : List Expr} {k : Nat} {vs : List Value} (hh : A.handled = none) (F : FS s₀ L ρ M τ s) (hn : (assignEach elts env).length = vs.length) (hstar : (assignEach elts env).findIdx? (·.1) = none)
    (h : ∀ s', FS s₀ L ρ M τ s' → wpAny (model prog w) A (assignInOrder ((assignEach elts env).map (·.2)) vs) Q E s') :
    wpAny (model prog w) A (assign (.Tuple elts k pos) env (.ref s.heap.objs.size)) Q E { s with heap := s.heap.push { cls := .type "tuple", data := .seq vs.toArray } } := by
  obtain ⟨V, O, m, f⟩ := F
  have g := f.grow (tk := s.toks) (h' := s.heap.push { cls := .type "tuple", data := .seq vs.toArray }) fun _ _ e => Heap.get?_push_of_some _ e
  exact wpAny_assign_Tuple hh (items := vs.toArray) ⟨_, Heap.get?_push_size _ rfl, rfl, 0, rfl⟩ (by rw [hn, List.size_toArray]) hstar fun h' hk => h _ ⟨V, O, m, g.ext hk⟩
/-- unpacking a mutable list -/
theorem u_mlist {Q : Unit → Shared → Prop} {elts : List Expr} {k : Nat} {xs : List LV} {j : Nat} (hh : A.handled = none) (F : FS s₀ L ρ M τ s) (h1 : M[j]? = some (a, .list xs)) (hn : (assignEach elts env).length = xs.length) (hstar : (assignEach elts env).findIdx? (·.1) = none)
    (h : ∀ vs s', vs.length = xs.length → FS s₀ L ρ M (vs.zip xs ++ τ) s' → wpAny (model prog w) A (assignInOrder ((assignEach elts env).map (·.2)) vs) Q E s') : wpAny (model prog w) A (assign (.Tuple elts k pos) env (.ref a)) Q E s := by
  obtain ⟨V, O, m, f⟩ := F
  obtain ⟨o, e0, ⟨vs, n, rfl, q⟩, hg, _⟩ := f.getM h1
  have hlen := lvAll_len q
  refine kun_list f.fr f.nv (items := vs.toArray) ⟨_, hg, rfl, n, rfl⟩ hh (by rw [hn, List.size_toArray, hlen]) hstar fun h' F' N' => ?_
  refine h vs _ hlen ⟨V, O, m, ⟨F', N', f.om, f.nd, f.dj, f.loc, fun p hp => ?_, let ⟨_, tk, e⟩ := f.same; ⟨h', tk, by rw [e]⟩⟩⟩
  rcases List.mem_append.mp hp with hp | hp
  · have : ∀ {vs : List Value} {xs : List LV}, LVAll V vs xs → ∀ p ∈ vs.zip xs, LVIn V p.1 p.2 := by
      intro vs xs q
      induction q with
      | nil => intro p hp; simp at hp
      | cons a _ ih =>
        intro p hp
        rw [List.zip_cons_cons] at hp
        rcases List.mem_cons.mp hp with rfl | hp
        · exact a
        · exact ih p hp
    exact this q p hp
  · exact f.tmp p hp

/- attributes -/
def setF (x : Str) (lv : LV) : List (Str × LV) → List (Str × LV)
  | [] => [(x, lv)]
  | (y, l) :: r => if y == x then (y, lv) :: r else (y, l) :: setF x lv r
theorem isStr_str (y x : Str) (t : Tok) : (Value.str y t).isStr x = (y == x) := rfl
theorem fsIn_get {es : List DictEntry} {fs : List (Str × LV)} (q : FsIn V es fs) (e : fs.lookup x = some lv) : ∃ v, getL x es = some (some v) ∧ LVIn V v lv := by
  induction q with
  | nil => simp at e
  | cons hv _ ih =>
    rename_i hsh name t v es y fs _
    rw [List.lookup_cons] at e
    unfold getL
    rw [List.find?_cons]
    rw [isStr_str]
    cases hb : x == name with
    | true =>
      rw [hb] at e
      have hb' : (name == x) = true := by rw [beq_iff_eq] at hb ⊢; exact hb.symm
      rw [hb']
      cases e
      exact ⟨v, rfl, hv⟩
    | false =>
      rw [hb] at e
      have hb' : (name == x) = false := by rw [beq_eq_false_iff_ne] at hb ⊢; exact fun z => hb z.symm
      rw [hb']
      obtain ⟨w, e1, e2⟩ := ih e
      refine ⟨w, ?_, e2⟩
      unfold getL at e1
      split at e1
      · rename_i e' hf
        dsimp only
        rw [hf]
        exact e1
      · split at e1 <;> cases e1
theorem fsIn_none {es : List DictEntry} {fs : List (Str × LV)} (q : FsIn V es fs) (e : fs.lookup x = none) : getL x es = some none := by
  have h2 : es.any (·.refKey) = false := by
    clear e
    induction q with
    | nil => rfl
    | cons _ _ ih => rw [List.any_cons, ih]; rfl
  have h1 : es.find? (·.key.isStr x) = none := by
    clear h2
    induction q with
    | nil => rfl
    | cons _ _ ih =>
      rename_i hsh name t v es y fs _ _
      rw [List.lookup_cons] at e
      rw [List.find?_cons]
      rw [isStr_str]
      cases hb : x == name with
      | true => rw [hb] at e; cases e
      | false =>
        rw [hb] at e
        have hb' : (name == x) = false := by rw [beq_eq_false_iff_ne] at hb ⊢; exact fun z => hb z.symm
        rw [hb']
        exact ih e
  unfold getL
  rw [h1, h2]; rfl
theorem fsIn_put {es : List DictEntry} {fs : List (Str × LV)} {hsh : Int} {t : Tok} (q : FsIn V es fs) (hv : LVIn V v lv) : FsIn V (putL x hsh (.str x t) v es) (setF x lv fs) := by
  induction q with
  | nil => exact .cons hv .nil
  | cons hy q' ih =>
    rename_i hs' name t' v' es y fs
    unfold putL setF
    show FsIn V (if (name == x) = true then _ else _) _
    by_cases hb : (name == x) = true
    · rw [if_pos hb, if_pos hb]; exact .cons hv q'
    · rw [if_neg hb, if_neg hb]; exact .cons hy ih
theorem fsIn_len {es : List DictEntry} {fs : List (Str × LV)} (q : FsIn V es fs) : es.length = fs.length := by
  induction q with
  | nil => rfl
  | cons _ _ ih => simp [ih]
theorem upd_of {a : Addr} {o o' : Obj} : ∀ {O : Led} {j : Nat}, O[j]? = some (a, o) → (O.map (·.1)).Nodup → (∀ p ∈ V, p.1 ∉ O.map (·.1)) → Upd a o o' (O ++ V) (O.set j (a, o') ++ V)
  | [], j, h, _, _ => by simp at h
  | p :: O, 0, h, nd, dj => by
    simp at h; subst h
    rw [List.map_cons, List.nodup_cons] at nd
    refine .head fun q hq => ?_
    rcases List.mem_append.mp hq with hq | hq
    · exact fun e => nd.1 (List.mem_map.mpr ⟨q, hq, e⟩)
    · exact fun e => dj q hq (by rw [List.map_cons]; exact e ▸ .head _)
  | p :: O, j + 1, h, nd, dj => by
    simp at h
    rw [List.map_cons, List.nodup_cons] at nd
    refine .tail (fun e => nd.1 ?_) (upd_of h nd.2 fun q hq hm => dj q hq (by rw [List.map_cons]; exact .tail _ hm))
    exact List.mem_map.mpr ⟨_, List.mem_of_getElem? h, e.symm⟩

variable {K : Frag} {p : Program} {loose : List Str} {C dx : Addr} {j j' : Nat} {fs : List (Str × LV)}
theorem FX.inst (f : FX s₀ L ρ M τ V O m s) (h1 : M[j]? = some (a, .inst C dx)) (h2 : M[j']? = some (dx, .dict fs)) : ∃ es n, O[j']? = some (dx, dictOf es n) ∧ FsIn V es fs ∧ InstAt s.heap a (instObj C dx) C (some (dictOf es n)) := by
  obtain ⟨o1, _, e1, g1, _⟩ := f.getM h1
  obtain ⟨o2, i2, ⟨es, n, e2, q⟩, g2, _⟩ := f.getM h2
  have e1 : o1 = instObj C dx := e1
  subst e1 e2
  exact ⟨es, n, i2, q, g1, rfl, rfl, g2⟩
theorem handed_lv {v : Value} : ∀ {lv : LV}, LVIn V v lv → (∀ w, lv = .r w → handedIn w = true) → handedIn v = true
  | .d _, q, _ => DatIn.handed q
  | .r w, q, h => by have : v = w := q; subst this; exact h _ rfl
  | .o _, ⟨_, e, _⟩, _ => by subst e; rfl
  | .rng _ _, ⟨_, _, _, _, e, _⟩, _ => by subst e; rfl
  | .pr _, ⟨_, _, e, _⟩, _ => by subst e; rfl
theorem g_attr {attr : Option Value} {expr : Bool} (B : Base p loose K s₀) (F : FS s₀ L ρ M τ s) (h1 : M[j]? = some (a, .inst C dx)) (h2 : M[j']? = some (dx, .dict fs)) (hl : fs.lookup x = some lv)
    (hg : plainGet K C x = true) (hd : hasDictIn K C = true) (ha : findIn K (.ref C) x = some attr) (hn : noGet K attr = true) (hr : ∀ w, lv = .r w → handedIn w = true)
    (h : ∀ v s', FS s₀ L ρ M ((v, lv) :: τ) s' → Q v s') : wpAny (model prog w) A (getAttr (.ref a) x expr) Q E s := by
  obtain ⟨V, O, m, f⟩ := F
  obtain ⟨es, n, i2, q, I⟩ := f.inst h1 h2
  obtain ⟨v, e1, e2⟩ := fsIn_get q hl
  exact get_own f.fr B.X I hg hd ha hn e1 (handed_lv e2 hr) (h _ _ ⟨V, O, m, (f.tok _).temp e2⟩)
theorem s_attr {Q : Unit → Shared → Prop} (B : Base p loose K s₀) (F : FS s₀ L ρ M τ s) (h1 : M[j]? = some (a, .inst C dx)) (h2 : M[j']? = some (dx, .dict fs)) (hv : (v, lv) ∈ τ)
    (hs : findIn K (.ref C) "__setattr__" = some (some (.builtin "object.__setattr__"))) (hp : plainOver K C = true) (ht : takerIn K C x = some none) (hd : hasDictIn K C = true) (hz : fs.length ≤ 900)
    (h : ∀ s', FS s₀ L ρ (M.set j' (dx, .dict (setF x lv fs))) τ s' → Q () s') : wpAny (model prog w) A (setAttr (.ref a) x v) Q E s := by
  obtain ⟨V, O, m, f⟩ := F
  obtain ⟨es, n, i2, q, I⟩ := f.inst h1 h2
  have hl : (getL x es).isSome = true := by
    cases e : fs.lookup x with
    | none => rw [fsIn_none q e]; rfl
    | some lv => obtain ⟨v, e1, _⟩ := fsIn_get q e; rw [e1]; rfl
  have q' : FsIn V (putL x (PyData.keyHash w.params x) (.str x (s.toks + 1)) v es) (setF x lv fs) := fsIn_put (x := x) (hsh := PyData.keyHash w.params x) (t := s.toks + 1) q (f.tmp _ hv)
  have hlen : (putL x (PyData.keyHash w.params x) (.str x (s.toks + 1)) v es).length ≤ 1000 := by
    have e1 := fsIn_len q'
    have : (setF x lv fs).length ≤ fs.length + 1 := by
      clear q' q h2 h hz e1
      induction fs with
      | nil => simp [setF]
      | cons y fs ih =>
        unfold setF
        split
        · simp
        · simp at ih ⊢; omega
    omega
  refine set_dict f.fr B.X f.nv I rfl hs hp ht hd hl rfl (upd_of i2 f.nd f.dj) hlen fun h' F' N' => ?_
  refine h _ ⟨V, _, m, ⟨F', N', f.om.set (x := .dict (setF x lv fs)) ⟨_, _, rfl, q'⟩ h2, ?_, ?_, f.loc, f.tmp, let ⟨_, _, e⟩ := f.same; ⟨h', _, by rw [e]⟩⟩⟩
  · rw [set_fst i2]; exact f.nd
  · rw [set_fst i2]; exact f.dj
theorem g_meth {pl : Sem Bool} {Q : Value × List Value → Shared → Prop} {fn : Addr} (B : Base p loose K s₀) (F : FS s₀ L ρ M τ s) (h1 : M[j]? = some (a, .inst C dx)) (h2 : M[j']? = some (dx, .dict fs)) (hl : fs.lookup x = none)
    (hg : plainGet K C x = true) (hf : findIn K (.ref C) x = some (some (.ref fn))) (ht : isFn K (.ref fn) = true) (h : Q (.ref fn, [.ref a]) s) : wpAny (model prog w) A (getMethod (.ref a) x pl) Q E s := by
  obtain ⟨V, O, m, f⟩ := F
  obtain ⟨es, n, i2, q, I⟩ := f.inst h1 h2
  exact method_inst f.fr B.X I hg hf ht (fsIn_none q hl) h
theorem g_append {pl : Sem Bool} {Q : Value × List Value → Shared → Prop} {xs : List LV} (F : FS s₀ L ρ M τ s) (h1 : M[j]? = some (a, .list xs)) (h : Q (.builtin "list.append", [.ref a]) s) : wpAny (model prog w) A (getMethod (.ref a) "append" pl) Q E s := by
  obtain ⟨V, O, m, f⟩ := F
  obtain ⟨o, e0, ⟨vs, n, rfl, q⟩, hg, _⟩ := f.getM h1
  exact listMethod_K f.nv (List.mem_append.mpr (.inl (List.mem_of_getElem? e0))) PySem.F.slot_list_append PySem.F.type_list_append h
end


/-- what a frame left behind gives back -/
def Back (s₀ : Shared) (L : Addr) (ρ : List (Str × LV)) (oL : Obj) (τc : List (Value × LV)) : Prop :=
  ∀ L' ρ' M₂ τ' s', FS s₀ L' ρ' ((L, .raw oL) :: M₂) τ' s' → (∀ p ∈ τc, p ∈ τ') → FS s₀ L ρ M₂ τ' s'

def LocOk (τ : List (Value × LV)) (m : Str → Option Value) (ρ : List (Str × LV)) : Prop := ∀ p ∈ ρ, ∃ v, m p.1 = some v ∧ (v, p.2) ∈ τ
theorem LocOk.nil {τ : List (Value × LV)} {m : Str → Option Value} : LocOk τ m [] := fun _ h => nomatch h
theorem LocOk.cons {τ : List (Value × LV)} {m : Str → Option Value} {x : Str} {lv : LV} {ρ : List (Str × LV)} {v : Value} (h1 : m x = some v) (h2 : (v, lv) ∈ τ) (h : LocOk τ m ρ) : LocOk τ m ((x, lv) :: ρ) := fun p hp => by
  rcases List.mem_cons.mp hp with rfl | hp
  · exact ⟨v, h1, h2⟩
  · exact h p hp
inductive CellsOf (τ : List (Value × LV)) (cm : Str → Option Value) : List (Str × Addr) → List (Addr × AO) → Prop
  | nil : CellsOf τ cm [] []
  | none {n c cs cl} : cm n = none → CellsOf τ cm cs cl → CellsOf τ cm ((n, c) :: cs) ((c, .cell none) :: cl)
  | some {n c cs cl v lv} : cm n = some v → (v, lv) ∈ τ → CellsOf τ cm cs cl → CellsOf τ cm ((n, c) :: cs) ((c, .cell (some lv)) :: cl)

section
variable {prog : Program} {w : World} {A : Around} {E : Value → Shared → Prop} {s₀ s : Shared} {env : Env} {L : Addr} {ρ ρ' : List (Str × LV)} {M : List (Addr × AO)} {τ τ' : List (Value × LV)} {Q : Value → Shared → Prop} {x : Str} {pos : Pos} {lv : LV}
  {V O : Led} {m : Str → Option Value} {u v : Value} {a b : Addr} {ds es : List Dat} {d : Dat} {value slice : Expr}

def tempsOf (m : Str → Option Value) (ρ : List (Str × LV)) : List (Value × LV) := ρ.filterMap fun p => match m p.1, ρ.lookup p.1 with | some v, some lv => some (v, lv) | _, _ => none

theorem FX.temps (f : FX s₀ L ρ M τ V O m s) : ∀ p ∈ tempsOf m ρ, LVIn V p.1 p.2 := by
  intro p hp
  obtain ⟨q, hq, e⟩ := List.mem_filterMap.mp hp
  split at e
  · rename_i v lv h1 h2
    cases e
    obtain ⟨v', e1, e2⟩ := f.loc _ _ h2
    rw [h1] at e1; cases e1
    exact e2
  · cases e

theorem FX.back (f : FX s₀ L ρ M τ V O m s) : ∃ oL, s.heap.get? L = some oL ∧ Back s₀ L ρ oL (tempsOf m ρ) := by
  obtain ⟨oL, es, ep, hL, hLd, hLk, hLf⟩ := f.fr.ns
  refine ⟨oL, hL, ?_⟩
  rintro L' ρ' M₂ τ' s' ⟨V', O', m', g⟩ ht
  obtain ⟨fr, nv, om, nd, dj, loc, tmp, same⟩ := g
  cases om with
  | cons hx om' =>
    rename_i o O₂
    have e : o = oL := hx
    subst e
    rw [List.map_cons, List.nodup_cons] at nd
    have hL' := (nv _ (List.mem_append.mpr (.inl (.head _)))).1
    refine ⟨V', O₂, m, ⟨⟨o, es, ep, hL', hLd, hLk, hLf⟩, fr.keep, f.fr.above⟩, fun p hp => ?_, om', nd.2, fun p hp => ?_, fun x lv e => ?_, tmp, same⟩
    · rcases List.mem_append.mp hp with hp | hp
      · have z := nv p (List.mem_append.mpr (.inl (.tail _ hp)))
        exact ⟨z.1, fun e => nd.1 (List.mem_map.mpr ⟨p, hp, e⟩), z.2.2⟩
      · have z := nv p (List.mem_append.mpr (.inr hp))
        exact ⟨z.1, fun e => dj p hp (by rw [List.map_cons]; exact e ▸ .head _), z.2.2⟩
    · have := dj p hp
      rw [List.map_cons] at this
      exact fun e => this (.tail _ e)
    · obtain ⟨v, e1, e2⟩ := f.loc x lv e
      refine ⟨v, e1, tmp (v, lv) (ht _ ?_)⟩
      exact List.mem_filterMap.mpr ⟨(x, lv), mem_of_lookup e, by simp only [e1, e]⟩

theorem cellsOf_all {cm : Str → Option Value} {h : Heap} (f : ∀ p ∈ τ, LVIn V p.1 p.2) : ∀ {cs : List (Str × Addr)} {cl : List (Addr × AO)}, CellsOf τ cm cs cl → (∀ n c, (n, c) ∈ cs → h.IsCell c (cm n)) →
    ∃ Oc, OAll V Oc cl ∧ Oc.map (·.1) = cs.map (·.2) ∧ ∀ p ∈ Oc, h.get? p.1 = some p.2
  | [], _, .nil, _ => ⟨[], .nil, rfl, fun _ h => nomatch h⟩
  | (n, c) :: cs, _, .none hn r, hc => by
    obtain ⟨Oc, a1, a2, a3⟩ := cellsOf_all f r fun n c hm => hc n c (.tail _ hm)
    obtain ⟨o, ho, hd⟩ := hc n c (.head _)
    rw [hn] at hd
    exact ⟨(c, o) :: Oc, .cons hd a1, by simp [a2], fun p hp => by rcases List.mem_cons.mp hp with rfl | hp; exact ho; exact a3 p hp⟩
  | (n, c) :: cs, _, .some (v := v) hn hv r, hc => by
    obtain ⟨Oc, a1, a2, a3⟩ := cellsOf_all f r fun n c hm => hc n c (.tail _ hm)
    obtain ⟨o, ho, hd⟩ := hc n c (.head _)
    rw [hn] at hd
    exact ⟨(c, o) :: Oc, .cons ⟨v, hd, f _ hv⟩ a1, by simp [a2], fun p hp => by rcases List.mem_cons.mp hp with rfl | hp; exact ho; exact a3 p hp⟩

theorem lookup_of_apart {cs : List (Str × Addr)} (hn : (cs.map (·.1)).Nodup) {n : Str} {c : Addr} (h : (n, c) ∈ cs) : cs.lookup n = some c := by
  induction cs with
  | nil => cases h
  | cons p cs ih =>
    rw [List.map_cons, List.nodup_cons] at hn
    obtain ⟨k, kd⟩ := p
    rw [List.lookup_cons]
    rcases List.mem_cons.mp h with e | h1
    · cases e; simp
    · have : (n == k) = false := by
        rw [beq_eq_false_iff_ne]
        intro z
        exact hn.1 (List.mem_map.mpr ⟨_, h1, z⟩)
      rw [this]
      exact ih hn.2 h1

/-- a new frame with cells -/
theorem FX.enter (f : FX s₀ L ρ M τ V O m s) {L' : Addr} {m' cm : Str → Option Value} {cs : List (Str × Addr)} {cl : List (Addr × AO)} {s₁ : Shared} {oL : Obj} (hL : s.heap.get? L = some oL) (x : InCallC s L' m' cs cm s₁) (hL' : s.heap.objs.size = L') (hcs : (cs.map (·.1)).Nodup)
    (hρ : LocOk τ m' ρ') (hc : CellsOf τ cm cs cl) : FS s₀ L' ρ' (cl ++ (L, .raw oL) :: M) (tempsOf m ρ ++ τ) s₁ := by
  obtain ⟨Oc, c1, c2, c3⟩ := cellsOf_all (h := s₁.heap) f.tmp hc fun n c hm => x.cell n c (lookup_of_apart hcs hm)
  have keep := x.toInCall.keep
  have old : ∀ p ∈ O ++ V, p.1 < L' := fun p hp => hL' ▸ Heap.lt_size (f.nv p hp).1
  have hLL : L < L' := hL' ▸ Heap.lt_size hL
  have hs0 : s₀.heap.objs.size ≤ L := f.fr.above
  have none0 : ∀ c, L' ≤ c → s₀.heap.get? c = none := fun c hc => by
    cases q : s₀.heap.get? c with
    | none => rfl
    | some o => exact absurd (Heap.lt_size q) (Nat.not_lt.mpr (Nat.le_trans (Nat.le_trans hs0 (Nat.le_of_lt hLL)) hc))
  have hL0 : s₀.heap.get? L = none := by
    cases q : s₀.heap.get? L with
    | none => rfl
    | some o => exact absurd (Heap.lt_size q) (Nat.not_lt.mpr hs0)
  have above : ∀ p ∈ Oc, L' < p.1 := fun p hp => by
    have : p.1 ∈ cs.map (·.2) := c2 ▸ List.mem_map.mpr ⟨p, hp, rfl⟩
    obtain ⟨q, hq, e⟩ := List.mem_map.mp this
    exact e ▸ x.above q.1 q.2 hq
  refine ⟨V, Oc ++ (L, oL) :: O, m', ⟨x.toInCall.ns, fun b o e => keep b o (f.fr.keep b o e), Nat.le_trans hs0 (Nat.le_of_lt hLL)⟩, fun p hp => ?_, ?_, ?_, fun p hp hm => ?_, fun y l e => ?_, fun p hp => ?_, ?_⟩
  · rw [List.append_assoc] at hp
    rcases List.mem_append.mp hp with hp | hp
    · exact ⟨c3 p hp, Nat.ne_of_gt (above p hp), none0 _ (Nat.le_of_lt (above p hp))⟩
    · rw [List.cons_append] at hp
      rcases List.mem_cons.mp hp with rfl | hp
      · exact ⟨keep _ _ hL, Nat.ne_of_lt hLL, hL0⟩
      · exact ⟨keep _ _ (f.nv p hp).1, Nat.ne_of_lt (old p hp), (f.nv p hp).2.2⟩
  · have app : ∀ {A B : Led} {P R : List (Addr × AO)}, OAll V A P → OAll V B R → OAll V (A ++ B) (P ++ R) := by
      intro A B P R h1 h2
      induction h1 with
      | nil => exact h2
      | cons a _ ih => exact .cons a ih
    exact app c1 (.cons rfl f.om)
  · rw [List.map_append, List.map_cons]
    refine List.nodup_append.mpr ⟨?_, ?_, fun a ha b hb => ?_⟩
    · rw [c2]
      have : ∀ {cs : List (Str × Addr)}, (cs.Pairwise fun x y => x.2 ≠ y.2) → (cs.map (·.2)).Nodup := by
        intro cs h
        exact List.pairwise_map.mpr h
      exact this x.apart
    · rw [List.nodup_cons]
      refine ⟨fun hm => ?_, f.nd⟩
      obtain ⟨q, hq, e⟩ := List.mem_map.mp hm
      exact (f.nv q (List.mem_append.mpr (.inl hq))).2.1 e
    · obtain ⟨q, hq, rfl⟩ := List.mem_map.mp ha
      have h1 := above q hq
      rcases List.mem_cons.mp hb with rfl | hb
      · exact Nat.ne_of_gt (Nat.lt_trans hLL h1)
      · obtain ⟨r, hr, rfl⟩ := List.mem_map.mp hb
        exact Nat.ne_of_gt (Nat.lt_trans (old r (List.mem_append.mpr (.inl hr))) h1)
  · rw [List.map_append, List.map_cons] at hm
    rcases List.mem_append.mp hm with hm | hm
    · obtain ⟨q, hq, e⟩ := List.mem_map.mp hm
      exact absurd (e ▸ above q hq) (Nat.not_lt.mpr (Nat.le_of_lt (old p (List.mem_append.mpr (.inr hp)))))
    · rcases List.mem_cons.mp hm with e | hm
      · exact (f.nv p (List.mem_append.mpr (.inr hp))).2.1 e
      · exact f.dj p hp hm
  · obtain ⟨v, e1, e2⟩ := hρ _ (mem_of_lookup e)
    exact ⟨v, e1, f.tmp _ e2⟩
  · rcases List.mem_append.mp hp with hp | hp
    · exact f.temps p hp
    · exact f.tmp p hp
  · obtain ⟨h, tk, e⟩ := f.same
    obtain ⟨h', tk', e'⟩ := x.toInCall.same
    exact ⟨h', tk', by rw [e', e]⟩

variable {K : Frag} {p : Program} {loose : List Str}
/-- a call of a plain def: its frame, its cells; the way back -/
theorem code_fn {name qual : Str} {params : Arguments} {body : List Stmt} {scope : Scope} {dV kV doc pm cdv ct oc : Value} {an od : Option Addr} {osl : Array (Option Value)} {f : Addr} {vals : List Value} {binds : List (Str × Value)} {cl : Addr → List (Addr × AO)} {R : Result → Shared → Prop}
    (B : Base p loose K s₀) (F : FS s₀ L ρ M τ s) (ho : K.lookup f = some ⟨oc, od, .func (fnOf name qual params body scope dV kV doc pm an cdv ct), osl⟩) (hcd : codeIn K cdv qual = true) (hroom : A.depth < recursionLimit)
    (hbind : bindArgs (fnOf name qual params body scope dV kV doc pm an cdv ct) ⟨vals, []⟩ = pure binds)
    (hkind : (binds.all fun y => scope.names.lookup y.1 == some .local || scope.names.lookup y.1 == some .cell) = true)
    (hnd : ((cellsFrom 0 scope.names []).map (·.1)).Nodup)
    (hρ : LocOk τ (bindL (fun y => scope.names.lookup y) binds fun _ => none) ρ') (hc : ∀ L', CellsOf τ (bindC (fun y => scope.names.lookup y) binds fun _ => none) (cellsFrom (L' + 1) scope.names []) (cl L'))
    (h : ∀ L' oL τc s₁, Back s₀ L ρ oL τc → FS s₀ L' ρ' (cl L' ++ (L, .raw oL) :: M) (τc ++ τ) s₁ →
      wpAny (model prog w) (A.deeper (envOfC qual scope L' f cdv)) (execs body (envOfC qual scope L' f cdv)) (fun fl s' => R (.ok (.ret (match fl with | .ret v => v | _ => .none))) s') (fun _ _ => False) s₁)
    (hco : scope.isCoroutine = false := by rfl) (hgen : scope.isGenerator = false := by rfl) (hk : scope.kind = .function := by rfl) : codeAny (model prog w) A (.call (.ref f) ⟨vals, []⟩) R s := by
  obtain ⟨V, O, m, fx⟩ := F
  obtain ⟨mean, mg, mb, T⟩ := B.T
  obtain ⟨oL, hL, bk⟩ := fx.back
  refine (codeAny_call_cells (fd := fnOf name qual params body scope dV kV doc pm an cdv ct) hroom ((B.X.keeps fx.fr.keep) _ _ ho) rfl (T.nolimit.keeps fx.fr.keep) (codeRec_of (B.X.keeps fx.fr.keep) hcd) rfl hbind rfl (kindsX hkind _) (fun s₁ x => ?_) hco hgen hk)
  have hkeys : ∀ (names : List (Str × NameKind)) (n n' : Nat) (acc acc' : List (Str × Addr)), acc.map (·.1) = acc'.map (·.1) → (cellsFrom n names acc).map (·.1) = (cellsFrom n' names acc').map (·.1) := by
    intro names
    induction names with
    | nil => intro n n' acc acc' e; exact e
    | cons y r ih =>
      intro n n' acc acc' e
      obtain ⟨y, k⟩ := y
      unfold cellsFrom
      by_cases hk : (k == NameKind.cell) = true
      · rw [if_pos hk, if_pos hk]; exact ih _ _ _ _ (by simp [e])
      · rw [if_neg hk, if_neg hk]; exact ih _ _ _ _ e
  have x' : InCallC s s.heap.objs.size (bindL (fun y => scope.names.lookup y) binds fun _ => none) (cellsFrom (s.heap.objs.size + 1) scope.names []) (bindC (fun y => scope.names.lookup y) binds fun _ => none) s₁ := x
  have F₁ := fx.enter (ρ' := ρ') hL x' rfl (by rw [hkeys scope.names _ 0 [] [] rfl]; exact hnd) hρ (hc _)
  refine wpAny_mono (h s.heap.objs.size oL _ s₁ bk F₁) (fun fl s' hq => hq) fun _ _ z => z.elim
theorem call_fn {name qual : Str} {params : Arguments} {body : List Stmt} {scope : Scope} {dV kV doc pm cdv ct oc : Value} {an od : Option Addr} {osl : Array (Option Value)} {f : Addr} {vals : List Value} {binds : List (Str × Value)} {cl : Addr → List (Addr × AO)}
    (B : Base p loose K s₀) (F : FS s₀ L ρ M τ s) (ho : K.lookup f = some ⟨oc, od, .func (fnOf name qual params body scope dV kV doc pm an cdv ct), osl⟩) (hcd : codeIn K cdv qual = true) (hroom : A.depth < recursionLimit)
    (hbind : bindArgs (fnOf name qual params body scope dV kV doc pm an cdv ct) ⟨vals, []⟩ = pure binds)
    (hkind : (binds.all fun y => scope.names.lookup y.1 == some .local || scope.names.lookup y.1 == some .cell) = true)
    (hnd : ((cellsFrom 0 scope.names []).map (·.1)).Nodup)
    (hρ : LocOk τ (bindL (fun y => scope.names.lookup y) binds fun _ => none) ρ') (hc : ∀ L', CellsOf τ (bindC (fun y => scope.names.lookup y) binds fun _ => none) (cellsFrom (L' + 1) scope.names []) (cl L'))
    (h : ∀ L' oL τc s₁, Back s₀ L ρ oL τc → FS s₀ L' ρ' (cl L' ++ (L, .raw oL) :: M) (τc ++ τ) s₁ →
      wpAny (model prog w) (A.deeper (envOfC qual scope L' f cdv)) (execs body (envOfC qual scope L' f cdv)) (fun fl s' => Q (match fl with | .ret v => v | _ => .none) s') (fun _ _ => False) s₁)
    (hco : scope.isCoroutine = false := by rfl) (hgen : scope.isGenerator = false := by rfl) (hk : scope.kind = .function := by rfl) : wpAny (model prog w) A (call (.ref f) vals) Q E s :=
  wpAny_call (code_fn (R := fun r s' => match r with | .ok (.ret v) => Q v s' | .ok _ => False | .error e => E e s') B F ho hcd hroom hbind hkind hnd hρ hc h hco hgen hk)

theorem FS.sel {P M₀ : List (Addr × AO)} (js : List Nat) (F : FS s₀ L ρ (P ++ M₀) τ s) (hj : js.Nodup) : FS s₀ L ρ (js.filterMap (P[·]?) ++ M₀) τ s := by
  obtain ⟨V, O, m, f⟩ := F
  obtain ⟨fr, nv, om, nd, dj, loc, tmp, same⟩ := f
  have split : ∀ {P : List (Addr × AO)} {O : Led}, OAll V O (P ++ M₀) → ∃ O₁ O₂, O = O₁ ++ O₂ ∧ OAll V O₁ P ∧ OAll V O₂ M₀ := by
    intro P
    induction P with
    | nil => intro O h; exact ⟨[], O, rfl, .nil, h⟩
    | cons q P ih =>
      intro O h
      rw [List.cons_append] at h
      cases h with
      | cons a b =>
        obtain ⟨O₁, O₂, rfl, c1, c2⟩ := ih b
        exact ⟨_ :: O₁, O₂, rfl, .cons a c1, c2⟩
  obtain ⟨O₁, O₂, rfl, c1, c2⟩ := split om
  have app : ∀ {A B : Led} {P R : List (Addr × AO)}, OAll V A P → OAll V B R → OAll V (A ++ B) (P ++ R) := by
    intro A B P R h1 h2
    induction h1 with
    | nil => exact h2
    | cons a _ ih => exact .cons a ih
  have pick : ∀ (js : List Nat), OAll V (js.filterMap (O₁[·]?)) (js.filterMap (P[·]?)) := by
    intro js
    induction js with
    | nil => exact .nil
    | cons j js ih =>
      rw [List.filterMap_cons, List.filterMap_cons]
      cases e : P[j]? with
      | none =>
        have : O₁[j]? = none := by
          rw [List.getElem?_eq_none_iff] at e ⊢
          have := congrArg List.length c1.fst
          simp at this; omega
        rw [this]; exact ih
      | some q =>
        obtain ⟨a, x⟩ := q
        obtain ⟨o, e1, e2⟩ := c1.get e
        rw [e1]; exact .cons e2 ih
  have memp : ∀ q ∈ js.filterMap (O₁[·]?), q ∈ O₁ := fun q hq => by
    obtain ⟨j, _, e⟩ := List.mem_filterMap.mp hq
    exact List.mem_of_getElem? e
  rw [List.map_append] at nd
  obtain ⟨n1, n2, n3⟩ := List.nodup_append.mp nd
  refine ⟨V, js.filterMap (O₁[·]?) ++ O₂, m, fr, fun p hp => ?_, app (pick js) c2, ?_, fun p hp hm => ?_, loc, tmp, same⟩
  · refine nv p ?_
    simp only [List.mem_append] at hp ⊢
    rcases hp with (hp | hp) | hp
    · exact .inl (.inl (memp p hp))
    · exact .inl (.inr hp)
    · exact .inr hp
  · rw [List.map_append]
    refine List.nodup_append.mpr ⟨?_, n2, fun a ha b hb => ?_⟩
    · have : ∀ (js : List Nat), js.Nodup → ((js.filterMap (O₁[·]?)).map (·.1)).Nodup := by
        intro js
        induction js with
        | nil => intro _; exact .nil
        | cons j js ih =>
          intro hj
          rw [List.nodup_cons] at hj
          rw [List.filterMap_cons]
          cases e : O₁[j]? with
          | none => exact ih hj.2
          | some q =>
            rw [List.map_cons, List.nodup_cons]
            refine ⟨fun hm => ?_, ih hj.2⟩
            obtain ⟨r, hr, er⟩ := List.mem_map.mp hm
            obtain ⟨i, hi, ei⟩ := List.mem_filterMap.mp hr
            have hne : i ≠ j := fun z => hj.1 (z ▸ hi)
            have l1 : (O₁.map (·.1))[i]? = some r.1 := by rw [List.getElem?_map, ei]; rfl
            have l2 : (O₁.map (·.1))[j]? = some q.1 := by rw [List.getElem?_map, e]; rfl
            rw [← er] at l2
            obtain ⟨hi1, e1⟩ := List.getElem?_eq_some_iff.mp l1
            obtain ⟨hj1, e2⟩ := List.getElem?_eq_some_iff.mp l2
            have := List.getElem_inj n1 |>.mp (e1.trans e2.symm)
            exact hne this
      exact this js hj
    · obtain ⟨q, hq, rfl⟩ := List.mem_map.mp ha
      exact n3 _ (List.mem_map.mpr ⟨q, memp q hq, rfl⟩) b hb
  · rw [List.map_append] at hm
    refine dj p hp ?_
    rw [List.map_append]
    rcases List.mem_append.mp hm with hm | hm
    · obtain ⟨q, hq, e⟩ := List.mem_map.mp hm
      exact List.mem_append.mpr (.inl (List.mem_map.mpr ⟨q, memp q hq, e⟩))
    · exact List.mem_append.mpr (.inr hm)
theorem FS.wk (F : FS s₀ L ρ M τ s) (hτ : ∀ p ∈ τ', p ∈ τ) : FS s₀ L ρ M τ' s := let ⟨V, O, m, f⟩ := F; ⟨V, O, m, f.weak (fun _ _ e => e) hτ⟩
theorem FS.freeze (F : FS s₀ L ρ ((a, .list (ds.map .d)) :: M) τ s) : FS s₀ L ρ M ((.ref a, .d (.list ds)) :: τ) s := by
  obtain ⟨V, O, m, f⟩ := F
  obtain ⟨V', O', g⟩ := f.freeze rfl
  exact ⟨V', O', m, g⟩
end


structure Setup where
  prog : Program
  w : World
  s₀ : Shared
  p : Program
  loose : List Str
  K : Frag
  B : Base p loose K s₀

def Ok (A : Around) (k : Nat) : Prop := A.handled = none ∧ A.depth + k ≤ 900 ∧ A.units + 3 * k ≤ 9000

section
variable {P : Setup} {A : Around} {E : Value → Shared → Prop} {s₀ s : Shared} {env : Env} {L : Addr} {ρ ρ' : List (Str × LV)} {M M' : List (Addr × AO)} {τ τ' : List (Value × LV)} {Q : Value → Shared → Prop} {x : Str} {pos : Pos} {lv : LV}
  {V O : Led} {m : Str → Option Value} {u v : Value} {a b : Addr} {ds es : List Dat} {d : Dat}

theorem news_updE {h₀ h h' : Heap} {O : Led} {a : Addr} {o : Obj} (N : News h₀ L h O) (hs : ∀ b o, b ≠ a → h.get? b = some o → h'.get? b = some o) (ho : h'.get? a = some o) : ∀ {j : Nat} {o₁ : Obj}, O[j]? = some (a, o₁) → (O.map (·.1)).Nodup → News h₀ L h' (O.set j (a, o)) := by
  induction O with
  | nil => intro j o₁ h; simp at h
  | cons p O ih =>
    intro j o₁ hj nd
    rw [List.map_cons, List.nodup_cons] at nd
    have N' : News h₀ L h O := fun q hq => N q (.tail _ hq)
    cases j with
    | zero =>
      simp at hj; subst hj
      intro q hq
      rw [List.set_cons_zero] at hq
      rcases List.mem_cons.mp hq with rfl | hq
      · exact ⟨ho, (N _ (.head _)).2⟩
      · refine ⟨hs _ _ (fun e => nd.1 ?_) (N' q hq).1, (N' q hq).2⟩
        exact List.mem_map.mpr ⟨q, hq, e⟩
    | succ j =>
      simp at hj
      intro q hq
      rw [List.set_cons_succ] at hq
      rcases List.mem_cons.mp hq with rfl | hq
      · refine ⟨hs _ _ (fun e => nd.1 ?_) (N _ (.head _)).1, (N _ (.head _)).2⟩
        exact List.mem_map.mpr ⟨_, List.mem_of_getElem? hj, e.symm⟩
      · exact ih N' hj nd.2 q hq

theorem FX.setE (F : FX s₀ L ρ M τ V O m s) {j : Nat} {a : Addr} {x y : AO} {o : Obj} {h' : Heap} {tk : Nat} (h : M[j]? = some (a, y)) (hs : ∀ b o, b ≠ a → s.heap.get? b = some o → h'.get? b = some o) (ho : h'.get? a = some o) (hx : OIn V o x) :
    FX s₀ L ρ (M.set j (a, x)) τ V (O.set j (a, o)) m { s with heap := h', toks := tk } := by
  obtain ⟨o₁, e, q, g1, g2, g3⟩ := F.getM h
  have fst : (O.set j (a, o)).map (·.1) = O.map (·.1) := set_fst e
  obtain ⟨oL, es, ep, hoL, r⟩ := F.fr.ns
  refine ⟨⟨⟨oL, es, ep, hs _ _ g2.symm hoL, r⟩, fun b o' e' => hs _ _ ?_ (F.fr.keep b o' e'), F.fr.above⟩, fun p hp => ?_, F.om.set hx h, by rw [fst]; exact F.nd, fun p hp => by rw [fst]; exact F.dj p hp, F.loc, F.tmp, let ⟨_, _, e⟩ := F.same; ⟨h', tk, by rw [e]⟩⟩
  · rintro rfl; rw [g3] at e'; cases e'
  rcases List.mem_append.mp hp with hp | hp
  · exact news_updE (News.app F.nv).1 hs ho e F.nd p hp
  · have z := F.nv p (List.mem_append.mpr (.inr hp))
    refine ⟨hs _ _ (fun q => F.dj p hp ?_) z.1, z.2⟩
    exact List.mem_map.mpr ⟨_, List.mem_of_getElem? e, q.symm⟩

theorem FX.dropHead {p : Addr × AO} (F : FX s₀ L ρ (p :: M) τ V O m s) : ∃ O', FX s₀ L ρ M τ V O' m s := by
  obtain ⟨fr, nv, om, nd, dj, loc, tmp, same⟩ := F
  cases om with
  | cons hx om' =>
    rename_i a o x O'
    rw [List.map_cons, List.nodup_cons] at nd
    exact ⟨O', fr, fun q hq => nv q (List.mem_append.mpr (by rcases List.mem_append.mp hq with h | h; exact .inl (.tail _ h); exact .inr h)), om', nd.2, fun q hq h => dj q hq (by rw [List.map_cons]; exact .tail _ h), loc, tmp, same⟩
theorem FS.drop {p : Addr × AO} (F : FS s₀ L ρ (p :: M) τ s) : FS s₀ L ρ M τ s := by
  obtain ⟨V, O, m, f⟩ := F
  obtain ⟨O', g⟩ := f.dropHead
  exact ⟨V, O', m, g⟩
theorem FS.reloc {v : Value} (F : FS s₀ L ρ M τ s) (h1 : ρ.lookup x = some (.r v)) (h2 : (v, lv) ∈ τ) : FS s₀ L ((x, lv) :: ρ) M τ s := by
  obtain ⟨V, O, m, f⟩ := F
  obtain ⟨v', e1, e2⟩ := f.loc _ _ h1
  have e2 : v' = v := e2
  subst e2
  refine ⟨V, O, m, f.fr, f.nv, f.om, f.nd, f.dj, fun y lv' e => ?_, f.tmp, f.same⟩
  rw [List.lookup_cons] at e
  by_cases hy : y = x
  · subst hy
    simp at e; subst e
    exact ⟨v', e1, f.tmp _ h2⟩
  · have hb : (y == x) = false := by simpa using hy
    rw [hb] at e
    exact f.loc y lv' e

theorem mem_erase {o : Obj} : ∀ {O : Led} {j : Nat}, O[j]? = some (a, o) → (O.map (·.1)).Nodup → ∀ p ∈ O.eraseIdx j, p ∈ O ∧ p.1 ≠ a
  | [], j, h, _ => by simp at h
  | q :: O, 0, h, nd => by
    simp at h; subst h
    rw [List.map_cons, List.nodup_cons] at nd
    intro p hp
    rw [List.eraseIdx_cons_zero] at hp
    exact ⟨.tail _ hp, fun e => nd.1 (List.mem_map.mpr ⟨p, hp, e⟩)⟩
  | q :: O, j + 1, h, nd => by
    simp at h
    rw [List.map_cons, List.nodup_cons] at nd
    intro p hp
    rw [List.eraseIdx_cons_succ] at hp
    rcases List.mem_cons.mp hp with rfl | hp
    · exact ⟨.head _, fun e => nd.1 (List.mem_map.mpr ⟨_, List.mem_of_getElem? h, e.symm⟩)⟩
    · have := mem_erase h nd.2 p hp
      exact ⟨.tail _ this.1, this.2⟩
theorem OAll.erase (q : OAll V O M) : ∀ j, OAll V (O.eraseIdx j) (M.eraseIdx j) := by
  induction q with
  | nil => intro j; exact .nil
  | cons hx q ih =>
    intro j
    cases j with
    | zero => exact q
    | succ j => exact .cons hx (ih j)
theorem FX.eraseE (F : FX s₀ L ρ M τ V O m s) {j : Nat} {a : Addr} {y : AO} {h' : Heap} {tk : Nat} (h : M[j]? = some (a, y)) (hs : ∀ b o, b ≠ a → s.heap.get? b = some o → h'.get? b = some o) :
    FX s₀ L ρ (M.eraseIdx j) τ V (O.eraseIdx j) m { s with heap := h', toks := tk } := by
  obtain ⟨o₁, e, q, g1, g2, g3⟩ := F.getM h
  obtain ⟨oL, es, ep, hoL, r⟩ := F.fr.ns
  have me := mem_erase e F.nd
  refine ⟨⟨⟨oL, es, ep, hs _ _ g2.symm hoL, r⟩, fun b o' e' => hs _ _ ?_ (F.fr.keep b o' e'), F.fr.above⟩, fun p hp => ?_, F.om.erase j, ?_, fun p hp hm => ?_, F.loc, F.tmp, let ⟨_, _, e⟩ := F.same; ⟨h', tk, by rw [e]⟩⟩
  · rintro rfl; rw [g3] at e'; cases e'
  · rcases List.mem_append.mp hp with hp | hp
    · have z := F.nv p (List.mem_append.mpr (.inl (me p hp).1))
      exact ⟨hs _ _ (me p hp).2 z.1, z.2⟩
    · have z := F.nv p (List.mem_append.mpr (.inr hp))
      refine ⟨hs _ _ (fun q => F.dj p hp ?_) z.1, z.2⟩
      exact List.mem_map.mpr ⟨_, List.mem_of_getElem? e, q.symm⟩
  · exact ((List.eraseIdx_sublist O j).map _).nodup F.nd
  · obtain ⟨q, hq, e⟩ := List.mem_map.mp hm
    exact F.dj p hp (List.mem_map.mpr ⟨q, (me q hq).1, e⟩)

/-- an iterator over known items -/
structure It (P : Setup) (A : Around) (it : Addr) (items : List LV) (φ : Nat → Obj → Prop) (τp : List (Value × LV)) (μp : List (Addr × AO)) : Prop where
  next : ∀ {i lv L ρ} {M : List (Addr × AO)} {τ s Q E} {j : Nat}, items[i]? = some lv → FS P.s₀ L ρ M τ s → (∀ p ∈ τp, p ∈ τ) → (∀ p ∈ μp, p ∈ M) → M[j]? = some (it, AO.own (φ i)) →
    (∀ v s', FS P.s₀ L ρ (M.set j (it, AO.own (φ (i + 1)))) ((v, lv) :: τ) s' → Q (some v) s') → wpAny (model P.prog P.w) A (pyNext (.ref it)) Q E s
  done : ∀ {L ρ} {M : List (Addr × AO)} {τ s Q E} {j : Nat}, FS P.s₀ L ρ M τ s → (∀ p ∈ τp, p ∈ τ) → (∀ p ∈ μp, p ∈ M) → M[j]? = some (it, AO.own (φ items.length)) →
    (∀ s', FS P.s₀ L ρ (M.eraseIdx j) τ s' → Q none s') → wpAny (model P.prog P.w) A (pyNext (.ref it)) Q E s
  self : ∀ {i L ρ} {M : List (Addr × AO)} {τ s Q E} {j : Nat}, FS P.s₀ L ρ M τ s → (∀ p ∈ τp, p ∈ τ) → (∀ p ∈ μp, p ∈ M) → M[j]? = some (it, AO.own (φ i)) → (FS P.s₀ L ρ M τ s → Q (.ref it) s) → wpAny (model P.prog P.w) A (pyIter (.ref it)) Q E s
  go : ∀ {i L ρ} {M : List (Addr × AO)} {τ s Q E} {j : Nat} (target : Expr) (v : Value), FS P.s₀ L ρ M τ s → M[j]? = some (it, AO.own (φ i)) → (FS P.s₀ L ρ M τ s → Q () s) → wpAny (model P.prog P.w) A (letOwnedTupleGo target (.ref it) v) Q E s

theorem go_other {prog : Program} {w : World} {target : Expr} {it : Addr} {o : Obj} {T : String} {vs : Array Value} {Q : Unit → Shared → Prop} (ho : s.heap.get? it = some o) (hc : o.cls = .type T) (hd : o.data = .fields vs)
    (hT : (["enumerate", "zip", "dict_itemiterator", "dict_reverseitemiterator", "odict_iterator", "itertools.zip_longest", "itertools.pairwise"].contains T) = false) (h : Q () s) : wpAny (model prog w) A (letOwnedTupleGo target (.ref it) v) Q E s := by
  unfold letOwnedTupleGo
  split
  · split
    · rename_i r a e
      cases e
      refine wpAny_bind (wpAny_load ho ?_)
      rw [hc, hd]
      dsimp only
      rw [hT, Bool.false_and, if_neg Bool.false_ne_true]
      exact wpAny_pure h
    · exact wpAny_pure h
  · split
    · rename_i r a e
      cases e
      refine wpAny_bind (wpAny_load ho ?_)
      rw [hc, hd]
      dsimp only
      rw [hT, Bool.false_and, if_neg Bool.false_ne_true]
      exact wpAny_pure h
    · exact wpAny_pure h
  · exact wpAny_pure h

def Itm (P : Setup) (μp : List (Addr × AO)) (lv : LV) (items : List LV) : Prop := ∀ A : Around, A.handled = none → ∀ {L ρ M τ s Q E v}, FS P.s₀ L ρ M τ s → (v, lv) ∈ τ → (∀ p ∈ μp, p ∈ M) →
  (∀ it φ τp s', It P A it items φ τp μp → FS P.s₀ L ρ ((it, AO.own (φ 0)) :: M) (τp ++ τ) s' → Q (.ref it) s') → wpAny (model P.prog P.w) A (pyIter v) Q E s

abbrev Itb (P : Setup) (lv : LV) (items : List LV) : Prop := Itm P [] lv items

theorem FX.oat {o : Obj} (f : FX s₀ L ρ M τ V O m s) (h : (v, LV.o o) ∈ τ) : ∃ a, v = .ref a ∧ (a, o) ∈ V ∧ s.heap.get? a = some o := by
  obtain ⟨a, e, hm⟩ := f.tmp _ h
  exact ⟨a, e, hm, (f.nv _ (List.mem_append.mpr (.inr hm))).1⟩
theorem FX.oat' {o : Obj} (f : FX s₀ L ρ M τ V O m s) (h : (Value.ref a, LV.o o) ∈ τ) : (a, o) ∈ V ∧ s.heap.get? a = some o := by
  obtain ⟨a', e, hm, hg⟩ := f.oat h
  cases e
  exact ⟨hm, hg⟩
theorem FX.lst' {vs : List Value} {n : Nat} (f : FX s₀ L ρ M τ V O m s) (h0 : (Value.ref a, LV.o (listOf vs.toArray n)) ∈ τ) (h : (Value.ref a, LV.d (.list ds)) ∈ τ) : DatAll V vs ds := by
  obtain ⟨a', vs', n', e, hm, hg, q⟩ := f.lst h
  cases e
  rw [(f.oat' h0).2] at hg
  have e : listOf vs.toArray n = listOf vs'.toArray n' := by injection hg
  have e : (listOf vs.toArray n).data = (listOf vs'.toArray n').data := by rw [e]
  have e : Data.seq vs.toArray n = Data.seq vs'.toArray n' := e
  injection e with e1 _
  have : vs = vs' := by simpa using congrArg Array.toList e1
  rw [this]; exact q
def tupOf (vs : Array Value) (n : Nat) : Obj := { cls := .type "tuple", data := .seq vs n }
theorem FX.tup' {vs : List Value} {n : Nat} (f : FX s₀ L ρ M τ V O m s) (h0 : (Value.ref a, LV.o (tupOf vs.toArray n)) ∈ τ) (h : (Value.ref a, LV.d (.tuple ds)) ∈ τ) : DatAll V vs ds := by
  obtain ⟨a', vs', n', e, hm, hg, q⟩ := f.tup h
  cases e
  rw [(f.oat' h0).2] at hg
  have e : tupOf vs.toArray n = tupOf vs'.toArray n' := by injection hg
  have e : (tupOf vs.toArray n).data = (tupOf vs'.toArray n').data := by rw [e]
  have e : Data.seq vs.toArray n = Data.seq vs'.toArray n' := e
  injection e with e1 _
  have : vs = vs' := by simpa using congrArg Array.toList e1
  rw [this]; exact q
theorem map_get {j : Nat} (h : (ds.map LV.d)[j]? = some lv) : ∃ d, lv = .d d ∧ ds[j]? = some d := by
  rw [List.getElem?_map] at h
  cases e : ds[j]? with
  | none => rw [e] at h; cases h
  | some d => rw [e] at h; cases h; exact ⟨d, rfl, rfl⟩

theorem it_list (ds : List Dat) : Itb P (.d (.list ds)) (ds.map .d) := by
  intro A hh L ρ M τ s Q E v F hv _ h
  obtain ⟨V, O, m, f⟩ := F
  obtain ⟨ax, vs, n, rfl, hm, hg, q⟩ := f.lst hv
  have hl : s.heap.IsList ax vs.toArray := ⟨_, hg, rfl, n, rfl⟩
  have hlen := q.length
  refine wpAny_pyIter_list hl ?_
  have hne : ax ≠ s.heap.objs.size := Nat.ne_of_lt (Heap.lt_size hg)
  have W := Walks.list (prog := P.prog) (w := P.w) (A := A) hh s.heap.objs.size ax hne vs.toArray
  refine h s.heap.objs.size (fun i o => o.cls = .type "list_iterator" ∧ o.data = .fields #[.ref ax, .int i 0]) [(.ref ax, .o (listOf vs.toArray n)), (.ref ax, .d (.list ds))] _ ?_ ?_
  · have ps : ∀ {L ρ M τ V O m} {s' : Shared} {i j : Nat}, FX P.s₀ L ρ M τ V O m s' → (∀ p ∈ [((Value.ref ax), LV.o (listOf vs.toArray n)), (.ref ax, .d (.list ds))], p ∈ τ) →
        M[j]? = some (s.heap.objs.size, AO.own fun o => o.cls = .type "list_iterator" ∧ o.data = .fields #[.ref ax, .int i 0]) → s'.heap.IsListIter s.heap.objs.size ax i ∧ s'.heap.IsList ax vs.toArray := by
      intro L ρ M τ V O m s' i j f hp hj
      obtain ⟨o, _, ⟨c1, c2⟩, g, _⟩ := f.getM hj
      refine ⟨⟨o, g, c1, by rw [c2]⟩, ?_⟩
      have := (f.oat' (hp _ (.head _))).2
      exact ⟨_, this, rfl, n, rfl⟩
    refine ⟨?_, ?_, ?_, ?_⟩
    · rintro i lv L ρ M τ s' Q E j hi ⟨V, O, m, f⟩ hp _ hj h
      have hil : i < vs.toArray.size := by
        have := (List.getElem?_eq_some_iff.mp hi).1
        simp at this; simp; omega
      refine W.item i s' Q E hil (ps f hp hj) fun v h' tk hv hst hk => ?_
      obtain ⟨o', g', c1, c2⟩ := hst.1
      have f' := f.setE (tk := tk) (x := .own fun o => o.cls = .type "list_iterator" ∧ o.data = .fields #[.ref ax, .int (i + 1 : Nat) 0]) hj (fun b o hb e => hk b o (by simpa using hb) e) g' ⟨c1, by rw [c2]⟩
      refine h v _ ⟨V, _, m, f'.temp ?_⟩
      obtain ⟨d, rfl, hd⟩ := map_get hi
      have q' := f.lst' (hp _ (.head _)) (hp _ (.tail _ (.head _)))
      obtain ⟨v', e1, e2⟩ := datAll_get q' hd
      have hv : vs.toArray[i]? = some v := hv
      rw [List.getElem?_toArray, e1] at hv
      cases hv
      exact e2
    · rintro L ρ M τ s' Q E j ⟨V, O, m, f⟩ hp _ hj h
      refine W.done s' Q E (by simpa [hlen] using ps f hp hj) fun h' tk hk => ?_
      exact h _ ⟨V, _, m, f.eraseE (tk := tk) hj fun b o hb e => hk b o (by simpa using hb) e⟩
    · rintro i L ρ M τ s' Q E j ⟨V, O, m, f⟩ hp _ hj h
      exact W.self i s' Q E (ps f hp hj) (h ⟨V, O, m, f⟩)
    · rintro i L ρ M τ s' Q E j target v ⟨V, O, m, f⟩ hj h
      obtain ⟨o, _, ⟨c1, c2⟩, g, _⟩ := f.getM hj
      exact go_other g c1 c2 (by decide) (h ⟨V, O, m, f⟩)
  · have f' := f.pushM { cls := .type "list_iterator", data := .fields #[.ref ax, .int 0 0] } (y := .own fun o => o.cls = .type "list_iterator" ∧ o.data = .fields #[.ref ax, .int (0 : Nat) 0]) ⟨rfl, rfl⟩
    exact ⟨V, _, m, (f'.temp (x := .d (.list ds)) (f.tmp _ hv)).temp (x := .o (listOf vs.toArray n)) ⟨ax, rfl, hm⟩⟩
theorem it_tuple (ds : List Dat) : Itb P (.d (.tuple ds)) (ds.map .d) := by
  intro A hh L ρ M τ s Q E v F hv _ h
  obtain ⟨V, O, m, f⟩ := F
  obtain ⟨ax, vs, n, rfl, hm, hg, q⟩ := f.tup hv
  have hl : s.heap.IsTuple ax vs.toArray := ⟨_, hg, rfl, n, rfl⟩
  have hlen := q.length
  refine wpAny_pyIter_tuple hl ?_
  have hne : ax ≠ s.heap.objs.size := Nat.ne_of_lt (Heap.lt_size hg)
  have W := Walks.tuple (prog := P.prog) (w := P.w) (A := A) hh s.heap.objs.size ax hne vs.toArray
  refine h s.heap.objs.size (fun i o => o.cls = .type "tuple_iterator" ∧ o.data = .fields #[.ref ax, .int i 0]) [(.ref ax, .o (tupOf vs.toArray n)), (.ref ax, .d (.tuple ds))] _ ?_ ?_
  · have ps : ∀ {L ρ M τ V O m} {s' : Shared} {i j : Nat}, FX P.s₀ L ρ M τ V O m s' → (∀ p ∈ [((Value.ref ax), LV.o (tupOf vs.toArray n)), (.ref ax, .d (.tuple ds))], p ∈ τ) →
        M[j]? = some (s.heap.objs.size, AO.own fun o => o.cls = .type "tuple_iterator" ∧ o.data = .fields #[.ref ax, .int i 0]) → s'.heap.IsTupleIter s.heap.objs.size ax i ∧ s'.heap.IsTuple ax vs.toArray := by
      intro L ρ M τ V O m s' i j f hp hj
      obtain ⟨o, _, ⟨c1, c2⟩, g, _⟩ := f.getM hj
      refine ⟨⟨o, g, c1, by rw [c2]⟩, ?_⟩
      have := (f.oat' (hp _ (.head _))).2
      exact ⟨_, this, rfl, n, rfl⟩
    refine ⟨?_, ?_, ?_, ?_⟩
    · rintro i lv L ρ M τ s' Q E j hi ⟨V, O, m, f⟩ hp _ hj h
      have hil : i < vs.toArray.size := by
        have := (List.getElem?_eq_some_iff.mp hi).1
        simp at this; simp; omega
      refine W.item i s' Q E hil (ps f hp hj) fun v h' tk hv hst hk => ?_
      obtain ⟨o', g', c1, c2⟩ := hst.1
      have f' := f.setE (tk := tk) (x := .own fun o => o.cls = .type "tuple_iterator" ∧ o.data = .fields #[.ref ax, .int (i + 1 : Nat) 0]) hj (fun b o hb e => hk b o (by simpa using hb) e) g' ⟨c1, by rw [c2]⟩
      refine h v _ ⟨V, _, m, f'.temp ?_⟩
      obtain ⟨d, rfl, hd⟩ := map_get hi
      have q' := f.tup' (hp _ (.head _)) (hp _ (.tail _ (.head _)))
      obtain ⟨v', e1, e2⟩ := datAll_get q' hd
      have hv : vs.toArray[i]? = some v := hv
      rw [List.getElem?_toArray, e1] at hv
      cases hv
      exact e2
    · rintro L ρ M τ s' Q E j ⟨V, O, m, f⟩ hp _ hj h
      refine W.done s' Q E (by simpa [hlen] using ps f hp hj) fun h' tk hk => ?_
      exact h _ ⟨V, _, m, f.eraseE (tk := tk) hj fun b o hb e => hk b o (by simpa using hb) e⟩
    · rintro i L ρ M τ s' Q E j ⟨V, O, m, f⟩ hp _ hj h
      exact W.self i s' Q E (ps f hp hj) (h ⟨V, O, m, f⟩)
    · rintro i L ρ M τ s' Q E j target v ⟨V, O, m, f⟩ hj h
      obtain ⟨o, _, ⟨c1, c2⟩, g, _⟩ := f.getM hj
      exact go_other g c1 c2 (by decide) (h ⟨V, O, m, f⟩)
  · have f' := f.pushM { cls := .type "tuple_iterator", data := .fields #[.ref ax, .int 0 0] } (y := .own fun o => o.cls = .type "tuple_iterator" ∧ o.data = .fields #[.ref ax, .int (0 : Nat) 0]) ⟨rfl, rfl⟩
    exact ⟨V, _, m, (f'.temp (x := .d (.tuple ds)) (f.tmp _ hv)).temp (x := .o (tupOf vs.toArray n)) ⟨ax, rfl, hm⟩⟩

theorem rng_small {a b : Int} (ha : -100000 ≤ a ∧ a ≤ 100000) (hb : -100000 ≤ b ∧ b ≤ 100000) : Builtin.Range.small a b 1 = true := by
  unfold Builtin.Range.small
  rw [rangeSize_nat]
  simp only [Builtin.Range.rangeFitsLong]
  simp
  omega
def rngL (a b : Int) : List Dat := (List.range (b - a).toNat).map fun (i : Nat) => Dat.int (a + (i : Int))
theorem it_range {a b : Int} (ha : -100000 ≤ a ∧ a ≤ 100000) (hb : -100000 ≤ b ∧ b ≤ 100000) : Itb P (.rng a b) ((rngL a b).map .d) := by
  intro A hh L ρ M τ s Q E v F hv _ h
  obtain ⟨V, O, m, f⟩ := F
  obtain ⟨r, t, u, w', rfl, hm⟩ := f.tmp _ hv
  have hg := (f.nv _ (List.mem_append.mpr (.inr hm))).1
  have hr : IsRange s.heap r a b 1 t u w' := hg
  refine wpAny_pyIter_range hr (rng_small ha hb) ?_
  rw [rangeSize_nat]
  generalize hn : (b - a).toNat = n
  have W := Walks.range (prog := P.prog) (w := P.w) (A := A) hh s.heap.objs.size a 1 n
  have hlen : ((rngL a b).map LV.d).length = n := by simp [rngL, hn]
  refine h s.heap.objs.size (fun i o => o = { cls := .type "range_iterator", dict := none, data := .fields #[rawInt (a + (i : Int) * 1), rawInt ((n : Int) - (i : Int)), rawInt 1], slots := #[] }) [] _ ?_ ?_
  · have ps : ∀ {L ρ} {M : List (Addr × AO)} {τ V O m} {s' : Shared} {i j : Nat}, FX P.s₀ L ρ M τ V O m s' →
        M[j]? = some (s.heap.objs.size, AO.own fun o => o = { cls := .type "range_iterator", dict := none, data := .fields #[rawInt (a + (i : Int) * 1), rawInt ((n : Int) - (i : Int)), rawInt 1], slots := #[] }) → IsRangeIter s'.heap s.heap.objs.size (a + (i : Int) * 1) ((n : Int) - (i : Int)) 1 := by
      intro L ρ M τ V O m s' i j f hj
      obtain ⟨o, _, c1, g, _⟩ := f.getM hj
      have c1 : o = _ := c1
      subst c1
      exact g
    refine ⟨?_, ?_, ?_, ?_⟩
    · rintro i lv L ρ M τ s' Q E j hi ⟨V, O, m, f⟩ hp _ hj h
      have hil : i < n := by
        have := (List.getElem?_eq_some_iff.mp hi).1
        rw [hlen] at this; exact this
      refine W.item i s' Q E hil (ps f hj) fun v h' tk hv hst hk => ?_
      have f' := f.setE (tk := tk) (x := .own fun o => o = { cls := .type "range_iterator", dict := none, data := .fields #[rawInt (a + ((i + 1 : Nat) : Int) * 1), rawInt ((n : Int) - ((i + 1 : Nat) : Int)), rawInt 1], slots := #[] }) hj (fun b o hb e => hk b o (by simpa using hb) e) hst rfl
      refine h v _ ⟨V, _, m, f'.temp ?_⟩
      obtain ⟨t', rfl⟩ := hv
      have : lv = .d (.int (a + (i : Int))) := by
        rw [rngL, List.map_map, List.getElem?_map, List.getElem?_range (by omega)] at hi
        simpa using hi.symm
      subst this
      rw [Int.mul_one]
      exact .int _ _
    · rintro L ρ M τ s' Q E j ⟨V, O, m, f⟩ hp _ hj h
      rw [hlen] at hj
      refine W.done s' Q E (ps f hj) fun h' tk hk => ?_
      exact h _ ⟨V, _, m, f.eraseE (tk := tk) hj fun b o hb e => hk b o (by simpa using hb) e⟩
    · rintro i L ρ M τ s' Q E j ⟨V, O, m, f⟩ hp _ hj h
      exact W.self i s' Q E (ps f hj) (h ⟨V, O, m, f⟩)
    · rintro i L ρ M τ s' Q E j target v ⟨V, O, m, f⟩ hj h
      obtain ⟨o, _, c1, g, _⟩ := f.getM hj
      have c1 : o = _ := c1
      subst c1
      exact go_other g rfl rfl (by decide) (h ⟨V, O, m, f⟩)
  · exact ⟨V, _, m, f.pushM { cls := .type "range_iterator", data := .fields #[rawInt a, rawInt (n : Int), rawInt 1] } (y := .own _) (by show _ = _; simp)⟩

/-- a mutable list that stays -/
theorem lv_datAll0 {V : Led} : ∀ {vs : List Value} {ds : List Dat}, LVAll V vs (ds.map .d) → DatAll V vs ds := by
  intro vs
  induction vs with
  | nil => intro ds q; cases ds with
    | nil => exact .nil
    | cons d ds => cases q
  | cons v vs ih => intro ds q; cases ds with
    | nil => cases q
    | cons d ds => cases q with | cons a b => exact .cons a (ih b)
theorem it_mlist (x : Addr) (ds : List Dat) : Itm P [(x, .list (ds.map .d))] (.r (.ref x)) (ds.map .d) := by
  intro A hh L ρ M τ s Q E v F hv hμ h
  obtain rfl := F.rval hv
  have at_ : ∀ {L ρ} {M : List (Addr × AO)} {τ V O m} {s' : Shared}, FX P.s₀ L ρ M τ V O m s' → (∀ p ∈ [(x, AO.list (ds.map .d))], p ∈ M) → ∃ vs n, s'.heap.IsList x (List.toArray vs) ∧ s'.heap.get? x = some (listOf vs.toArray n) ∧ DatAll V vs ds := by
    intro L ρ M τ V O m s' f hμ
    obtain ⟨j, hj⟩ := List.getElem?_of_mem (hμ _ (.head _))
    obtain ⟨o, _, ⟨vs, n, rfl, q⟩, g, _⟩ := f.getM hj
    exact ⟨vs, n, ⟨_, g, rfl, n, rfl⟩, g, lv_datAll0 q⟩
  obtain ⟨V, O, m, f⟩ := F
  obtain ⟨vs, n, hl, hg, q⟩ := at_ f hμ
  refine wpAny_pyIter_list hl ?_
  have hne : x ≠ s.heap.objs.size := Nat.ne_of_lt (Heap.lt_size hg)
  refine h s.heap.objs.size (fun i o => o.cls = .type "list_iterator" ∧ o.data = .fields #[.ref x, .int i 0]) [] _ ?_ ?_
  · refine ⟨?_, ?_, ?_, ?_⟩
    · rintro i lv L ρ M τ s' Q E j hi ⟨V, O, m, f⟩ hp hμ hj h
      obtain ⟨vs, n, hl, hg, q⟩ := at_ f hμ
      obtain ⟨o, _, ⟨c1, c2⟩, g, _⟩ := f.getM hj
      obtain ⟨d, rfl, hd⟩ := map_get hi
      obtain ⟨v', e1, e2⟩ := datAll_get q hd
      refine wpAny_pyNext_list_item ⟨o, g, c1, by rw [c2]⟩ hl (x := v') (by simpa using e1) fun h' hit' hs' => ?_
      obtain ⟨o', g', c1', c2'⟩ := hit'
      have f' := f.setM (tk := s'.toks) (x := .own fun o => o.cls = .type "list_iterator" ∧ o.data = .fields #[.ref x, .int (i + 1 : Nat) 0]) hj hs' g' ⟨c1', by rw [c2']⟩
      exact h v' _ ⟨V, _, m, f'.temp (x := .d d) e2⟩
    · rintro L ρ M τ s' Q E j ⟨V, O, m, f⟩ hp hμ hj h
      obtain ⟨vs, n, hl, hg, q⟩ := at_ f hμ
      obtain ⟨o, _, ⟨c1, c2⟩, g, _⟩ := f.getM hj
      have hlen := q.length
      refine wpAny_pyNext_list_end hh ⟨o, g, c1, by rw [c2]⟩ hl (by simp [hlen]) fun h' he => ?_
      exact h _ ⟨V, _, m, f.eraseE (tk := s'.toks) hj fun b o hb e => he b o hb e⟩
    · rintro i L ρ M τ s' Q E j ⟨V, O, m, f⟩ hp hμ hj h
      obtain ⟨o, _, ⟨c1, c2⟩, g, _⟩ := f.getM hj
      exact wpAny_pyIter_listiter ⟨o, g, c1, by rw [c2]⟩ (h ⟨V, O, m, f⟩)
    · rintro i L ρ M τ s' Q E j target v ⟨V, O, m, f⟩ hj h
      obtain ⟨o, _, ⟨c1, c2⟩, g, _⟩ := f.getM hj
      exact go_other g c1 c2 (by decide) (h ⟨V, O, m, f⟩)
  · exact ⟨V, _, m, f.pushM { cls := .type "list_iterator", data := .fields #[.ref x, .int 0 0] } (y := .own fun o => o.cls = .type "list_iterator" ∧ o.data = .fields #[.ref x, .int (0 : Nat) 0]) ⟨rfl, rfl⟩⟩
end


theorem o_eqS {prog : Program} {w : World} {A : Around} {E : Value → Shared → Prop} {s : Shared} {x y : Str} {t u : Tok} {Q : Value → Shared → Prop} (h : Q (Value.bool (x.cps.toList == y.cps.toList)) s) : wpAny (model prog w) A (compareOp CmpOp.Eq (Value.str x t) (Value.str y u)) Q E s := P.eq_str h

abbrev LE := List (Str × LV)
abbrev ME := List (Addr × AO)
abbrev TE := List (Value × LV)

structure EV (P : Setup) (A : Around) (env : Env) (ρ : LE) (M : ME) (e : Expr) (lv : LV) (M' : ME) : Prop where
  go : ∀ {τ : TE} {s Q E}, FS P.s₀ env.locals ρ M τ s → (∀ v s', FS P.s₀ env.locals ρ M' ((v, lv) :: τ) s' → Q v s') → wpAny (model P.prog P.w) A (eval e env) Q E s
structure TV (P : Setup) (A : Around) (env : Env) (ρ : LE) (M : ME) (e : Expr) (b : Bool) (M' : ME) : Prop where
  go : ∀ {τ : TE} {s Q E}, FS P.s₀ env.locals ρ M τ s → (∀ s', FS P.s₀ env.locals ρ M' τ s' → Q b s') → wpAny (model P.prog P.w) A (isTrue e env (eval e env)) Q E s
structure AR (P : Setup) (A : Around) (env : Env) (ρ : LE) (M : ME) (pos : Pos) (es : List Expr) (ls : List LV) (M' : ME) : Prop where
  go : ∀ {τ : TE} {s Q E}, FS P.s₀ env.locals ρ M τ s → (∀ vs τ' s', FS P.s₀ env.locals ρ M' τ' s' → TL τ' vs ls → (∀ p ∈ τ, p ∈ τ') → Q vs s') → wpAny (model P.prog P.w) A (spliced (backTo pos (starEach es env))) Q E s
/-- a call, in any frame -/
structure CL (P : Setup) (A : Around) (M : ME) (f : Value) (ls : List LV) (lv : LV) (M' : ME) : Prop where
  go : ∀ {L ρ} {τ : TE} {s Q E vs}, FS P.s₀ L ρ M τ s → TL τ vs ls → (∀ v s', FS P.s₀ L ρ M' ((v, lv) :: τ) s' → Q v s') → wpAny (model P.prog P.w) A (call f vs) Q E s

inductive DD : List LV → List Dat → Prop
  | nil : DD [] []
  | cons {d : Dat} {ls : List LV} {ds : List Dat} : DD ls ds → DD (.d d :: ls) (d :: ds)
section
variable {P : Setup} {A : Around} {E : Value → Shared → Prop} {s₀ s : Shared} {env : Env} {L : Addr} {ρ ρ' : LE} {M M₁ M₂ M' : ME} {τ τ' : TE} {Q : Value → Shared → Prop} {x : Str} {pos : Pos} {lv : LV}
  {V O : Led} {m : Str → Option Value} {u v : Value} {a b : Int} {ds es : List Dat} {d d' : Dat} {e e₁ e₂ e₃ : Expr} {ls : List LV}

/- names -/
theorem EV.loc (hl : ρ.lookup x = some lv) (hx : env.kindOf x = some .local) (hk : env.scope.kind = .function := by rfl) (hd : (x == ("__debug__" : Str)) = false := by decide) : EV P A env ρ M (.Name x pos) lv M :=
  ⟨fun F h => nm_local F hl (fun v F' => h v _ F') hk hx hd⟩
theorem EV.cell {c : Addr} {j : Nat} (hx : env.kindOf x = some .cell) (hc : env.cells.lookup x = some c) (hm : M[j]? = some (c, .cell (some lv))) (hk : env.scope.kind = .function := by rfl) (hd : (x == ("__debug__" : Str)) = false := by decide) : EV P A env ρ M (.Name x pos) lv M :=
  ⟨fun F h => nm_cell F hc hm (fun v F' => h v _ F') hk hx hd⟩
theorem EV.free {c : Addr} {j : Nat} (hx : env.kindOf x = some .free) (hc : env.cells.lookup x = some c) (hm : M[j]? = some (c, .cell (some lv))) (hk : env.scope.kind = .function := by rfl) (hd : (x == ("__debug__" : Str)) = false := by decide) (hn : (x == ("__classdict__" : Str)) = false := by decide) : EV P A env ρ M (.Name x pos) lv M :=
  ⟨fun F h => nm_free F hc hm (fun v F' => h v _ F') hk hx hd hn⟩
theorem FS.tr (F : FS s₀ L ρ M τ s) (v : Value) : FS s₀ L ρ M ((v, .r v) :: τ) s := by
  obtain ⟨V, O, m, f⟩ := F
  exact ⟨V, O, m, f.tempr v⟩
theorem FS.sub (F : FS s₀ L ρ M τ s) (h : ∀ p ∈ τ', p ∈ τ) : FS s₀ L ρ M τ' s := F.wk h
theorem EV.glob {v : Value} (e : nsIn P.K mainGlobals x = some (some v)) (hg : env.globals = mainGlobals := by rfl) (hx : env.kindOf x = some .globalImplicit := by rfl) (hk : env.scope.kind = .function := by rfl) (hd : (x == ("__debug__" : Str)) = false := by decide) : EV P A env ρ M (.Name x pos) (.r v) M :=
  ⟨fun F h => nm_glob P.B F e (h v _ (F.tr v)) hg hk hx hd⟩
theorem EV.built {v : Value} (e : nsIn P.K mainGlobals x = some none) (hv : bootBuiltins x = some v) (hn : x ≠ "__name__" := by decide) (hg : env.globals = mainGlobals := by rfl) (hb : env.builtins = builtinsNs := by rfl) (hx : env.kindOf x = some .globalImplicit := by rfl) (hk : env.scope.kind = .function := by rfl) (hd : (x == ("__debug__" : Str)) = false := by decide) : EV P A env ρ M (.Name x pos) (.r v) M :=
  ⟨fun F h => nm_built P.B F e hv hn (h v _ (F.tr v)) hg hb hk hx hd⟩

/- constants -/
theorem EV.kInt {k} : EV P A env ρ M (.Constant (.int a) k pos) (.d (.int a)) M := ⟨fun F h => c_int F h⟩
theorem EV.kStr {y : Str} {k} : EV P A env ρ M (.Constant (.str y) k pos) (.d (.str y)) M := ⟨fun F h => c_str F h⟩
theorem EV.kNone {k} : EV P A env ρ M (.Constant .none k pos) (.d .none) M := ⟨fun F h => c_none F (h _ _)⟩
theorem EV.kBool {y : Bool} {k} : EV P A env ρ M (.Constant (.bool y) k pos) (.d (.bool y)) M := ⟨fun F h => c_bool F (h _ _)⟩

/- two operands -/
structure BO (P : Setup) (A : Around) (M : ME) (op : Operator) (l₁ l₂ lv : LV) (M' : ME) : Prop where
  go : ∀ {L ρ} {τ : TE} {s Q E u v}, FS P.s₀ L ρ M τ s → (u, l₁) ∈ τ → (v, l₂) ∈ τ → (∀ y s', FS P.s₀ L ρ M' ((y, lv) :: τ) s' → Q y s') → wpAny (model P.prog P.w) A (binaryOp op u v) Q E s
structure CO (P : Setup) (A : Around) (M : ME) (op : CmpOp) (l₁ l₂ lv : LV) : Prop where
  go : ∀ {L ρ} {τ : TE} {s Q E u v}, FS P.s₀ L ρ M τ s → (u, l₁) ∈ τ → (v, l₂) ∈ τ → (∀ y s', FS P.s₀ L ρ M ((y, lv) :: τ) s' → Q y s') → wpAny (model P.prog P.w) A (compareOp op u v) Q E s
theorem EV.bin {op : Operator} {l₁ l₂ : LV} (h1 : EV P A env ρ M e₁ l₁ M₁) (h2 : EV P A env ρ M₁ e₂ l₂ M₂) (h : BO P A M₂ op l₁ l₂ lv M') : EV P A env ρ M (.BinOp e₁ op e₂ pos) lv M' :=
  ⟨fun F k => wpAny_BinOp (h1.go F fun u s₁ F₁ => h2.go F₁ fun v s₂ F₂ => h.go F₂ (.tail _ (.head _)) (.head _) fun y s' F' => k y s' (F'.sub (sub_head (.head _) (sub_tail (sub_tail (sub_tail sub_refl))))))⟩
theorem EV.cmp {op : CmpOp} {l₁ l₂ : LV} (h1 : EV P A env ρ M e₁ l₁ M₁) (h2 : EV P A env ρ M₁ e₂ l₂ M₂) (h : CO P A M₂ op l₁ l₂ lv) (hb : behindInMarks op e₂ = false := by rfl) : EV P A env ρ M (.Compare e₁ [op] [e₂] pos) lv M₂ :=
  ⟨fun F k => wpAny_Compare1 (h1.go F fun u s₁ F₁ => h2.go F₁ fun v s₂ F₂ => h.go F₂ (.tail _ (.head _)) (.head _) fun y s' F' => k y s' (F'.sub (sub_head (.head _) (sub_tail (sub_tail (sub_tail sub_refl)))))) hb⟩
theorem TV.cmp {op : CmpOp} {l₁ l₂ : LV} {y : Bool} (h1 : EV P A env ρ M e₁ l₁ M₁) (h2 : EV P A env ρ M₁ e₂ l₂ M₂) (h : CO P A M₂ op l₁ l₂ (.d (.bool y))) (hb : behindInMarks op e₂ = false := by rfl) : TV P A env ρ M (.Compare e₁ [op] [e₂] pos) y M₂ :=
  ⟨fun F k => wpAny_isTrue_Compare1 (h1.go F fun u s₁ F₁ => h2.go F₁ fun v s₂ F₂ => h.go F₂ (.tail _ (.head _)) (.head _) fun y s' F' => t_bool F' (.head _) fun F' => k s' (F'.sub (sub_tail (sub_tail (sub_tail sub_refl))))) hb⟩
theorem BO.add : BO P A M .Add (.d (.int a)) (.d (.int b)) (.d (.int (a + b))) M := ⟨fun F m1 m2 k => o_add F m1 m2 k⟩
theorem BO.sub : BO P A M .Sub (.d (.int a)) (.d (.int b)) (.d (.int (a - b))) M := ⟨fun F m1 m2 k => o_sub F m1 m2 k⟩
theorem BO.mul (hm : IntMulOk a b) : BO P A M .Mult (.d (.int a)) (.d (.int b)) (.d (.int (a * b))) M := ⟨fun F m1 m2 k => o_mul F m1 m2 hm k⟩
theorem BO.mod (hb : b ≠ 0) : BO P A M .Mod (.d (.int a)) (.d (.int b)) (.d (.int (a.fmod b))) M := ⟨fun F m1 m2 k => o_mod F m1 m2 hb k⟩
theorem EV.neg (h1 : EV P A env ρ M e (.d (.int a)) M₁) : EV P A env ρ M (.UnaryOp .USub e pos) (.d (.int (-a))) M₁ :=
  ⟨fun F k => wpAny_UnaryOp (h1.go F fun u s₁ F₁ => o_neg F₁ (.head _) fun y s' F' => k y s' (F'.sub (sub_head (.head _) (sub_tail (sub_tail sub_refl)))))⟩
theorem CO.lt : CO P A M .Lt (.d (.int a)) (.d (.int b)) (.d (.bool (decide (a < b)))) := ⟨fun F m1 m2 k => o_lt F m1 m2 (k _ _)⟩
theorem CO.le : CO P A M .LtE (.d (.int a)) (.d (.int b)) (.d (.bool (decide (a ≤ b)))) := ⟨fun F m1 m2 k => o_le F m1 m2 (k _ _)⟩
theorem CO.gt : CO P A M .Gt (.d (.int a)) (.d (.int b)) (.d (.bool (decide (b < a)))) := ⟨fun F m1 m2 k => o_gt F m1 m2 (k _ _)⟩
theorem CO.ge : CO P A M .GtE (.d (.int a)) (.d (.int b)) (.d (.bool (decide (b ≤ a)))) := ⟨fun F m1 m2 k => o_ge F m1 m2 (k _ _)⟩
theorem CO.eq : CO P A M .Eq (.d (.int a)) (.d (.int b)) (.d (.bool (decide (a = b)))) := ⟨fun F m1 m2 k => o_eq F m1 m2 (k _ _)⟩
theorem CO.ne : CO P A M .NotEq (.d (.int a)) (.d (.int b)) (.d (.bool (decide (a ≠ b)))) := ⟨fun F m1 m2 k => o_ne F m1 m2 (k _ _)⟩
theorem CO.eqS {y z : Str} : CO P A M .Eq (.d (.str y)) (.d (.str z)) (.d (.bool (y.cps.toList == z.cps.toList))) := ⟨fun F m1 m2 k => by
    obtain ⟨t1, rfl⟩ := F.str m1
    obtain ⟨t2, rfl⟩ := F.str m2
    exact o_eqS (k _ _ (F.tbool _))⟩

/- truth -/
theorem TV.val {b : Bool} (h1 : EV P A env ρ M e (.d (.bool b)) M₁) (he : isTrue e env (eval e env) = (do let v ← eval e env; standAt e.pos; holding [v] (truthy v)) := by rfl) : TV P A env ρ M e b M₁ :=
  ⟨fun F k => wpAny_isTrue_value (h1.go F fun v s' F' => t_bool F' (.head _) fun F'' => k _ (F''.sub (sub_tail sub_refl))) he⟩
theorem TV.not {b : Bool} (h1 : TV P A env ρ M e b M₁) : TV P A env ρ M (.UnaryOp .Not e pos) (!b) M₁ := ⟨fun F k => wpAny_isTrue_Not (h1.go F fun s' F' => k _ F')⟩
theorem TV.and2 {b c : Bool} (h1 : TV P A env ρ M e₁ b M₁) (h2 : b = true → TV P A env ρ M₁ e₂ c M₂) (h3 : b = false → M₁ = M₂) : TV P A env ρ M (.BoolOp .And [e₁, e₂] pos) (b && c) M₂ :=
  ⟨fun F k => wpAny_isTrue_BoolOp (wpAny_allTrue_And_cons (h1.go F fun s₁ F₁ => by
    cases b with
    | false => rw [h3 rfl] at F₁; exact k _ F₁
    | true =>
      refine wpAny_allTrue_And_cons ((h2 rfl).go F₁ fun s₂ F₂ => ?_)
      cases c with
      | false => exact k _ F₂
      | true => exact wpAny_allTrue_And_nil (k _ F₂)))⟩
theorem TV.and3 {b c d : Bool} {e₃ : Expr} (h1 : TV P A env ρ M e₁ b M) (h2 : b = true → TV P A env ρ M e₂ c M) (h3 : b = true → c = true → TV P A env ρ M e₃ d M) : TV P A env ρ M (.BoolOp .And [e₁, e₂, e₃] pos) (b && c && d) M :=
  ⟨fun F k => wpAny_isTrue_BoolOp (wpAny_allTrue_And_cons (h1.go F fun s₁ F₁ => by
    cases b with
    | false => exact k _ F₁
    | true =>
      refine wpAny_allTrue_And_cons ((h2 rfl).go F₁ fun s₂ F₂ => ?_)
      cases c with
      | false => exact k _ F₂
      | true =>
        refine wpAny_allTrue_And_cons ((h3 rfl rfl).go F₂ fun s₂ F₂ => ?_)
        cases d with
        | false => exact k _ F₂
        | true => exact wpAny_allTrue_And_nil (k _ F₂)))⟩
theorem TV.or2 {b c : Bool} (h1 : TV P A env ρ M e₁ b M₁) (h2 : b = false → TV P A env ρ M₁ e₂ c M₂) (h3 : b = true → M₁ = M₂) : TV P A env ρ M (.BoolOp .Or [e₁, e₂] pos) (b || c) M₂ :=
  ⟨fun F k => wpAny_isTrue_BoolOp (wpAny_allTrue_Or_cons (h1.go F fun s₁ F₁ => by
    cases b with
    | true => rw [h3 rfl] at F₁; exact k _ F₁
    | false =>
      refine wpAny_allTrue_Or_cons ((h2 rfl).go F₁ fun s₂ F₂ => ?_)
      cases c with
      | true => exact k _ F₂
      | false => exact wpAny_allTrue_Or_nil (k _ F₂)))⟩
theorem EV.and2 {b c : Bool} (h1 : EV P A env ρ M e₁ (.d (.bool b)) M) (h2 : b = true → EV P A env ρ M e₂ (.d (.bool c)) M) : EV P A env ρ M (.BoolOp .And [e₁, e₂] pos) (.d (.bool (b && c))) M :=
  ⟨fun F k => wpAny_And2 (h1.go F fun v s₁ F₁ => t_bool F₁ (.head _) fun F₁ => by
    cases b with
    | false => exact k _ _ F₁
    | true => exact (h2 rfl).go F₁ fun v s₂ F₂ => k _ _ (F₂.sub (sub_head (.head _) (sub_tail (sub_tail sub_refl)))))⟩
theorem EV.ife {b : Bool} (h1 : TV P A env ρ M e₁ b M₁) (h2 : b = true → EV P A env ρ M₁ e₂ lv M₂) (h3 : b = false → EV P A env ρ M₁ e₃ lv M₂) : EV P A env ρ M (.IfExp e₁ e₂ e₃ pos) lv M₂ :=
  ⟨fun F k => wpAny_IfExp (h1.go F fun s₁ F₁ => by
    cases b with
    | true => exact (h2 rfl).go F₁ k
    | false => exact (h3 rfl).go F₁ k)⟩

/- arguments, displays -/
theorem AR.nil : AR P A env ρ M pos [] [] M := ⟨fun F k => args_nil (k _ _ _ F .nil fun _ h => h)⟩
theorem AR.cons {es : List Expr} (h1 : EV P A env ρ M e lv M₁) (h2 : AR P A env ρ M₁ pos es ls M₂) (he : starEach (e :: es) env = (false, eval e env) :: starEach es env := by rfl) : AR P A env ρ M pos (e :: es) (lv :: ls) M₂ :=
  ⟨fun F k => args_cons (h1.go F fun v s₁ F₁ => h2.go F₁ fun vs τ' s₂ F₂ t hs => k _ τ' _ F₂ (.cons (hs _ (.head _)) t) fun p hp => hs p (.tail _ hp)) he⟩
theorem td_of {τ : TE} {vs : List Value} : ∀ {ds : List Dat}, TL τ vs (ds.map .d) → TD τ vs ds := by
  induction vs with
  | nil => intro ds h; cases ds with
    | nil => exact .nil
    | cons _ _ => cases h
  | cons v vs ih => intro ds h; cases ds with
    | nil => cases h
    | cons d ds => cases h with | cons a b => exact .cons a (ih b)
theorem TL.len {τ : TE} {vs : List Value} {ls : List LV} (h : TL τ vs ls) : vs.length = ls.length := by
  induction h with
  | nil => rfl
  | cons _ _ ih => simp [ih]
theorem TL.sub {τ τ' : TE} {vs : List Value} {ls : List LV} (h : TL τ vs ls) (hs : ∀ p ∈ τ, p ∈ τ') : TL τ' vs ls := by
  induction h with
  | nil => exact .nil
  | cons a _ ih => exact .cons (hs _ a) ih
theorem DD.eq {ls : List LV} {ds : List Dat} (h : DD ls ds) : ls = ds.map .d := by
  induction h with
  | nil => rfl
  | cons _ ih => rw [List.map_cons, ih]
theorem EV.tup {es : List Expr} {k : Nat} (h1 : AR P A env ρ M pos es ls M₁) (hd : DD ls ds) (hz : ds.length ≤ 1000 := by simp) : EV P A env ρ M (.Tuple es k pos) (.d (.tuple ds)) M₁ :=
  ⟨fun F k => Tuple_ (h1.go F fun vs τ' s₁ F₁ t hs => d_tuple F₁ (td_of (by rw [← hd.eq]; exact t)) (by rw [t.len, hd.eq]; simpa using hz) fun v s' F' => k _ _ (F'.sub (sub_head (.head _) (sub_tail hs))))⟩
theorem EV.lst {es : List Expr} (h1 : AR P A env ρ M pos es ls M₁) (hd : DD ls ds) (hz : ds.length ≤ 1000 := by simp) : EV P A env ρ M (.List es pos) (.d (.list ds)) M₁ :=
  ⟨fun F k => List_ (h1.go F fun vs τ' s₁ F₁ t hs => d_listD F₁ (td_of (by rw [← hd.eq]; exact t)) (by rw [t.len, hd.eq]; simpa using hz) fun v s' F' => k _ _ (F'.sub (sub_head (.head _) (sub_tail hs))))⟩

/- calls -/
theorem FS.keep (F : FS P.s₀ L ρ M τ s) : P.K.In s.heap := by
  obtain ⟨V, O, m, f⟩ := F
  exact P.B.X.keeps f.fr.keep
theorem EV.callK {f : Value} {es : List Expr} {e' : Expr} (h1 : EV P A env ρ M e (.r f) M₁) (hk : keepIn P.K f = true) (h2 : AR P A env ρ M₁ pos (e' :: es) ls M₂) (h3 : CL P A M₂ f ls lv M')
    (he : eval (.Call e (e' :: es) [] pos) env = (do let f ← eval e env; callWith pos f [] (backTo pos (starEach (e' :: es) env)) (backToKw pos (keywordEach [] env))) := by rfl) (hs : starEach (e' :: es) env = (false, eval e' env) :: starEach es env := by rfl) (hs2 : ((backTo pos (starEach es env)).any fun x => x.1) = false := by rfl) : EV P A env ρ M (.Call e (e' :: es) [] pos) lv M' :=
  ⟨fun F k => Call_ (h1.go F fun f' s₁ F₁ => by
    obtain rfl := F₁.rval (.head _)
    refine callWith_K F₁.keep hk (h2.go F₁ fun vs τ' s₂ F₂ t hs => ⟨F₂.keep, h3.go F₂ t fun v s' F' => k _ _ (F'.sub (sub_head (.head _) (sub_tail fun p hp => hs _ (.tail _ hp))))⟩) hs hs2) he⟩
theorem EV.call0 {f : Value} (h1 : EV P A env ρ M e (.r f) M₁) (hk : keepIn P.K f = true) (h3 : CL P A M₁ f [] lv M')
    (he : eval (.Call e [] [] pos) env = (do let f ← eval e env; callWith pos f [] (backTo pos (starEach [] env)) (backToKw pos (keywordEach [] env))) := by rfl) : EV P A env ρ M (.Call e [] [] pos) lv M' :=
  ⟨fun F k => Call_ (h1.go F fun f' s₁ F₁ => by
    obtain rfl := F₁.rval (.head _)
    exact callWith_K0 F₁.keep hk (h3.go F₁ .nil fun v s' F' => k _ _ (F'.sub (sub_head (.head _) (sub_tail (sub_tail sub_refl)))))) he⟩
theorem EV.callB {f : String} {es : List Expr} {e' : Expr} (h1 : EV P A env ρ M e (.r (.builtin f)) M₁) (h2 : AR P A env ρ M₁ pos (e' :: es) ls M₂) (h3 : CL P A M₂ (.builtin f) ls lv M')
    (he : eval (.Call e (e' :: es) [] pos) env = (do let f ← eval e env; callWith pos f [] (backTo pos (starEach (e' :: es) env)) (backToKw pos (keywordEach [] env))) := by rfl) (hs : starEach (e' :: es) env = (false, eval e' env) :: starEach es env := by rfl) (hs2 : ((backTo pos (starEach es env)).any fun x => x.1) = false := by rfl) : EV P A env ρ M (.Call e (e' :: es) [] pos) lv M' :=
  ⟨fun F k => Call_ (h1.go F fun f' s₁ F₁ => by
    obtain rfl := F₁.rval (.head _)
    refine PyProof.Rows.callWith_builtin1 (h2.go F₁ fun vs τ' s₂ F₂ t hs => h3.go F₂ t fun v s' F' => k _ _ (F'.sub (sub_head (.head _) (sub_tail fun p hp => hs _ (.tail _ hp))))) hs hs2) he⟩
theorem EV.callT {f : String} {es : List Expr} {e' : Expr} (h1 : EV P A env ρ M e (.r (.type f)) M₁) (h2 : AR P A env ρ M₁ pos (e' :: es) ls M₂) (h3 : CL P A M₂ (.type f) ls lv M')
    (he : eval (.Call e (e' :: es) [] pos) env = (do let f ← eval e env; callWith pos f [] (backTo pos (starEach (e' :: es) env)) (backToKw pos (keywordEach [] env))) := by rfl) (hs : starEach (e' :: es) env = (false, eval e' env) :: starEach es env := by rfl) (hs2 : ((backTo pos (starEach es env)).any fun x => x.1) = false := by rfl) : EV P A env ρ M (.Call e (e' :: es) [] pos) lv M' :=
  ⟨fun F k => Call_ (h1.go F fun f' s₁ F₁ => by
    obtain rfl := F₁.rval (.head _)
    refine PyProof.Rows.callWith_type1 (h2.go F₁ fun vs τ' s₂ F₂ t hs => h3.go F₂ t fun v s' F' => k _ _ (F'.sub (sub_head (.head _) (sub_tail fun p hp => hs _ (.tail _ hp))))) hs hs2) he⟩
/-- a method of an own class -/
theorem EV.meth {a C dx fn : Addr} {j j' : Nat} {fs : LE} {name : Str} {apos : Pos} {pl : Sem Bool} {es : List Expr} {e' : Expr} (h1 : EV P A env ρ M e (.r (.ref a)) M₁) (m1 : M₁[j]? = some (a, .inst C dx)) (m2 : M₁[j']? = some (dx, .dict fs)) (hl : fs.lookup name = none)
    (hg : plainGet P.K C name = true) (hf : findIn P.K (.ref C) name = some (some (.ref fn))) (ht : isFn P.K (.ref fn) = true) (hk : keepIn P.K (.ref fn) = true) (h2 : AR P A env ρ M₁ pos (e' :: es) ls M₂) (h3 : CL P A M₂ (.ref fn) (.r (.ref a) :: ls) lv M')
    (he : eval (.Call (.Attribute e name apos) (e' :: es) [] pos) env = (do
        let ov ← eval e env
        standAt apos.atName
        let (f, first) ← holding [ov] (getMethod ov name pl)
        callWith pos f first (backTo pos (starEach (e' :: es) env)) []) := by rfl) (hs : starEach (e' :: es) env = (false, eval e' env) :: starEach es env := by rfl) (hs2 : ((backTo pos (starEach es env)).any fun x => x.1) = false := by rfl) : EV P A env ρ M (.Call (.Attribute e name apos) (e' :: es) [] pos) lv M' :=
  ⟨fun F k => MethodCall_ (pl := pl) (h1.go F fun ov s₁ F₁ => by
    obtain rfl := F₁.rval (.head _)
    refine g_meth P.B F₁ m1 m2 hl hg hf ht ?_
    refine callWith_K F₁.keep hk (h2.go F₁ fun vs τ' s₂ F₂ t hs => ⟨F₂.keep, h3.go F₂ (.cons (hs _ (.head _)) t) fun v s' F' => k _ _ (F'.sub (sub_head (.head _) (sub_tail fun p hp => hs _ (.tail _ hp))))⟩) hs hs2) he⟩
theorem EV.meth0 {a C dx fn : Addr} {j j' : Nat} {fs : LE} {name : Str} {apos : Pos} {pl : Sem Bool} (h1 : EV P A env ρ M e (.r (.ref a)) M₁) (m1 : M₁[j]? = some (a, .inst C dx)) (m2 : M₁[j']? = some (dx, .dict fs)) (hl : fs.lookup name = none)
    (hg : plainGet P.K C name = true) (hf : findIn P.K (.ref C) name = some (some (.ref fn))) (ht : isFn P.K (.ref fn) = true) (hk : keepIn P.K (.ref fn) = true) (h3 : CL P A M₁ (.ref fn) [.r (.ref a)] lv M')
    (he : eval (.Call (.Attribute e name apos) [] [] pos) env = (do
        let ov ← eval e env
        standAt apos.atName
        let (f, first) ← holding [ov] (getMethod ov name pl)
        callWith pos f first (backTo pos (starEach [] env)) []) := by rfl) : EV P A env ρ M (.Call (.Attribute e name apos) [] [] pos) lv M' :=
  ⟨fun F k => MethodCall_ (pl := pl) (h1.go F fun ov s₁ F₁ => by
    obtain rfl := F₁.rval (.head _)
    refine g_meth P.B F₁ m1 m2 hl hg hf ht ?_
    exact callWith_K0 F₁.keep hk (h3.go F₁ (.cons (.head _) .nil) fun v s' F' => k _ _ (F'.sub (sub_head (.head _) (sub_tail (sub_tail sub_refl)))))) he⟩
theorem EV.append {a : Addr} {j : Nat} {xs : List LV} {apos : Pos} {pl : Sem Bool} (h1 : EV P A env ρ M e (.r (.ref a)) M) (h2 : EV P A env ρ M e₁ lv M₁) (m1 : M[j]? = some (a, .list xs)) (m2 : M₁[j]? = some (a, .list xs)) (hz : xs.length ≤ 10000)
    (he : eval (.Call (.Attribute e "append" apos) [e₁] [] pos) env = (do
        let ov ← eval e env
        standAt apos.atName
        let (f, first) ← holding [ov] (getMethod ov "append" pl)
        callWith pos f first (backTo pos (starEach [e₁] env)) []) := by rfl) (hs : starEach (e₁ :: []) env = (false, eval e₁ env) :: starEach [] env := by rfl) : EV P A env ρ M (.Call (.Attribute e "append" apos) [e₁] [] pos) (.d .none) (M₁.set j (a, .list (xs ++ [lv]))) :=
  ⟨fun F k => MethodCall_ (pl := pl) (h1.go F fun ov s₁ F₁ => by
    obtain rfl := F₁.rval (.head _)
    refine g_append F₁ m1 ?_
    refine PyProof.Rows.callWith_method1 ((AR.cons h2 AR.nil hs).go F₁ fun vs τ' s₂ F₂ t hs => ?_) hs rfl
    cases t with
    | cons t1 t2 =>
      cases t2
      exact a_append F₂ m2 t1 hz fun s' F' => k _ _ (by
        obtain ⟨V, O, m, f⟩ := F'.sub (τ' := _) (fun p hp => hs p (.tail _ hp))
        exact ⟨V, O, m, f.tempd .none⟩)) he⟩
theorem EV.to {lv' : LV} (h : EV P A env ρ M e lv M') (q : lv = lv') : EV P A env ρ M e lv' M' := q ▸ h
theorem TV.to {b c : Bool} (h : TV P A env ρ M e b M') (q : b = c) : TV P A env ρ M e c M' := q ▸ h
end

section
variable {P : Setup} {A : Around} {E : Value → Shared → Prop} {s₀ s : Shared} {env : Env} {L : Addr} {ρ ρ' : LE} {M M₁ M₂ M' : ME} {τ τ' : TE} {Q : Value → Shared → Prop} {x : Str} {pos : Pos} {lv : LV}
  {V O : Led} {m : Str → Option Value} {u v : Value} {a b : Int} {ds es : List Dat} {d d' : Dat} {e e₁ e₂ e₃ : Expr} {ls : List LV}

theorem FX.renew (f : FX s₀ L ρ M τ V O m s) {h' : Heap} {tk : Nat} (F' : Fr s₀.heap L h' m) (N' : News s₀.heap L h' (O ++ V)) : FX s₀ L ρ M τ V O m { s with heap := h', toks := tk } :=
  ⟨F', N', f.om, f.nd, f.dj, f.loc, f.tmp, let ⟨_, _, e⟩ := f.same; ⟨h', tk, by rw [e]⟩⟩
theorem FX.renewV (f : FX s₀ L ρ M τ V O m s) {h' : Heap} {tk : Nat} {D : Addr} {o : Obj} (F' : Fr s₀.heap L h' m) (N' : News s₀.heap L h' ((D, o) :: (O ++ V))) (hD : ∀ p ∈ O ++ V, p.1 ≠ D) : FX s₀ L ρ M τ ((D, o) :: V) O m { s with heap := h', toks := tk } := by
  have s1 : ∀ p ∈ V, p ∈ (D, o) :: V := fun _ hp => .tail _ hp
  refine ⟨F', fun p hp => ?_, f.om.mono s1, f.nd, fun p hp => ?_, fun x lv e => let ⟨v, e1, e2⟩ := f.loc x lv e; ⟨v, e1, e2.mono s1⟩, fun p hp => (f.tmp p hp).mono s1, let ⟨_, _, e⟩ := f.same; ⟨h', tk, by rw [e]⟩⟩
  · rcases List.mem_append.mp hp with hp | hp
    · exact N' p (.tail _ (List.mem_append.mpr (.inl hp)))
    · rcases List.mem_cons.mp hp with rfl | hp
      · exact N' _ (.head _)
      · exact N' p (.tail _ (List.mem_append.mpr (.inr hp)))
  · rcases List.mem_cons.mp hp with rfl | hp
    · intro hm
      obtain ⟨q, hq, e⟩ := List.mem_map.mp hm
      exact hD q (List.mem_append.mpr (.inl hq)) e
    · exact f.dj p hp

/- attributes -/
theorem EV.attr {a C dx : Addr} {j j' : Nat} {fs : LE} {attr : Option Value} (h1 : EV P A env ρ M e (.r (.ref a)) M₁) (m1 : M₁[j]? = some (a, .inst C dx)) (m2 : M₁[j']? = some (dx, .dict fs)) (hl : fs.lookup x = some lv)
    (hg : plainGet P.K C x = true) (hd : hasDictIn P.K C = true) (ha : findIn P.K (.ref C) x = some attr) (hn : noGet P.K attr = true) (hr : ∀ w, lv = .r w → handedIn w = true)
    (he : eval (.Attribute e x pos) env = (do
          let o ← eval e env
          standAt pos.atName
          let r ← holding [o] (getAttr o x true)
          letTemporaryGo e o r
          pure r) := by rfl) : EV P A env ρ M (.Attribute e x pos) lv M₁ :=
  ⟨fun F k => Attribute_any_ (h1.go F fun ov s₁ F₁ => by
    obtain rfl := F₁.rval (.head _)
    exact g_attr P.B F₁ m1 m2 hl hg hd ha hn hr fun v s' F' => k _ _ (F'.sub (sub_head (.head _) (sub_tail (sub_tail sub_refl))))) he⟩

/- items -/
structure SU (P : Setup) (A : Around) (M : ME) (value slice : Expr) (l₁ l₂ lv : LV) (M' : ME) : Prop where
  go : ∀ {L ρ} {τ : TE} {s Q E u v}, FS P.s₀ L ρ M τ s → (u, l₁) ∈ τ → (v, l₂) ∈ τ → (∀ y s', FS P.s₀ L ρ M' ((y, lv) :: τ) s' → Q y s') → wpAny (model P.prog P.w) A (subscriptTail value slice u v) Q E s
theorem EV.item {l₁ l₂ : LV} (h1 : EV P A env ρ M e₁ l₁ M₁) (h2 : EV P A env ρ M₁ e₂ l₂ M₂) (h : SU P A M₂ e₁ e₂ l₁ l₂ lv M') : EV P A env ρ M (.Subscript e₁ e₂ pos) lv M' :=
  ⟨fun F k => Subscript_ (h1.go F fun u s₁ F₁ => h2.go F₁ fun v s₂ F₂ => h.go F₂ (.tail _ (.head _)) (.head _) fun y s' F' => k y s' (F'.sub (sub_head (.head _) (sub_tail (sub_tail (sub_tail sub_refl))))))⟩
theorem SU.lst {k : Int} {i : Nat} (hd : ds[i]? = some d) (e : k = i) (hk : k < 2 ^ 62) (hs : ∀ l t, subscripted e₂ false (.ref l) (.int k t) = operate [.ref l, .int k t] (getItem (.ref l) (.int k t)) := by intro l t; rfl) : SU P A M e₁ e₂ (.d (.list ds)) (.d (.int k)) (.d d) M :=
  ⟨fun F m1 m2 h => i_list F m1 m2 (by omega) hk (by subst e; simpa using hd) (fun y F' => h y _ F') hs⟩
theorem SU.lstN {k : Int} {i : Nat} (hd : ds[i]? = some d) (e : k + ds.length = i) (h0 : k < 0) (hk : -1000 ≤ k) (hs : ∀ l t, subscripted e₂ false (.ref l) (.int k t) = operate [.ref l, .int k t] (getItem (.ref l) (.int k t)) := by intro l t; rfl) : SU P A M e₁ e₂ (.d (.list ds)) (.d (.int k)) (.d d) M :=
  ⟨fun F m1 m2 h => i_list_neg F m1 m2 h0 hk (by omega) (by rw [e]; simpa using hd) (fun y F' => h y _ F') hs⟩
theorem SU.tup {k : Int} {i : Nat} (hd : ds[i]? = some d) (e : k = i) (hk : k < 2 ^ 62) (hs : ∀ l t, subscripted e₂ false (.ref l) (.int k t) = operate [.ref l, .int k t] (getItem (.ref l) (.int k t)) := by intro l t; rfl) : SU P A M e₁ e₂ (.d (.tuple ds)) (.d (.int k)) (.d d) M :=
  ⟨fun F m1 m2 h => i_tuple (j := i) F m1 m2 (by omega) hk (by
    have := (List.getElem?_eq_some_iff.mp hd).1
    subst e
    unfold seqIndex?
    simp
    omega) hd (fun y F' => h y _ F') hs⟩
theorem SU.tupN {k : Int} {i : Nat} (hd : ds[i]? = some d) (e : k + ds.length = i) (h0 : k < 0) (hk : -1000 ≤ k) (hs : ∀ l t, subscripted e₂ false (.ref l) (.int k t) = operate [.ref l, .int k t] (getItem (.ref l) (.int k t)) := by intro l t; rfl) : SU P A M e₁ e₂ (.d (.tuple ds)) (.d (.int k)) (.d d) M :=
  ⟨fun F m1 m2 h => i_tuple (j := i) F m1 m2 (by omega) (by omega) (by
    have := (List.getElem?_eq_some_iff.mp hd).1
    unfold seqIndex?
    simp
    omega) hd (fun y F' => h y _ F') hs⟩
theorem SU.ml {a : Addr} {k : Int} {xs : List LV} {j i : Nat} (m1 : M[j]? = some (a, .list xs)) (hd : xs[i]? = some lv) (e : k = i) (hk : k < 2 ^ 62) (hs : ∀ l t, subscripted e₂ false (.ref l) (.int k t) = operate [.ref l, .int k t] (getItem (.ref l) (.int k t)) := by intro l t; rfl) : SU P A M e₁ e₂ (.r (.ref a)) (.d (.int k)) lv M :=
  ⟨fun F h1 h2 h => by
    obtain rfl := F.rval h1
    exact i_mlist F m1 h2 (by omega) hk (by subst e; simpa using hd) (fun y F' => h y _ F') hs⟩

/- slices -/
theorem lv_datAll {V : Led} : ∀ {vs : List Value} {ds : List Dat}, LVAll V vs (ds.map .d) → DatAll V vs ds := by
  intro vs
  induction vs with
  | nil => intro ds q; cases ds with
    | nil => exact .nil
    | cons d ds => cases q
  | cons v vs ih => intro ds q; cases ds with
    | nil => cases q
    | cons d ds => cases q with | cons a b => exact .cons a (ih b)
theorem datAll_drop {vs : List Value} (h : DatAll V vs ds) : ∀ n, DatAll V (vs.drop n) (ds.drop n) := by
  induction vs generalizing ds with
  | nil => intro n; cases h; simpa using DatAll.nil
  | cons v vs ih => intro n; cases h with | cons a b => cases n with
    | zero => exact .cons a b
    | succ n => exact ih b n
theorem datAll_take {vs : List Value} (h : DatAll V vs ds) : ∀ n, DatAll V (vs.take n) (ds.take n) := by
  induction vs generalizing ds with
  | nil => intro n; cases h; simpa using DatAll.nil
  | cons v vs ih => intro n; cases h with | cons a b => cases n with
    | zero => exact .nil
    | succ n => exact .cons a (ih b n)
/-- what a slice picks, on data -/
def pickD (ds : List Dat) (lo hi : Option Int) : List Dat := (ds.drop (kms_lo lo ds.length)).take (kms_hi hi ds.length - kms_lo lo ds.length)
theorem pick_in {vs : List Value} (h : DatAll V vs ds) (lo hi : Option Int) : DatAll V (kms_pick vs lo hi) (pickD ds lo hi) := by
  unfold kms_pick pickD
  rw [h.length]
  exact datAll_take (datAll_drop h _) _
/-- how a slice's part is read -/
structure PT (P : Setup) (A : Around) (env : Env) (ρ : LE) (M : ME) (o : Option Expr) (k : Option Int) : Prop where
  go : ∀ {τ : TE} {s Q E}, FS P.s₀ env.locals ρ M τ s → (∀ v s', FS P.s₀ env.locals ρ M τ s' → IsPart v k → Q v s') → wpAny (model P.prog P.w) A (evalPart o env) Q E s
theorem PT.none : PT P A env ρ M Option.none Option.none := ⟨fun F k => by
  unfold evalPart
  exact wpAny_pure (k _ _ F .none)⟩
theorem PT.some (h : EV P A env ρ M e (.d (.int a)) M) : PT P A env ρ M (Option.some e) (Option.some a) := ⟨fun F k => by
  unfold evalPart
  refine h.go F fun v s' F' => ?_
  obtain ⟨t, rfl⟩ := F'.int (.head _)
  exact k _ _ (F'.sub (sub_tail sub_refl)) (.int _ _)⟩
theorem EV.slice {lo hi : Option Expr} {kl kh : Option Int} {sp : Pos} (h1 : EV P A env ρ M e₁ (.d (.list ds)) M₁) (hl : PT P A env ρ M₁ lo kl) (hh : PT P A env ρ M₁ hi kh) (hz : ds.length ≤ 10000)
    (hs : ∀ l n, subscripted (.Slice lo hi none sp) false (.ref l) (.ref n) = operate [.ref n, .ref l] (getItem (.ref l) (.ref n)) := by intro l n; rfl) (ht : ∀ a r, letTemporaryGo e₁ (.ref a) r = pure () := by intro a r; rfl) :
    EV P A env ρ M (.Subscript e₁ (.Slice lo hi none sp) pos) (.d (.list (pickD ds kl kh))) M₁ :=
  ⟨fun F k => Subscript_ (h1.go F fun u s₁ F₁ => wpAny_Slice (hl.go F₁ fun vl s₂ F₂ pl => hh.go F₂ fun vu s₃ F₃ pu => PT.none.go F₃ fun vn s₄ F₄ pn => by
    cases pn
    obtain ⟨V, O, m, f⟩ := F₄
    obtain ⟨x, vs, n, rfl, hm, hg, q⟩ := f.lst (.head _)
    have hl : s₄.heap.IsList x vs.toArray := ⟨_, hg, rfl, n, rfl⟩
    refine kms_slice_lit f.fr f.nv hl pl pu rfl (fun D h' F' N' l1 => k _ _ ⟨_, O, m, ((f.renewV (tk := s₄.toks) F' N' fun p hp => Nat.ne_of_lt (l1 p hp)).tempd (x := .list (pickD ds kl kh)) (.list (n := 0) (.head _) ((pick_in q kl kh).mono fun _ hp => .tail _ hp))).weak (fun _ _ e => e) (sub_head (.head _) (sub_tail (sub_tail sub_refl)))⟩) (hs _ _) (ht _) (by rw [List.size_toArray, q.length, sizeLine_eq]; omega)))⟩
/-- a slice of a mutable list -/
theorem EV.sliceM {a : Addr} {j : Nat} {lo hi : Option Expr} {kl kh : Option Int} {sp : Pos} (h1 : EV P A env ρ M e₁ (.r (.ref a)) M₁) (m1 : M₁[j]? = some (a, .list (ds.map .d))) (hl : PT P A env ρ M₁ lo kl) (hh : PT P A env ρ M₁ hi kh) (hz : ds.length ≤ 10000)
    (hs : ∀ l n, subscripted (.Slice lo hi none sp) false (.ref l) (.ref n) = operate [.ref n, .ref l] (getItem (.ref l) (.ref n)) := by intro l n; rfl) (ht : ∀ a r, letTemporaryGo e₁ (.ref a) r = pure () := by intro a r; rfl) :
    EV P A env ρ M (.Subscript e₁ (.Slice lo hi none sp) pos) (.d (.list (pickD ds kl kh))) M₁ :=
  ⟨fun F k => Subscript_ (h1.go F fun u s₁ F₁ => wpAny_Slice (hl.go F₁ fun vl s₂ F₂ pl => hh.go F₂ fun vu s₃ F₃ pu => PT.none.go F₃ fun vn s₄ F₄ pn => by
    cases pn
    obtain rfl := F₁.rval (.head _)
    obtain ⟨V, O, m, f⟩ := F₄
    obtain ⟨o, e0, ⟨vs, n, rfl, q⟩, hg, _⟩ := f.getM m1
    have q := lv_datAll q
    have hl : s₄.heap.IsList a vs.toArray := ⟨_, hg, rfl, n, rfl⟩
    refine kms_slice_lit f.fr f.nv hl pl pu rfl (fun D h' F' N' l1 => k _ _ ⟨_, O, m, ((f.renewV (tk := s₄.toks) F' N' fun p hp => Nat.ne_of_lt (l1 p hp)).tempd (x := .list (pickD ds kl kh)) (.list (n := 0) (.head _) ((pick_in q kl kh).mono fun _ hp => .tail _ hp))).weak (fun _ _ e => e) (sub_head (.head _) (sub_tail (sub_tail sub_refl)))⟩) (hs _ _) (ht _) (by rw [List.size_toArray, q.length, sizeLine_eq]; omega)))⟩

/- len -/
theorem CL.lenL (hz : ds.length < 2 ^ 62) : CL P A M (.builtin "len") [.d (.list ds)] (.d (.int ds.length)) M := ⟨fun F t k => by
  cases t with | cons t1 t2 => cases t2; exact l_list F t1 hz k⟩
theorem CL.lenT (hz : ds.length < 2 ^ 62) : CL P A M (.builtin "len") [.d (.tuple ds)] (.d (.int ds.length)) M := ⟨fun F t k => by
  cases t with | cons t1 t2 => cases t2; exact l_tuple F t1 hz k⟩
theorem CL.lenM {a : Addr} {j : Nat} {xs : List LV} (m1 : M[j]? = some (a, .list xs)) (hz : xs.length < 2 ^ 62) : CL P A M (.builtin "len") [.r (.ref a)] (.d (.int xs.length)) M := ⟨fun F t k => by
  cases t with | cons t1 t2 => cases t2; obtain rfl := F.rval t1; exact l_mlist F m1 hz k⟩
theorem CL.min2 (hh : A.handled = none) : CL P A M (.builtin "min") [.d (.int a), .d (.int b)] (.d (.int (if b < a then b else a))) M := ⟨fun F t k => by
  cases t with | cons t1 t2 => cases t2 with | cons t2 t3 =>
    cases t3
    obtain ⟨x, rfl⟩ := F.int t1
    obtain ⟨y, rfl⟩ := F.int t2
    obtain ⟨V, O, m, f⟩ := F
    exact min_two_N hh f.fr f.nv fun h' tk F' N' => k _ _ ⟨V, O, m, (f.renew F' N').tempd (.int _ _)⟩⟩
theorem CL.max2 (hh : A.handled = none) : CL P A M (.builtin "max") [.d (.int a), .d (.int b)] (.d (.int (if b > a then b else a))) M := ⟨fun F t k => by
  cases t with | cons t1 t2 => cases t2 with | cons t2 t3 =>
    cases t3
    obtain ⟨x, rfl⟩ := F.int t1
    obtain ⟨y, rfl⟩ := F.int t2
    obtain ⟨V, O, m, f⟩ := F
    exact max_two_N hh f.fr f.nv fun h' tk F' N' => k _ _ ⟨V, O, m, (f.renew F' N').tempd (.int _ _)⟩⟩
theorem ints_are {ns : List Int} {vs : List Value} (h : DatAll V vs (ns.map .int)) : IntsAre vs ns := by
  induction ns generalizing vs with
  | nil => cases h; exact .nil
  | cons n ns ih => cases h with | cons a b => cases a with | int _ t => exact .cons n t (ih b)
theorem CL.sum {ns : List Int} (hh : A.handled = none) : CL P A M (.builtin "sum") [.d (.list (ns.map .int))] (.d (.int ns.sum)) M := ⟨fun F t k => by
  cases t with | cons t1 t2 =>
    cases t2
    obtain ⟨V, O, m, f⟩ := F
    obtain ⟨x, vs, n, rfl, hm, hg, q⟩ := f.lst t1
    exact sumK hh f.fr f.nv ⟨_, hg, rfl, n, rfl⟩ (ints_are q) fun h' tk t' F' N' => k _ _ ⟨V, O, m, (f.renew F' N').tempd (.int _ _)⟩⟩
theorem CL.listL (hz : ds.length ≤ 10000) : CL P A M (.type "list") [.d (.list ds)] (.d (.list ds)) M := ⟨fun F t k => by
  cases t with | cons t1 t2 =>
    cases t2
    obtain ⟨V, O, m, f⟩ := F
    obtain ⟨x, vs, n, rfl, hm, hg, q⟩ := f.lst t1
    exact list_copyK f.fr f.nv ⟨_, hg, rfl, n, rfl⟩ (fun D c h' F' N' l1 => k _ _ ⟨_, O, m, (f.renewV F' N' fun p hp => Nat.ne_of_lt (l1 p hp)).tempd (.list (.head _) (q.mono fun _ hp => .tail _ hp))⟩) (by rw [List.size_toArray, q.length, sizeLine_eq]; omega)⟩
theorem CL.tupL (hz : ds.length ≤ 10000) : CL P A M (.type "tuple") [.d (.list ds)] (.d (.tuple ds)) M := ⟨by
  intro L ρ τ s Q E vs F t k
  cases t with | cons t1 t2 =>
    cases t2
    obtain ⟨V, O, m, f⟩ := F
    obtain ⟨x, vs, n, rfl, hm, hg, q⟩ := f.lst t1
    refine call_tuple_list ⟨_, hg, rfl, n, rfl⟩ (fun h' hk => ?_) (by rw [List.size_toArray, q.length, sizeLine_eq]; omega)
    have g := f.grow (tk := s.toks) hk
    exact k _ _ ⟨_, O, m, (FX.pushV (s := { s with heap := h' }) g (tupOf vs.toArray 0)).tempd (.tuple (n := 0) (.head _) (q.mono fun _ hp => .tail _ hp))⟩⟩
theorem CL.tupT : CL P A M (.type "tuple") [.d (.tuple ds)] (.d (.tuple ds)) M := ⟨fun F t k => by
  cases t with | cons t1 t2 =>
    cases t2
    obtain ⟨V, O, m, f⟩ := F
    obtain ⟨x, vs, n, rfl, hm, hg, q⟩ := f.tup t1
    exact call_tuple_tup ⟨_, hg, rfl, n, rfl⟩ (k _ _ ⟨V, O, m, f.tempd (f.tmp _ t1)⟩)⟩
theorem CL.range1 : CL P A M (.type "range") [.d (.int a)] (.rng 0 a) M := ⟨by
  intro L ρ τ s Q E vs F t k
  cases t with | cons t1 t2 =>
    cases t2
    obtain ⟨x, rfl⟩ := F.int t1
    obtain ⟨V, O, m, f⟩ := F
    have g := (f.pushV (rngObj 0 a s.toks x (s.toks + 1))).tok (s.toks + 1 + 1)
    exact call_range_1 (k _ _ ⟨_, O, m, g.temp ⟨_, _, _, _, rfl, .head _⟩⟩)⟩
theorem CL.range2 : CL P A M (.type "range") [.d (.int a), .d (.int b)] (.rng a b) M := ⟨by
  intro L ρ τ s Q E vs F t k
  cases t with | cons t1 t2 => cases t2 with | cons t2 t3 =>
    cases t3
    obtain ⟨x, rfl⟩ := F.int t1
    obtain ⟨y, rfl⟩ := F.int t2
    obtain ⟨V, O, m, f⟩ := F
    have g := (f.pushV (rngObj a b x y s.toks)).tok (s.toks + 1)
    exact call_range_2 (k _ _ ⟨_, O, m, g.temp ⟨_, _, _, _, rfl, .head _⟩⟩)⟩
theorem CL.listR (hh : A.handled = none) (ha : -100000 ≤ a ∧ a ≤ 100000) (hb : -100000 ≤ b ∧ b ≤ 100000) : CL P A M (.type "list") [.rng a b] (.d (.list (rngL a b))) M := ⟨by
  intro L ρ τ s Q E vs F t k
  cases t with | cons t1 t2 =>
    cases t2
    obtain ⟨V, O, m, f⟩ := F
    obtain ⟨r, t, u, w', rfl, hm⟩ := f.tmp _ t1
    have hg := (f.nv _ (List.mem_append.mpr (.inr hm))).1
    refine call_list_range hh (show IsRange _ r a b 1 t u w' from hg) (rng_small ha hb) (rangeSize_nat a b) (by omega) fun h' tk acc c hk hg' hi => ?_
    have q : ∀ (V : Led), DatAll V acc.toList (rngL a b) := fun V => by
      have gen : ∀ (n : Nat) (l : List Value) (a : Int), l.length = n → (∀ (i : Nat) v, l[i]? = some v → ∃ t, v = Value.int (a + (i : Int)) t) → DatAll V l ((List.range n).map fun (i : Nat) => Dat.int (a + (i : Int))) := by
        intro n
        induction n with
        | zero => intro l a h _; cases l with
          | nil => exact .nil
          | cons _ _ => cases h
        | succ n ih =>
          intro l a h hv
          cases l with
          | nil => cases h
          | cons v l =>
            rw [List.range_succ_eq_map, List.map_cons, List.map_map]
            obtain ⟨t, rfl⟩ := hv 0 v rfl
            refine .cons (.int _ _) ?_
            have := ih l (a + 1) (by simpa using h) fun i v e => by
              obtain ⟨t, e'⟩ := hv (i + 1) v e
              exact ⟨t, by rw [e']; congr 1; omega⟩
            refine cast (congrArg _ (List.map_congr_left fun i _ => ?_)) this
            show Dat.int _ = Dat.int _
            congr 1
            simp only [Nat.succ_eq_add_one]
            omega
      exact gen _ acc.toList a (by rw [Array.length_toList]; exact hi.1) fun i v e => by
        obtain ⟨t, e'⟩ := hi.2 i v (by simpa using e)
        exact ⟨t, by rw [e', Int.mul_one]⟩
    exact k _ _ ⟨_, O, m, (f.newV (tk := tk) hk (get_size _) hg').tempd (.list (n := c) (.head _) (q _))⟩⟩

/- sums of sequences -/
theorem BO.catL (hz : ds.length + es.length ≤ 10000) : BO P A M .Add (.d (.list ds)) (.d (.list es)) (.d (.list (ds ++ es))) M := ⟨fun F m1 m2 k => by
  obtain ⟨V, O, m, f⟩ := F
  obtain ⟨x, vs, n, rfl, hm, hg, q⟩ := f.lst m1
  obtain ⟨y, ws, n', rfl, hm', hg', q'⟩ := f.lst m2
  exact add_lists f.fr f.nv ⟨_, hg, rfl, n, rfl⟩ ⟨_, hg', rfl, n', rfl⟩ (fun h' F' N' => k _ _ ⟨_, O, m, (f.renewV F' N' f.freshAddr.1).tempd (.list (n := 0) (.head _) ((q.append q').mono fun _ hp => .tail _ hp))⟩) (by rw [q.length, q'.length, sizeLine_eq]; omega)⟩
end

theorem dec_of {p : Prop} {i : Decidable p} {c : Bool} (hc : c = true ↔ p) : @decide p i = c := by
  cases c
  · exact decide_eq_false fun z => Bool.false_ne_true (hc.mpr z)
  · exact decide_eq_true (hc.mp rfl)
theorem dec_not {p : Prop} {i : Decidable p} {c : Bool} (hc : c = true ↔ ¬ p) : (!@decide p i) = c := by
  by_cases h : p
  · rw [decide_eq_true h]
    cases c
    · rfl
    · exact absurd h (hc.mp rfl)
  · rw [decide_eq_false h, hc.mpr h]; rfl
theorem o_catT {prog : Program} {w : World} {A : Around} {E : Value → Shared → Prop} {s : Shared} {b t : Addr} {items items2 : Array Value} {n n2 : Nat} {Q : Value → Shared → Prop} (h1 : s.heap.get? t = some (tupOf items n)) (h2 : s.heap.get? b = some (tupOf items2 n2)) (h3 : ¬ items.isEmpty = true) (h4 : ¬ items2.isEmpty = true)
    (h : Q (.ref s.heap.objs.size) { s with heap := s.heap.push { cls := .type "tuple", data := .seq (items ++ items2) } }) (hz : items.size + items2.size ≤ sizeLine) : wpAny (model prog w) A (binaryOp .Add (.ref t) (.ref b)) Q E s := P.add_tuple h1 h2 h3 h4 h hz
section
variable {P : Setup} {A : Around} {E : Value → Shared → Prop} {s₀ s : Shared} {env : Env} {L : Addr} {ρ ρ' : LE} {M M₁ M₂ M' : ME} {τ τ' : TE} {Q : Value → Shared → Prop} {x : Str} {pos : Pos} {lv : LV}
  {V O : Led} {m : Str → Option Value} {u v : Value} {a b : Int} {ds es : List Dat} {d d' : Dat} {e e₁ e₂ e₃ : Expr} {ls : List LV}

theorem mono_r {V O : Led} : ∀ p ∈ V, p ∈ O ++ V := fun _ hp => List.mem_append.mpr (.inr hp)
theorem shaped_of {n : Nat} (hn : n ≤ 9) (h : kqdOk n d = true) : SeqAt.shaped (kqdP d) = true := by
  have la := kqd_lay n d h
  unfold SeqAt.shaped; rw [la.1, Bool.true_and]; exact decide_eq_true (Nat.le_trans la.2 (Nat.le_trans hn (by decide)))
theorem eqv_of {d d' : Dat} {c : Bool} (h1 : kqdOk 9 d = true) (h2 : kqdOk 9 d' = true) (hc : c = true ↔ d = d') : PyData.eqv (kqdP d) (kqdP d') = c := by
  have := kqd_eqv 9 d d' 9 h1 h2
  cases c
  · exact Bool.eq_false_iff.mpr fun z => Bool.false_ne_true (hc.mpr (this.mp z))
  · exact this.mpr (hc.mp rfl)
theorem CO.eqD {c : Bool} (hu : A.units ≤ 9000) (h1 : kqdOk 9 d = true) (h2 : kqdOk 9 d' = true) (hc : c = true ↔ d = d') : CO P A M .Eq (.d d) (.d d') (.d (.bool c)) := ⟨fun F m1 m2 k => by
  obtain ⟨V, O, m, f⟩ := F
  obtain ⟨as, ra⟩ := kqd_in f.nv 9 ((show DatIn V _ d from f.tmp _ m1).mono mono_r) h1
  obtain ⟨bs, rb⟩ := kqd_in f.nv 9 ((show DatIn V _ d' from f.tmp _ m2).mono mono_r) h2
  exact eq_dataH ra rb (shaped_of (Nat.le_refl _) h1) (shaped_of (Nat.le_refl _) h2) (by rw [cLine_is]; omega) (by rw [eqv_of h1 h2 hc]; exact k _ _ ⟨V, O, m, f.tempd (.bool _)⟩)⟩
theorem CO.neD {c : Bool} (hu : A.units ≤ 9000) (h1 : kqdOk 9 d = true) (h2 : kqdOk 9 d' = true) (hc : c = true ↔ d ≠ d') : CO P A M .NotEq (.d d) (.d d') (.d (.bool c)) := ⟨fun F m1 m2 k => by
  obtain ⟨V, O, m, f⟩ := F
  obtain ⟨as, ra⟩ := kqd_in f.nv 9 ((show DatIn V _ d from f.tmp _ m1).mono mono_r) h1
  obtain ⟨bs, rb⟩ := kqd_in f.nv 9 ((show DatIn V _ d' from f.tmp _ m2).mono mono_r) h2
  have e : PyData.eqv (kqdP d) (kqdP d') = !c := eqv_of h1 h2 (by
    cases c
    · simp at hc ⊢; exact hc
    · simp at hc ⊢; exact hc)
  exact ne_dataH ra rb (shaped_of (Nat.le_refl _) h1) (shaped_of (Nat.le_refl _) h2) (by rw [cLine_is]; omega) (by rw [e, Bool.not_not]; exact k _ _ ⟨V, O, m, f.tempd (.bool _)⟩)⟩
/-- a mutable list of data against data -/
theorem CO.eqM {c : Bool} {x : Addr} {j : Nat} (m1 : M[j]? = some (x, .list (ds.map .d))) (hu : A.units ≤ 9000) (h1 : kqdOk 9 (.list ds) = true) (h2 : kqdOk 9 d' = true) (hc : c = true ↔ Dat.list ds = d') : CO P A M .Eq (.r (.ref x)) (.d d') (.d (.bool c)) := ⟨fun F t1 t2 k => by
  obtain rfl := F.rval t1
  obtain ⟨V, O, m, f⟩ := F
  obtain ⟨o, e0, ⟨vs, n, rfl, q⟩, hg, _⟩ := f.getM m1
  have q := lv_datAll q
  have hd : DatIn (O ++ V) (.ref x) (.list ds) := .list (List.mem_append.mpr (.inl (List.mem_of_getElem? e0))) (q.mono mono_r)
  obtain ⟨as, ra⟩ := kqd_in f.nv 9 hd h1
  obtain ⟨bs, rb⟩ := kqd_in f.nv 9 ((show DatIn V _ d' from f.tmp _ t2).mono mono_r) h2
  exact eq_dataH ra rb (shaped_of (Nat.le_refl _) h1) (shaped_of (Nat.le_refl _) h2) (by rw [cLine_is]; omega) (by rw [eqv_of h1 h2 hc]; exact k _ _ ⟨V, O, m, f.tempd (.bool _)⟩)⟩
theorem CO.inL {c : Bool} (hu : A.units ≤ 9000) (h1 : ∀ e ∈ ds, kqdOk 8 e = true) (h2 : kqdOk 8 d = true) (hc : c = true ↔ d ∈ ds) : CO P A M .In (.d d) (.d (.list ds)) (.d (.bool c)) := ⟨fun F m1 m2 k => by
  obtain ⟨V, O, m, f⟩ := F
  obtain ⟨x, vs, n, rfl, hm, hg, q⟩ := f.lst m2
  refine kqd_isIn f.nv (mono_r _ hm) rfl rfl q mono_r (show DatIn V _ d from f.tmp _ m1) mono_r h1 h2 (by rw [cLine_is]; omega) ?_
  rw [dec_of hc]
  exact k _ _ ⟨V, O, m, f.tempd (.bool _)⟩⟩
theorem CO.notInL {c : Bool} (hu : A.units ≤ 9000) (h1 : ∀ e ∈ ds, kqdOk 8 e = true) (h2 : kqdOk 8 d = true) (hc : c = true ↔ d ∉ ds) : CO P A M .NotIn (.d d) (.d (.list ds)) (.d (.bool c)) := ⟨fun F m1 m2 k => by
  obtain ⟨V, O, m, f⟩ := F
  obtain ⟨x, vs, n, rfl, hm, hg, q⟩ := f.lst m2
  refine kqd_notIn f.nv (mono_r _ hm) rfl rfl q mono_r (show DatIn V _ d from f.tmp _ m1) mono_r h1 h2 (by rw [cLine_is]; omega) ?_
  rw [dec_not hc]
  exact k _ _ ⟨V, O, m, f.tempd (.bool _)⟩⟩
theorem CO.isNone : CO P A M .Is (.d .none) (.d .none) (.d (.bool true)) := ⟨fun F m1 m2 k => by
  obtain rfl := F.none' m1
  obtain rfl := F.none' m2
  exact is_none (k _ _ (F.tbool _))⟩
theorem CO.isNotNone (hd : d ≠ .none) : CO P A M .Is (.d d) (.d .none) (.d (.bool false)) := ⟨fun {L ρ τ s Q E u v} F m1 m2 k => by
  obtain rfl := F.none' m2
  have : (u == Value.none) = false := by
    obtain ⟨V, O, m, f⟩ := F
    have q : DatIn V u d := f.tmp _ m1
    cases q <;> first | rfl | exact absurd rfl hd
  refine is_none ?_
  rw [this]
  exact k _ _ (F.tbool _)⟩
theorem CO.isB {c c' : Bool} : CO P A M .Is (.d (.bool c)) (.d (.bool c')) (.d (.bool (c == c'))) := ⟨fun F m1 m2 k => by
  obtain rfl := F.bool m1
  obtain rfl := F.bool m2
  exact is_bool (k _ _ (F.tbool _))⟩
theorem CO.isNotB {c c' : Bool} : CO P A M .IsNot (.d (.bool c)) (.d (.bool c')) (.d (.bool (c != c'))) := ⟨fun F m1 m2 k => by
  obtain rfl := F.bool m1
  obtain rfl := F.bool m2
  exact isnot_bool (k _ _ (F.tbool _))⟩
theorem BO.catT (h1 : ds ≠ []) (h2 : es ≠ []) (hz : ds.length + es.length ≤ 10000) : BO P A M .Add (.d (.tuple ds)) (.d (.tuple es)) (.d (.tuple (ds ++ es))) M := ⟨by
  intro L ρ τ s Q E u v F m1 m2 k
  obtain ⟨V, O, m, f⟩ := F
  obtain ⟨x, vs, n, rfl, hm, hg, q⟩ := f.tup m1
  obtain ⟨y, ws, n', rfl, hm', hg', q'⟩ := f.tup m2
  have e1 : vs ≠ [] := by rintro rfl; cases q; exact h1 rfl
  have e2 : ws ≠ [] := by rintro rfl; cases q'; exact h2 rfl
  refine o_catT (items := vs.toArray) (items2 := ws.toArray) (n := n) (n2 := n') hg hg' (by simpa using e1) (by simpa using e2) ?_ (by rw [List.size_toArray, List.size_toArray, q.length, q'.length, sizeLine_eq]; omega)
  refine k _ _ ⟨_, O, m, (f.pushV { cls := .type "tuple", data := .seq (vs.toArray ++ ws.toArray) }).tempd (.tuple (vs := vs ++ ws) (n := 0) ?_ ((q.append q').mono fun _ hp => .tail _ hp))⟩
  rw [show (vs ++ ws).toArray = vs.toArray ++ ws.toArray by simp]
  exact .head _⟩
end

def cellME (n : Nat) : List (Str × NameKind) → ME → ME
  | [], acc => acc
  | (_, kind) :: r, acc => if kind == .cell then cellME (n + 1) r ((n, .cell none) :: acc) else cellME n r acc
section
variable {P : Setup} {A : Around} {E : Value → Shared → Prop} {s₀ s : Shared} {env : Env} {L : Addr} {ρ ρ' : LE} {M M₁ M₂ M' : ME} {τ τ' : TE} {Q : Value → Shared → Prop} {x : Str} {pos : Pos} {lv : LV}
  {V O : Led} {m : Str → Option Value} {u v : Value} {a b : Int} {ds es : List Dat} {d d' : Dat} {e e₁ e₂ e₃ : Expr} {ls : List LV}

theorem FX.pushCells (f : FX s₀ L ρ M τ V O m s) : ∀ (names : List (Str × NameKind)), ∃ O', FX s₀ L ρ (cellME s.heap.objs.size names M) τ V O' m { s with heap := PySem.pushCells s.heap names } := by
  intro names
  induction names generalizing M O s with
  | nil => exact ⟨O, f.tok s.toks⟩
  | cons y r ih =>
    obtain ⟨y, kind⟩ := y
    unfold cellME PySem.pushCells
    by_cases hk : (kind == NameKind.cell) = true
    · rw [if_pos hk, if_pos hk]
      have g := f.pushM { cls := .type "cell", data := .cell none } (y := .cell none) rfl
      have := ih g
      simpa using this
    · rw [if_neg hk, if_neg hk]
      exact ih f

/-- a frame of a comprehension: what it needs to come back -/
def BackC (s₀ : Shared) (L : Addr) (ρ : LE) (oL : Obj) (τc : TE) : Prop := ∀ {L' ρ' M₂ τ' s'}, FS s₀ L' ρ' ((L, .raw oL) :: M₂) τ' s' → (∀ p ∈ τc, p ∈ τ') → ∃ oL', (∀ h : Heap, h.get? L' = some oL' → ∃ m, h.Ns L' m) ∧ FS s₀ L ρ ((L', .raw oL') :: M₂) τ' s'

theorem FX.backC (f : FX s₀ L ρ M τ V O m s) : ∃ oL, s.heap.get? L = some oL ∧ BackC s₀ L ρ oL (tempsOf m ρ) := by
  obtain ⟨oL, es, ep, hL, hLd, hLk, hLf⟩ := f.fr.ns
  refine ⟨oL, hL, ?_⟩
  rintro L' ρ' M₂ τ' s' ⟨V', O', m', g⟩ ht
  obtain ⟨fr, nv, om, nd, dj, loc, tmp, same⟩ := g
  obtain ⟨oL', es', ep', hL', hLd', hLk', hLf'⟩ := fr.ns
  cases om with
  | cons hx om' =>
    rename_i o O₂
    have e : o = oL := hx
    subst e
    rw [List.map_cons, List.nodup_cons] at nd
    have hLn := nv _ (List.mem_append.mpr (.inl (.head _)))
    have hLL : L ≠ L' := hLn.2.1
    refine ⟨oL', fun h e => ⟨m', oL', es', ep', e, hLd', hLk', hLf'⟩, V', (L', oL') :: O₂, m, ⟨⟨o, es, ep, hLn.1, hLd, hLk, hLf⟩, fr.keep, f.fr.above⟩, fun p hp => ?_, .cons rfl om', ?_, fun p hp => ?_, fun x lv e => ?_, tmp, same⟩
    · rcases List.mem_append.mp hp with hp | hp
      · rcases List.mem_cons.mp hp with rfl | hp
        · refine ⟨hL', hLL.symm, ?_⟩
          cases q : s₀.heap.get? L' with
          | none => rfl
          | some o' => exact absurd (Heap.lt_size q) (Nat.not_lt.mpr fr.above)
        · have z := nv p (List.mem_append.mpr (.inl (.tail _ hp)))
          exact ⟨z.1, fun e => nd.1 (List.mem_map.mpr ⟨p, hp, e⟩), z.2.2⟩
      · have z := nv p (List.mem_append.mpr (.inr hp))
        exact ⟨z.1, fun e => dj p hp (by rw [List.map_cons]; exact e ▸ .head _), z.2.2⟩
    · rw [List.map_cons, List.nodup_cons]
      refine ⟨fun hm => ?_, nd.2⟩
      obtain ⟨q, hq, e⟩ := List.mem_map.mp hm
      exact (nv q (List.mem_append.mpr (.inl (.tail _ hq)))).2.1 e
    · intro hm
      rw [List.map_cons] at hm
      rcases List.mem_cons.mp hm with e | hm
      · exact (nv p (List.mem_append.mpr (.inr hp))).2.1 e
      · exact dj p hp (by rw [List.map_cons]; exact .tail _ hm)
    · obtain ⟨v, e1, e2⟩ := f.loc x lv e
      refine ⟨v, e1, tmp (v, lv) (ht _ ?_)⟩
      exact List.mem_filterMap.mpr ⟨(x, lv), mem_of_lookup e, by simp only [e1, e]⟩

theorem FS.dropC {C : Addr} {y : AO} (F : FS s₀ L ρ ((C, y) :: M) τ s) {h' : Heap} (hs : Heap.SameBut C s.heap h') : FS s₀ L ρ M τ { s with heap := h' } := by
  obtain ⟨V, O, m, f⟩ := F
  exact ⟨V, _, m, f.eraseE (j := 0) (tk := s.toks) at_head fun b o hb e => (hs.2 b hb).trans e⟩

/-- a new frame below the present one -/
theorem FX.inner (f : FX s₀ L ρ M τ V O m s) {h₁ : Heap} {oL : Obj} (hL : s.heap.get? L = some oL) (hn : h₁.Ns s.heap.objs.size fun _ => none) (hk : ∀ b o, s.heap.get? b = some o → h₁.get? b = some o) :
    FX s₀ s.heap.objs.size [] ((L, .raw oL) :: M) (tempsOf m ρ ++ τ) V ((L, oL) :: O) (fun _ => none) { s with heap := h₁ } := by
  have hs0 : s₀.heap.objs.size ≤ L := f.fr.above
  have hLL : L < s.heap.objs.size := Heap.lt_size hL
  have hL0 : s₀.heap.get? L = none := by
    cases q : s₀.heap.get? L with
    | none => rfl
    | some o => exact absurd (Heap.lt_size q) (Nat.not_lt.mpr hs0)
  refine ⟨⟨hn, fun b o e => hk b o (f.fr.keep b o e), Nat.le_trans hs0 (Nat.le_of_lt hLL)⟩, fun p hp => ?_, .cons rfl f.om, ?_, fun p hp hm => ?_, fun y l e => by simp at e, fun p hp => ?_, let ⟨_, tk, e⟩ := f.same; ⟨h₁, tk, by rw [e]⟩⟩
  · rw [List.cons_append] at hp
    rcases List.mem_cons.mp hp with rfl | hp
    · exact ⟨hk _ _ hL, Nat.ne_of_lt hLL, hL0⟩
    · have z := f.nv p hp
      exact ⟨hk _ _ z.1, Nat.ne_of_lt (Heap.lt_size z.1), z.2.2⟩
  · rw [List.map_cons, List.nodup_cons]
    refine ⟨fun hm => ?_, f.nd⟩
    obtain ⟨q, hq, e⟩ := List.mem_map.mp hm
    exact (f.nv q (List.mem_append.mpr (.inl hq))).2.1 e
  · rw [List.map_cons] at hm
    rcases List.mem_cons.mp hm with e | hm
    · exact (f.nv p (List.mem_append.mpr (.inr hp))).2.1 e
    · exact f.dj p hp hm
  · rcases List.mem_append.mp hp with hp | hp
    · exact f.temps p hp
    · exact f.tmp p hp

theorem forIn_cells {M : Model} {A : Around} {E : Value → Shared → Prop} : ∀ (names : List (Str × NameKind)) (cells : List (Str × Addr)) (s : Shared) (Q : List (Str × Addr) → Shared → Prop), Q (cellsFrom s.heap.objs.size names cells) { s with heap := PySem.pushCells s.heap names } →
    wpAny M A (forIn names cells fun x r => match x with | (name, kind) => if (kind == NameKind.cell) = true then (do let a ← alloc { cls := .type "cell", data := .cell none }; pure (ForInStep.yield ((name, a) :: r))) else pure (ForInStep.yield r)) Q E s := by
  intro names
  induction names with
  | nil => intro cells s Q h; exact wpAny_pure h
  | cons y r ih =>
    obtain ⟨y, kind⟩ := y
    intro cells s Q h
    rw [List.forIn_cons]
    unfold cellsFrom PySem.pushCells at h
    by_cases hk : (kind == NameKind.cell) = true
    · rw [if_pos hk, if_pos hk] at h
      simp only [hk, if_true]
      refine wpAny_bind (wpAny_bind (wpAny_alloc (wpAny_pure (ih _ _ _ ?_))))
      simpa using h
    · rw [if_neg hk, if_neg hk] at h
      simp only [hk, if_false]
      exact wpAny_bind (wpAny_pure (ih _ _ _ h))

theorem inner_env {scope : Scope} {cl : List (Str × Addr)} {QE : Env → Shared → Prop} (F : FS s₀ env.locals ρ M τ s) (hk : scope.kind = .function)
    (h : ∀ L' oL τc s₁, BackC s₀ env.locals ρ oL τc → FS s₀ L' [] (cellME (L' + 1) scope.names ((env.locals, .raw oL) :: M)) (τc ++ τ) s₁ → QE (newEnv scope L' env.globals (cellsFrom (L' + 1) scope.names cl) env.qual none .none (some env) builtinsNs) s₁) :
    wpAny (model P.prog P.w) A (newFunctionEnv scope env.globals cl [] env.qual none .none (some env)) QE E s := by
  obtain ⟨V, O, m, f⟩ := F
  obtain ⟨oL, hL, bk⟩ := f.backC
  simp only [newFunctionEnv, Option.isSome_some, if_true]
  refine wpAny_bind (wpAny_alloc (wpAny_bind (forIn_cells _ _ _ _ (wpAny_pure ?_))))
  have g := f.inner (h₁ := s.heap.push { cls := .type "dict", data := .dict #[] }) hL (Heap.Ns.new s.heap (.type "dict")) fun b o e => Heap.get?_push_of_some _ e
  obtain ⟨O', g'⟩ := g.pushCells scope.names
  have := h s.heap.objs.size oL _ _ bk ⟨V, O', _, by simpa using g'⟩
  simpa [newEnv] using this
end

/-- an assignment to a target -/
structure TG (P : Setup) (A : Around) (env : Env) (target : Expr) (lv : LV) (ρt : LE) : Prop where
  go : ∀ {ρ M} {τ : TE} {s Q E v}, FS P.s₀ env.locals ρ M τ s → (v, lv) ∈ τ → (∀ s', FS P.s₀ env.locals (ρt ++ ρ) M τ s' → Q () s') → wpAny (model P.prog P.w) A (assign target env v) Q E s
def testsOf (ifs : List Expr) (env : Env) : Sem Bool := forIn ifs true fun c r => if r = true then do let ok ← isTrue c env (eval c env); pure (ForInStep.yield ok) else pure (ForInStep.yield r)
structure TS (P : Setup) (A : Around) (env : Env) (ρ : LE) (M : ME) (ifs : List Expr) (b : Bool) : Prop where
  go : ∀ {τ : TE} {s Q E}, FS P.s₀ env.locals ρ M τ s → (∀ s', FS P.s₀ env.locals ρ M τ s' → Q b s') → wpAny (model P.prog P.w) A (testsOf ifs env) Q E s
/-- one turn of a comprehension -/
structure TURN (P : Setup) (A : Around) (env : Env) (target : Expr) (ifs : List Expr) (elt : Expr) (lv : LV) (M M' : ME) (b : Bool) (fv : LV) : Prop where
  go : ∀ {τ : TE} {s : Shared} {Q1 : Value → Shared → Prop} {Q2 : Shared → Prop} {E : Value → Shared → Prop} {v : Value}, FS P.s₀ env.locals [] M τ s → (v, lv) ∈ τ →
  (b = true → ∀ y s', FS P.s₀ env.locals [] M' ((y, fv) :: τ) s' → Q1 y s') → (b = false → ∀ s', FS P.s₀ env.locals [] M' τ s' → Q2 s') →
  wpAny (model P.prog P.w) A (assign target env v) (fun _ s₂ => wpAny (model P.prog P.w) A (testsOf ifs env) (fun ok s₃ => if ok = true then wpAny (model P.prog P.w) A (eval elt env) Q1 E s₃ else Q2 s₃) E s₂) E s
section
variable {P : Setup} {A : Around} {E : Value → Shared → Prop} {s₀ s : Shared} {env : Env} {L : Addr} {ρ ρ' ρt : LE} {M M₁ M₂ M' : ME} {τ τ' : TE} {Q : Value → Shared → Prop} {x y : Str} {pos : Pos} {lv : LV}
  {V O : Led} {m : Str → Option Value} {u v : Value} {a b : Int} {ds es : List Dat} {d d' : Dat} {e e₁ e₂ e₃ : Expr} {ls : List LV}

theorem st_cellI {c : Addr} {j : Nat} {o : Option LV} {Q : Unit → Shared → Prop} (F : FS s₀ L ρ M τ s) (hc : env.cells.lookup x = some c) (hm : M[j]? = some (c, .cell o)) (hv : (v, lv) ∈ τ) (h : ∀ s', FS s₀ L ρ (M.set j (c, .cell (some lv))) τ s' → Q () s')
    (hk : env.scope.kind = .function) (hx : env.kindOf x = some .cell) : wpAny (model P.prog P.w) A (storeName env x v) Q E s := st_cell F hc hm hv h hk hx
theorem TG.name (hx : env.kindOf x = some .local) (hp : (env.scope.kind == .class || (env.scope.kind == .module && env.locals != env.globals)) = false := by rfl) : TG P A env (.Name x pos) lv [(x, lv)] :=
  ⟨fun F hv k => assign_Name (st_local F hv (fun s' F' => k _ F') hx hp)⟩
theorem TG.tup2 {x y : Str} {p1 p2 tp : Pos} {k : Nat} (hh : A.handled = none) (hx : env.kindOf x = some .local) (hy : env.kindOf y = some .local) (hp : (env.scope.kind == .class || (env.scope.kind == .module && env.locals != env.globals)) = false := by rfl) :
    TG P A env (.Tuple [.Name x p1, .Name y p2] k tp) (.d (.tuple [d, d'])) [(y, .d d'), (x, .d d)] := ⟨fun F hv k => by
  refine u_tuple hh F hv rfl rfl fun vs s' hl F' => ?_
  match vs, hl with
  | [v1, v2], _ =>
    refine wpAny_assignInOrder_more (assign_Name (st_local F' (.head _) (fun s₁ F₁ => ?_) hx hp))
    refine wpAny_assignInOrder_more (assign_Name (st_local F₁ (.tail _ (.head _)) (fun s₂ F₂ => ?_) hy hp))
    exact wpAny_assignInOrder_none (k _ (F₂.sub (sub_tail (sub_tail sub_refl))))⟩
theorem TS.nil : TS P A env ρ M [] true := ⟨fun F k => wpAny_pure (k _ F)⟩
theorem TS.one {c : Bool} (h : TV P A env ρ M e c M) : TS P A env ρ M [e] c := ⟨fun F k => wpAny_tests_one (h.go F fun s' F' => k _ F')⟩

theorem TURN.of {target elt : Expr} {ifs : List Expr} {c : Bool} {fv : LV} (ht : TG P A env target lv ρt) (hs : TS P A env ρt M ifs c) (he : c = true → EV P A env ρt M elt fv M') (hm : c = false → M = M') : TURN P A env target ifs elt lv M M' c fv :=
  ⟨fun F hv k1 k2 => ht.go F hv fun s₂ F₂ => by
    rw [List.append_nil] at F₂
    refine hs.go F₂ fun s₃ F₃ => ?_
    cases c with
    | true => rw [if_pos rfl]; exact (he rfl).go F₃ fun y s₄ F₄ => k1 rfl y _ (F₄.weak (fun _ h => nomatch h) sub_refl)
    | false => rw [if_neg Bool.false_ne_true]; exact k2 rfl _ (hm rfl ▸ F₃.weak (fun _ h => nomatch h) sub_refl)⟩
/-- the target is a cell of the comprehension -/
theorem TURN.ofc {c0 : Addr} {o : Option LV} {elt : Expr} {ifs : List Expr} {c : Bool} {fv : LV} (hc : env.cells.lookup x = some c0) (hx : env.kindOf x = some .cell) (hk : env.scope.kind = .function) (hs : TS P A env [] ((c0, .cell (some lv)) :: M) ifs c) (he : c = true → EV P A env [] ((c0, .cell (some lv)) :: M) elt fv ((c0, .cell (some lv)) :: M)) :
    TURN P A env (.Name x pos) ifs elt lv ((c0, .cell o) :: M) ((c0, .cell (some lv)) :: M) c fv :=
  ⟨fun F hv k1 k2 => assign_Name (st_cellI F hc at_head hv (fun s₂ F₂ => by
    refine hs.go F₂ fun s₃ F₃ => ?_
    cases c with
    | true => rw [if_pos rfl]; exact (he rfl).go F₃ fun y s₄ F₄ => k1 rfl y _ F₄
    | false => rw [if_neg Bool.false_ne_true]; exact k2 rfl _ F₃) hk hx)⟩

theorem wpAny_noted_turn {α : Type} {M : Model} {A : Around} {env : Env} {m : Sem α} {Q : α → Shared → Prop} {E : Value → Shared → Prop} {s : Shared} (h : wpAny M A m Q (notedBy M A env E) s) : wpAny M A (m.onRaise fun x => do noteFrame x env; theTreesLotGoes x) Q E s := wpAny_noted h

theorem comp_loop {elt target iter : Expr} {ifs : List Expr} {scope : Scope} {it acc : Addr} {R : Result → Shared → Prop} {φ : Nat → Obj → Prop} {τp : TE} {μp : ME} {CM : Option LV → ME} {stk : ME} {Ms : Nat → ME} {c : Dat → Bool} {f : Dat → LV} {cx : Option LV}
    (I : It P A it (ds.map .d) φ τp μp) (hτ : ∀ p ∈ τp, p ∈ τ) (hμ : ∀ i, ∀ p ∈ μp, p ∈ Ms i) (hCM : ∃ k, ∀ cx, (CM cx ++ stk).length = k) (hz : ds.length ≤ 10000)
    (turn : ∀ i d, ds[i]? = some d → ∀ cx ψ X, ∃ cx', TURN P A env target ifs elt (.d d) ((CM cx ++ stk) ++ (acc, .list X) :: (it, .own ψ) :: Ms i) ((CM cx' ++ stk) ++ (acc, .list X) :: (it, .own ψ) :: Ms (i + 1)) (c d) (f d))
    (done : ∀ cx s', FS P.s₀ env.locals [] ((CM cx ++ stk) ++ (acc, .list ((ds.filter c).map f)) :: Ms ds.length) τ s' → R (.ok .next) s')
    (F : FS P.s₀ env.locals [] ((CM cx ++ stk) ++ (acc, .list []) :: (it, .own (φ 0)) :: Ms 0) τ s) :
    codeAny (model P.prog P.w) A (.compLoop (.ListComp elt [⟨target, iter, ifs, 0⟩] scope pos) 0 (.ref it) (.ref acc) env) R s := by
  obtain ⟨k, hk⟩ := hCM
  let In : Nat → Shared → Prop := fun n s => ∃ i, i ≤ ds.length ∧ n = ds.length - i ∧ ∃ cx, FS P.s₀ env.locals [] ((CM cx ++ stk) ++ (acc, .list (((ds.take i).filter c).map f)) :: (it, .own (φ i)) :: Ms i) τ s
  refine codeAny_loop rfl In (fun n s hI => ?_) ds.length ⟨0, Nat.zero_le _, by omega, cx, by simpa using F⟩
  obtain ⟨i, hi, hn, cx, F⟩ := hI
  show wpAny _ A ((compTurn (.ListComp elt [⟨target, iter, ifs, 0⟩] scope pos) 0 (.ref it) (.ref acc) env).onRaise (fun x => do noteFrame x env; theTreesLotGoes x)) _ _ s
  refine wpAny_noted_turn ?_
  rw [compTurn_list]
  refine wpAny_bind (wpAny_standAt (wpAny_bind ?_))
  have jA : ∀ cx X r, ((CM cx ++ stk) ++ (acc, AO.list X) :: r)[k]? = some (acc, .list X) := fun cx X r => by rw [List.getElem?_append_right (by rw [hk]; exact Nat.le_refl _), hk, Nat.sub_self]; rfl
  have jI : ∀ cx X ψ r, ((CM cx ++ stk) ++ (acc, AO.list X) :: (it, AO.own ψ) :: r)[k + 1]? = some (it, .own ψ) := fun cx X ψ r => by rw [List.getElem?_append_right (by rw [hk]; omega), hk, show k + 1 - k = 1 by omega]; rfl
  have sA : ∀ cx X r Y, ((CM cx ++ stk) ++ (acc, AO.list X) :: r).set k Y = (CM cx ++ stk) ++ Y :: r := fun cx X r Y => by rw [List.set_append_right _ _ (by rw [hk]; exact Nat.le_refl _), hk, Nat.sub_self]; rfl
  have sI : ∀ cx X ψ r Y, ((CM cx ++ stk) ++ (acc, AO.list X) :: (it, AO.own ψ) :: r).set (k + 1) Y = (CM cx ++ stk) ++ (acc, .list X) :: Y :: r := fun cx X ψ r Y => by rw [List.set_append_right _ _ (by rw [hk]; omega), hk, show k + 1 - k = 1 by omega]; rfl
  have eI : ∀ cx X ψ r, ((CM cx ++ stk) ++ (acc, AO.list X) :: (it, AO.own ψ) :: r).eraseIdx (k + 1) = (CM cx ++ stk) ++ (acc, .list X) :: r := fun cx X ψ r => by rw [List.eraseIdx_append_of_length_le (by rw [hk]; omega), hk, show k + 1 - k = 1 by omega]; rfl
  have hM : ∀ p ∈ μp, p ∈ (CM cx ++ stk) ++ (acc, AO.list (((ds.take i).filter c).map f)) :: (it, AO.own (φ i)) :: Ms i := fun p hp => List.mem_append.mpr (.inr (.tail _ (.tail _ (hμ i p hp))))
  by_cases hlt : i < ds.length
  · obtain ⟨d, hd⟩ : ∃ d, ds[i]? = some d := ⟨ds[i], by simp [hlt]⟩
    refine I.next (i := i) (lv := .d d) (by rw [List.getElem?_map, hd]; rfl) F hτ hM (jI _ _ _ _) fun v s₁ F₁ => ?_
    rw [sI] at F₁
    dsimp only
    refine wpAny_bind (I.go target v F₁ (jI _ _ _ _) fun F₁ => ?_)
    obtain ⟨cx', T⟩ := turn i d hd cx (φ (i + 1)) (((ds.take i).filter c).map f)
    have step : (ds.take (i + 1)).filter c = (ds.take i).filter c ++ if c d then [d] else [] := by
      rw [List.take_add_one, hd, List.filter_append]
      cases hp : c d <;> simp [hp]
    refine wpAny_bind (wpAny_mono (T.go (Q1 := fun y s₄ => wpAny (model P.prog P.w) A (call (.builtin "list.append") [.ref acc, y]) (fun _ s₅ => In (n - 1) s₅) (notedBy (model P.prog P.w) A env fun e s' => R (.error e) s') s₄) (Q2 := fun s₃ => In (n - 1) s₃) F₁ (.head _) ?_ ?_) (fun _ s₂ h₂ => wpAny_bind (wpAny_mono h₂ (fun ok s₃ h₃ => ?_) fun _ _ h => h)) fun _ _ h => h)
    · intro hc y s' F'
      refine a_append F' (jA _ _ _) (.head _) ?_ fun s₅ F₅ => ?_
      · have := List.length_filter_le c (ds.take i)
        have := List.length_take_le i ds
        simp; omega
      · rw [sA] at F₅
        refine ⟨i + 1, hlt, by omega, cx', ?_⟩
        rw [step, if_pos hc, List.map_append]
        exact F₅.sub (sub_tail (sub_tail sub_refl))
    · intro hc s' F'
      refine ⟨i + 1, hlt, by omega, cx', ?_⟩
      rw [step, hc, if_neg Bool.false_ne_true, List.append_nil]
      exact F'.sub (sub_tail sub_refl)
    · cases ok with
      | false => exact wpAny_pure ⟨rfl, n - 1, by omega, h₃⟩
      | true => exact wpAny_bind (wpAny_bind (wpAny_mono h₃ (fun y s₄ h₄ => wpAny_bind (wpAny_mono h₄ (fun _ s₅ h₅ => wpAny_pure (wpAny_pure ⟨rfl, n - 1, by omega, h₅⟩)) fun _ _ h => h)) fun _ _ h => h))
  · have hie : i = ds.length := by omega
    subst hie
    refine I.done F hτ hM (by rw [List.length_map]; exact jI _ _ _ _) fun s₁ F₁ => ?_
    rw [eI, List.take_length] at F₁
    exact wpAny_pure (done _ _ F₁)

/-- what a comprehension's frame lays over the caller's mutable objects -/
def stkOf (L : Addr) (oL : Obj) : ME := [(L, .raw oL)]

theorem comp_cps {elt target iter : Expr} {ifs : List Expr} {scope : Scope} {cl : List (Str × Addr)} {CM : Addr → Option LV → ME} {Ms : Nat → ME} {μp : ME} {c : Dat → Bool} {f : Dat → LV} {l₁ : LV} {use : Option (Value → Sem Unit)} {Q : Value → Shared → Prop} {bp : Pos}
    (hh : A.handled = none) (hs : ∀ x, foldedSetIterable iter env x = pure x) (hclos : closureFor scope env = pure cl) (hkind : scope.kind = .function) (hnames : ∀ x ∈ scope.names, x.2 = .local → scope.names.lookup x.1 = some .local)
    (h1 : EV P A env ρ M iter l₁ (Ms 0)) (hi : Itm P μp l₁ (ds.map .d)) (hμ : ∀ i, ∀ p ∈ μp, p ∈ Ms i) (hz : ds.length ≤ 10000)
    (hcell : ∀ L' M, cellME (L' + 1) scope.names M = CM L' none ++ M) (hCM : ∀ L', ∃ k, ∀ cx, (CM L' cx).length = k)
    (turn : ∀ i d, ds[i]? = some d → ∀ L' oL acc it cx ψ X, ∃ cx', TURN P A (compEnvC scope (cellsFrom (L' + 1) scope.names cl) L' env) target ifs elt (.d d) ((CM L' cx ++ [(env.locals, .raw oL)]) ++ (acc, .list X) :: (it, .own ψ) :: Ms i) ((CM L' cx' ++ [(env.locals, .raw oL)]) ++ (acc, .list X) :: (it, .own ψ) :: Ms (i + 1)) (c d) (f d))
    (F : FS P.s₀ env.locals ρ M τ s)
    (k : ∀ acc C y τ' s', (∀ p ∈ τ, p ∈ τ') → (∀ h : Heap, h.get? C = some y → ∃ m, h.Ns C m) → FS P.s₀ env.locals ρ ((C, .raw y) :: (acc, .list ((ds.filter c).map f)) :: Ms ds.length) τ' s' → compPost (model P.prog P.w) A E use Q (.ref acc) C (.ok .next) s') :
    wpAny (model P.prog P.w) A (comprehension (.ListComp elt [⟨target, iter, ifs, 0⟩] scope pos) scope env bp (newList []) false (eval iter env) use) Q E s := by
  refine wpAny_comprehension_free rfl hs hclos hkind hnames (h1.go F fun xv s₁ F₁ => hi A hh F₁ (.head _) (hμ 0) fun it φ τp s₂ I F₂ => ?_)
  refine d_listM (xs := []) F₂ .nil (by simp) fun acc s₃ F₃ => ?_
  refine inner_env (P := P) F₃ hkind fun L' oL τc s₄ bk F₄ => ?_
  have e : ∀ e' : Env, e' = newEnv scope L' env.globals (cellsFrom (L' + 1) scope.names cl) env.qual none .none (some env) builtinsNs → ({ e' with scope := relabel scope env } : Env) = compEnvC scope (cellsFrom (L' + 1) scope.names cl) L' env := fun e' h => by subst h; rfl
  rw [e _ rfl]
  rw [hcell] at F₄
  obtain ⟨k0, hk0⟩ := hCM L'
  have loop : ∀ {s₅}, FS P.s₀ L' [] ((CM L' none ++ [(env.locals, .raw oL)]) ++ (acc, .list []) :: (it, .own (φ 0)) :: Ms 0) (τc ++ (Value.ref acc, LV.r (.ref acc)) :: (τp ++ (xv, l₁) :: τ)) s₅ →
      codeAny (model P.prog P.w) A (.compLoop (.ListComp elt [⟨target, iter, ifs, 0⟩] scope pos) 0 (.ref it) (.ref acc) (compEnvC scope (cellsFrom (L' + 1) scope.names cl) L' env)) (compPost (model P.prog P.w) A E use Q (.ref acc) L') s₅ := fun {s₅} F₅ => by
    refine comp_loop (stk := [(env.locals, .raw oL)]) (CM := CM L') I (fun p hp => List.mem_append.mpr (.inr (.tail _ (List.mem_append.mpr (.inl hp))))) hμ ⟨k0 + 1, fun cx => by rw [List.length_append, hk0]; rfl⟩ hz (fun i d hd cx ψ X => turn i d hd L' oL acc it cx ψ X) (fun cx s' F' => ?_) F₅
    have F' : FS P.s₀ L' [] (CM L' cx ++ ((env.locals, .raw oL) :: (acc, .list ((ds.filter c).map f)) :: Ms ds.length)) (τc ++ (Value.ref acc, LV.r (.ref acc)) :: (τp ++ (xv, l₁) :: τ)) s' := by rw [List.append_assoc] at F'; exact F'
    have dropCM : ∀ (l : ME) {M τ s}, FS P.s₀ L' [] (l ++ M) τ s → FS P.s₀ L' [] M τ s := by
      intro l
      induction l with
      | nil => intro M τ s h; exact h
      | cons p l ih => intro M τ s h; exact ih (FS.drop (p := p) h)
    obtain ⟨oC, hC, G⟩ := bk (dropCM _ F') (fun p hp => List.mem_append.mpr (.inl hp))
    exact k acc L' oC _ s' (fun p hp => List.mem_append.mpr (.inr (.tail _ (List.mem_append.mpr (.inr (.tail _ hp)))))) hC G
  have F₅ : FS P.s₀ L' [] ((CM L' none ++ [(env.locals, .raw oL)]) ++ (acc, .list []) :: (it, .own (φ 0)) :: Ms 0) (τc ++ (Value.ref acc, LV.r (.ref acc)) :: (τp ++ (xv, l₁) :: τ)) s₄ := by simpa using F₄
  have jI : ((CM L' none ++ [(env.locals, .raw oL)]) ++ (acc, AO.list []) :: (it, AO.own (φ 0)) :: Ms 0)[k0 + 1 + 1]? = some (it, .own (φ 0)) := by
    rw [List.getElem?_append_right (by simp [hk0]), List.length_append, hk0]
    simp
  exact codeAny_compStart_list (loop F₅) (I.self F₅ (fun p hp => List.mem_append.mpr (.inr (.tail _ (List.mem_append.mpr (.inl hp))))) (fun p hp => List.mem_append.mpr (.inr (.tail _ (.tail _ (hμ 0 p hp))))) jI fun F₆ => loop F₆)

theorem FS.frozen {acc : Addr} {f : Dat → Dat} (F : FS s₀ L ρ ((acc, .list (ds.map fun d => .d (f d))) :: M) τ s) : FS s₀ L ρ M ((.ref acc, .d (.list (ds.map f))) :: τ) s := by
  refine FS.freeze ?_
  rw [List.map_map]; exact F

theorem EV.comp {elt target iter : Expr} {ifs : List Expr} {scope : Scope} {cl : List (Str × Addr)} {CM : Addr → Option LV → ME} {Ms : Nat → ME} {c : Dat → Bool} {f : Dat → Dat} {l₁ : LV}
    (hh : A.handled = none) (hclos : closureFor scope env = pure cl)
    (h1 : EV P A env ρ M iter l₁ (Ms 0)) (hi : Itb P l₁ (ds.map .d)) (hz : ds.length ≤ 10000)
    (hcell : ∀ L' M, cellME (L' + 1) scope.names M = CM L' none ++ M) (hCM : ∀ L', ∃ k, ∀ cx, (CM L' cx).length = k)
    (turn : ∀ i d, ds[i]? = some d → ∀ L' oL acc it cx ψ X, ∃ cx', TURN P A (compEnvC scope (cellsFrom (L' + 1) scope.names cl) L' env) target ifs elt (.d d) ((CM L' cx ++ [(env.locals, .raw oL)]) ++ (acc, .list X) :: (it, .own ψ) :: Ms i) ((CM L' cx' ++ [(env.locals, .raw oL)]) ++ (acc, .list X) :: (it, .own ψ) :: Ms (i + 1)) (c d) (.d (f d)))
    (hs : ∀ x, foldedSetIterable iter env x = pure x := by intro _; rfl) (hkind : scope.kind = .function := by rfl) (hnames : ∀ x ∈ scope.names, x.2 = .local → scope.names.lookup x.1 = some .local := by decide) :
    EV P A env ρ M (.ListComp elt [⟨target, iter, ifs, 0⟩] scope pos) (.d (.list ((ds.filter c).map f))) (Ms ds.length) := ⟨fun {τ s Q E} F k => by
  rw [eval_ListComp]
  refine comp_cps (f := fun d => .d (f d)) hh hs hclos hkind hnames h1 hi (fun _ _ h => nomatch h) hz hcell hCM turn F fun acc C y τ' s' hτ hC F' => ?_
  obtain ⟨V, O, m, g⟩ := id F'
  obtain ⟨o, _, e, hg, _⟩ := g.getM (j := 0) at_head
  have e : o = y := e
  subst e
  obtain ⟨m', hm⟩ := hC _ hg
  exact ⟨m', hm, fun h' hs' => k _ _ (((F'.dropC hs').frozen).sub (sub_head (.head _) (sub_tail hτ)))⟩⟩
/-- no cell of its own -/
theorem EV.comp0 {elt target iter : Expr} {ifs : List Expr} {scope : Scope} {cl : List (Str × Addr)} {Ms : Nat → ME} {c : Dat → Bool} {f : Dat → Dat} {l₁ : LV}
    (hh : A.handled = none) (hclos : closureFor scope env = pure cl)
    (h1 : EV P A env ρ M iter l₁ (Ms 0)) (hi : Itb P l₁ (ds.map .d)) (hz : ds.length ≤ 10000)
    (hcell : ∀ L' M, cellME (L' + 1) scope.names M = M)
    (turn : ∀ (i : Nat) (d : Dat), ds[i]? = some d → ∀ (L' : Addr) (oL : Obj) (acc it : Addr) (ψ : Obj → Prop) (X : List LV), TURN P A (compEnvC scope (cellsFrom (L' + 1) scope.names cl) L' env) target ifs elt (.d d) ((env.locals, .raw oL) :: (acc, .list X) :: (it, .own ψ) :: Ms i) ((env.locals, .raw oL) :: (acc, .list X) :: (it, .own ψ) :: Ms (i + 1)) (c d) (.d (f d)))
    (hs : ∀ x, foldedSetIterable iter env x = pure x := by intro _; rfl) (hkind : scope.kind = .function := by rfl) (hnames : ∀ x ∈ scope.names, x.2 = .local → scope.names.lookup x.1 = some .local := by decide) :
    EV P A env ρ M (.ListComp elt [⟨target, iter, ifs, 0⟩] scope pos) (.d (.list ((ds.filter c).map f))) (Ms ds.length) :=
  EV.comp (CM := fun _ _ => []) hh hclos h1 hi hz (fun L' M => hcell L' M) (fun _ => ⟨0, fun _ => rfl⟩) (fun i d hd L' oL acc it cx ψ X => ⟨none, turn i d hd L' oL acc it ψ X⟩) hs hkind hnames
/-- one cell of its own: the target -/
theorem EV.comp1 {elt target iter : Expr} {ifs : List Expr} {scope : Scope} {cl : List (Str × Addr)} {c : Dat → Bool} {f : Dat → Dat} {l₁ : LV}
    (hh : A.handled = none) (hclos : closureFor scope env = pure cl)
    (h1 : EV P A env ρ M iter l₁ M₁) (hi : Itb P l₁ (ds.map .d)) (hz : ds.length ≤ 10000)
    (hcell : ∀ L' M, cellME (L' + 1) scope.names M = (L' + 1, .cell none) :: M)
    (turn : ∀ (i : Nat) (d : Dat), ds[i]? = some d → ∀ (L' : Addr) (oL : Obj) (acc it : Addr) (o : Option LV) (ψ : Obj → Prop) (X : List LV), TURN P A (compEnvC scope (cellsFrom (L' + 1) scope.names cl) L' env) target ifs elt (.d d) ((L' + 1, .cell o) :: (env.locals, .raw oL) :: (acc, .list X) :: (it, .own ψ) :: M₁) ((L' + 1, .cell (some (.d d))) :: (env.locals, .raw oL) :: (acc, .list X) :: (it, .own ψ) :: M₁) (c d) (.d (f d)))
    (hs : ∀ x, foldedSetIterable iter env x = pure x := by intro _; rfl) (hkind : scope.kind = .function := by rfl) (hnames : ∀ x ∈ scope.names, x.2 = .local → scope.names.lookup x.1 = some .local := by decide) :
    EV P A env ρ M (.ListComp elt [⟨target, iter, ifs, 0⟩] scope pos) (.d (.list ((ds.filter c).map f))) M₁ :=
  EV.comp (Ms := fun _ => M₁) (CM := fun L' o => [(L' + 1, .cell o)]) hh hclos h1 hi hz (fun L' M => hcell L' M) (fun _ => ⟨1, fun _ => rfl⟩) (fun i d hd L' oL acc it cx ψ X => ⟨some (.d d), turn i d hd L' oL acc it cx ψ X⟩) hs hkind hnames
/-- the comprehension of a statement x = [...] -/
theorem S_asgL {elt target iter : Expr} {ifs : List Expr} {scope : Scope} {cl : List (Str × Addr)} {c : Dat → Bool} {f : Dat → LV} {l₁ : LV} {spos xp : Pos} {rest : List Stmt} {Q : Flow → Shared → Prop} {x : Str} {Ms : Nat → ME}
    (hh : A.handled = none) (F : FS P.s₀ env.locals ρ M τ s) (hclos : closureFor scope env = pure cl)
    (h1 : EV P A env ρ M iter l₁ (Ms 0)) (hi : Itb P l₁ (ds.map .d)) (hz : ds.length ≤ 10000)
    (hcell : ∀ L' M, cellME (L' + 1) scope.names M = M) (hx : env.kindOf x = some .local)
    (turn : ∀ (i : Nat) (d : Dat), ds[i]? = some d → ∀ (L' : Addr) (oL : Obj) (acc it : Addr) (ψ : Obj → Prop) (X : List LV), TURN P A (compEnvC scope (cellsFrom (L' + 1) scope.names cl) L' env) target ifs elt (.d d) ((env.locals, .raw oL) :: (acc, .list X) :: (it, .own ψ) :: Ms i) ((env.locals, .raw oL) :: (acc, .list X) :: (it, .own ψ) :: Ms (i + 1)) (c d) (f d))
    (k : ∀ acc τ' s', (∀ p ∈ τ, p ∈ τ') → FS P.s₀ env.locals ((x, .r (.ref acc)) :: ρ) ((acc, .list ((ds.filter c).map f)) :: Ms ds.length) τ' s' → wpAny (model P.prog P.w) A (execs rest env) Q E s')
    (hsw : swapsWith (.ListComp elt [⟨target, iter, ifs, 0⟩] scope pos) (some (.Name x xp)) spos.line env = pure true := by rfl)
    (hp : (env.scope.kind == .class || (env.scope.kind == .module && env.locals != env.globals)) = false := by rfl)
    (hs : ∀ x, foldedSetIterable iter env x = pure x := by intro _; rfl) (hkind : scope.kind = .function := by rfl) (hnames : ∀ x ∈ scope.names, x.2 = .local → scope.names.lookup x.1 = some .local := by decide) :
    wpAny (model P.prog P.w) A (execs (.Assign [.Name x xp] (.ListComp elt [⟨target, iter, ifs, 0⟩] scope pos) spos :: rest) env) Q E s := by
  refine wpAny_execs_cons ?_
  rw [exec_Assign_Name_used _ _ _ _ hsw]
  refine wpAny_bind (wpAny_standAt (wpAny_bind ?_))
  show wpAny _ A (do let _ ← comprehension (.ListComp elt [⟨target, iter, ifs, 0⟩] scope pos) scope env _ (newList []) false (eval iter env) (some (assign (.Name x xp) env))) _ _ s
  refine wpAny_bind (wpAny_mono (comp_cps (use := some (assign (.Name x xp) env)) (Q := fun _ s' => wpAny (model P.prog P.w) A (execs rest env) Q E s') (CM := fun _ _ => []) hh hs hclos hkind hnames h1 hi (fun _ _ h => nomatch h) hz (fun L' M => hcell L' M) (fun _ => ⟨0, fun _ => rfl⟩) (fun i d hd L' oL acc it cx ψ X => ⟨none, turn i d hd L' oL acc it ψ X⟩) F fun acc C y τ' s' hτ hC F' => ?_) (fun _ s' hq => wpAny_pure (wpAny_pure hq)) fun _ _ e => e)
  refine assign_Name (st_local (F'.tr (.ref acc)) (.head _) (fun s'' F'' => ?_) hx hp)
  obtain ⟨V, O, m, g⟩ := id F''
  obtain ⟨o, _, e, hg, _⟩ := g.getM (j := 0) at_head
  have e : o = y := e
  subst e
  obtain ⟨m', hm⟩ := hC _ hg
  exact ⟨m', hm, fun h' hs' => k acc _ _ (fun p hp => hτ p hp) ((F''.dropC hs').sub (sub_tail sub_refl))⟩
/-- a comprehension kept mutable, then anything -/
theorem compM {elt target iter : Expr} {ifs : List Expr} {scope : Scope} {cl : List (Str × Addr)} {μp : ME} {c : Dat → Bool} {f : Dat → LV} {l₁ : LV} {Ms : Nat → ME} {Q : Value → Shared → Prop}
    (hh : A.handled = none) (F : FS P.s₀ env.locals ρ M τ s) (hclos : closureFor scope env = pure cl)
    (h1 : EV P A env ρ M iter l₁ (Ms 0)) (hi : Itm P μp l₁ (ds.map .d)) (hμ : ∀ i, ∀ p ∈ μp, p ∈ Ms i) (hz : ds.length ≤ 10000)
    (hcell : ∀ L' M, cellME (L' + 1) scope.names M = M)
    (turn : ∀ (i : Nat) (d : Dat), ds[i]? = some d → ∀ (L' : Addr) (oL : Obj) (acc it : Addr) (ψ : Obj → Prop) (X : List LV), TURN P A (compEnvC scope (cellsFrom (L' + 1) scope.names cl) L' env) target ifs elt (.d d) ((env.locals, .raw oL) :: (acc, .list X) :: (it, .own ψ) :: Ms i) ((env.locals, .raw oL) :: (acc, .list X) :: (it, .own ψ) :: Ms (i + 1)) (c d) (f d))
    (k : ∀ acc τ' s', (∀ p ∈ τ, p ∈ τ') → FS P.s₀ env.locals ρ ((acc, .list ((ds.filter c).map f)) :: Ms ds.length) τ' s' → Q (.ref acc) s')
    (hs : ∀ x, foldedSetIterable iter env x = pure x := by intro _; rfl) (hkind : scope.kind = .function := by rfl) (hnames : ∀ x ∈ scope.names, x.2 = .local → scope.names.lookup x.1 = some .local := by decide) :
    wpAny (model P.prog P.w) A (eval (.ListComp elt [⟨target, iter, ifs, 0⟩] scope pos) env) Q E s := by
  rw [eval_ListComp]
  refine comp_cps (CM := fun _ _ => []) hh hs hclos hkind hnames h1 hi hμ hz (fun L' M => hcell L' M) (fun _ => ⟨0, fun _ => rfl⟩) (fun i d hd L' oL acc it cx ψ X => ⟨none, turn i d hd L' oL acc it ψ X⟩) F fun acc C y τ' s' hτ hC F' => ?_
  obtain ⟨V, O, m, g⟩ := id F'
  obtain ⟨o, _, e, hg, _⟩ := g.getM (j := 0) at_head
  have e : o = y := e
  subst e
  obtain ⟨m', hm⟩ := hC _ hg
  exact ⟨m', hm, fun h' hs' => k acc _ _ hτ (F'.dropC hs')⟩
end

section
variable {P : Setup} {A : Around} {E : Value → Shared → Prop} {s₀ s : Shared} {env : Env} {L : Addr} {ρ ρ' ρt : LE} {M M₁ M₂ M' : ME} {τ τ' : TE} {x y : Str} {pos xp : Pos} {lv : LV} {rest : List Stmt}
  {V O : Led} {m : Str → Option Value} {u v : Value} {a b : Int} {ds es : List Dat} {d d' : Dat} {e e₁ e₂ e₃ : Expr} {ls : List LV} {Q : Flow → Shared → Prop}

theorem S_asg (F : FS P.s₀ env.locals ρ M τ s) (h1 : EV P A env ρ M e lv M₁) (hx : env.kindOf x = some .local) (k : ∀ s', FS P.s₀ env.locals ((x, lv) :: ρ) M₁ τ s' → wpAny (model P.prog P.w) A (execs rest env) Q E s')
    (hs : swapsWith e (some (.Name x xp)) pos.line env = pure false := by rfl) (hp : (env.scope.kind == .class || (env.scope.kind == .module && env.locals != env.globals)) = false := by rfl) : wpAny (model P.prog P.w) A (execs (.Assign [.Name x xp] e pos :: rest) env) Q E s :=
  wpAny_execs_cons (wpAny_Assign_Name (h1.go F fun v s₁ F₁ => st_local F₁ (.head _) (fun s₂ F₂ => k _ (F₂.sub (sub_tail sub_refl))) hx hp) hs)
theorem S_asgC {c : Addr} {o : Option LV} {j : Nat} (F : FS P.s₀ env.locals ρ M τ s) (h1 : EV P A env ρ M e lv M₁) (hc : env.cells.lookup x = some c) (hm : M₁[j]? = some (c, .cell o)) (hx : env.kindOf x = some .cell) (k : ∀ s', FS P.s₀ env.locals ρ (M₁.set j (c, .cell (some lv))) τ s' → wpAny (model P.prog P.w) A (execs rest env) Q E s')
    (hk : env.scope.kind = .function := by rfl) (hs : swapsWith e (some (.Name x xp)) pos.line env = pure false := by rfl) : wpAny (model P.prog P.w) A (execs (.Assign [.Name x xp] e pos :: rest) env) Q E s :=
  wpAny_execs_cons (wpAny_Assign_Name (h1.go F fun v s₁ F₁ => st_cellI (P := P) F₁ hc hm (.head _) (fun s₂ F₂ => k _ (F₂.sub (sub_tail sub_refl))) hk hx) hs)
theorem S_exp (F : FS P.s₀ env.locals ρ M τ s) (h1 : EV P A env ρ M e lv M₁) (k : ∀ s', FS P.s₀ env.locals ρ M₁ τ s' → wpAny (model P.prog P.w) A (execs rest env) Q E s')
    (hi : interactive env = false := by rfl) (hs : swapsWith e none pos.line env = pure false := by rfl) : wpAny (model P.prog P.w) A (execs (.Expr e pos :: rest) env) Q E s :=
  wpAny_execs_cons (wpAny_Expr_any (h1.go F fun v s₁ F₁ => k _ (F₁.sub (sub_tail sub_refl))) hi hs)
theorem S_ret (F : FS P.s₀ env.locals ρ M τ s) (h1 : EV P A env ρ M e lv M₁) (k : ∀ v s', FS P.s₀ env.locals ρ M₁ ((v, lv) :: τ) s' → Q (.ret v) s') : wpAny (model P.prog P.w) A (execs (.Return (some e) pos :: rest) env) Q E s :=
  wpAny_execs_cons (wpAny_Return_some (h1.go F k))
theorem S_if {c : Bool} {body orelse : List Stmt} (F : FS P.s₀ env.locals ρ M τ s) (h1 : TV P A env ρ M e c M₁)
    (k1 : c = true → ∀ s', FS P.s₀ env.locals ρ M₁ τ s' → wpAny (model P.prog P.w) A (execs body env) (fun f s' => match f with | .next => wpAny (model P.prog P.w) A (execs rest env) Q E s' | f => Q f s') E s')
    (k2 : c = false → ∀ s', FS P.s₀ env.locals ρ M₁ τ s' → wpAny (model P.prog P.w) A (execs orelse env) (fun f s' => match f with | .next => wpAny (model P.prog P.w) A (execs rest env) Q E s' | f => Q f s') E s') : wpAny (model P.prog P.w) A (execs (.If e body orelse pos :: rest) env) Q E s :=
  wpAny_execs_cons (wpAny_If (h1.go F fun s₁ F₁ => by
    cases c with
    | true => exact k1 rfl _ F₁
    | false => exact k2 rfl _ F₁))
theorem S_nil (h : Q .next s) : wpAny (model P.prog P.w) A (execs [] env) Q E s := wpAny_execs_nil h
theorem S_cont (h : Q .cont s) : wpAny (model P.prog P.w) A (execs (.Continue pos :: rest) env) Q E s := wpAny_execs_cons (wpAny_Continue h)

/-- a for over data; the state at a turn is given by an element of X -/
theorem S_forG {X : Type} {R : Nat → X → Prop} {ρs : X → LE} {Ms : X → ME} {l₁ : LV} {target iter : Expr} {body : List Stmt} {ρt : Dat → X → LE} {Mt : Dat → X → ME} {x0 : X} (hh : A.handled = none)
    (F : FS P.s₀ env.locals (ρs x0) M τ s) (h1 : EV P A env (ρs x0) M iter l₁ (Ms x0)) (hi : Itb P l₁ (ds.map .d)) (h0 : R 0 x0)
    (ht : ∀ (i : Nat) (d : Dat) X0 p, ds[i]? = some d → R i X0 → ∀ {τ : TE} {s Q E v}, FS P.s₀ env.locals (ρs X0) (p :: Ms X0) τ s → (v, LV.d d) ∈ τ → (∀ s', FS P.s₀ env.locals (ρt d X0) (p :: Mt d X0) τ s' → Q () s') → wpAny (model P.prog P.w) A (assign target env v) Q E s)
    (turn : ∀ (i : Nat) (d : Dat) X0 it ψ τ' s (E' : Value → Shared → Prop), ds[i]? = some d → R i X0 → (∀ p ∈ τ, p ∈ τ') → FS P.s₀ env.locals (ρt d X0) ((it, .own ψ) :: Mt d X0) τ' s →
      wpAny (model P.prog P.w) A (execs body env) (fun f s' => match f with
        | .next => ∃ X1, R (i + 1) X1 ∧ FS P.s₀ env.locals (ρs X1) ((it, .own ψ) :: Ms X1) τ' s'
        | .cont => ∃ X1, R (i + 1) X1 ∧ FS P.s₀ env.locals (ρs X1) ((it, .own ψ) :: Ms X1) τ' s'
        | .brk => False
        | .ret v => Q (.ret v) s') E' s)
    (done : ∀ X1 s', R ds.length X1 → FS P.s₀ env.locals (ρs X1) (Ms X1) τ s' → wpAny (model P.prog P.w) A (execs rest env) Q E s')
    (hs : ∀ x, foldedSetIterable iter env x = pure x := by intro _; rfl) : wpAny (model P.prog P.w) A (execs (.For target iter body [] pos :: rest) env) Q E s := by
  refine wpAny_execs_cons (wpAny_For (h1.go F fun xv s₁ F₁ => hi A hh F₁ (.head _) (fun _ h => nomatch h) fun it φ τp s₂ I F₂ => ?_) hs)
  let τ₀ := τp ++ (xv, l₁) :: τ
  let In : Nat → Shared → Prop := fun n s => ∃ i X0, i ≤ ds.length ∧ n = ds.length - i ∧ R i X0 ∧ FS P.s₀ env.locals (ρs X0) ((it, .own (φ i)) :: Ms X0) τ₀ s
  have hτ : ∀ p ∈ τp, p ∈ τ₀ := fun p hp => List.mem_append.mpr (.inl hp)
  have hτ' : ∀ p ∈ τ, p ∈ τ₀ := fun p hp => List.mem_append.mpr (.inr (.tail _ hp))
  refine codeAny_forLoop_any In (fun n s hI => ?_) ds.length ⟨0, x0, Nat.zero_le _, by omega, h0, F₂⟩
  obtain ⟨i, X0, hi, hn, hR, F⟩ := hI
  by_cases hlt : i < ds.length
  · obtain ⟨d, hd⟩ : ∃ d, ds[i]? = some d := ⟨ds[i], by simp [hlt]⟩
    refine I.next (i := i) (lv := .d d) (by rw [List.getElem?_map, hd]; rfl) F hτ (fun _ h => nomatch h) at_head fun v s₁ F₁ => ?_
    dsimp only
    refine I.go target v F₁ at_head fun F₁ => ?_
    refine ht i d X0 _ hd hR F₁ (.head _) fun s₂ F₂ => ?_
    refine wpAny_mono (turn i d X0 it (φ (i + 1)) ((v, .d d) :: τ₀) s₂ _ hd hR (fun p hp => .tail _ (hτ' p hp)) F₂) (fun f s' h => ?_) fun _ _ e => e
    cases f with
    | next => obtain ⟨X1, h1, h2⟩ := h; exact ⟨n - 1, by omega, i + 1, X1, hlt, by omega, h1, h2.sub (sub_tail sub_refl)⟩
    | cont => obtain ⟨X1, h1, h2⟩ := h; exact ⟨n - 1, by omega, i + 1, X1, hlt, by omega, h1, h2.sub (sub_tail sub_refl)⟩
    | brk => exact h.elim
    | ret v => exact h
  · have hie : i = ds.length := by omega
    subst hie
    refine I.done F hτ (fun _ h => nomatch h) (by rw [List.length_map]; exact at_head) fun s₁ F₁ => ?_
    exact wpAny_execs_nil (done X0 _ hR (F₁.sub hτ'))
theorem S_for {X : Type} {R : Nat → X → Prop} {ρs : X → LE} {Ms : X → ME} {l₁ : LV} {target iter : Expr} {body : List Stmt} {ρt : Dat → LE} {x0 : X} (hh : A.handled = none)
    (F : FS P.s₀ env.locals (ρs x0) M τ s) (h1 : EV P A env (ρs x0) M iter l₁ (Ms x0)) (hi : Itb P l₁ (ds.map .d)) (h0 : R 0 x0)
    (ht : ∀ (i : Nat) (d : Dat), ds[i]? = some d → TG P A env target (.d d) (ρt d))
    (turn : ∀ (i : Nat) (d : Dat) X0 it ψ τ' s (E' : Value → Shared → Prop), ds[i]? = some d → R i X0 → (∀ p ∈ τ, p ∈ τ') → FS P.s₀ env.locals (ρt d ++ ρs X0) ((it, .own ψ) :: Ms X0) τ' s →
      wpAny (model P.prog P.w) A (execs body env) (fun f s' => match f with
        | .next => ∃ X1, R (i + 1) X1 ∧ FS P.s₀ env.locals (ρs X1) ((it, .own ψ) :: Ms X1) τ' s'
        | .cont => ∃ X1, R (i + 1) X1 ∧ FS P.s₀ env.locals (ρs X1) ((it, .own ψ) :: Ms X1) τ' s'
        | .brk => False
        | .ret v => Q (.ret v) s') E' s)
    (done : ∀ X1 s', R ds.length X1 → FS P.s₀ env.locals (ρs X1) (Ms X1) τ s' → wpAny (model P.prog P.w) A (execs rest env) Q E s')
    (hs : ∀ x, foldedSetIterable iter env x = pure x := by intro _; rfl) : wpAny (model P.prog P.w) A (execs (.For target iter body [] pos :: rest) env) Q E s :=
  S_forG (ρt := fun d X0 => ρt d ++ ρs X0) (Mt := fun _ X0 => Ms X0) hh F h1 hi h0 (fun i d X0 p hd _ => fun F hv k => (ht i d hd).go F hv k) turn done hs

/- stores to attributes and items; unpacking -/
theorem S_attr {a C dx : Addr} {j j' : Nat} {fs : LE} {ap : Pos} (F : FS P.s₀ env.locals ρ M τ s) (h1 : EV P A env ρ M e lv M₁) (h2 : EV P A env ρ M₁ e₁ (.r (.ref a)) M₂) (m1 : M₂[j]? = some (a, .inst C dx)) (m2 : M₂[j']? = some (dx, .dict fs))
    (h3 : findIn P.K (.ref C) "__setattr__" = some (some (.builtin "object.__setattr__"))) (h4 : plainOver P.K C = true) (h5 : takerIn P.K C x = some none) (h6 : hasDictIn P.K C = true) (hz : fs.length ≤ 900)
    (k : ∀ s', FS P.s₀ env.locals ρ (M₂.set j' (dx, .dict (setF x lv fs))) τ s' → wpAny (model P.prog P.w) A (execs rest env) Q E s')
    (hs : swapsWith e (some (.Attribute e₁ x ap)) pos.line env = pure false := by rfl) : wpAny (model P.prog P.w) A (execs (.Assign [.Attribute e₁ x ap] e pos :: rest) env) Q E s :=
  wpAny_execs_cons (plainObj_wpAny_Assign_Attribute (h1.go F fun v s₁ F₁ => h2.go F₁ fun ov s₂ F₂ => by
    obtain rfl := F₂.rval (.head _)
    exact s_attr P.B F₂ m1 m2 (.tail _ (.head _)) h3 h4 h5 h6 hz fun s' F' => k _ (F'.sub (sub_tail (sub_tail sub_refl)))) hs)
theorem S_item {a : Addr} {j i : Nat} {xs : List LV} {n : Int} {ip : Pos} (F : FS P.s₀ env.locals ρ M τ s) (h1 : EV P A env ρ M e lv M₁) (h2 : EV P A env ρ M₁ e₁ (.r (.ref a)) M₁) (h3 : EV P A env ρ M₁ e₂ (.d (.int n)) M₁) (m1 : M₁[j]? = some (a, .list xs)) (hn : n = i) (hi : i < xs.length) (hz : xs.length ≤ 10000)
    (k : ∀ s', FS P.s₀ env.locals ρ (M₁.set j (a, .list (xs.set i lv))) τ s' → wpAny (model P.prog P.w) A (execs rest env) Q E s')
    (hs : swapsWith e (some (.Subscript e₁ e₂ ip)) pos.line env = pure false := by rfl) : wpAny (model P.prog P.w) A (execs (.Assign [.Subscript e₁ e₂ ip] e pos :: rest) env) Q E s :=
  wpAny_execs_cons (wpAny_Assign_Subscript (h1.go F fun v s₁ F₁ => h2.go F₁ fun ov s₂ F₂ => h3.go F₂ fun iv s₃ F₃ => by
    obtain rfl := F₃.rval (.tail _ (.head _))
    subst hn
    exact s_mlist F₃ m1 (.head _) (.tail _ (.tail _ (.head _))) (by omega) (by omega) (by omega) fun s' F' => k _ ((by simpa using F' : FS P.s₀ env.locals ρ (M₁.set j (a, .list (xs.set i lv))) _ s').sub (sub_tail (sub_tail (sub_tail sub_refl))))) hs)
/-- targets in order -/
structure AO' (P : Setup) (A : Around) (env : Env) (ρ : LE) (M : ME) (ts : List (Value → Sem Unit)) (ls : List LV) (ρ' : LE) (M' : ME) : Prop where
  go : ∀ {τ : TE} {s Q E vs}, FS P.s₀ env.locals ρ M τ s → TL τ vs ls → (∀ s', FS P.s₀ env.locals ρ' M' τ s' → Q () s') → wpAny (model P.prog P.w) A (assignInOrder ts vs) Q E s
theorem AO'.nil : AO' P A env ρ M [] [] ρ M := ⟨fun F t k => by cases t; exact wpAny_assignInOrder_none (k _ F)⟩
theorem AO'.loc {ts : List (Value → Sem Unit)} (hx : env.kindOf x = some .local) (h : AO' P A env ((x, lv) :: ρ) M ts ls ρ' M') (hp : (env.scope.kind == .class || (env.scope.kind == .module && env.locals != env.globals)) = false := by rfl) : AO' P A env ρ M (assign (.Name x xp) env :: ts) (lv :: ls) ρ' M' := ⟨fun F t k => by
  cases t with | cons t1 t2 => exact wpAny_assignInOrder_more (assign_Name (st_local F t1 (fun s' F' => h.go F' t2 k) hx hp))⟩
theorem AO'.cell {ts : List (Value → Sem Unit)} {c : Addr} {o : Option LV} {j : Nat} (hc : env.cells.lookup x = some c) (hm : M[j]? = some (c, .cell o)) (hx : env.kindOf x = some .cell) (h : AO' P A env ρ (M.set j (c, .cell (some lv))) ts ls ρ' M') (hk : env.scope.kind = .function := by rfl) : AO' P A env ρ M (assign (.Name x xp) env :: ts) (lv :: ls) ρ' M' := ⟨fun F t k => by
  cases t with | cons t1 t2 => exact wpAny_assignInOrder_more (assign_Name (st_cellI (P := P) F hc hm t1 (fun s' F' => h.go F' t2 k) hk hx))⟩
theorem AO'.bind {ts : List (Value → Sem Unit)} (hx : env.kindOf x = some .local) (h : AO' P A env ((x, lv) :: ρ) M ts ls ρ' M') (hp : (env.scope.kind == .class || (env.scope.kind == .module && env.locals != env.globals)) = false := by rfl) : AO' P A env ρ M (bindName env x :: ts) (lv :: ls) ρ' M' := ⟨fun F t k => by
  cases t with | cons t1 t2 => exact wpAny_assignInOrder_more (bindName_ (st_local F t1 (fun s' F' => h.go F' t2 k) hx hp))⟩
theorem tl_zip {τ : TE} {ls : List LV} : ∀ {vs : List Value}, vs.length = ls.length → TL (vs.zip ls ++ τ) vs ls := by
  induction ls generalizing τ with
  | nil => intro vs h; cases vs with
    | nil => exact .nil
    | cons _ _ => cases h
  | cons l ls ih => intro vs h; cases vs with
    | nil => cases h
    | cons v vs =>
      rw [List.zip_cons_cons, List.cons_append]
      exact .cons (.head _) ((ih (τ := τ) (by simpa using h)).sub (sub_tail sub_refl))
theorem sub_app {α : Type} {l l' : List α} : ∀ p ∈ l, p ∈ l' ++ l := fun p hp => List.mem_append.mpr (.inr hp)
theorem S_unp {elts : List Expr} {kk : Nat} {tp : Pos} (hh : A.handled = none) (F : FS P.s₀ env.locals ρ M τ s) (h1 : EV P A env ρ M e (.d (.tuple ds)) M₁) (hn : (assignEach elts env).length = ds.length) (hst : (assignEach elts env).findIdx? (·.1) = none)
    (h2 : AO' P A env ρ M₁ ((assignEach elts env).map (·.2)) (ds.map .d) ρ' M') (k : ∀ s', FS P.s₀ env.locals ρ' M' τ s' → wpAny (model P.prog P.w) A (execs rest env) Q E s')
    (hs : swapsWithSole [.Tuple elts kk tp] e pos.line env = pure false := by rfl) (hw : swappedStores [.Tuple elts kk tp] e env = pure none := by rfl) : wpAny (model P.prog P.w) A (execs (.Assign [.Tuple elts kk tp] e pos :: rest) env) Q E s :=
  wpAny_execs_cons (Assign_Tuple (h1.go F fun v s₁ F₁ => u_tuple hh F₁ (.head _) hn hst fun vs s₂ hl F₂ => h2.go F₂ (tl_zip (by simpa using hl)) fun s₃ F₃ => k _ (F₃.sub (fun p hp => sub_app p (.tail _ hp)))) hs hw)
theorem S_unpM {elts : List Expr} {kk : Nat} {tp : Pos} {a : Addr} {j : Nat} {xs : List LV} (hh : A.handled = none) (F : FS P.s₀ env.locals ρ M τ s) (h1 : EV P A env ρ M e (.r (.ref a)) M₁) (m1 : M₁[j]? = some (a, .list xs)) (hn : (assignEach elts env).length = xs.length) (hst : (assignEach elts env).findIdx? (·.1) = none)
    (h2 : AO' P A env ρ M₁ ((assignEach elts env).map (·.2)) xs ρ' M') (k : ∀ s', FS P.s₀ env.locals ρ' M' τ s' → wpAny (model P.prog P.w) A (execs rest env) Q E s')
    (hs : swapsWithSole [.Tuple elts kk tp] e pos.line env = pure false := by rfl) (hw : swappedStores [.Tuple elts kk tp] e env = pure none := by rfl) : wpAny (model P.prog P.w) A (execs (.Assign [.Tuple elts kk tp] e pos :: rest) env) Q E s :=
  wpAny_execs_cons (Assign_Tuple (h1.go F fun v s₁ F₁ => by
    obtain rfl := F₁.rval (.head _)
    exact u_mlist hh F₁ m1 hn hst fun vs s₂ hl F₂ => h2.go F₂ (tl_zip hl) fun s₃ F₃ => k _ (F₃.sub (fun p hp => sub_app p (.tail _ hp)))) hs hw)
theorem TL.app {τ : TE} {vs ws : List Value} {ls ms : List LV} (h : TL τ vs ls) (h' : TL τ ws ms) : TL τ (vs ++ ws) (ls ++ ms) := by
  induction h with
  | nil => exact h'
  | cons a _ ih => exact .cons a ih
theorem TL.rev {τ : TE} {vs : List Value} {ls : List LV} (h : TL τ vs ls) : TL τ vs.reverse ls.reverse := by
  induction h with
  | nil => exact .nil
  | cons a _ ih => rw [List.reverse_cons, List.reverse_cons]; exact ih.app (.cons a .nil)
theorem zip_in {V : Led} : ∀ {vs : List Value} {ds : List Dat}, DatAll V vs ds → ∀ p ∈ vs.zip (ds.map LV.d), LVIn V p.1 p.2 := by
  intro vs
  induction vs with
  | nil => intro ds _ p hp; simp at hp
  | cons v vs ih =>
    intro ds q p hp
    cases q with
    | cons a b =>
      simp only [List.map_cons, List.zip_cons_cons] at hp
      rcases List.mem_cons.mp hp with rfl | hp
      · exact a
      · exact ih b p hp
/-- a display of data unpacked with the stores turned -/
theorem S_swp {elts : List Expr} {kk : Nat} {tp : Pos} {names : List Str} (hh : A.handled = none) (F : FS P.s₀ env.locals ρ M τ s) (h1 : EV P A env ρ M e (.d (.tuple ds)) M₁) (hn : names.length = ds.length)
    (h2 : AO' P A env ρ M₁ (names.reverse.map fun n => bindName env n) (ds.map .d).reverse ρ' M') (k : ∀ s', FS P.s₀ env.locals ρ' M' τ s' → wpAny (model P.prog P.w) A (execs rest env) Q E s')
    (hs : swapsWithSole [.Tuple elts kk tp] e pos.line env = pure false := by rfl) (hw : swappedStores [.Tuple elts kk tp] e env = pure (some names) := by rfl) : wpAny (model P.prog P.w) A (execs (.Assign [.Tuple elts kk tp] e pos :: rest) env) Q E s :=
  wpAny_execs_cons (Assign_Tuple_swapped (names := names) (h1.go F fun v s₁ F₁ => by
    obtain ⟨V, O, m, f⟩ := F₁
    obtain ⟨x, vs, n, rfl, hm, hg, q⟩ := f.tup (.head _)
    have hl := q.length
    have e : names.length = vs.toArray.size := by rw [List.size_toArray, hl, hn]
    rw [e]
    refine unpackItems_tuple hh ⟨_, hg, rfl, n, rfl⟩ fun h' hk => ?_
    have g := f.ext hk
    have t : TL (vs.zip (ds.map .d) ++ τ) vs (ds.map .d) := tl_zip (by simpa using hl)
    have F' : FS P.s₀ env.locals ρ M₁ (vs.zip (ds.map .d) ++ τ) { s₁ with heap := h' } := ⟨V, O, m, g.fr, g.nv, g.om, g.nd, g.dj, g.loc, fun p hp => by
      rcases List.mem_append.mp hp with hp | hp
      · exact zip_in q p hp
      · exact g.tmp p (.tail _ hp), g.same⟩
    exact h2.go F' t.rev fun s₃ F₃ => k _ (F₃.sub sub_app)) hs hw)
end

theorem Ok.deeper {A : Around} {k : Nat} (h : Ok A (k + 1)) (e : Env) : Ok (A.deeper e) k := by
  obtain ⟨h1, h2, h3⟩ := h
  refine ⟨h1, ?_, ?_⟩
  · simp only [depth_deeper]; omega
  · simp only [units_deeper]; omega
theorem Ok.room {A : Around} {k : Nat} (h : Ok A k) : A.depth < recursionLimit := by
  have := h.2.1
  unfold recursionLimit; omega
theorem Ok.hh {A : Around} {k : Nat} (h : Ok A k) : A.handled = none := h.1
theorem Ok.uu {A : Around} {k : Nat} (h : Ok A k) : A.units ≤ 9000 := by have := h.2.2; omega
theorem Ok.le {A : Around} {k j : Nat} (h : Ok A k) (hj : j ≤ k) : Ok A j := ⟨h.1, by have := h.2.1; omega, by have := h.2.2; omega⟩
theorem at_pre {α : Type} {p : α} {q l : List α} {j : Nat} (h : l[j]? = some p) : (q ++ l)[q.length + j]? = some p := by
  rw [List.getElem?_append_right (by omega), Nat.add_sub_cancel_left]; exact h
theorem at_capp {α : Type} {p x : α} {q l : List α} {j : Nat} (h : (q ++ l)[j]? = some p) : ((x :: q) ++ l)[j + 1]? = some p := h
theorem at_capp0 {α : Type} {p : α} {q l : List α} : ((p :: q) ++ l)[0]? = some p := rfl
theorem set_pre {α : Type} {p : α} {q l : List α} {j : Nat} : (q ++ l).set (q.length + j) p = q ++ l.set j p := by
  rw [List.set_append_right _ _ (by omega), Nat.add_sub_cancel_left]
theorem FS.mcast {s₀ s : Shared} {L : Addr} {ρ : LE} {M M' : ME} {τ : TE} (F : FS s₀ L ρ M τ s) (h : M = M') : FS s₀ L ρ M' τ s := h ▸ F
theorem FS.nn {s₀ s : Shared} {L : Addr} {ρ : LE} {M : ME} {τ : TE} (F : FS s₀ L ρ M τ s) : FS s₀ L ρ M ((.none, .d .none) :: τ) s := by
  obtain ⟨V, O, m, f⟩ := F
  exact ⟨V, O, m, f.tempd .none⟩
def retOf : Flow → Value
  | .ret v => v
  | _ => .none
section
variable {P : Setup} {A : Around} {M M' : ME} {lv l1 l2 l3 l4 : LV} {p1 p2 p3 p4 : Str} {ρ' : LE}
  {name qual : Str} {params : Arguments} {body : List Stmt} {scope : Scope} {dV kV doc pm cdv ct oc : Value} {an od : Option Addr} {osl : Array (Option Value)} {f : Addr} {cl : Addr → ME} {kk : Nat}
/-- what a body must do -/
def BD (P : Setup) (A : Around) (ρ' : LE) (cl : Addr → ME) (M : ME) (body : List Stmt) (qual : Str) (scope : Scope) (f : Addr) (cdv : Value) (lv : LV) (M' : ME) : Prop :=
  ∀ (L L' : Addr) (oL : Obj) (τ : TE) (s : Shared) (Q : Value → Shared → Prop), FS P.s₀ L' ρ' (cl L' ++ (L, .raw oL) :: M) τ s → (∀ v s' ρx, FS P.s₀ L' ρx ((L, .raw oL) :: M') ((v, lv) :: τ) s' → Q v s') →
    wpAny (model P.prog P.w) (A.deeper (envOfC qual scope L' f cdv)) (execs body (envOfC qual scope L' f cdv)) (fun fl s' => Q (retOf fl) s') (fun _ _ => False) s
theorem bd_call {vals : List Value} {binds : List (Str × Value)} {L : Addr} {ρ : LE} {τ : TE} {s : Shared} {Q E : Value → Shared → Prop} (hA : Ok A (kk + 1)) (F : FS P.s₀ L ρ M τ s) (ho : P.K.lookup f = some ⟨oc, od, .func (fnOf name qual params body scope dV kV doc pm an cdv ct), osl⟩) (hcd : codeIn P.K cdv qual = true)
    (hbind : bindArgs (fnOf name qual params body scope dV kV doc pm an cdv ct) ⟨vals, []⟩ = pure binds)
    (hkind : (binds.all fun y => scope.names.lookup y.1 == some .local || scope.names.lookup y.1 == some .cell) = true) (hnd : ((cellsFrom 0 scope.names []).map (·.1)).Nodup)
    (hρ : LocOk τ (bindL (fun y => scope.names.lookup y) binds fun _ => none) ρ') (hc : ∀ L', CellsOf τ (bindC (fun y => scope.names.lookup y) binds fun _ => none) (cellsFrom (L' + 1) scope.names []) (cl L'))
    (h : BD P A ρ' cl M body qual scope f cdv lv M') (k : ∀ v s', FS P.s₀ L ρ M' ((v, lv) :: τ) s' → Q v s')
    (hco : scope.isCoroutine = false := by rfl) (hgen : scope.isGenerator = false := by rfl) (hk : scope.kind = .function := by rfl) : wpAny (model P.prog P.w) A (call (.ref f) vals) Q E s :=
  call_fn P.B F ho hcd hA.room hbind hkind hnd hρ hc (fun L' oL τc s₁ bk F₁ => h L L' oL _ s₁ Q F₁ fun v s' ρx F' => k v s' ((bk _ _ _ _ _ F' fun p hp => .tail _ (List.mem_append.mpr (.inl hp))).sub (sub_head (.head _) fun p hp => .tail _ (List.mem_append.mpr (.inr hp))))) hco hgen hk
theorem CL.fn1 (hA : Ok A (kk + 1)) (ho : P.K.lookup f = some ⟨oc, od, .func (fnOf name qual params body scope dV kV doc pm an cdv ct), osl⟩) (hcd : codeIn P.K cdv qual = true)
    (hbind : ∀ v1, bindArgs (fnOf name qual params body scope dV kV doc pm an cdv ct) ⟨[v1], []⟩ = pure [(p1, v1)])
    (hkind : ([p1].all fun y => scope.names.lookup y == some .local || scope.names.lookup y == some .cell) = true) (hnd : ((cellsFrom 0 scope.names []).map (·.1)).Nodup)
    (hρ : ∀ {τ : TE} {v1}, (v1, l1) ∈ τ → LocOk τ (bindL (fun y => scope.names.lookup y) [(p1, v1)] fun _ => none) ρ')
    (hc : ∀ {τ : TE} {v1} L', (v1, l1) ∈ τ → CellsOf τ (bindC (fun y => scope.names.lookup y) [(p1, v1)] fun _ => none) (cellsFrom (L' + 1) scope.names []) (cl L'))
    (h : BD P A ρ' cl M body qual scope f cdv lv M')
    (hco : scope.isCoroutine = false := by rfl) (hgen : scope.isGenerator = false := by rfl) (hk : scope.kind = .function := by rfl) : CL P A M (.ref f) [l1] lv M' := ⟨fun F t k => by
  cases t with | cons t1 t2 =>
  cases t2
  exact bd_call hA F ho hcd (hbind _) (by simpa using hkind) hnd (hρ t1) (fun L' => hc L' t1) h k hco hgen hk⟩
theorem CL.fn2 (hA : Ok A (kk + 1)) (ho : P.K.lookup f = some ⟨oc, od, .func (fnOf name qual params body scope dV kV doc pm an cdv ct), osl⟩) (hcd : codeIn P.K cdv qual = true)
    (hbind : ∀ v1 v2, bindArgs (fnOf name qual params body scope dV kV doc pm an cdv ct) ⟨[v1, v2], []⟩ = pure [(p1, v1), (p2, v2)])
    (hkind : ([p1, p2].all fun y => scope.names.lookup y == some .local || scope.names.lookup y == some .cell) = true) (hnd : ((cellsFrom 0 scope.names []).map (·.1)).Nodup)
    (hρ : ∀ {τ : TE} {v1 v2}, (v1, l1) ∈ τ → (v2, l2) ∈ τ → LocOk τ (bindL (fun y => scope.names.lookup y) [(p1, v1), (p2, v2)] fun _ => none) ρ')
    (hc : ∀ {τ : TE} {v1 v2} L', (v1, l1) ∈ τ → (v2, l2) ∈ τ → CellsOf τ (bindC (fun y => scope.names.lookup y) [(p1, v1), (p2, v2)] fun _ => none) (cellsFrom (L' + 1) scope.names []) (cl L'))
    (h : BD P A ρ' cl M body qual scope f cdv lv M')
    (hco : scope.isCoroutine = false := by rfl) (hgen : scope.isGenerator = false := by rfl) (hk : scope.kind = .function := by rfl) : CL P A M (.ref f) [l1, l2] lv M' := ⟨fun F t k => by
  cases t with | cons t1 t2 =>
  cases t2 with | cons t2 t3 =>
  cases t3
  exact bd_call hA F ho hcd (hbind _ _) (by simpa using hkind) hnd (hρ t1 t2) (fun L' => hc L' t1 t2) h k hco hgen hk⟩
theorem CL.fn3 (hA : Ok A (kk + 1)) (ho : P.K.lookup f = some ⟨oc, od, .func (fnOf name qual params body scope dV kV doc pm an cdv ct), osl⟩) (hcd : codeIn P.K cdv qual = true)
    (hbind : ∀ v1 v2 v3, bindArgs (fnOf name qual params body scope dV kV doc pm an cdv ct) ⟨[v1, v2, v3], []⟩ = pure [(p1, v1), (p2, v2), (p3, v3)])
    (hkind : ([p1, p2, p3].all fun y => scope.names.lookup y == some .local || scope.names.lookup y == some .cell) = true) (hnd : ((cellsFrom 0 scope.names []).map (·.1)).Nodup)
    (hρ : ∀ {τ : TE} {v1 v2 v3}, (v1, l1) ∈ τ → (v2, l2) ∈ τ → (v3, l3) ∈ τ → LocOk τ (bindL (fun y => scope.names.lookup y) [(p1, v1), (p2, v2), (p3, v3)] fun _ => none) ρ')
    (hc : ∀ {τ : TE} {v1 v2 v3} L', (v1, l1) ∈ τ → (v2, l2) ∈ τ → (v3, l3) ∈ τ → CellsOf τ (bindC (fun y => scope.names.lookup y) [(p1, v1), (p2, v2), (p3, v3)] fun _ => none) (cellsFrom (L' + 1) scope.names []) (cl L'))
    (h : BD P A ρ' cl M body qual scope f cdv lv M')
    (hco : scope.isCoroutine = false := by rfl) (hgen : scope.isGenerator = false := by rfl) (hk : scope.kind = .function := by rfl) : CL P A M (.ref f) [l1, l2, l3] lv M' := ⟨fun F t k => by
  cases t with | cons t1 t2 =>
  cases t2 with | cons t2 t3 =>
  cases t3 with | cons t3 t4 =>
  cases t4
  exact bd_call hA F ho hcd (hbind _ _ _) (by simpa using hkind) hnd (hρ t1 t2 t3) (fun L' => hc L' t1 t2 t3) h k hco hgen hk⟩
theorem CL.fn4 (hA : Ok A (kk + 1)) (ho : P.K.lookup f = some ⟨oc, od, .func (fnOf name qual params body scope dV kV doc pm an cdv ct), osl⟩) (hcd : codeIn P.K cdv qual = true)
    (hbind : ∀ v1 v2 v3 v4, bindArgs (fnOf name qual params body scope dV kV doc pm an cdv ct) ⟨[v1, v2, v3, v4], []⟩ = pure [(p1, v1), (p2, v2), (p3, v3), (p4, v4)])
    (hkind : ([p1, p2, p3, p4].all fun y => scope.names.lookup y == some .local || scope.names.lookup y == some .cell) = true) (hnd : ((cellsFrom 0 scope.names []).map (·.1)).Nodup)
    (hρ : ∀ {τ : TE} {v1 v2 v3 v4}, (v1, l1) ∈ τ → (v2, l2) ∈ τ → (v3, l3) ∈ τ → (v4, l4) ∈ τ → LocOk τ (bindL (fun y => scope.names.lookup y) [(p1, v1), (p2, v2), (p3, v3), (p4, v4)] fun _ => none) ρ')
    (hc : ∀ {τ : TE} {v1 v2 v3 v4} L', (v1, l1) ∈ τ → (v2, l2) ∈ τ → (v3, l3) ∈ τ → (v4, l4) ∈ τ → CellsOf τ (bindC (fun y => scope.names.lookup y) [(p1, v1), (p2, v2), (p3, v3), (p4, v4)] fun _ => none) (cellsFrom (L' + 1) scope.names []) (cl L'))
    (h : BD P A ρ' cl M body qual scope f cdv lv M')
    (hco : scope.isCoroutine = false := by rfl) (hgen : scope.isGenerator = false := by rfl) (hk : scope.kind = .function := by rfl) : CL P A M (.ref f) [l1, l2, l3, l4] lv M' := ⟨fun F t k => by
  cases t with | cons t1 t2 =>
  cases t2 with | cons t2 t3 =>
  cases t3 with | cons t3 t4 =>
  cases t4 with | cons t4 t5 =>
  cases t5
  exact bd_call hA F ho hcd (hbind _ _ _ _) (by simpa using hkind) hnd (hρ t1 t2 t3 t4) (fun L' => hc L' t1 t2 t3 t4) h k hco hgen hk⟩
end

theorem Ok.in1 {A : Around} {k : Nat} (h : Ok A (k + 1)) : Ok A.in1 k := by
  obtain ⟨h1, h2, h3⟩ := h
  refine ⟨h1, ?_, ?_⟩
  · simp only [Around.in1_depth]; omega
  · simp only [Around.in1_units]; omega
theorem Ok.make {A : Around} {k : Nat} {C : Addr} {vals : List Value} (h : Ok A (k + 1)) : Ok (A.under (.builtin "type.__call__" ⟨.ref C :: vals, []⟩)) k := by
  obtain ⟨h1, h2, h3⟩ := h
  refine ⟨h1, ?_, ?_⟩
  · rw [depth_under_make]; omega
  · rw [units_under_make]; omega
section
variable {P : Setup} {A : Around} {E : Value → Shared → Prop} {s₀ s : Shared} {env : Env} {L : Addr} {ρ ρ' : LE} {M M₁ M₂ M' : ME} {τ τ' : TE} {V O : Led} {m : Str → Option Value}
theorem FX.two (f : FX s₀ L ρ M τ V O m s) {h' : Heap} {x dx C : Addr} (F' : Fr s₀.heap L h' m) (N' : News s₀.heap L h' ((x, instObj C dx) :: (dx, emptyDict) :: (O ++ V))) (l1 : ∀ p ∈ O ++ V, p.1 < dx) (l2 : dx < x) :
    FX s₀ L ρ ((x, .inst C dx) :: (dx, .dict []) :: M) τ V ((x, instObj C dx) :: (dx, emptyDict) :: O) m { s with heap := h' } := by
  refine ⟨F', N', .cons rfl (.cons ⟨[], 0, rfl, .nil⟩ f.om), ?_, fun p hp hm => ?_, f.loc, f.tmp, let ⟨_, tk, e⟩ := f.same; ⟨h', tk, by rw [e]⟩⟩
  · rw [List.map_cons, List.map_cons, List.nodup_cons, List.nodup_cons]
    refine ⟨fun hm => ?_, fun hm => ?_, f.nd⟩
    · rcases List.mem_cons.mp hm with e | hm
      · exact absurd l2 (by rw [show x = dx from e]; exact Nat.lt_irrefl _)
      · obtain ⟨q, hq, e⟩ := List.mem_map.mp hm
        have := l1 q (List.mem_append.mpr (.inl hq))
        exact absurd (Nat.lt_trans this l2) (by rw [show q.1 = x from e]; exact Nat.lt_irrefl _)
    · obtain ⟨q, hq, e⟩ := List.mem_map.mp hm
      have := l1 q (List.mem_append.mpr (.inl hq))
      exact absurd this (by rw [show q.1 = dx from e]; exact Nat.lt_irrefl _)
  · have := l1 p (List.mem_append.mpr (.inr hp))
    rw [List.map_cons, List.map_cons] at hm
    rcases List.mem_cons.mp hm with e | hm
    · exact absurd (Nat.lt_trans this l2) (by rw [show p.1 = x from e]; exact Nat.lt_irrefl _)
    · rcases List.mem_cons.mp hm with e | hm
      · exact absurd this (by rw [show p.1 = dx from e]; exact Nat.lt_irrefl _)
      · exact f.dj p hp hm
theorem mk_inst {C fI : Addr} {vs : List Value} {Q : Value → Shared → Prop} (F : FS P.s₀ L ρ M τ s) (hm : makesIn P.K C = true) (hi : findIn P.K (.ref C) "__init__" = some (some (.ref fI))) (hf : typeIn P.K (.ref fI) = some (.type "function"))
    (h : ∀ x dx s', FS P.s₀ L ρ ((x, .inst C dx) :: (dx, .dict []) :: M) τ s' → codeAny (model P.prog P.w) (A.under (.builtin "type.__call__" ⟨.ref C :: vs, []⟩)) (.call (.ref fI) ⟨.ref x :: vs, []⟩) (InitBack x fun r s' => match r with | .ok (.ret v) => Q v s' | .ok _ => False | .error e => E e s') s') :
    wpAny (model P.prog P.w) A (call (.ref C) vs) Q E s := by
  obtain ⟨V, O, m, f⟩ := F
  exact wpAny_call (make_K f.fr f.nv (P.B.X.keeps f.fr.keep) hm hi hf fun x dx h' F' N' l1 l2 => h x dx _ ⟨V, _, m, f.two F' N' l1 l2⟩)
/-- entering a frame without cells -/
theorem FX.enter0 (f : FX s₀ L ρ M τ V O m s) {h₁ : Heap} {oL : Obj} {m' : Str → Option Value} {tk : Nat} (hL : s.heap.get? L = some oL) (hn : h₁.Ns s.heap.objs.size m') (hk : ∀ b o, s.heap.get? b = some o → h₁.get? b = some o) (hρ : LocOk τ m' ρ') :
    FX s₀ s.heap.objs.size ρ' ((L, .raw oL) :: M) (tempsOf m ρ ++ τ) V ((L, oL) :: O) m' { s with heap := h₁, toks := tk } := by
  have hs0 : s₀.heap.objs.size ≤ L := f.fr.above
  have hLL : L < s.heap.objs.size := Heap.lt_size hL
  have hL0 : s₀.heap.get? L = none := by
    cases q : s₀.heap.get? L with
    | none => rfl
    | some o => exact absurd (Heap.lt_size q) (Nat.not_lt.mpr hs0)
  refine ⟨⟨hn, fun b o e => hk b o (f.fr.keep b o e), Nat.le_trans hs0 (Nat.le_of_lt hLL)⟩, fun p hp => ?_, .cons rfl f.om, ?_, fun p hp hm => ?_, fun y l e => ?_, fun p hp => ?_, let ⟨_, _, e⟩ := f.same; ⟨h₁, tk, by rw [e]⟩⟩
  · rw [List.cons_append] at hp
    rcases List.mem_cons.mp hp with rfl | hp
    · exact ⟨hk _ _ hL, Nat.ne_of_lt hLL, hL0⟩
    · have z := f.nv p hp
      exact ⟨hk _ _ z.1, Nat.ne_of_lt (Heap.lt_size z.1), z.2.2⟩
  · rw [List.map_cons, List.nodup_cons]
    refine ⟨fun hm => ?_, f.nd⟩
    obtain ⟨q, hq, e⟩ := List.mem_map.mp hm
    exact (f.nv q (List.mem_append.mpr (.inl hq))).2.1 e
  · rw [List.map_cons] at hm
    rcases List.mem_cons.mp hm with e | hm
    · exact (f.nv p (List.mem_append.mpr (.inr hp))).2.1 e
    · exact f.dj p hp hm
  · obtain ⟨v, e1, e2⟩ := hρ _ (mem_of_lookup e)
    exact ⟨v, e1, f.tmp _ e2⟩
  · rcases List.mem_append.mp hp with hp | hp
    · exact f.temps p hp
    · exact f.tmp p hp
/-- a call of a def that closes over __class__ -/
theorem code_cls {name qual : Str} {params : Arguments} {body : List Stmt} {scope : Scope} {dV kV doc pm cdv ct oc : Value} {an od : Option Addr} {osl : Array (Option Value)} {f cc : Addr} {vals : List Value} {binds : List (Str × Value)} {R : Result → Shared → Prop}
    (F : FS P.s₀ L ρ M τ s) (ho : P.K.lookup f = some ⟨oc, od, .func (ksFn name qual params body scope dV kV doc pm an cdv ct cc), osl⟩) (hcd : codeIn P.K cdv qual = true) (hroom : A.depth < recursionLimit)
    (hbind : BindsTo s (ksFn name qual params body scope dV kV doc pm an cdv ct cc) ⟨vals, []⟩ binds) (hloc : ∀ y ∈ binds, scope.names.lookup y.1 = some .local) (hρ : LocOk τ (fun y => binds.reverse.lookup y) ρ')
    (h : ∀ L' oL τc s₁, Back P.s₀ L ρ oL τc → FS P.s₀ L' ρ' ((L, .raw oL) :: M) (τc ++ τ) s₁ →
      _root_.PySem.wpAt (model P.prog P.w) (A.deeper (ksEnv qual scope L' f cdv cc)) (.func body (ksEnv qual scope L' f cdv cc)) (execs body (ksEnv qual scope L' f cdv cc))
        (fun fl s' => R (.ok (.ret (match fl with | .ret v => v | _ => .none))) s') (fun _ _ => False) s₁)
    (hcell : ∀ x ∈ scope.names, x.2 ≠ .cell := by decide) (hco : scope.isCoroutine = false := by rfl) (hgen : scope.isGenerator = false := by rfl) (hk : scope.kind = .function := by rfl) : codeAny (model P.prog P.w) A (.call (.ref f) ⟨vals, []⟩) R s := by
  obtain ⟨V, O, m, fx⟩ := F
  obtain ⟨mean, mg, mb, T⟩ := P.B.T
  obtain ⟨oL, hL, bk⟩ := fx.back
  refine ks_codeAny_call_defAt (fd := ksFn name qual params body scope dV kV doc pm an cdv ct cc) (body := body) (binds := binds) hroom ((P.B.X.keeps fx.fr.keep) _ _ ho) rfl (T.nolimit.keeps fx.fr.keep) (codeRec_of (P.B.X.keeps fx.fr.keep) hcd) rfl hbind hcell hloc (fun h₁ hns hk₁ => ?_) hco hgen hk
  exact ks_wpAt_mono (h s.heap.objs.size oL _ _ bk ⟨V, _, _, fx.enter0 (tk := s.toks + binds.length) hL hns hk₁ hρ⟩) (fun _ _ z => z) fun _ _ z => z.elim
theorem bd_code {lv : LV} {name qual : Str} {params : Arguments} {body : List Stmt} {scope : Scope} {dV kV doc pm cdv ct oc : Value} {an od : Option Addr} {osl : Array (Option Value)} {f : Addr} {cl : Addr → ME} {kk : Nat} {vals : List Value} {binds : List (Str × Value)} {R : Result → Shared → Prop} (hA : Ok A (kk + 1)) (F : FS P.s₀ L ρ M τ s) (ho : P.K.lookup f = some ⟨oc, od, .func (fnOf name qual params body scope dV kV doc pm an cdv ct), osl⟩) (hcd : codeIn P.K cdv qual = true)
    (hbind : bindArgs (fnOf name qual params body scope dV kV doc pm an cdv ct) ⟨vals, []⟩ = pure binds)
    (hkind : (binds.all fun y => scope.names.lookup y.1 == some .local || scope.names.lookup y.1 == some .cell) = true) (hnd : ((cellsFrom 0 scope.names []).map (·.1)).Nodup)
    (hρ : LocOk τ (bindL (fun y => scope.names.lookup y) binds fun _ => none) ρ') (hc : ∀ L', CellsOf τ (bindC (fun y => scope.names.lookup y) binds fun _ => none) (cellsFrom (L' + 1) scope.names []) (cl L'))
    (h : BD P A ρ' cl M body qual scope f cdv lv M') (k : ∀ v s', FS P.s₀ L ρ M' ((v, lv) :: τ) s' → R (.ok (.ret v)) s')
    (hco : scope.isCoroutine = false := by rfl) (hgen : scope.isGenerator = false := by rfl) (hk : scope.kind = .function := by rfl) : codeAny (model P.prog P.w) A (.call (.ref f) ⟨vals, []⟩) R s :=
  code_fn P.B F ho hcd hA.room hbind hkind hnd hρ hc (fun L' oL τc s₁ bk F₁ => h L L' oL _ s₁ (fun v s' => R (.ok (.ret v)) s') F₁ fun v s' ρx F' => k v s' ((bk _ _ _ _ _ F' fun p hp => .tail _ (List.mem_append.mpr (.inl hp))).sub (sub_head (.head _) fun p hp => .tail _ (List.mem_append.mpr (.inr hp))))) hco hgen hk
end

section
variable {prog : Program} {w : World} {A : Around} {E : Value → Shared → Prop} {s : Shared}
theorem nextOf_tup {it l : Addr} {i : Nat} {items} {x : Value} {Q : Value → Shared → Prop} (hit : s.heap.IsTupleIter it l i) (hl : s.heap.IsTuple l items) (hx : items[i]? = some x)
    (hQ : ∀ h', h'.IsTupleIter it l (i + 1) → Heap.SameBut it s.heap h' → Q x { s with heap := h' }) : wpAny (model prog w) A (Builtin.SmallTypes.nextOf (.ref it)) Q E s := by
  obtain ⟨o, ho, hc, hd⟩ := id hit
  obtain ⟨ol, hol, _, nl, hdl⟩ := hl
  unfold Builtin.SmallTypes.nextOf
  refine wpAny_bind (wpAny_callSpecial?_slot (name := Str.ofString "__next__") hit.typeIs F.slot_tuple_iterator_next (wpAny_call_entry F.slot_tuple_iterator_next hit.typeIs F.entry_tuple_iterator_next ?_ (F.args_tuple_iterator_next_1 _)))
  show wpAny _ _ (field (.ref it) 0 >>= _) _ _ s
  refine wpAny_bind (wpAny_field ho hd (x := .ref l) rfl ?_)
  show wpAny _ _ (if (Value.ref l == Value.none) = true then _ else _) _ _ s
  rw [if_neg (show ¬ ((Value.ref l == Value.none) = true) from Bool.false_ne_true)]
  show wpAny _ _ (field (.ref it) 1 >>= _) _ _ s
  refine wpAny_bind (wpAny_field ho hd (x := .int i 0) rfl ?_)
  show wpAny _ _ (seqItems? (.ref l) >>= _) _ _ s
  refine wpAny_bind (wpAny_seqItems hol hdl ?_)
  simp only [Int.toNat_natCast, hx]
  refine wpAny_bind (wpAny_setField ho hd (by simp) (wpAny_pure ⟨x, rfl, wpAny_pure (hQ _ ?_ (Heap.SameBut.update ..))⟩))
  exact ⟨_, Heap.get?_update_self _ ho (Obj.isFreed_of_fields (Obj.data_mapFields hd _)), (Obj.cls_mapFields ..).trans hc, by rw [Obj.data_mapFields hd]; simp [rawInt]⟩
theorem nextOf_tup_end {it l : Addr} {i : Nat} {items} {Q : Value → Shared → Prop} (hh : A.handled = none) (hit : s.heap.IsTupleIter it l i) (hl : s.heap.IsTuple l items) (hx : items[i]? = none)
    (hE : ∀ h' e, Heap.ExtBut it s.heap h' → (∃ o, h'.get? e = some o ∧ o.cls = .type "StopIteration") → E (.ref e) { s with heap := h' }) : wpAny (model prog w) A (Builtin.SmallTypes.nextOf (.ref it)) Q E s := by
  obtain ⟨o, ho, hc, hd⟩ := id hit
  obtain ⟨ol, hol, _, nl, hdl⟩ := hl
  unfold Builtin.SmallTypes.nextOf
  refine wpAny_bind (wpAny_callSpecial?_slot (name := Str.ofString "__next__") hit.typeIs F.slot_tuple_iterator_next (wpAny_call_entry F.slot_tuple_iterator_next hit.typeIs F.entry_tuple_iterator_next ?_ (F.args_tuple_iterator_next_1 _)))
  show wpAny _ _ (field (.ref it) 0 >>= _) _ _ s
  refine wpAny_bind (wpAny_field ho hd (x := .ref l) rfl ?_)
  show wpAny _ _ (if (Value.ref l == Value.none) = true then _ else _) _ _ s
  rw [if_neg (show ¬ ((Value.ref l == Value.none) = true) from Bool.false_ne_true)]
  show wpAny _ _ (field (.ref it) 1 >>= _) _ _ s
  refine wpAny_bind (wpAny_field ho hd (x := .int i 0) rfl ?_)
  show wpAny _ _ (seqItems? (.ref l) >>= _) _ _ s
  refine wpAny_bind (wpAny_seqItems hol hdl ?_)
  simp only [Int.toNat_natCast, hx]
  refine wpAny_bind (wpAny_rule (wpAny_bind (wpAny_setField ho hd (by simp) ?_)))
  show wpAny _ _ (newExc (.type "StopIteration") [] >>= _) _ _ _
  refine wpAny_bind ?_
  simp only [newExc, newTuple]
  refine wpAny_bind (wpAny_newObj_type ?_ (by size_fits))
  refine wpAny_bind (m := firstArgMember _ _) (wpAny_of_eq (a := Value.none) (by first | rfl | (simp only [firstArgMember]; rfl)) ?_)
  refine wpAny_newObj_type ?_ (by size_fits)
  simp only [raiseNew]
  refine wpAny_bind (wpAny_handled ?_)
  first | rw [show A.in1.handled = none from hh] | rw [hh]
  refine wpAny_bind (wpAny_pure (wpAny_throw ?_))
  exact hE _ _ (((Heap.SameBut.update ..).extBut.push _).push _) ⟨_, Heap.get?_push_size _ rfl, rfl⟩
/-- a zip of a tuple and a list, at a state of its walk -/
structure ZS (h : Heap) (z TI TO i1 i2 t l : Addr) (f0 : Value) (k : Nat) : Prop where
  z : IsZip h z TI TO f0
  ti : IsPair h TI (.ref i1) (.ref i2)
  to : ∃ a b, IsPair h TO a b
  i1 : h.IsTupleIter i1 t k
  i2 : h.IsListIter i2 l k
theorem zip_next {z TI TO i1 i2 t l : Addr} {k : Nat} {xs ys : Array Value} {x y : Value} {Q : Option Value → Shared → Prop} (D : ZipApart z TI TO i1 i2 t l) (S : ZS s.heap z TI TO i1 i2 t l .none k) (ht : s.heap.IsTuple t xs) (hl : s.heap.IsList l ys) (hx : xs[k]? = some x) (hy : ys[k]? = some y)
    (hQ : ∀ h', ZS h' z TI TO i1 i2 t l (rawInt s.heap.objs.size) (k + 1) → IsPair h' s.heap.objs.size x y → (∀ c o, c ≠ z → c ≠ TO → c ≠ i1 → c ≠ i2 → s.heap.get? c = some o → h'.get? c = some o) → Q (some (.ref s.heap.objs.size)) { s with heap := h' }) :
    wpAny (model prog w) A (pyNext (.ref z)) Q E s := by
  obtain ⟨hz, hTI, ⟨a, b, hTO⟩, h1, h2⟩ := S
  have hT : s.TypeIs (.ref z) "zip" := ⟨_, hz, rfl⟩
  unfold pyNext
  refine wpAny_bind (wpAny_attempt (wpAny_callSpecial?_slot (name := Str.ofString "__next__") hT F.slot_zip_next (wpAny_call_entry F.slot_zip_next hT F.entry_zip_next ?_ (F.args_zip_next_1 _))))
  show wpAny _ _ (field (.ref z) 2 >>= _) _ _ _
  refine wpAny_bind (wpAny_field hz rfl (x := .bool false) rfl ?_)
  show wpAny _ _ (field (.ref z) 3 >>= _) _ _ _
  refine wpAny_bind (wpAny_field hz rfl (x := .ref TI) rfl ?_)
  refine wpAny_bind (wpAny_seqItems hTI rfl ?_)
  show wpAny _ _ (Builtin.SmallTypes.ownedTupleIsFree (.ref z) >>= _) _ _ _
  refine wpAny_bind ?_
  unfold Builtin.SmallTypes.ownedTupleIsFree
  refine wpAny_bind (wpAny_field hz rfl (x := .none) rfl (wpAny_pure ?_))
  simp only [if_true]
  refine wpAny_bind (wpAny_rule ?_)
  refine wpAny_bind (wpAny_field hz rfl (x := .ref TO) rfl ?_)
  refine wpAny_bind (wpAny_setField_rec hz (by simp) fun h₁ hz₁ hs₁ => ?_)
  replace hz₁ : IsZip h₁ z TI TO .ellipsis := hz₁
  refine wpAny_bind ?_
  simp only [List.zipIdx_cons, List.zipIdx_nil, List.forIn_cons, List.forIn_nil]
  refine wpAny_bind (wpAny_bind (wpAny_onRaise ?_))
  show wpAny _ _ (Builtin.SmallTypes.nextOf (.ref i1) >>= _) _ _ _
  refine wpAny_bind (nextOf_tup (h1.extBut hs₁.extBut D.i1z) (ht.extBut hs₁.extBut D.l1z) hx fun h₂ h1₂ hs₂ => wpAny_pure ?_)
  have hTO₂ : IsPair h₂ TO a b := hs₂.extBut _ _ D.TOi1 (hs₁.extBut _ _ D.TOz hTO)
  refine wpAny_bind (wpAny_seqItems hTO₂ rfl ?_)
  refine wpAny_bind (wpAny_updateSeq_pair hTO₂ fun h₃ hTO₃ hs₃ => ?_)
  replace hTO₃ : IsPair h₃ TO x b := hTO₃
  refine wpAny_bind (wpAny_letGo (wpAny_pure ?_))
  refine wpAny_bind (wpAny_bind (wpAny_onRaise ?_))
  show wpAny _ _ (Builtin.SmallTypes.nextOf (.ref i2) >>= _) _ _ _
  refine wpAny_bind (wpAny_nextOf_list_item (((h2.extBut hs₁.extBut D.i2z).extBut hs₂.extBut D.i12.symm).extBut hs₃.extBut D.TOi2.symm)
    (((hl.extBut hs₁.extBut D.l2z).extBut hs₂.extBut D.l2i1).extBut hs₃.extBut D.l2TO) hy fun h₄ h2₄ hs₄ => wpAny_pure ?_)
  have hTO₄ : IsPair h₄ TO x b := hs₄.extBut _ _ D.TOi2 hTO₃
  refine wpAny_bind (wpAny_seqItems hTO₄ rfl ?_)
  refine wpAny_bind (wpAny_updateSeq_pair hTO₄ fun h₅ hTO₅ hs₅ => ?_)
  replace hTO₅ : IsPair h₅ TO x y := hTO₅
  refine wpAny_bind (wpAny_letGo (wpAny_pure (wpAny_pure ?_)))
  refine wpAny_bind (wpAny_seqItems hTO₅ rfl ?_)
  refine wpAny_bind (wpAny_newTuple ?_)
  have hsz : h₅.objs.size = s.heap.objs.size := by rw [hs₅.1, hs₄.1, hs₃.1, hs₂.1, hs₁.1]
  have hz₅ : IsZip h₅ z TI TO .ellipsis := hs₅.extBut _ _ D.TOz.symm (hs₄.extBut _ _ D.i2z.symm (hs₃.extBut _ _ D.TOz.symm (hs₂.extBut _ _ D.i1z.symm hz₁)))
  have hk₅ : ∀ c o, c ≠ z → c ≠ TO → c ≠ i1 → c ≠ i2 → s.heap.get? c = some o → h₅.get? c = some o := fun c o c1 c2 c3 c4 e =>
    hs₅.extBut _ _ c2 (hs₄.extBut _ _ c4 (hs₃.extBut _ _ c2 (hs₂.extBut _ _ c3 (hs₁.extBut _ _ c1 e))))
  have h1₅ : h₅.IsTupleIter i1 t (k + 1) := ((h1₂.extBut hs₃.extBut D.TOi1.symm).extBut hs₄.extBut D.i12).extBut hs₅.extBut D.TOi1.symm
  have h2₅ : h₅.IsListIter i2 l (k + 1) := h2₄.extBut hs₅.extBut D.TOi2.symm
  have hzlt : z < h₅.objs.size := Heap.lt_size hz₅
  show wpAny _ _ (Builtin.SmallTypes.ownedTupleHandOut (.ref z) (.ref h₅.objs.size) >>= _) _ _ _
  refine wpAny_bind ?_
  unfold Builtin.SmallTypes.ownedTupleHandOut
  have hz₆ : IsZip (h₅.push { cls := .type "tuple", data := .seq #[x, y] }) z TI TO .ellipsis := Heap.get?_push_of_some _ hz₅
  refine wpAny_bind (wpAny_setField_rec hz₆ (by simp) fun h₇ hz₇ hs₇ => ?_)
  replace hz₇ : IsZip h₇ z TI TO (rawInt h₅.objs.size) := hz₇
  refine wpAny_setField_rec hz₇ (by simp) fun h₈ hz₈ hs₈ => ?_
  replace hz₈ : IsZip h₈ z TI TO (rawInt h₅.objs.size) := hz₈
  have up : ∀ c o, c ≠ z → h₅.get? c = some o → h₈.get? c = some o := fun c o c1 e => hs₈.extBut _ _ c1 (hs₇.extBut _ _ c1 (Heap.get?_push_of_some _ e))
  have hT₈ : IsPair h₈ h₅.objs.size x y := hs₈.extBut _ _ (Nat.ne_of_gt hzlt) (hs₇.extBut _ _ (Nat.ne_of_gt hzlt) (Heap.get?_push_size _ rfl))
  rw [hsz] at hz₈ hT₈
  refine wpAny_pure ⟨_, rfl, ?_⟩
  refine wpAny_pure ?_
  show Q (some (.ref h₅.objs.size)) _
  rw [hsz]
  exact hQ h₈ ⟨hz₈, up _ _ D.TIz (hk₅ _ _ D.TIz D.TITO D.TIi1 D.TIi2 hTI), ⟨_, _, up _ _ D.TOz hTO₅⟩, h1₅.at fun o e => up _ o D.i1z e, h2₅.at fun o e => up _ o D.i2z e⟩ hT₈ fun c o c1 c2 c3 c4 e => up c o c1 (hk₅ c o c1 c2 c3 c4 e)
theorem zip_end {z TI TO i1 i2 t l : Addr} {k : Nat} {xs ys : Array Value} {Q : Option Value → Shared → Prop} (hh : A.handled = none) (D : ZipApart z TI TO i1 i2 t l) (S : ZS s.heap z TI TO i1 i2 t l .none k) (ht : s.heap.IsTuple t xs) (hx : xs[k]? = none)
    (hQ : ∀ h', (∀ c o, c ≠ z → c ≠ i1 → s.heap.get? c = some o → h'.get? c = some o) → Q none { s with heap := h' }) : wpAny (model prog w) A (pyNext (.ref z)) Q E s := by
  obtain ⟨hz, hTI, ⟨a, b, hTO⟩, h1, h2⟩ := S
  have hT : s.TypeIs (.ref z) "zip" := ⟨_, hz, rfl⟩
  unfold pyNext
  refine wpAny_bind (wpAny_attempt (wpAny_callSpecial?_slot (name := Str.ofString "__next__") hT F.slot_zip_next (wpAny_call_entry F.slot_zip_next hT F.entry_zip_next ?_ (F.args_zip_next_1 _))))
  show wpAny _ _ (field (.ref z) 2 >>= _) _ _ _
  refine wpAny_bind (wpAny_field hz rfl (x := .bool false) rfl ?_)
  show wpAny _ _ (field (.ref z) 3 >>= _) _ _ _
  refine wpAny_bind (wpAny_field hz rfl (x := .ref TI) rfl ?_)
  refine wpAny_bind (wpAny_seqItems hTI rfl ?_)
  show wpAny _ _ (Builtin.SmallTypes.ownedTupleIsFree (.ref z) >>= _) _ _ _
  refine wpAny_bind ?_
  unfold Builtin.SmallTypes.ownedTupleIsFree
  refine wpAny_bind (wpAny_field hz rfl (x := .none) rfl (wpAny_pure ?_))
  simp only [if_true]
  refine wpAny_bind (wpAny_rule ?_)
  refine wpAny_bind (wpAny_field hz rfl (x := .ref TO) rfl ?_)
  refine wpAny_bind (wpAny_setField_rec hz (by simp) fun h₁ hz₁ hs₁ => ?_)
  replace hz₁ : IsZip h₁ z TI TO .ellipsis := hz₁
  refine wpAny_bind ?_
  simp only [List.zipIdx_cons, List.zipIdx_nil, List.forIn_cons, List.forIn_nil]
  refine wpAny_bind (wpAny_bind (wpAny_onRaise ?_))
  show wpAny _ _ (Builtin.SmallTypes.nextOf (.ref i1) >>= _) _ _ _
  refine wpAny_bind (nextOf_tup_end hh (h1.extBut hs₁.extBut D.i1z) (ht.extBut hs₁.extBut D.l1z) hx fun h₂ e hs₂ he => ?_)
  obtain ⟨oe, hoe, hce⟩ := he
  have hz₂ : IsZip h₂ z TI TO .ellipsis := hs₂ _ _ D.i1z.symm hz₁
  have hez : e ≠ z := fun x => by subst x; rw [hz₂] at hoe; cases hoe; simp at hce
  refine wpAny_setField_rec hz₂ (by simp) fun h₃ _ hs₃ => ?_
  refine wpAny_bind (wpAny_isInstance (T := "StopIteration") (b := true) ⟨oe, hs₃.extBut _ _ hez hoe, hce⟩ isSubtype_stop ?_)
  exact wpAny_pure (hQ _ fun c o c1 c3 x => hs₃.extBut _ _ c1 (hs₂ _ _ c3 (hs₁.extBut _ _ c1 x)))
abbrev zA (h : Heap) (t : Addr) : Heap := h.push { cls := .type "tuple_iterator", data := .fields #[.ref t, .int 0 0] }
abbrev zB (h : Heap) (t l : Addr) : Heap := (zA h t).push { cls := .type "list_iterator", data := .fields #[.ref l, .int 0 0] }
abbrev zC (h : Heap) (t l : Addr) : Heap := (zB h t l).push { cls := .type "tuple", data := .seq #[.ref h.objs.size, .ref (zA h t).objs.size] }
abbrev zD (h : Heap) (t l : Addr) : Heap := (zC h t l).push { cls := .type "tuple", data := .seq #[.none, .none] }
abbrev zE (h : Heap) (t l : Addr) : Heap := (zD h t l).push { cls := .type "zip", data := .fields #[.none, .bool false, .bool false, .ref (zB h t l).objs.size, .ref (zC h t l).objs.size] }
theorem meets_zip_tl (t l : Addr) (xs ys : Array Value) :
    Meets (Builtin.«zip.__new__» ⟨[.type "zip", .ref t, .ref l], []⟩) (fun _ R s => s.heap.IsTuple t xs ∧ s.heap.IsList l ys ∧ R (.ok (.ret (.ref (zD s.heap t l).objs.size))) { s with heap := zE s.heap t l }) :=
  .of_wp fun prog w A R s h => by
    obtain ⟨hp, g, d, tk, os⟩ := s; obtain ⟨hl1, hl2, h⟩ := h
    have hsub := sub_zip
    have hL1 : Heap.IsTuple (Shared.heap ⟨hp, g, d, tk, os⟩) t xs := hl1
    have hL2 : Heap.IsList (Shared.heap ⟨hp.push { cls := .type "tuple_iterator", data := .fields #[.ref t, .int 0 0] }, g, d, tk, os⟩) l ys := Heap.IsList.push hl2 _
    wp_walk using wpAny_pyIter_tuple hL1, wpAny_pyIter_list hL2
    exact ⟨_, rfl, h⟩
end
section
variable {prog : Program} {w : World} {A : Around} {E : Value → Shared → Prop} {s : Shared}
theorem zip_new {t l : Addr} {xs ys : Array Value} {Q : Value → Shared → Prop} (hl1 : s.heap.IsTuple t xs) (hl2 : s.heap.IsList l ys)
    (h : ∀ h', ZS h' (s.heap.objs.size + 4) (s.heap.objs.size + 2) (s.heap.objs.size + 3) s.heap.objs.size (s.heap.objs.size + 1) t l .none 0 → (∀ c o, s.heap.get? c = some o → h'.get? c = some o) → Q (.ref (s.heap.objs.size + 4)) { s with heap := h' }) :
    wpAny (model prog w) A (call (.type "zip") [.ref t, .ref l]) Q E s := by
  refine callType_new F.called_zip (by decide) (F.typeCall_zip_2 _ _) (F.newCall_zip_2 _ _) (fun obj => F.args_object_init_3 obj _ _) F.entry_zip_new (meets_zip_tl t l xs ys) ⟨hl1, hl2, ?_⟩
  have z1 : (zA s.heap t).objs.size = s.heap.objs.size + 1 := Heap.size_push ..
  have z2 : (zB s.heap t l).objs.size = s.heap.objs.size + 2 := by rw [Heap.size_push, z1]
  have z3 : (zC s.heap t l).objs.size = s.heap.objs.size + 3 := by rw [Heap.size_push, z2]
  have z4 : (zD s.heap t l).objs.size = s.heap.objs.size + 4 := by rw [Heap.size_push, z3]
  have g5 : (zE s.heap t l).get? (zD s.heap t l).objs.size = some _ := Heap.get?_push_size _ rfl
  have g4 : (zE s.heap t l).get? (zC s.heap t l).objs.size = some _ := Heap.get?_push_of_some _ (Heap.get?_push_size _ rfl)
  have g3 : (zE s.heap t l).get? (zB s.heap t l).objs.size = some _ := Heap.get?_push_of_some _ (Heap.get?_push_of_some _ (Heap.get?_push_size _ rfl))
  have g2 : (zE s.heap t l).get? (zA s.heap t).objs.size = some _ := Heap.get?_push_of_some _ (Heap.get?_push_of_some _ (Heap.get?_push_of_some _ (Heap.get?_push_size _ rfl)))
  have g1 : (zE s.heap t l).get? s.heap.objs.size = some _ := Heap.get?_push_of_some _ (Heap.get?_push_of_some _ (Heap.get?_push_of_some _ (Heap.get?_push_of_some _ (Heap.get?_push_size _ rfl))))
  show _ ∧ _
  rw [z2, z3, z4] at g5
  rw [z1, z2] at g3
  rw [z3] at g4
  rw [z1] at g2
  rw [z4]
  exact ⟨⟨_, g5, rfl⟩, h _ ⟨g5, g3, ⟨_, _, g4⟩, ⟨_, g1, rfl, rfl⟩, ⟨_, g2, rfl, rfl⟩⟩ fun c o x =>
    Heap.get?_push_of_some _ (Heap.get?_push_of_some _ (Heap.get?_push_of_some _ (Heap.get?_push_of_some _ (Heap.get?_push_of_some _ x))))⟩
theorem zip_go {elts : List Expr} {x1 : Nat} {pos : Pos} {z TI TO i1 i2 t l T : Addr} {k : Nat} {Q : Unit → Shared → Prop} (D : ZipApart z TI TO i1 i2 t l) (S : ZS s.heap z TI TO i1 i2 t l (rawInt T) k)
    (hQ : ∀ h', ZS h' z TI TO i1 i2 t l .none k → Heap.SameBut z s.heap h' → Q () { s with heap := h' }) : wpAny (model prog w) A (letOwnedTupleGo (.Tuple elts x1 pos) (.ref z) (.ref T)) Q E s :=
  wpAny_letOwnedTupleGo_zip S.z fun h' hz hs => hQ h' ⟨hz, hs.extBut _ _ D.TIz S.ti, let ⟨a, b, e⟩ := S.to; ⟨a, b, hs.extBut _ _ D.TOz e⟩, S.i1.extBut hs.extBut D.i1z, S.i2.extBut hs.extBut D.i2z⟩ hs
end
section
variable {P : Setup} {A : Around} {E : Value → Shared → Prop} {s₀ s : Shared} {env : Env} {L : Addr} {ρ ρ' : LE} {M M₁ M₂ M' : ME} {τ τ' : TE} {V O : Led} {m : Str → Option Value}
/-- the mutable objects of a zip -/
def ZB (z TI TO i1 i2 t l : Addr) (f0 : Value) (k : Nat) : ME :=
  [(z, .own fun o => o = { cls := .type "zip", dict := none, data := .fields #[f0, .bool false, .bool false, .ref TI, .ref TO], slots := #[] }), (TI, .own fun o => o = { cls := .type "tuple", data := .seq #[.ref i1, .ref i2] }), (TO, .own fun o => ∃ a b, o = { cls := .type "tuple", data := .seq #[a, b] }),
   (i1, .own fun o => o.cls = .type "tuple_iterator" ∧ o.data = .fields #[.ref t, .int k 0]), (i2, .own fun o => o.cls = .type "list_iterator" ∧ o.data = .fields #[.ref l, .int k 0])]
theorem FX.zs {z TI TO i1 i2 t l : Addr} {f0 : Value} {k : Nat} (f : FX s₀ L ρ (ZB z TI TO i1 i2 t l f0 k ++ M) τ V O m s) : ZS s.heap z TI TO i1 i2 t l f0 k := by
  obtain ⟨o1, _, e1, g1, _⟩ := f.getM (j := 0) (a := z) rfl
  obtain ⟨o2, _, e2, g2, _⟩ := f.getM (j := 1) (a := TI) rfl
  obtain ⟨o3, _, ⟨a, b, e3⟩, g3, _⟩ := f.getM (j := 2) (a := TO) rfl
  obtain ⟨o4, _, ⟨c4, d4⟩, g4, _⟩ := f.getM (j := 3) (a := i1) rfl
  obtain ⟨o5, _, ⟨c5, d5⟩, g5, _⟩ := f.getM (j := 4) (a := i2) rfl
  have e1 : o1 = _ := e1
  have e2 : o2 = _ := e2
  subst e1 e2 e3
  exact ⟨g1, g2, ⟨a, b, g3⟩, ⟨o4, g4, c4, by rw [d4]⟩, ⟨o5, g5, c5, by rw [d5]⟩⟩
theorem FX.zap {z TI TO i1 i2 t l : Addr} {f0 : Value} {k : Nat} (f : FX s₀ L ρ (ZB z TI TO i1 i2 t l f0 k ++ M) τ V O m s) {ot ol : Obj} (ht : (t, ot) ∈ V) (hl : (l, ol) ∈ V) : ZipApart z TI TO i1 i2 t l := by
  have e := f.om.fst
  have nd := f.nd
  have d1 := f.dj _ ht
  have d2 := f.dj _ hl
  rw [e] at nd d1 d2
  simp only [ZB, List.cons_append, List.nil_append, List.map_cons, List.nodup_cons, List.mem_cons, not_or] at nd d1 d2
  obtain ⟨⟨a1, a2, a3, a4, _⟩, ⟨b2, b3, b4, _⟩, ⟨c3, c4, _⟩, ⟨d4, _⟩, _⟩ := nd
  obtain ⟨t1, t2, t3, t4, t5, _⟩ := d1
  obtain ⟨l1, l2, l3, l4, l5, _⟩ := d2
  exact ⟨Ne.symm a1, Ne.symm a2, Ne.symm a3, Ne.symm a4, b2, b3, b4, c3, c4, d4, t1, t3, t4, t5, l1, l3, l4, l5⟩
/-- the ledger's head laid anew -/
theorem FX.resetP {Mz Mz' : ME} {Oz' : Led} {h' : Heap} {tk : Nat} (f : FX s₀ L ρ (Mz ++ M) τ V O m s) (hz : OAll V Oz' Mz') (ha : Mz'.map (·.1) = Mz.map (·.1)) (hg : ∀ p ∈ Oz', h'.get? p.1 = some p.2) (hk : ∀ b o, b ∉ Mz.map (·.1) → s.heap.get? b = some o → h'.get? b = some o) :
    ∃ O', FX s₀ L ρ (Mz' ++ M) τ V O' m { s with heap := h', toks := tk } := by
  obtain ⟨fr, nv, om, nd, dj, loc, tmp, same⟩ := f
  have split : ∀ {P : ME} {O : Led}, OAll V O (P ++ M) → ∃ O₁ O₂, O = O₁ ++ O₂ ∧ OAll V O₁ P ∧ OAll V O₂ M := by
    intro P
    induction P with
    | nil => intro O h; exact ⟨[], O, rfl, .nil, h⟩
    | cons q P ih =>
      intro O h
      rw [List.cons_append] at h
      cases h with
      | cons a b =>
        obtain ⟨O₁, O₂, rfl, c1, c2⟩ := ih b
        exact ⟨_ :: O₁, O₂, rfl, .cons a c1, c2⟩
  obtain ⟨O₁, O₂, rfl, c1, c2⟩ := split om
  have app : ∀ {A B : Led} {P R : ME}, OAll V A P → OAll V B R → OAll V (A ++ B) (P ++ R) := by
    intro A B P R h1 h2
    induction h1 with
    | nil => exact h2
    | cons a _ ih => exact .cons a ih
  have fe : Oz'.map (·.1) = O₁.map (·.1) := by rw [hz.fst, ha, c1.fst]
  rw [List.map_append] at nd dj
  obtain ⟨n1, n2, n3⟩ := List.nodup_append.mp nd
  obtain ⟨oL, es, ep, hL, r⟩ := fr.ns
  have hLn : L ∉ Mz.map (·.1) := fun hm => by
    rw [← c1.fst] at hm
    obtain ⟨q, hq, e⟩ := List.mem_map.mp hm
    exact (nv q (List.mem_append.mpr (.inl (List.mem_append.mpr (.inl hq))))).2.1 e
  refine ⟨Oz' ++ O₂, ⟨⟨oL, es, ep, hk _ _ hLn hL, r⟩, fun b o e => hk _ _ (fun hm => ?_) (fr.keep b o e), fr.above⟩, fun p hp => ?_, app hz c2, by rw [List.map_append, fe]; exact nd, fun p hp => by rw [List.map_append, fe]; exact dj p hp, loc, tmp, let ⟨_, _, e⟩ := same; ⟨h', tk, by rw [e]⟩⟩
  · rw [← c1.fst] at hm
    obtain ⟨q, hq, e'⟩ := List.mem_map.mp hm
    have := (nv q (List.mem_append.mpr (.inl (List.mem_append.mpr (.inl hq))))).2.2
    rw [e', e] at this
    cases this
  · rw [List.append_assoc] at hp
    rcases List.mem_append.mp hp with hp | hp
    · have hm : p.1 ∈ O₁.map (·.1) := fe ▸ List.mem_map.mpr ⟨p, hp, rfl⟩
      obtain ⟨q, hq, e⟩ := List.mem_map.mp hm
      have z := nv q (List.mem_append.mpr (.inl (List.mem_append.mpr (.inl hq))))
      exact ⟨hg p hp, e ▸ z.2.1, e ▸ z.2.2⟩
    · rcases List.mem_append.mp hp with hp | hp
      · have z := nv p (List.mem_append.mpr (.inl (List.mem_append.mpr (.inr hp))))
        refine ⟨hk _ _ (fun hm => ?_) z.1, z.2⟩
        rw [← c1.fst] at hm
        exact n3 _ hm _ (List.mem_map.mpr ⟨p, hp, rfl⟩) rfl
      · have z := nv p (List.mem_append.mpr (.inr hp))
        refine ⟨hk _ _ (fun hm => ?_) z.1, z.2⟩
        rw [← c1.fst] at hm
        exact dj p hp (List.mem_append.mpr (.inl hm))
/-- an object that the heap bears already, taken into the frozen ledger -/
theorem FX.adopt (f : FX s₀ L ρ M τ V O m s) {a : Addr} {o : Obj} (hg : s.heap.get? a = some o) (hn : a ∉ M.map (·.1)) (hL : a ≠ L) (h0 : s₀.heap.get? a = none) : FX s₀ L ρ M τ ((a, o) :: V) O m s := by
  have s1 : ∀ p ∈ V, p ∈ (a, o) :: V := fun _ hp => .tail _ hp
  refine ⟨f.fr, fun p hp => ?_, f.om.mono s1, f.nd, fun p hp => ?_, fun x lv e => let ⟨v, e1, e2⟩ := f.loc x lv e; ⟨v, e1, e2.mono s1⟩, fun p hp => (f.tmp p hp).mono s1, f.same⟩
  · rcases List.mem_append.mp hp with hp | hp
    · exact f.nv p (List.mem_append.mpr (.inl hp))
    · rcases List.mem_cons.mp hp with rfl | hp
      · exact ⟨hg, hL, h0⟩
      · exact f.nv p (List.mem_append.mpr (.inr hp))
  · rcases List.mem_cons.mp hp with rfl | hp
    · rw [f.om.fst]; exact hn
    · exact f.dj p hp
theorem zs_all {V : Led} {h : Heap} {z TI TO i1 i2 t l : Addr} {f0 : Value} {k : Nat} (S : ZS h z TI TO i1 i2 t l f0 k) : ∃ Oz, OAll V Oz (ZB z TI TO i1 i2 t l f0 k) ∧ ∀ p ∈ Oz, h.get? p.1 = some p.2 := by
  obtain ⟨hz, hTI, ⟨a, b, hTO⟩, ⟨o1, g1, c1, d1⟩, ⟨o2, g2, c2, d2⟩⟩ := S
  refine ⟨[(z, _), (TI, _), (TO, _), (i1, o1), (i2, o2)], .cons rfl (.cons rfl (.cons ⟨a, b, rfl⟩ (.cons ⟨c1, by rw [d1]⟩ (.cons ⟨c2, by rw [d2]⟩ .nil)))), fun p hp => ?_⟩
  simp only [List.mem_cons, List.not_mem_nil, or_false] at hp
  rcases hp with rfl | rfl | rfl | rfl | rfl
  · exact hz
  · exact hTI
  · exact hTO
  · exact g1
  · exact g2
end

section
variable {P : Setup} {A : Around} {E : Value → Shared → Prop} {s₀ s : Shared} {env : Env} {L : Addr} {ρ ρ' : LE} {M M₁ M₂ M' : ME} {τ τ' : TE} {V O : Led} {m : Str → Option Value} {ds : List Dat} {pos : Pos}
theorem FX.dropP {Mz : ME} {h' : Heap} {tk : Nat} (f : FX s₀ L ρ (Mz ++ M) τ V O m s) (hk : ∀ b o, b ∉ Mz.map (·.1) → s.heap.get? b = some o → h'.get? b = some o) : ∃ O', FX s₀ L ρ M τ V O' m { s with heap := h', toks := tk } := by
  obtain ⟨fr, nv, om, nd, dj, loc, tmp, same⟩ := f
  have split : ∀ {P : ME} {O : Led}, OAll V O (P ++ M) → ∃ O₁ O₂, O = O₁ ++ O₂ ∧ OAll V O₁ P ∧ OAll V O₂ M := by
    intro P
    induction P with
    | nil => intro O h; exact ⟨[], O, rfl, .nil, h⟩
    | cons q P ih =>
      intro O h
      rw [List.cons_append] at h
      cases h with
      | cons a b =>
        obtain ⟨O₁, O₂, rfl, c1, c2⟩ := ih b
        exact ⟨_ :: O₁, O₂, rfl, .cons a c1, c2⟩
  obtain ⟨O₁, O₂, rfl, c1, c2⟩ := split om
  rw [List.map_append] at nd dj
  obtain ⟨n1, n2, n3⟩ := List.nodup_append.mp nd
  obtain ⟨oL, es, ep, hL, r⟩ := fr.ns
  have hLn : L ∉ Mz.map (·.1) := fun hm => by
    rw [← c1.fst] at hm
    obtain ⟨q, hq, e⟩ := List.mem_map.mp hm
    exact (nv q (List.mem_append.mpr (.inl (List.mem_append.mpr (.inl hq))))).2.1 e
  refine ⟨O₂, ⟨⟨oL, es, ep, hk _ _ hLn hL, r⟩, fun b o e => hk _ _ (fun hm => ?_) (fr.keep b o e), fr.above⟩, fun p hp => ?_, c2, n2, fun p hp hm => dj p hp (List.mem_append.mpr (.inr hm)), loc, tmp, let ⟨_, _, e⟩ := same; ⟨h', tk, by rw [e]⟩⟩
  · rw [← c1.fst] at hm
    obtain ⟨q, hq, e'⟩ := List.mem_map.mp hm
    have := (nv q (List.mem_append.mpr (.inl (List.mem_append.mpr (.inl hq))))).2.2
    rw [e', e] at this
    cases this
  · rcases List.mem_append.mp hp with hp | hp
    · have z := nv p (List.mem_append.mpr (.inl (List.mem_append.mpr (.inr hp))))
      refine ⟨hk _ _ (fun hm => ?_) z.1, z.2⟩
      rw [← c1.fst] at hm
      exact n3 _ hm _ (List.mem_map.mpr ⟨p, hp, rfl⟩) rfl
    · have z := nv p (List.mem_append.mpr (.inr hp))
      refine ⟨hk _ _ (fun hm => ?_) z.1, z.2⟩
      rw [← c1.fst] at hm
      exact dj p hp (List.mem_append.mpr (.inl hm))
/-- what pins a zip's sources -/
structure ZPin (τ : TE) (t l : Addr) (as bs : List Dat) : Prop where
  a : ∃ xs n, (Value.ref t, LV.o (tupOf (List.toArray xs) n)) ∈ τ
  a' : (Value.ref t, LV.d (.tuple as)) ∈ τ
  b : ∃ ys n, (Value.ref l, LV.o (listOf (List.toArray ys) n)) ∈ τ
  b' : (Value.ref l, LV.d (.list bs)) ∈ τ
theorem ZPin.sub {t l : Addr} {as bs : List Dat} (p : ZPin τ t l as bs) (h : ∀ p ∈ τ, p ∈ τ') : ZPin τ' t l as bs :=
  ⟨let ⟨xs, n, e⟩ := p.a; ⟨xs, n, h _ e⟩, h _ p.a', let ⟨xs, n, e⟩ := p.b; ⟨xs, n, h _ e⟩, h _ p.b'⟩
theorem z_next {z TI TO i1 i2 t l : Addr} {k : Nat} {as bs : List Dat} {da db : Dat} {Q : Option Value → Shared → Prop} (F : FS P.s₀ L ρ (ZB z TI TO i1 i2 t l .none k ++ M) τ s) (pin : ZPin τ t l as bs) (ha : as[k]? = some da) (hb : bs[k]? = some db)
    (h : ∀ (T : Addr) s', FS P.s₀ L ρ (ZB z TI TO i1 i2 t l (rawInt T) (k + 1) ++ M) ((.ref T, .d (.tuple [da, db])) :: τ) s' → Q (some (.ref T)) s') : wpAny (model P.prog P.w) A (pyNext (.ref z)) Q E s := by
  obtain ⟨V, O, m, f⟩ := F
  obtain ⟨⟨xs, n, p1⟩, p2, ⟨ys, n', p3⟩, p4⟩ := pin
  obtain ⟨hmt, hgt⟩ := f.oat' p1
  obtain ⟨hml, hgl⟩ := f.oat' p3
  have qa := f.tup' p1 p2
  have qb := f.lst' p3 p4
  obtain ⟨x, ex, dx⟩ := datAll_get qa ha
  obtain ⟨y, ey, dy⟩ := datAll_get qb hb
  have D := f.zap hmt hml
  have fresh := f.freshAddr
  refine zip_next D f.zs ⟨_, hgt, rfl, n, rfl⟩ ⟨_, hgl, rfl, n', rfl⟩ (x := x) (y := y) (by simpa using ex) (by simpa using ey) fun h' S' hT hk => ?_
  obtain ⟨Oz, c1, c2⟩ := zs_all (V := V) S'
  obtain ⟨O', g⟩ := f.resetP (tk := s.toks) c1 rfl c2 fun b o hb e => by
    simp only [ZB, List.map_cons, List.map_nil, List.mem_cons, List.not_mem_nil, or_false, not_or] at hb
    exact hk b o hb.1 hb.2.2.1 hb.2.2.2.1 hb.2.2.2.2 e
  have ga := g.adopt (a := s.heap.objs.size) (o := { cls := .type "tuple", data := .seq #[x, y] }) hT (fun hm => by
    rw [← show (ZB z TI TO i1 i2 t l (.none) k ++ M).map (·.1) = (ZB z TI TO i1 i2 t l (rawInt s.heap.objs.size) (k + 1) ++ M).map (·.1) from rfl, ← f.om.fst] at hm
    obtain ⟨q, hq, e⟩ := List.mem_map.mp hm
    exact fresh.1 q (List.mem_append.mpr (.inl hq)) e) fresh.2.1 fresh.2.2
  exact h _ _ ⟨_, _, m, ga.tempd (x := .tuple [da, db]) (.tuple (vs := [x, y]) (n := 0) (.head _) (.cons (dx.mono fun _ hp => .tail _ hp) (.cons (dy.mono fun _ hp => .tail _ hp) .nil)))⟩
theorem z_go {elts : List Expr} {x1 : Nat} {z TI TO i1 i2 t l T : Addr} {k : Nat} {as bs : List Dat} {Q : Unit → Shared → Prop} (F : FS P.s₀ L ρ (ZB z TI TO i1 i2 t l (rawInt T) k ++ M) τ s) (pin : ZPin τ t l as bs)
    (h : ∀ s', FS P.s₀ L ρ (ZB z TI TO i1 i2 t l .none k ++ M) τ s' → Q () s') : wpAny (model P.prog P.w) A (letOwnedTupleGo (.Tuple elts x1 pos) (.ref z) (.ref T)) Q E s := by
  obtain ⟨V, O, m, f⟩ := F
  obtain ⟨⟨xs, n, p1⟩, p2, ⟨ys, n', p3⟩, p4⟩ := pin
  have D := f.zap (f.oat' p1).1 (f.oat' p3).1
  refine zip_go D f.zs fun h' S' hs => ?_
  obtain ⟨Oz, c1, c2⟩ := zs_all (V := V) S'
  obtain ⟨O', g⟩ := f.resetP (tk := s.toks) c1 rfl c2 fun b o hb e => by
    simp only [ZB, List.map_cons, List.map_nil, List.mem_cons, List.not_mem_nil, or_false, not_or] at hb
    exact (hs.2 b hb.1).trans e
  exact h _ ⟨_, _, m, g⟩
theorem z_end {z TI TO i1 i2 t l : Addr} {as bs : List Dat} {Q : Option Value → Shared → Prop} (hh : A.handled = none) (F : FS P.s₀ L ρ (ZB z TI TO i1 i2 t l .none as.length ++ M) τ s) (pin : ZPin τ t l as bs)
    (h : ∀ s', FS P.s₀ L ρ M τ s' → Q none s') : wpAny (model P.prog P.w) A (pyNext (.ref z)) Q E s := by
  obtain ⟨V, O, m, f⟩ := F
  obtain ⟨⟨xs, n, p1⟩, p2, ⟨ys, n', p3⟩, p4⟩ := pin
  obtain ⟨hmt, hgt⟩ := f.oat' p1
  have qa := f.tup' p1 p2
  have D := f.zap hmt (f.oat' p3).1
  refine zip_end (ys := #[]) hh D f.zs ⟨_, hgt, rfl, n, rfl⟩ (by simp [qa.length]) fun h' hk => ?_
  obtain ⟨O', g⟩ := f.dropP (tk := s.toks) (h' := h') fun b o hb e => by
    simp only [ZB, List.map_cons, List.map_nil, List.mem_cons, List.not_mem_nil, or_false, not_or] at hb
    exact hk b o hb.1 hb.2.2.2.1 e
  exact h _ ⟨_, _, m, g⟩
/-- zip(tuple, list) -/
theorem z_new {as bs : List Dat} {u v : Value} {Q : Value → Shared → Prop} (F : FS P.s₀ L ρ M τ s) (h1 : (u, LV.d (.tuple as)) ∈ τ) (h2 : (v, LV.d (.list bs)) ∈ τ)
    (h : ∀ z TI TO i1 i2 t l τ' s', (∀ p ∈ τ, p ∈ τ') → ZPin τ' t l as bs → FS P.s₀ L ρ (ZB z TI TO i1 i2 t l .none 0 ++ M) τ' s' → Q (.ref z) s') : wpAny (model P.prog P.w) A (call (.type "zip") [u, v]) Q E s := by
  obtain ⟨V, O, m, f⟩ := F
  obtain ⟨t, xs, n, rfl, hmt, hgt, qa⟩ := f.tup h1
  obtain ⟨l, ys, n', rfl, hml, hgl, qb⟩ := f.lst h2
  refine zip_new (xs := xs.toArray) (ys := ys.toArray) ⟨_, hgt, rfl, n, rfl⟩ ⟨_, hgl, rfl, n', rfl⟩ fun h' S hk => ?_
  obtain ⟨hz, hTI, ⟨a, b, hTO⟩, ⟨o1, g1, c1, d1⟩, ⟨o2, g2, c2, d2⟩⟩ := S
  have none0 : ∀ j, s.heap.get? (s.heap.objs.size + j) = none := fun j => by
    cases q : s.heap.get? (s.heap.objs.size + j) with
    | none => rfl
    | some o => exact absurd (Heap.lt_size q) (Nat.not_lt.mpr (Nat.le_add_right _ _))
  have f0 := (f.temp (x := .o (tupOf xs.toArray n)) ⟨t, rfl, hmt⟩).temp (x := .o (listOf ys.toArray n')) ⟨l, rfl, hml⟩
  have fa : ∀ {M : ME} {O : Led} {a : Addr} {o : Obj} {y : AO} {τ : TE}, FX P.s₀ L ρ M τ V O m { s with heap := h' } → h'.get? a = some o → OIn V o y → a ∉ O.map (·.1) → s.heap.get? a = none → FX P.s₀ L ρ ((a, y) :: M) τ V ((a, o) :: O) m { s with heap := h' } := by
    intro M O a o y τ g hg hy hn hs0
    have hL : a ≠ L := by
      obtain ⟨oL, _, _, hoL, _⟩ := f.fr.ns
      intro e; subst e; rw [hs0] at hoL; cases hoL
    have h0 : P.s₀.heap.get? a = none := by
      cases q : P.s₀.heap.get? a with
      | none => rfl
      | some o' => have := f.fr.keep _ _ q; rw [hs0] at this; cases this
    have hV : ∀ p ∈ V, p.1 ≠ a := fun p hp e => by
      have := (f.nv p (List.mem_append.mpr (.inr hp))).1
      rw [e, hs0] at this; cases this
    refine ⟨g.fr, fun p hp => ?_, .cons hy g.om, ?_, fun p hp hm => ?_, g.loc, g.tmp, g.same⟩
    · rcases List.mem_cons.mp hp with rfl | hp
      · exact ⟨hg, hL, h0⟩
      · exact g.nv p hp
    · rw [List.map_cons, List.nodup_cons]; exact ⟨hn, g.nd⟩
    · rw [List.map_cons] at hm
      rcases List.mem_cons.mp hm with e | hm
      · exact hV p hp e
      · exact g.dj p hp hm
  have ap : ∀ j, ∀ p ∈ O, p.1 ≠ s.heap.objs.size + j := fun j p hp e => by
    have := (f.nv p (List.mem_append.mpr (.inl hp))).1
    rw [e, none0] at this; cases this
  have nm : ∀ j, s.heap.objs.size + j ∉ O.map (·.1) := fun j hm => by
    obtain ⟨q, hq, e⟩ := List.mem_map.mp hm
    exact ap j q hq e
  have g0 : FX P.s₀ L ρ M ((.ref l, .o (listOf ys.toArray n')) :: (.ref t, .o (tupOf xs.toArray n)) :: τ) V O m { s with heap := h' } := f0.grow (tk := s.toks) hk
  have k1 := fa (a := s.heap.objs.size + 1) (y := .own fun o => o.cls = .type "list_iterator" ∧ o.data = .fields #[.ref l, .int (0 : Nat) 0]) g0 g2 ⟨c2, by rw [d2]⟩ (nm 1) (none0 1)
  have k2 := fa (a := s.heap.objs.size) (y := .own fun o => o.cls = .type "tuple_iterator" ∧ o.data = .fields #[.ref t, .int (0 : Nat) 0]) k1 g1 ⟨c1, by rw [d1]⟩ (fun hm => by
    rw [List.map_cons] at hm
    rcases List.mem_cons.mp hm with e | hm
    · exact absurd e (Nat.ne_of_lt (Nat.lt_succ_self _))
    · exact nm 0 hm) (none0 0)
  have k3 := fa (a := s.heap.objs.size + 3) (y := .own fun o => ∃ a b, o = { cls := .type "tuple", data := .seq #[a, b] }) k2 hTO ⟨a, b, rfl⟩ (fun hm => by
    simp only [List.map_cons, List.mem_cons] at hm
    rcases hm with e | e | hm
    · exact absurd e (Nat.ne_of_gt (Nat.lt_add_of_pos_right (by decide)))
    · exact absurd (Nat.add_left_cancel e) (by decide)
    · exact nm 3 hm) (none0 3)
  have k4 := fa (a := s.heap.objs.size + 2) (y := .own fun o => o = { cls := .type "tuple", data := .seq #[.ref s.heap.objs.size, .ref (s.heap.objs.size + 1)] }) k3 hTI rfl (fun hm => by
    simp only [List.map_cons, List.mem_cons] at hm
    rcases hm with e | e | e | hm
    · exact absurd (Nat.add_left_cancel e) (by decide)
    · exact absurd e (Nat.ne_of_gt (Nat.lt_add_of_pos_right (by decide)))
    · exact absurd (Nat.add_left_cancel e) (by decide)
    · exact nm 2 hm) (none0 2)
  have k5 := fa (a := s.heap.objs.size + 4) (y := .own fun o => o = { cls := .type "zip", dict := none, data := .fields #[.none, .bool false, .bool false, .ref (s.heap.objs.size + 2), .ref (s.heap.objs.size + 3)], slots := #[] }) k4 hz rfl (fun hm => by
    simp only [List.map_cons, List.mem_cons] at hm
    rcases hm with e | e | e | e | hm
    · exact absurd (Nat.add_left_cancel e) (by decide)
    · exact absurd (Nat.add_left_cancel e) (by decide)
    · exact absurd e (Nat.ne_of_gt (Nat.lt_add_of_pos_right (by decide)))
    · exact absurd (Nat.add_left_cancel e) (by decide)
    · exact nm 4 hm) (none0 4)
  exact h _ _ _ _ _ t l _ _ (fun p hp => .tail _ (.tail _ hp)) ⟨⟨xs, n, .tail _ (.head _)⟩, .tail _ (.tail _ h1), ⟨ys, n', .head _⟩, .tail _ (.tail _ h2)⟩ ⟨V, _, m, k5⟩
end

section
variable {P : Setup} {A : Around} {E : Value → Shared → Prop} {s₀ s : Shared} {env : Env} {L : Addr} {ρ ρ' : LE} {M M₁ M₂ M' : ME} {τ τ' : TE} {V O : Led} {m : Str → Option Value} {ds : List Dat} {pos : Pos}
/-- an inner loop of a comprehension over frozen data, each item put on -/
theorem comp_in {elt tgt0 it0 tgt1 it1 : Expr} {scope : Scope} {it acc : Addr} {R : Result → Shared → Prop} {φ : Nat → Obj → Prop} {τp : TE} {C0 : Addr × AO} {X0 : List LV} {f : Dat → LV}
    (I : It P A it (ds.map .d) φ τp []) (hτ : ∀ p ∈ τp, p ∈ τ) (hz : X0.length + ds.length ≤ 10000)
    (ρ1 : Dat → LE) (ht : ∀ d, TG P A env tgt1 (.d d) (ρ1 d)) (he : ∀ d M, EV P A env (ρ1 d) M elt (f d) M)
    (done : ∀ s', FS P.s₀ env.locals [] (C0 :: (acc, .list (X0 ++ ds.map f)) :: M) τ s' → R (.ok .next) s')
    (F : FS P.s₀ env.locals [] (C0 :: (acc, .list X0) :: (it, .own (φ 0)) :: M) τ s) :
    codeAny (model P.prog P.w) A (.compLoop (.ListComp elt [⟨tgt0, it0, [], 0⟩, ⟨tgt1, it1, [], 0⟩] scope pos) 1 (.ref it) (.ref acc) env) R s := by
  let In : Nat → Shared → Prop := fun n s => ∃ i, i ≤ ds.length ∧ n = ds.length - i ∧ FS P.s₀ env.locals [] (C0 :: (acc, .list (X0 ++ (ds.take i).map f)) :: (it, .own (φ i)) :: M) τ s
  refine codeAny_loop rfl In (fun n s hI => ?_) ds.length ⟨0, Nat.zero_le _, by omega, by simpa using F⟩
  obtain ⟨i, hi, hn, F⟩ := hI
  show wpAny _ A ((compTurn (.ListComp elt [⟨tgt0, it0, [], 0⟩, ⟨tgt1, it1, [], 0⟩] scope pos) 1 (.ref it) (.ref acc) env).onRaise (fun x => do noteFrame x env; theTreesLotGoes x)) _ _ s
  refine wpAny_noted_turn ?_
  have hT : compTurn (.ListComp elt [⟨tgt0, it0, [], 0⟩, ⟨tgt1, it1, [], 0⟩] scope pos) 1 (.ref it) (.ref acc) env = (do
      standAt it1.pos
      match ← pyNext (.ref it) with
      | none => pure (.done .next)
      | some v =>
        letOwnedTupleGo tgt1 (.ref it) v
        assign tgt1 env v
        (do let _ ← call (.builtin "list.append") [.ref acc, ← eval elt env])
        again (.compLoop (.ListComp elt [⟨tgt0, it0, [], 0⟩, ⟨tgt1, it1, [], 0⟩] scope pos) 1 (.ref it) (.ref acc) env)) := by rfl
  rw [hT]
  refine wpAny_bind (wpAny_standAt (wpAny_bind ?_))
  by_cases hlt : i < ds.length
  · obtain ⟨d, hd⟩ : ∃ d, ds[i]? = some d := ⟨ds[i], by simp [hlt]⟩
    refine I.next (i := i) (lv := .d d) (by rw [List.getElem?_map, hd]; rfl) F hτ (fun _ h => nomatch h) (at_tail (at_tail at_head)) fun v s₁ F₁ => ?_
    dsimp only
    refine wpAny_bind (I.go tgt1 v F₁ (at_tail (at_tail at_head)) fun F₁ => ?_)
    refine wpAny_bind ((ht d).go F₁ (.head _) fun s₂ F₂ => ?_)
    rw [List.append_nil] at F₂
    refine wpAny_bind (wpAny_bind ((he d _).go F₂ fun y s₃ F₃ => wpAny_bind ?_))
    refine a_append F₃ (j := 1) rfl (.head _) ?_ fun s₅ F₅ => ?_
    · have := List.length_take_le i ds
      simp; omega
    · refine wpAny_pure (wpAny_pure ⟨rfl, n - 1, by omega, i + 1, hlt, by omega, ?_⟩)
      rw [List.take_add_one, hd, List.map_append, ← List.append_assoc]
      exact (F₅.weak (ρ' := []) (fun _ h => nomatch h) (sub_tail (sub_tail sub_refl)))
  · have hie : i = ds.length := by omega
    subst hie
    refine I.done F hτ (fun _ h => nomatch h) (by rw [List.length_map]; exact at_tail (at_tail at_head)) fun s₁ F₁ => ?_
    rw [List.take_length] at F₁
    exact wpAny_pure (done _ F₁)
theorem start_any {elt tgt0 it0 tgt1 it1 : Expr} {scope : Scope} {it acc : Value} {R : Result → Shared → Prop}
    (h0 : codeAny (model P.prog P.w) A (.compLoop (.ListComp elt [⟨tgt0, it0, [], 0⟩, ⟨tgt1, it1, [], 0⟩] scope pos) 1 it acc env) R s)
    (h : wpAny (model P.prog P.w) A (pyIter it) (fun it' s' => codeAny (model P.prog P.w) A (.compLoop (.ListComp elt [⟨tgt0, it0, [], 0⟩, ⟨tgt1, it1, [], 0⟩] scope pos) 1 it' acc env) R s') (notedBy (model P.prog P.w) A env fun x s' => R (.error x) s') s) :
    codeAny (model P.prog P.w) A (.compStart (.ListComp elt [⟨tgt0, it0, [], 0⟩, ⟨tgt1, it1, [], 0⟩] scope pos) 1 it acc env) R s := by
  refine codeAny_of_tree ?_
  show wpAny _ _ ((compStart (.ListComp elt [⟨tgt0, it0, [], 0⟩, ⟨tgt1, it1, [], 0⟩] scope pos) 1 it acc env).onRaise (fun x => do noteFrame x env; standAt theWindowsPlace)) _ _ s
  refine wpAny_notedAt ?_
  unfold compStart
  show wpAny _ _ (ask >>= _) _ _ s
  refine wpAny_bind (wpAny_askSetting (wpAny_ite ?_))
  split
  · first
      | exact wpAny_bind (wpAny_pure (wpAny_pure (And.intro rfl h0)))
      | exact wpAny_pure (And.intro rfl h0)
  · first
      | exact wpAny_bind (wpAny_rule (wpAny_bind (wpAny_standAt (wpAny_bind (wpAny_mono h (fun it' s' h' => wpAny_pure (And.intro rfl h')) fun _ _ x => x)))))
      | (refine wpAny_bind (wpAny_rule ?_); show wpAny _ _ (standAt it1.pos >>= _) _ _ s; exact wpAny_bind (wpAny_standAt (wpAny_bind (wpAny_mono h (fun it' s' h' => wpAny_pure (And.intro rfl h')) fun _ _ x => x))))
def toZ (z TI TO i1 i2 t l : Addr) (f0 : Value) (k : Nat) (C0 C1 : Addr × AO) : ME := C0 :: C1 :: ZB z TI TO i1 i2 t l f0 k
theorem FS.zin {z TI TO i1 i2 t l : Addr} {f0 : Value} {k : Nat} {C0 C1 : Addr × AO} (F : FS s₀ L ρ (C0 :: C1 :: (ZB z TI TO i1 i2 t l f0 k ++ M)) τ s) : FS s₀ L ρ (ZB z TI TO i1 i2 t l f0 k ++ C0 :: C1 :: M) τ s :=
  (FS.sel (P := C0 :: C1 :: ZB z TI TO i1 i2 t l f0 k) (M₀ := M) [2, 3, 4, 5, 6, 0, 1] F (by decide)).mcast (by rfl)
theorem FS.zout {z TI TO i1 i2 t l : Addr} {f0 : Value} {k : Nat} {C0 C1 : Addr × AO} (F : FS s₀ L ρ (ZB z TI TO i1 i2 t l f0 k ++ C0 :: C1 :: M) τ s) : FS s₀ L ρ (C0 :: C1 :: (ZB z TI TO i1 i2 t l f0 k ++ M)) τ s :=
  (FS.sel (P := ZB z TI TO i1 i2 t l f0 k ++ [C0, C1]) (M₀ := M) [5, 6, 0, 1, 2, 3, 4] (F.mcast (by simp)) (by decide)).mcast (by rfl)
/-- the outer loop: over a zip; items: pairs of ints, an inner range each -/
theorem comp_out {elt it0 it1 : Expr} {e01 e02 : Expr} {x0 : Nat} {p0 : Pos} {tgt1 : Expr} {scope : Scope} {z TI TO i1 i2 t l acc : Addr} {R : Result → Shared → Prop} {C0 : Addr × AO} {as bs : List Int} {f : Dat → LV}
    (hh : A.handled = none) (hs : ∀ x, foldedSetIterable it1 env x = pure x) (pin : ZPin τ t l (as.map .int) (bs.map .int)) (hlen : as.length = bs.length) (hsm : ∀ (k : Nat) (a b : Int), as[k]? = some a → bs[k]? = some b → (-50000 ≤ a ∧ a ≤ 50000) ∧ (0 ≤ b ∧ b ≤ 100)) (hl3 : as.length ≤ 3)
    (ρt : Int → Int → LE) (ht : ∀ a b, TG P A env (.Tuple [e01, e02] x0 p0) (.d (.tuple [.int a, .int b])) (ρt a b))
    (h1 : ∀ a b M, EV P A env (ρt a b) M it1 (.rng a (a + b)) M)
    (ρ1 : Dat → LE) (ht1 : ∀ d, TG P (A.mark none) env tgt1 (.d d) (ρ1 d)) (he1 : ∀ d M, EV P (A.mark none) env (ρ1 d) M elt (f d) M)
    (done : ∀ s', FS P.s₀ env.locals [] (C0 :: (acc, .list ((as.zip bs).flatMap fun p => (rngL p.1 (p.1 + p.2)).map f)) :: M) τ s' → R (.ok .next) s')
    (F : FS P.s₀ env.locals [] (C0 :: (acc, .list []) :: (ZB z TI TO i1 i2 t l .none 0 ++ M)) τ s) :
    codeAny (model P.prog P.w) A (.compLoop (.ListComp elt [⟨.Tuple [e01, e02] x0 p0, it0, [], 0⟩, ⟨tgt1, it1, [], 0⟩] scope pos) 0 (.ref z) (.ref acc) env) R s := by
  let outs : Nat → List LV := fun k => ((as.zip bs).take k).flatMap fun p => (rngL p.1 (p.1 + p.2)).map f
  let In : Nat → Shared → Prop := fun n s => ∃ k, k ≤ as.length ∧ n = as.length - k ∧ (outs k).length ≤ 100 * k ∧ FS P.s₀ env.locals [] (C0 :: (acc, .list (outs k)) :: (ZB z TI TO i1 i2 t l .none k ++ M)) τ s
  refine codeAny_loop rfl In (fun n s hI => ?_) as.length ⟨0, Nat.zero_le _, by omega, by simp [outs], by simpa [outs] using F⟩
  obtain ⟨k, hk, hn, hol, F⟩ := hI
  show wpAny _ A ((compTurn (.ListComp elt [⟨.Tuple [e01, e02] x0 p0, it0, [], 0⟩, ⟨tgt1, it1, [], 0⟩] scope pos) 0 (.ref z) (.ref acc) env).onRaise (fun x => do noteFrame x env; theTreesLotGoes x)) _ _ s
  refine wpAny_noted_turn ?_
  have hT : compTurn (.ListComp elt [⟨.Tuple [e01, e02] x0 p0, it0, [], 0⟩, ⟨tgt1, it1, [], 0⟩] scope pos) 0 (.ref z) (.ref acc) env = (do
      standAt it0.pos
      match ← pyNext (.ref z) with
      | none => pure (.done .next)
      | some v =>
        letOwnedTupleGo (.Tuple [e01, e02] x0 p0) (.ref z) v
        assign (.Tuple [e01, e02] x0 p0) env v
        let x ← eval it1 env
        standAt it1.pos
        let x ← foldedSetIterable it1 env x
        let _ ← runOwn (.compStart (.ListComp elt [⟨.Tuple [e01, e02] x0 p0, it0, [], 0⟩, ⟨tgt1, it1, [], 0⟩] scope pos) 1 (← holding [x] (pyIter x)) (.ref acc) env) env
        again (.compLoop (.ListComp elt [⟨.Tuple [e01, e02] x0 p0, it0, [], 0⟩, ⟨tgt1, it1, [], 0⟩] scope pos) 0 (.ref z) (.ref acc) env)) := by rfl
  rw [hT]
  refine wpAny_bind (wpAny_standAt (wpAny_bind ?_))
  by_cases hlt : k < as.length
  · obtain ⟨a, ha⟩ : ∃ a, as[k]? = some a := ⟨as[k], by simp [hlt]⟩
    obtain ⟨b, hb⟩ : ∃ b, bs[k]? = some b := ⟨bs[k]'(hlen ▸ hlt), by simp [← hlen, hlt]⟩
    obtain ⟨⟨a1, a2⟩, b1, b2⟩ := hsm k a b ha hb
    refine z_next F.zin pin (da := .int a) (db := .int b) (by rw [List.getElem?_map, ha]; rfl) (by rw [List.getElem?_map, hb]; rfl) fun T s₁ F₁ => ?_
    dsimp only
    refine wpAny_bind (z_go F₁ (pin.sub (sub_tail sub_refl)) fun s₂ F₂ => ?_)
    refine wpAny_bind ((ht a b).go F₂ (.head _) fun s₃ F₃ => ?_)
    rw [List.append_nil] at F₃
    refine wpAny_bind ((h1 a b _).go F₃ fun xv s₄ F₄ => ?_)
    refine wpAny_bind (wpAny_standAt (wpAny_bind (wpAny_of_eq (hs xv) (wpAny_bind (wpAny_holding ?_)))))
    refine it_range (a := a) (b := a + b) (by omega) (by omega) A hh (FS.zout (F₄.weak (ρ' := []) (fun _ h => nomatch h) sub_refl)) (.head _) (fun _ h => nomatch h) fun it φ τp s₅ I F₅ => ?_
    have F₆ : FS P.s₀ env.locals [] (C0 :: (acc, .list (outs k)) :: (it, .own (φ 0)) :: (ZB z TI TO i1 i2 t l .none (k + 1) ++ M)) (τp ++ _) s₅ := (FS.sel (P := [(it, .own (φ 0)), C0, (acc, .list (outs k))]) (M₀ := ZB z TI TO i1 i2 t l .none (k + 1) ++ M) [1, 2, 0] F₅ (by decide)).mcast (by rfl)
    have step : outs (k + 1) = outs k ++ (rngL a (a + b)).map f := by
      show ((as.zip bs).take (k + 1)).flatMap _ = _
      rw [List.take_add_one, show (as.zip bs)[k]? = some (a, b) by rw [List.getElem?_zip_eq_some]; exact ⟨ha, hb⟩]
      simp [outs]
    have hrl : (rngL a (a + b)).length = b.toNat := by simp [rngL]; omega
    have Im : It P (A.mark none) it ((rngL a (a + b)).map .d) φ τp [] := by
      have : A.mark none = A := by cases A; simp_all [Around.mark]
      rw [this]; exact I
    have loop : ∀ {s₆}, FS P.s₀ env.locals [] (C0 :: (acc, .list (outs k)) :: (it, .own (φ 0)) :: (ZB z TI TO i1 i2 t l .none (k + 1) ++ M)) (τp ++ ((xv, .rng a (a + b)) :: (Value.ref T, .d (.tuple [.int a, .int b])) :: τ)) s₆ →
        codeAny (model P.prog P.w) (A.mark none) (.compLoop (.ListComp elt [⟨.Tuple [e01, e02] x0 p0, it0, [], 0⟩, ⟨tgt1, it1, [], 0⟩] scope pos) 1 (.ref it) (.ref acc) env) (fun r s' => match r with | .ok fl => wpAny (model P.prog P.w) A (again (.compLoop (.ListComp elt [⟨.Tuple [e01, e02] x0 p0, it0, [], 0⟩, ⟨tgt1, it1, [], 0⟩] scope pos) 0 (.ref z) (.ref acc) env)) (fun fin s' => match fin with | .done f => R (.ok f) s' | .again c' => c' = .compLoop (.ListComp elt [⟨.Tuple [e01, e02] x0 p0, it0, [], 0⟩, ⟨tgt1, it1, [], 0⟩] scope pos) 0 (.ref z) (.ref acc) env ∧ ∃ m, m < n ∧ In m s') (notedBy (model P.prog P.w) A env fun e s' => R (.error e) s') s' | .error e => cameBackBy (model P.prog P.w) A env (notedBy (model P.prog P.w) A env fun e s' => R (.error e) s') e s') s₆ := fun {s₆} F₆ => by
      refine comp_in Im (fun p hp => List.mem_append.mpr (.inl hp)) (by rw [hrl]; omega) ρ1 ht1 he1 (fun s' F' => ?_) F₆
      refine wpAny_pure ⟨rfl, n - 1, by omega, k + 1, hlt, by omega, ?_, ?_⟩
      · rw [step, List.length_append, List.length_map, hrl]; omega
      · rw [step]; exact F'.sub (fun p hp => List.mem_append.mpr (.inr (.tail _ (.tail _ hp))))
    refine wpAny_bind (wpAny_runOwn (start_any (loop F₆) (Im.self F₆ (fun p hp => List.mem_append.mpr (.inl hp)) (fun _ h => nomatch h) (at_tail (at_tail at_head)) fun F₇ => loop F₇)))
  · have hie : k = as.length := by omega
    subst hie
    have e : as.length = (as.map Dat.int).length := by simp
    have F' := F.zin
    rw [e] at F'
    refine z_end hh F' pin fun s₁ F₁ => wpAny_pure (done _ ?_)
    have : outs as.length = (as.zip bs).flatMap fun p => (rngL p.1 (p.1 + p.2)).map f := by
      show ((as.zip bs).take _).flatMap _ = _
      rw [List.take_of_length_le (by simp; omega)]
    rw [← this]; rw [List.length_map] at F₁; exact F₁
end

def timesD (as bs : List Int) : List Dat := (as.zip bs).flatMap fun p => rngL p.1 (p.1 + p.2)
section
variable {P : Setup} {A : Around} {E : Value → Shared → Prop} {s₀ s : Shared} {env : Env} {L : Addr} {ρ ρ' : LE} {M M₁ M₂ M' : ME} {τ τ' : TE} {V O : Led} {m : Str → Option Value} {ds : List Dat} {pos : Pos}
theorem S_times {elt it1 fz eT eL : Expr} {e01 e02 tgt1 : Expr} {x0 : Nat} {p0 cp spos yp : Pos} {scope : Scope} {cl : List (Str × Addr)} {as bs : List Int} {y : Str} {stm : List Stmt} {Q : Flow → Shared → Prop}
    (hh : A.handled = none) (F : FS P.s₀ env.locals ρ M τ s) (hclos : closureFor scope env = pure cl) (hz : EV P A env ρ M fz (.r (.type "zip")) M) (h2 : AR P A env ρ M cp [eT, eL] [.d (.tuple (as.map .int)), .d (.list (bs.map .int))] M)
    (hcell : ∀ L' M, cellME (L' + 1) scope.names M = M) (hy : env.kindOf y = some .local)
    (hlen : as.length = bs.length) (hsm : ∀ (k : Nat) (a b : Int), as[k]? = some a → bs[k]? = some b → (-50000 ≤ a ∧ a ≤ 50000) ∧ (0 ≤ b ∧ b ≤ 100)) (hl3 : as.length ≤ 3)
    (ρt : Int → Int → LE) (ht : ∀ L' a b, TG P A (compEnvC scope (cellsFrom (L' + 1) scope.names cl) L' env) (.Tuple [e01, e02] x0 p0) (.d (.tuple [.int a, .int b])) (ρt a b))
    (h1 : ∀ L' a b M, EV P A (compEnvC scope (cellsFrom (L' + 1) scope.names cl) L' env) (ρt a b) M it1 (.rng a (a + b)) M)
    (ρ1 : Dat → LE) (ht1 : ∀ L' d, TG P (A.mark none) (compEnvC scope (cellsFrom (L' + 1) scope.names cl) L' env) tgt1 (.d d) (ρ1 d)) (he1 : ∀ L' d M, EV P (A.mark none) (compEnvC scope (cellsFrom (L' + 1) scope.names cl) L' env) (ρ1 d) M elt (.d d) M)
    (k : ∀ s', FS P.s₀ env.locals ((y, .d (.list (timesD as bs))) :: ρ) M τ s' → wpAny (model P.prog P.w) A (execs stm env) Q E s')
    (hsw : swapsWith (.ListComp elt [⟨.Tuple [e01, e02] x0 p0, .Call fz [eT, eL] [] cp, [], 0⟩, ⟨tgt1, it1, [], 0⟩] scope pos) (some (.Name y yp)) spos.line env = pure true := by rfl)
    (hs0 : ∀ x, foldedSetIterable (.Call fz [eT, eL] [] cp) env x = pure x := by intro _; rfl) (hs1 : ∀ env x, foldedSetIterable it1 env x = pure x := by intro _ _; rfl)
    (he : eval (.Call fz [eT, eL] [] cp) env = (do let f ← eval fz env; callWith cp f [] (backTo cp (starEach [eT, eL] env)) (backToKw cp (keywordEach [] env))) := by rfl) (hst : starEach [eT, eL] env = (false, eval eT env) :: starEach [eL] env := by rfl) (hst2 : ((backTo cp (starEach [eL] env)).any fun x => x.1) = false := by rfl)
    (hp : (env.scope.kind == .class || (env.scope.kind == .module && env.locals != env.globals)) = false := by rfl)
    (hkind : scope.kind = .function := by rfl) (hnames : ∀ x ∈ scope.names, x.2 = .local → scope.names.lookup x.1 = some .local := by decide) :
    wpAny (model P.prog P.w) A (execs (.Assign [.Name y yp] (.ListComp elt [⟨.Tuple [e01, e02] x0 p0, .Call fz [eT, eL] [] cp, [], 0⟩, ⟨tgt1, it1, [], 0⟩] scope pos) spos :: stm) env) Q E s := by
  refine wpAny_execs_cons ?_
  rw [exec_Assign_Name_used _ _ _ _ hsw]
  refine wpAny_bind (wpAny_standAt (wpAny_bind ?_))
  show wpAny _ A (do let _ ← comprehension (.ListComp elt [⟨.Tuple [e01, e02] x0 p0, .Call fz [eT, eL] [] cp, [], 0⟩, ⟨tgt1, it1, [], 0⟩] scope pos) scope env _ (newList []) false (eval (.Call fz [eT, eL] [] cp) env) (some (assign (.Name y yp) env))) _ _ s
  refine wpAny_bind (wpAny_mono (wpAny_comprehension_free (use := some (assign (.Name y yp) env)) (Q := fun _ s' => wpAny (model P.prog P.w) A (execs stm env) Q E s') rfl hs0 hclos hkind hnames
    (Call_ (hz.go F fun f' s₁ F₁ => ?_) he)) (fun _ s' hq => wpAny_pure (wpAny_pure hq)) fun _ _ e => e)
  obtain rfl := F₁.rval (.head _)
  refine PyProof.Rows.callWith_type1 (h2.go F₁ fun vs τ₁ s₂ F₂ t hs => ?_) hst hst2
  cases t with | cons t1 t =>
  cases t with | cons t2 t =>
  cases t
  refine z_new F₂ t1 t2 fun z TI TO i1 i2 t l τ₂ s₃ hτ pin F₃ => ?_
  have zit : ∀ {A : Around} {M : ME} {ρ : LE} {L : Addr} {τ : TE} {s : Shared} {Q : Value → Shared → Prop} {E : Value → Shared → Prop}, FS P.s₀ L ρ (ZB z TI TO i1 i2 t l .none 0 ++ M) τ s → (FS P.s₀ L ρ (ZB z TI TO i1 i2 t l .none 0 ++ M) τ s → Q (.ref z) s) → wpAny (model P.prog P.w) A (pyIter (.ref z)) Q E s := by
    intro A M ρ L τ s Q E F h
    obtain ⟨V, O, m, f⟩ := F
    exact wpAny_pyIter_zip f.zs.z (h ⟨V, O, m, f⟩)
  refine zit F₃ fun F₃ => ?_
  refine d_listM (xs := []) F₃ .nil (by simp) fun acc s₄ F₄ => ?_
  refine inner_env (P := P) F₄ hkind fun L' oL τc s₅ bk F₅ => ?_
  have e : ∀ e' : Env, e' = newEnv scope L' env.globals (cellsFrom (L' + 1) scope.names cl) env.qual none .none (some env) builtinsNs → ({ e' with scope := relabel scope env } : Env) = compEnvC scope (cellsFrom (L' + 1) scope.names cl) L' env := fun e' h => by subst h; rfl
  rw [e _ rfl]
  rw [hcell] at F₅
  have pin' := (pin.sub (τ' := τc ++ (Value.ref acc, LV.r (.ref acc)) :: τ₂) fun p hp => List.mem_append.mpr (.inr (.tail _ hp)))
  have loop : ∀ {s₆}, FS P.s₀ L' [] ((env.locals, .raw oL) :: (acc, .list []) :: (ZB z TI TO i1 i2 t l .none 0 ++ M)) (τc ++ (Value.ref acc, LV.r (.ref acc)) :: τ₂) s₆ →
      codeAny (model P.prog P.w) A (.compLoop (.ListComp elt [⟨.Tuple [e01, e02] x0 p0, .Call fz [eT, eL] [] cp, [], 0⟩, ⟨tgt1, it1, [], 0⟩] scope pos) 0 (.ref z) (.ref acc) (compEnvC scope (cellsFrom (L' + 1) scope.names cl) L' env)) (compPost (model P.prog P.w) A E (some (assign (.Name y yp) env)) (fun _ s' => wpAny (model P.prog P.w) A (execs stm env) Q E s') (.ref acc) L') s₆ := fun {s₆} F₆ => by
    refine comp_out (f := fun d => .d d) hh (hs1 _) pin' hlen hsm hl3 ρt (ht L') (h1 L') ρ1 (ht1 L') (he1 L') (fun s' F' => ?_) F₆
    obtain ⟨oC, hC, G⟩ := bk F' (fun p hp => List.mem_append.mpr (.inl hp))
    refine assign_Name (st_local (G.tr (.ref acc)) (.head _) (fun s'' F'' => ?_) hy hp)
    obtain ⟨V, O, m, g⟩ := id F''
    obtain ⟨o, _, e, hg, _⟩ := g.getM (j := 0) at_head
    have e : o = oC := e
    subst e
    obtain ⟨m', hm⟩ := hC _ hg
    refine ⟨m', hm, fun h' hs' => k _ ?_⟩
    have G' := F''.dropC hs'
    have e2 : ((as.zip bs).flatMap fun p => (rngL p.1 (p.1 + p.2)).map LV.d) = (timesD as bs).map .d := by
      unfold timesD; rw [List.map_flatMap]
    rw [e2] at G'
    have G'' := (G'.freeze.reloc (x := y) (by simp) (.head _)).sub (τ' := τ) (fun p hp => .tail _ (.tail _ (List.mem_append.mpr (.inr (.tail _ (hτ _ (hs _ (.tail _ hp))))))))
    obtain ⟨V, O, m, g⟩ := G''
    refine ⟨V, O, m, g.weak (fun x lv e => ?_) sub_refl⟩
    rw [List.lookup_cons] at e ⊢
    cases hb : x == y with
    | true => rw [hb] at e; exact e
    | false =>
      rw [hb] at e
      rw [List.lookup_cons, hb]
      exact e
  refine codeAny_compStart_list (loop F₅) (zit F₅.zin fun F₆ => loop F₆.zout)
/-- set(list of ints), and its length -/
def setN (ns : List Int) : Nat := (firstMet (fun i => ns.getD i 0) ns.length).length
def isSet (P : Setup) (ns : List Int) (o : Obj) : Prop := o.SetObjOf (intKind P.prog P.w) (fun k' => (firstMet (fun i => ns.getD i 0) ns.length).any (· == k')) (setN ns)
theorem CL.set {ns : List Int} (hh : A.handled = none) (hz : ns.length ≤ 4000) : CL P A M (.type "set") [.d (.list (ns.map .int))] (.pr (isSet P ns)) M := ⟨by
  intro L ρ τ s Q E vs F t k
  cases t with | cons t1 t2 =>
  cases t2
  obtain ⟨V, O, m, f⟩ := F
  obtain ⟨l, vs, n, rfl, hm, hg, q⟩ := f.lst t1
  have hl := q.length
  rw [List.length_map] at hl
  refine call_set_list (items := vs.toArray) (ns := ns) hh ⟨_, hg, rfl, n, rfl⟩ (by simpa using ints_are q) (by rw [List.size_toArray, hl]; unfold scanBound; omega) fun h' tk hS hk => ?_
  rw [show vs.toArray.size = ns.length by rw [List.size_toArray, hl]] at hS
  obtain ⟨o, ho, hso⟩ := hS.objOf
  exact k _ _ ⟨_, O, m, (f.newV (tk := tk) (fun b o e => hk b o (Heap.lt_size e) e) (get_size _) ho).temp (x := .pr (isSet P ns)) ⟨_, o, rfl, .head _, hso⟩⟩⟩
theorem CL.lenS {ns : List Int} (hz : ns.length ≤ 4000) : CL P A M (.builtin "len") [.pr (isSet P ns)] (.d (.int (setN ns))) M := ⟨by
  intro L ρ τ s Q E vs F t k
  cases t with | cons t1 t2 =>
  cases t2
  obtain ⟨V, O, m, f⟩ := F
  obtain ⟨x, o, rfl, hm, hφ⟩ := f.tmp _ t1
  obtain ⟨own, rest, e⟩ := List.append_of_mem (show (x, o) ∈ O ++ V from List.mem_append.mpr (.inr hm))
  have N := f.nv
  rw [e] at N
  have hle : setN ns ≤ ns.length := firstMet_length_le _ _
  exact len_sl1 N hφ (by omega) (k _ _ ⟨V, O, m, f.tok2 _ _ _⟩)⟩
end
/- lcg_sub: a place among the mutable objects -/
local macro_rules | `(tactic| lcg_sub) => `(tactic| (repeat (first | with_reducible exact at_head | with_reducible exact at_capp0 | with_reducible assumption | exact at_head | with_reducible apply at_tail | with_reducible apply at_capp | with_reducible apply at_pre)))
/- keq_rows: an operator -/
set_option hygiene false in
local macro_rules | `(tactic| keq_rows) => `(tactic| first
  | assumption
  | ((with_reducible show BO _ _ _ Operator.Add (LV.d (Dat.int _)) _ _ _); exact BO.add)
  | ((with_reducible show BO _ _ _ Operator.Sub _ _ _ _); exact BO.sub)
  | ((with_reducible show BO _ _ _ Operator.Mod _ _ _ _); exact BO.mod (by decide))
  | ((with_reducible show CO _ _ _ CmpOp.Lt _ _ _); exact CO.lt)
  | ((with_reducible show CO _ _ _ CmpOp.LtE _ _ _); exact CO.le)
  | ((with_reducible show CO _ _ _ CmpOp.Gt _ _ _); exact CO.gt)
  | ((with_reducible show CO _ _ _ CmpOp.GtE _ _ _); exact CO.ge)
  | ((with_reducible show CO _ _ _ CmpOp.Eq (LV.d (Dat.int _)) _ _); exact CO.eq)
  | ((with_reducible show CO _ _ _ CmpOp.Eq (LV.d (Dat.str _)) _ _); exact CO.eqS)
  | ((with_reducible show CO _ _ _ CmpOp.NotEq (LV.d (Dat.int _)) _ _); exact CO.ne)
  | ((with_reducible show CO _ _ _ CmpOp.Is (LV.d Dat.none) _ _); exact CO.isNone)
  | ((with_reducible show CO _ _ _ CmpOp.Is (LV.d (Dat.bool _)) _ _); exact CO.isB)
  | ((with_reducible show CO _ _ _ CmpOp.Is _ (LV.d Dat.none) _); exact CO.isNotNone (by simp))
  | ((with_reducible show CO _ _ _ CmpOp.IsNot (LV.d (Dat.bool _)) _ _); exact CO.isNotB)
  | ((with_reducible show SU _ _ _ _ _ (LV.d (Dat.tuple _)) _ _ _); first | exact SU.tup (i := 0) rfl rfl (by decide) | exact SU.tup (i := 1) rfl rfl (by decide) | exact SU.tup (i := 2) rfl rfl (by decide) | exact SU.tupN (i := 0) rfl rfl (by decide) (by decide))
  | ((with_reducible show SU _ _ _ _ _ (LV.d (Dat.list _)) _ _ _); first | exact SU.lst (i := 0) rfl rfl (by decide) | exact SU.lst (i := 1) rfl rfl (by decide) | exact SU.lst (i := 2) rfl rfl (by decide)))
/- kxs_still: an expression; kas_types: arguments; kpc_turns: a test -/
set_option hygiene false in
local macro_rules | `(tactic| kxs_still) => `(tactic| first
  | assumption
  | ((with_reducible show EV _ _ _ _ _ (Expr.Constant _ _ _) _ _); first | exact EV.kInt | exact EV.kStr | exact EV.kNone | exact EV.kBool)
  | ((with_reducible show EV _ _ _ _ _ (Expr.Name _ _) _ _); first | exact EV.loc (by rfl) (by rfl) | exact EV.cell (by rfl) (by rfl) (by lcg_sub) | exact EV.free (by rfl) (by rfl) (by lcg_sub) | exact EV.glob (by rw [hK]; k_is) | exact EV.built (by rw [hK]; k_is) (by rfl))
  | ((with_reducible show EV _ _ _ _ _ (Expr.UnaryOp UnaryOp.USub _ _) _ _); exact EV.neg (by kxs_still))
  | ((with_reducible show EV _ _ _ _ _ (Expr.BinOp _ _ _ _) _ _); exact EV.bin (by kxs_still) (by kxs_still) (by keq_rows))
  | ((with_reducible show EV _ _ _ _ _ (Expr.Compare _ _ _ _) _ _); exact EV.cmp (by kxs_still) (by kxs_still) (by keq_rows))
  | ((with_reducible show EV _ _ _ _ _ (Expr.Subscript _ _ _) _ _); exact EV.item (by kxs_still) (by kxs_still) (by keq_rows))
  | ((with_reducible show EV _ _ _ _ _ (Expr.Tuple _ _ _) _ _); exact EV.tup (by kas_types) (by repeat constructor))
  | ((with_reducible show EV _ _ _ _ _ (Expr.List _ _) _ _); exact EV.lst (by kas_types) (by repeat constructor))
  | ((with_reducible show EV _ _ _ _ _ (Expr.Attribute _ _ _) _ _); exact EV.attr (by kxs_still) (by lcg_sub) (by lcg_sub) (by rfl) (by rw [hK]; k_is) (by rw [hK]; k_is) (by rw [hK]; k_is) (by rw [hK]; k_is) (by intro w h; cases h <;> rfl))
  | ((with_reducible show EV _ _ _ _ _ (Expr.Call (Expr.Name _ _) (_ :: _) _ _) _ _); first
    | exact EV.callB (by kxs_still) (by kas_types) (by kbo_bools)
    | exact EV.callT (by kxs_still) (by kas_types) (by kbo_bools)
    | exact EV.callK (by kxs_still) (by rw [hK]; k_is) (by kas_types) (by kbo_bools)))
set_option hygiene false in
local macro_rules | `(tactic| kas_types) => `(tactic| first
  | exact AR.nil
  | exact AR.cons (by kxs_still) (by kas_types))
set_option hygiene false in
local macro_rules | `(tactic| kpc_turns) => `(tactic| first
  | ((with_reducible show TV _ _ _ _ _ (Expr.UnaryOp _ _ _) _ _); exact TV.not (by kpc_turns))
  | ((with_reducible show TV _ _ _ _ _ (Expr.Compare _ _ _ _) _ _); exact TV.cmp (by kxs_still) (by kxs_still) (by keq_rows))
  | exact TV.val (by kxs_still))
/- kbo_bools: a call -/
set_option hygiene false in
local macro_rules | `(tactic| kbo_bools) => `(tactic| first
  | assumption
  | ((with_reducible show CL _ _ _ (Value.builtin "len") [LV.d (Dat.list _)] _ _); exact CL.lenL (by first | (simp; done) | (simp; omega)))
  | ((with_reducible show CL _ _ _ (Value.builtin "len") [LV.d (Dat.tuple _)] _ _); exact CL.lenT (by first | (simp; done) | (simp; omega)))
  | ((with_reducible show CL _ _ _ (Value.builtin "min") [_, _] _ _); exact CL.min2 (hB _).hh)
  | ((with_reducible show CL _ _ _ (Value.builtin "max") [_, _] _ _); exact CL.max2 (hB _).hh)
  | ((with_reducible show CL _ _ _ (Value.type "range") [_] _ _); exact CL.range1)
  | ((with_reducible show CL _ _ _ (Value.type "range") [_, _] _ _); exact CL.range2)
  | ((with_reducible show CL _ _ _ (Value.type "tuple") [LV.d (Dat.tuple _)] _ _); exact CL.tupT))
/- keq_hits: targets in order -/
local macro_rules | `(tactic| keq_hits) => `(tactic| first
  | exact AO'.nil
  | exact AO'.loc (by rfl) (by keq_hits)
  | exact AO'.cell (by rfl) (by lcg_sub) (by rfl) (by keq_hits))
section
variable {P : Setup} {A : Around} {M : ME}
theorem least_ok (hK : P.K = hd.heap_1 P.w.params) (hA : Ok A 1) {a : Int} {r ds : List Dat} : CL P A M (.ref 57) [.d (.tuple (.tuple (.int a :: r) :: ds))] (.d (.int a)) M := by
  refine CL.fn1 (p1 := Str.ofString "d") (ρ' := [(Str.ofString "d", _)]) (cl := fun _ => []) hA (by rw [hK]; k_is) (by rw [hK]; k_is) (fun _ => by rfl) (by rfl) (by decide) (fun t1 => LocOk.cons (by rfl) t1 .nil) (fun L' t1 => .nil) ?_
  intro L L' oL τ s Q F k
  refine S_ret F (by kxs_still) fun v s' F' => k _ _ _ F'
theorem greatest_ok (hK : P.K = hd.heap_1 P.w.params) (hA : Ok A 1) {a b : Int} : CL P A M (.ref 64) [.d (.tuple [.tuple [.int a, .int b]])] (.d (.int b)) M := by
  refine CL.fn1 (p1 := Str.ofString "d") (ρ' := [(Str.ofString "d", _)]) (cl := fun _ => []) hA (by rw [hK]; k_is) (by rw [hK]; k_is) (fun _ => by rfl) (by rfl) (by decide) (fun t1 => LocOk.cons (by rfl) t1 .nil) (fun L' t1 => .nil) ?_
  intro L L' oL τ s Q F k
  refine S_ret F (by kxs_still) fun v s' F' => k _ _ _ F'
end

abbrev Dom (lo hi : Int) : Dat := .tuple [.tuple [.int lo, .int hi]]
abbrev Lit (x : Int) (sg : Str) (k : Int) : Dat := .tuple [.int x, .str sg, .int k]
abbrev GE : Str := Str.ofString ">="
abbrev LEs : Str := Str.ofString "<="
section
variable {P : Setup} {A : Around} {M : ME}
theorem up_to_ok (hK : P.K = hd.heap_1 P.w.params) (hA : Ok A 2) {lo hi b : Int} : CL P A M (.ref 83) [.d (Dom lo hi), .d (.int b)] (.d (if lo ≤ b then Dom lo (if b < hi then b else hi) else .tuple [])) M := by
  refine CL.fn2 (p1 := Str.ofString "d") (p2 := Str.ofString "k") (ρ' := [(Str.ofString "d", _)]) (cl := fun L' => [(L' + 1, .cell (some (.d (.int b))))]) hA (by rw [hK]; k_is) (by rw [hK]; k_is) (fun _ _ => by rfl) (by rfl) (by decide) (fun t1 _ => LocOk.cons (by rfl) t1 .nil) (fun L' _ t2 => by exact .some (by rfl) t2 .nil) ?_
  intro L L' oL τ s Q F k
  dsimp only [List.nil_append, List.cons_append] at F
  have hB := fun e => hA.deeper e
  refine S_ret F (EV.to (EV.callT (by kxs_still) (AR.cons (EV.comp0 (ds := [.tuple [.int lo, .int hi]]) (Ms := fun _ => _) (c := fun _ => decide (lo ≤ b)) (f := fun _ => .tuple [.int lo, .int (if b < hi then b else hi)]) (hB _).hh (by rfl) (by kxs_still) (it_tuple _) (by simp) (fun _ _ => by rfl) ?_) AR.nil) (CL.tupL (by simp [List.filter]; split <;> simp))) ?_) fun v s' F' => k _ _ _ F'.drop
  · intro i d hd L'' oL' acc it ψ X
    obtain rfl : d = .tuple [.int lo, .int hi] := by cases i <;> simp_all
    exact TURN.of (TG.tup2 (hB _).hh (by rfl) (by rfl)) (TS.one (by kpc_turns)) (fun _ => EV.tup (AR.cons (by kxs_still) (AR.cons (EV.callB (by kxs_still) (by kas_types) (CL.min2 (hB _).hh)) AR.nil)) (by repeat constructor)) (fun _ => rfl)
  · by_cases h : lo ≤ b
    · simp [h, Dom]
    · simp [h]
theorem from_on_ok (hK : P.K = hd.heap_1 P.w.params) (hA : Ok A 2) {lo hi b : Int} : CL P A M (.ref 88) [.d (Dom lo hi), .d (.int b)] (.d (if b ≤ hi then Dom (if b > lo then b else lo) hi else .tuple [])) M := by
  refine CL.fn2 (p1 := Str.ofString "d") (p2 := Str.ofString "k") (ρ' := [(Str.ofString "d", _)]) (cl := fun L' => [(L' + 1, .cell (some (.d (.int b))))]) hA (by rw [hK]; k_is) (by rw [hK]; k_is) (fun _ _ => by rfl) (by rfl) (by decide) (fun t1 _ => LocOk.cons (by rfl) t1 .nil) (fun L' _ t2 => by exact .some (by rfl) t2 .nil) ?_
  intro L L' oL τ s Q F k
  dsimp only [List.nil_append, List.cons_append] at F
  have hB := fun e => hA.deeper e
  refine S_ret F (EV.to (EV.callT (by kxs_still) (AR.cons (EV.comp0 (ds := [.tuple [.int lo, .int hi]]) (Ms := fun _ => _) (c := fun _ => decide (b ≤ hi)) (f := fun _ => .tuple [.int (if b > lo then b else lo), .int hi]) (hB _).hh (by rfl) (by kxs_still) (it_tuple _) (by simp) (fun _ _ => by rfl) ?_) AR.nil) (CL.tupL (by simp [List.filter]; split <;> simp))) ?_) fun v s' F' => k _ _ _ F'.drop
  · intro i d hd L'' oL' acc it ψ X
    obtain rfl : d = .tuple [.int lo, .int hi] := by cases i <;> simp_all
    exact TURN.of (TG.tup2 (hB _).hh (by rfl) (by rfl)) (TS.one (by kpc_turns)) (fun _ => EV.tup (AR.cons (EV.callB (by kxs_still) (by kas_types) (CL.max2 (hB _).hh)) (AR.cons (by kxs_still) AR.nil)) (by repeat constructor)) (fun _ => rfl)
  · by_cases h : b ≤ hi
    · simp [h, Dom]
    · simp [h]
end

section
variable {P : Setup} {A : Around} {M : ME}
theorem S_ifT {env : Env} {ρ : LE} {M₁ : ME} {τ : TE} {s : Shared} {e : Expr} {pos : Pos} {body orelse rest : List Stmt} {Q : Flow → Shared → Prop} {E : Value → Shared → Prop} (F : FS P.s₀ env.locals ρ M τ s) (h1 : TV P A env ρ M e true M₁)
    (k1 : ∀ s', FS P.s₀ env.locals ρ M₁ τ s' → wpAny (model P.prog P.w) A (execs body env) (fun f s' => match f with | .next => wpAny (model P.prog P.w) A (execs rest env) Q E s' | f => Q f s') E s') : wpAny (model P.prog P.w) A (execs (.If e body orelse pos :: rest) env) Q E s :=
  S_if F h1 (fun _ => k1) fun h => nomatch h
theorem S_ifF {env : Env} {ρ : LE} {M₁ : ME} {τ : TE} {s : Shared} {e : Expr} {pos : Pos} {body rest : List Stmt} {Q : Flow → Shared → Prop} {E : Value → Shared → Prop} (F : FS P.s₀ env.locals ρ M τ s) (h1 : TV P A env ρ M e false M₁)
    (k1 : ∀ s', FS P.s₀ env.locals ρ M₁ τ s' → wpAny (model P.prog P.w) A (execs rest env) Q E s') : wpAny (model P.prog P.w) A (execs (.If e body [] pos :: rest) env) Q E s :=
  S_if F h1 (fun h => nomatch h) fun _ s' F' => S_nil (k1 s' F')
theorem negation_le (hK : P.K = hd.heap_1 P.w.params) (hA : Ok A 1) {x b : Int} : CL P A M (.ref 109) [.d (Lit x LEs b)] (.d (Lit x GE (b + 1))) M := by
  refine CL.fn1 (p1 := Str.ofString "literal") (ρ' := [(Str.ofString "literal", _)]) (cl := fun _ => []) hA (by rw [hK]; k_is) (by rw [hK]; k_is) (fun _ => by rfl) (by rfl) (by decide) (fun t1 => LocOk.cons (by rfl) t1 .nil) (fun L' t1 => .nil) ?_
  intro L L' oL τ s Q F k
  have hB := fun e => hA.deeper e
  refine S_unp (hB _).hh F (by kxs_still) (by rfl) (by rfl) (by keq_hits) fun s F => ?_
  refine S_ifT F (TV.to (by kpc_turns) (by decide)) fun s F => ?_
  exact S_ret F (by kxs_still) fun v s' F' => k _ _ _ F'
theorem negation_ge (hK : P.K = hd.heap_1 P.w.params) (hA : Ok A 1) {x b : Int} : CL P A M (.ref 109) [.d (Lit x GE b)] (.d (Lit x LEs (b - 1))) M := by
  refine CL.fn1 (p1 := Str.ofString "literal") (ρ' := [(Str.ofString "literal", _)]) (cl := fun _ => []) hA (by rw [hK]; k_is) (by rw [hK]; k_is) (fun _ => by rfl) (by rfl) (by decide) (fun t1 => LocOk.cons (by rfl) t1 .nil) (fun L' t1 => .nil) ?_
  intro L L' oL τ s Q F k
  have hB := fun e => hA.deeper e
  refine S_unp (hB _).hh F (by kxs_still) (by rfl) (by rfl) (by keq_hits) fun s F => ?_
  refine S_ifF F (TV.to (by kpc_turns) (by decide)) fun s F => ?_
  refine S_ifT F (TV.to (by kpc_turns) (by decide)) fun s F => ?_
  exact S_ret F (by kxs_still) fun v s' F' => k _ _ _ F'
theorem struck_le (hK : P.K = hd.heap_1 P.w.params) (hA : Ok A 3) {x b lo hi : Int} : CL P A M (.ref 116) [.d (Lit x LEs b), .d (Dom lo hi)] (.d (if lo ≤ b then Dom lo (if b < hi then b else hi) else .tuple [])) M := by
  refine CL.fn2 (p1 := Str.ofString "literal") (p2 := Str.ofString "d") (ρ' := [(Str.ofString "literal", _), (Str.ofString "d", _)]) (cl := fun _ => []) hA (by rw [hK]; k_is) (by rw [hK]; k_is) (fun _ _ => by rfl) (by rfl) (by decide) (fun t1 t2 => LocOk.cons (by rfl) t1 (LocOk.cons (by rfl) t2 .nil)) (fun L' t1 t2 => .nil) ?_
  intro L L' oL τ s Q F k
  have hB := fun e => hA.deeper e
  refine S_swp (names := [Str.ofString "sign", Str.ofString "k"]) (hB _).hh F (by kxs_still) (by rfl) (by exact AO'.bind (by rfl) (by exact AO'.bind (by rfl) (by exact AO'.nil))) fun s F => ?_
  refine S_ifT F (TV.to (by kpc_turns) (by decide)) fun s F => ?_
  exact S_ret F (EV.callK (by kxs_still) (by rw [hK]; k_is) (by kas_types) (up_to_ok hK (hB _))) fun v s' F' => k _ _ _ F'
theorem struck_ge (hK : P.K = hd.heap_1 P.w.params) (hA : Ok A 3) {x b lo hi : Int} : CL P A M (.ref 116) [.d (Lit x GE b), .d (Dom lo hi)] (.d (if b ≤ hi then Dom (if b > lo then b else lo) hi else .tuple [])) M := by
  refine CL.fn2 (p1 := Str.ofString "literal") (p2 := Str.ofString "d") (ρ' := [(Str.ofString "literal", _), (Str.ofString "d", _)]) (cl := fun _ => []) hA (by rw [hK]; k_is) (by rw [hK]; k_is) (fun _ _ => by rfl) (by rfl) (by decide) (fun t1 t2 => LocOk.cons (by rfl) t1 (LocOk.cons (by rfl) t2 .nil)) (fun L' t1 t2 => .nil) ?_
  intro L L' oL τ s Q F k
  have hB := fun e => hA.deeper e
  refine S_swp (names := [Str.ofString "sign", Str.ofString "k"]) (hB _).hh F (by kxs_still) (by rfl) (by exact AO'.bind (by rfl) (by exact AO'.bind (by rfl) (by exact AO'.nil))) fun s F => ?_
  refine S_ifF F (TV.to (by kpc_turns) (by decide)) fun s F => ?_
  refine S_ifT F (TV.to (by kpc_turns) (by decide)) fun s F => ?_
  exact S_ret F (EV.callK (by kxs_still) (by rw [hK]; k_is) (by kas_types) (from_on_ok hK (hB _))) fun v s' F' => k _ _ _ F'
end

structure StA where
  (st dx D Fi T Mk N : Addr)
structure StV where
  (doms firsts trail marks : List Dat)
  (nn : Nat)
  (fail : Bool)
  (clash : Dat)
def isNews (P : Setup) (n : Nat) (o : Obj) : Prop := ∃ kvs, o.IsDictOf (intKind P.prog P.w) kvs ∧ kvs.length ≤ n
abbrev SB (P : Setup) (a : StA) (v : StV) (rest : ME) : ME := (a.st, .inst 273 a.dx) :: (a.dx, .dict [(Str.ofString "domains", .r (.ref a.D)), (Str.ofString "firsts", .r (.ref a.Fi)), (Str.ofString "trail", .r (.ref a.T)), (Str.ofString "marks", .r (.ref a.Mk)), (Str.ofString "news", .r (.ref a.N)), (Str.ofString "speaker", .d (.int (-1))), (Str.ofString "is_failed", .d (.bool v.fail)), (Str.ofString "clash", .d v.clash)]) :: (a.D, .list (v.doms.map .d)) :: (a.Fi, .list (v.firsts.map .d)) :: (a.T, .list (v.trail.map .d)) :: (a.Mk, .list (v.marks.map .d)) :: (a.N, .own (isNews P v.nn)) :: rest
section
variable {P : Setup} {A : Around} {M pre rest : ME} {a : StA} {v : StV}
theorem map_get' {ds : List Dat} {i : Nat} {d : Dat} (h : ds[i]? = some d) : (ds.map LV.d)[i]? = some (.d d) := by rw [List.getElem?_map, h]; rfl
theorem low_ok (hK : P.K = hd.heap_1 P.w.params) (hA : Ok A 2) {x : Nat} {lo hi : Int} (hx : v.doms[x]? = some (Dom lo hi)) (hz : x < 1000) : CL P A (pre ++ SB P a v rest) (.ref 172) [.r (.ref a.st), .d (.int x)] (.d (.int lo)) (pre ++ SB P a v rest) := by
  refine CL.fn2 (p1 := Str.ofString "self") (p2 := Str.ofString "x") (ρ' := [(Str.ofString "self", _), (Str.ofString "x", _)]) (cl := fun _ => []) hA (by rw [hK]; k_is) (by rw [hK]; k_is) (fun _ _ => by rfl) (by rfl) (by decide) (fun t1 t2 => LocOk.cons (by rfl) t1 (LocOk.cons (by rfl) t2 .nil)) (fun L' t1 t2 => .nil) ?_
  intro L L' oL τ s Q F k
  dsimp only [List.nil_append, List.cons_append] at F
  have hB := fun e => hA.deeper e
  have hI := map_get' hx
  exact S_ret F (EV.callK (by kxs_still) (by rw [hK]; k_is) (AR.cons (EV.item (by kxs_still) (by kxs_still) (SU.ml (by lcg_sub) hI rfl (by omega))) AR.nil) (least_ok hK (hB _))) fun v s' F' => k _ _ _ F'
theorem high_ok (hK : P.K = hd.heap_1 P.w.params) (hA : Ok A 2) {x : Nat} {lo hi : Int} (hx : v.doms[x]? = some (Dom lo hi)) (hz : x < 1000) : CL P A (pre ++ SB P a v rest) (.ref 179) [.r (.ref a.st), .d (.int x)] (.d (.int hi)) (pre ++ SB P a v rest) := by
  refine CL.fn2 (p1 := Str.ofString "self") (p2 := Str.ofString "x") (ρ' := [(Str.ofString "self", _), (Str.ofString "x", _)]) (cl := fun _ => []) hA (by rw [hK]; k_is) (by rw [hK]; k_is) (fun _ _ => by rfl) (by rfl) (by decide) (fun t1 t2 => LocOk.cons (by rfl) t1 (LocOk.cons (by rfl) t2 .nil)) (fun L' t1 t2 => .nil) ?_
  intro L L' oL τ s Q F k
  dsimp only [List.nil_append, List.cons_append] at F
  have hB := fun e => hA.deeper e
  have hI := map_get' hx
  exact S_ret F (EV.callK (by kxs_still) (by rw [hK]; k_is) (AR.cons (EV.item (by kxs_still) (by kxs_still) (SU.ml (by lcg_sub) hI rfl (by omega))) AR.nil) (greatest_ok hK (hB _))) fun v s' F' => k _ _ _ F'
theorem dom_ok (hK : P.K = hd.heap_1 P.w.params) (hA : Ok A 1) {x : Nat} {d : Dat} (hx : v.doms[x]? = some d) (hz : x < 1000) : CL P A (pre ++ SB P a v rest) (.ref 158) [.r (.ref a.st), .d (.int x)] (.d d) (pre ++ SB P a v rest) := by
  refine CL.fn2 (p1 := Str.ofString "self") (p2 := Str.ofString "x") (ρ' := [(Str.ofString "self", _), (Str.ofString "x", _)]) (cl := fun _ => []) hA (by rw [hK]; k_is) (by rw [hK]; k_is) (fun _ _ => by rfl) (by rfl) (by decide) (fun t1 t2 => LocOk.cons (by rfl) t1 (LocOk.cons (by rfl) t2 .nil)) (fun L' t1 t2 => .nil) ?_
  intro L L' oL τ s Q F k
  dsimp only [List.nil_append, List.cons_append] at F
  have hB := fun e => hA.deeper e
  have hI := map_get' hx
  exact S_ret F (EV.item (by kxs_still) (by kxs_still) (SU.ml (by lcg_sub) hI rfl (by omega))) fun v s' F' => k _ _ _ F'
theorem s_news {L : Addr} {ρ : LE} {M : ME} {τ : TE} {s : Shared} {Q : Unit → Shared → Prop} {E : Value → Shared → Prop} {n j : Nat} {N : Addr} {u w : Value} {x : Int} (F : FS P.s₀ L ρ M τ s) (m1 : M[j]? = some (N, .own (isNews P n))) (hu : (u, LV.d (.int x)) ∈ τ) (hn : n ≤ 1000)
    (h : ∀ s', FS P.s₀ L ρ (M.set j (N, .own (isNews P (n + 1)))) τ s' → Q () s') : wpAny (model P.prog P.w) A (setItem (.ref N) u w) Q E s := by
  obtain ⟨t, rfl⟩ := F.int hu
  obtain ⟨V, O, m, f⟩ := F
  obtain ⟨o, e0, ⟨kvs, hd, hl⟩, hg, _⟩ := f.getM m1
  refine wpAny_setItem_pairs (knd := intKind P.prog P.w) (k := x) (kvs := kvs) (by simp [intKind, Value.isInt]) (Heap.dictOf_iff.mpr ⟨o, hg, hd⟩) (fun h' hm hs => ?_) (by rw [sizeLine_eq]; omega)
  obtain ⟨o', ho', hd'⟩ := Heap.dictOf_iff.mp hm
  exact h _ ⟨V, _, m, f.setM (tk := s.toks + 1) m1 hs ho' ⟨_, hd', Nat.le_trans (stored_length_le _ _ _) (by omega)⟩⟩
theorem S_news {env : Env} {ρ : LE} {M M₁ : ME} {τ : TE} {s : Shared} {e e₁ e₂ : Expr} {pos ip : Pos} {rest : List Stmt} {Q : Flow → Shared → Prop} {E : Value → Shared → Prop} {n j : Nat} {N : Addr} {x : Int} {lv : LV} (F : FS P.s₀ env.locals ρ M τ s) (h1 : EV P A env ρ M e lv M₁) (h2 : EV P A env ρ M₁ e₁ (.r (.ref N)) M₁) (h3 : EV P A env ρ M₁ e₂ (.d (.int x)) M₁) (m1 : M₁[j]? = some (N, .own (isNews P n))) (hn : n ≤ 1000)
    (k : ∀ s', FS P.s₀ env.locals ρ (M₁.set j (N, .own (isNews P (n + 1)))) τ s' → wpAny (model P.prog P.w) A (execs rest env) Q E s')
    (hs : swapsWith e (some (.Subscript e₁ e₂ ip)) pos.line env = pure false := by rfl) : wpAny (model P.prog P.w) A (execs (.Assign [.Subscript e₁ e₂ ip] e pos :: rest) env) Q E s :=
  wpAny_execs_cons (wpAny_Assign_Subscript (h1.go F fun v s₁ F₁ => h2.go F₁ fun ov s₂ F₂ => h3.go F₂ fun iv s₃ F₃ => by
    obtain rfl := F₃.rval (.tail _ (.head _))
    exact s_news F₃ m1 (.head _) hn fun s' F' => k _ (F'.sub (sub_tail (sub_tail (sub_tail sub_refl))))) hs)
theorem fail_ok (hK : P.K = hd.heap_1 P.w.params) (hA : Ok A 1) {d : LV} {ds : List Dat} (ht : ∀ A M, CL P A M (.type "tuple") [d] (.d (.tuple ds)) M) : CL P A (pre ++ SB P a v rest) (.ref 242) [.r (.ref a.st), d] (.d (.bool false)) (pre ++ SB P a { v with fail := true, clash := .tuple ds } rest) := by
  refine CL.fn2 (p1 := Str.ofString "self") (p2 := Str.ofString "reasons") (ρ' := [(Str.ofString "self", _), (Str.ofString "reasons", _)]) (cl := fun _ => []) hA (by rw [hK]; k_is) (by rw [hK]; k_is) (fun _ _ => by rfl) (by rfl) (by decide) (fun t1 t2 => LocOk.cons (by rfl) t1 (LocOk.cons (by rfl) t2 .nil)) (fun L' t1 t2 => .nil) ?_
  intro L L' oL τ s Q F k
  dsimp only [List.nil_append, List.cons_append] at F
  have hB := fun e => hA.deeper e
  refine S_attr F (by kxs_still) (by kxs_still) (by lcg_sub) (by lcg_sub) (by rw [hK]; k_is) (by rw [hK]; k_is) (by rw [hK]; k_is) (by rw [hK]; k_is) (by simp) fun s F => ?_
  replace F := F.mcast (M' := (L, .raw oL) :: (pre ++ SB P a { v with fail := true } rest)) (by simp only [List.set_cons_succ, set_pre]; rfl)
  refine S_attr F (EV.callT (by kxs_still) (by kas_types) (ht _ _)) (by kxs_still) (by lcg_sub) (by lcg_sub) (by rw [hK]; k_is) (by rw [hK]; k_is) (by rw [hK]; k_is) (by rw [hK]; k_is) (by simp) fun s F => ?_
  replace F := F.mcast (M' := (L, .raw oL) :: (pre ++ SB P a { v with fail := true, clash := .tuple ds } rest)) (by simp only [List.set_cons_succ, set_pre]; rfl)
  exact S_ret F (by kxs_still) fun v s' F' => k _ _ _ F'
theorem enter_fail (hK : P.K = hd.heap_1 P.w.params) (hA : Ok A 4) {x : Nat} {sg : Str} {b lo hi sp : Int} {neg : Dat} {rs : List Dat} (hx : v.doms[x]? = some (Dom lo hi)) (hz : x < 1000) (hr : rs ≠ []) (hl : rs.length ≤ 1000)
    (hst : ∀ A M, Ok A 3 → CL P A M (.ref 116) [.d (Lit x sg b), .d (Dom lo hi)] (.d (.tuple [])) M) (hneg : ∀ A M, Ok A 1 → CL P A M (.ref 109) [.d (Lit x sg b)] (.d neg) M) :
    CL P A (pre ++ SB P a v rest) (.ref 221) [.r (.ref a.st), .d (Lit x sg b), .d (.tuple rs), .d (.int sp)] (.d (.bool false)) (pre ++ SB P a { v with fail := true, clash := .tuple (rs ++ [neg]) } rest) := by
  refine CL.fn4 (p1 := Str.ofString "self") (p2 := Str.ofString "literal") (p3 := Str.ofString "reasons") (p4 := Str.ofString "speaker") (ρ' := [(Str.ofString "self", _), (Str.ofString "literal", _), (Str.ofString "reasons", _), (Str.ofString "speaker", _)]) (cl := fun _ => []) hA (by rw [hK]; k_is) (by rw [hK]; k_is) (fun _ _ _ _ => by rfl) (by rfl) (by decide) (fun t1 t2 t3 t4 => LocOk.cons (by rfl) t1 (LocOk.cons (by rfl) t2 (LocOk.cons (by rfl) t3 (LocOk.cons (by rfl) t4 .nil)))) (fun L' t1 t2 t3 t4 => .nil) ?_
  intro L L' oL τ s Q F k
  dsimp only [List.nil_append, List.cons_append] at F
  have hB := fun e => hA.deeper e
  have hI := map_get' hx
  refine S_asg F (by kxs_still) (by rfl) fun s F => ?_
  refine S_asg F (EV.item (by kxs_still) (by kxs_still) (SU.ml (by lcg_sub) hI rfl (by omega))) (by rfl) fun s F => ?_
  refine S_asg F (EV.callK (by kxs_still) (by rw [hK]; k_is) (by kas_types) (hst _ _ (hB _))) (by rfl) fun s F => ?_
  refine S_ifT F (TV.cmp (by kxs_still) (by kxs_still) (CO.eqD (c := true) (hB _).uu (by rfl) (by rfl) (by simp))) fun s F => ?_
  exact S_ret F (EV.meth (by kxs_still) (by lcg_sub) (by lcg_sub) (by rfl) (by rw [hK]; k_is) (by rw [hK]; k_is) (by rw [hK]; k_is) (by rw [hK]; k_is)
    (AR.cons (EV.bin (EV.ife (b := false) (TV.cmp (by kxs_still) (by kxs_still) (CO.isNotNone (by simp))) (fun h => nomatch h) (fun _ => by kxs_still)) (EV.tup (AR.cons (EV.callK (by kxs_still) (by rw [hK]; k_is) (by kas_types) (hneg _ _ ((hB _).le (by decide)))) AR.nil) (by repeat constructor)) (BO.catT hr (by simp) (by simp; omega))) AR.nil) (fail_ok (pre := (L, .raw oL) :: pre) (a := a) (v := v) (rest := rest) (ds := rs ++ [neg]) hK ((hB _).le (by decide)) fun _ _ => CL.tupT)) fun v s' F' => k _ _ _ F'
theorem enter_same (hK : P.K = hd.heap_1 P.w.params) (hA : Ok A 4) {x : Nat} {sg : Str} {b lo hi sp : Int} {rs : Dat} (hx : v.doms[x]? = some (Dom lo hi)) (hz : x < 1000)
    (hst : ∀ A M, Ok A 3 → CL P A M (.ref 116) [.d (Lit x sg b), .d (Dom lo hi)] (.d (Dom lo hi)) M) :
    CL P A (pre ++ SB P a v rest) (.ref 221) [.r (.ref a.st), .d (Lit x sg b), .d rs, .d (.int sp)] (.d (.bool true)) (pre ++ SB P a v rest) := by
  refine CL.fn4 (p1 := Str.ofString "self") (p2 := Str.ofString "literal") (p3 := Str.ofString "reasons") (p4 := Str.ofString "speaker") (ρ' := [(Str.ofString "self", _), (Str.ofString "literal", _), (Str.ofString "reasons", _), (Str.ofString "speaker", _)]) (cl := fun _ => []) hA (by rw [hK]; k_is) (by rw [hK]; k_is) (fun _ _ _ _ => by rfl) (by rfl) (by decide) (fun t1 t2 t3 t4 => LocOk.cons (by rfl) t1 (LocOk.cons (by rfl) t2 (LocOk.cons (by rfl) t3 (LocOk.cons (by rfl) t4 .nil)))) (fun L' t1 t2 t3 t4 => .nil) ?_
  intro L L' oL τ s Q F k
  dsimp only [List.nil_append, List.cons_append] at F
  have hB := fun e => hA.deeper e
  have hI := map_get' hx
  refine S_asg F (by kxs_still) (by rfl) fun s F => ?_
  refine S_asg F (EV.item (by kxs_still) (by kxs_still) (SU.ml (by lcg_sub) hI rfl (by omega))) (by rfl) fun s F => ?_
  refine S_asg F (EV.callK (by kxs_still) (by rw [hK]; k_is) (by kas_types) (hst _ _ (hB _))) (by rfl) fun s F => ?_
  refine S_ifF F (TV.cmp (by kxs_still) (by kxs_still) (CO.eqD (c := false) (hB _).uu (by rfl) (by rfl) (by simp))) fun s F => ?_
  refine S_ifT F (TV.cmp (by kxs_still) (by kxs_still) (CO.eqD (c := true) (hB _).uu (by rfl) (by rfl) (by simp))) fun s F => ?_
  exact S_ret F (by kxs_still) fun v s' F' => k _ _ _ F'
theorem enter_new (hK : P.K = hd.heap_1 P.w.params) (hA : Ok A 4) {x : Nat} {sg : Str} {b lo hi sp lo' hi' : Int} {rs : Dat} (hx : v.doms[x]? = some (Dom lo hi)) (hz : x < 1000) (hne : ¬ (lo' = lo ∧ hi' = hi)) (hT : v.trail.length ≤ 1000) (hN : v.nn ≤ 1000) (hD : v.doms.length ≤ 1000)
    (hst : ∀ A M, Ok A 3 → CL P A M (.ref 116) [.d (Lit x sg b), .d (Dom lo hi)] (.d (Dom lo' hi')) M) :
    CL P A (pre ++ SB P a v rest) (.ref 221) [.r (.ref a.st), .d (Lit x sg b), .d rs, .d (.int sp)] (.d (.bool true)) (pre ++ SB P a { v with doms := v.doms.set x (Dom lo' hi'), trail := v.trail ++ [.tuple [.int x, Dom lo hi, Lit x sg b, rs, .int sp]], nn := v.nn + 1 } rest) := by
  refine CL.fn4 (p1 := Str.ofString "self") (p2 := Str.ofString "literal") (p3 := Str.ofString "reasons") (p4 := Str.ofString "speaker") (ρ' := [(Str.ofString "self", _), (Str.ofString "literal", _), (Str.ofString "reasons", _), (Str.ofString "speaker", _)]) (cl := fun _ => []) hA (by rw [hK]; k_is) (by rw [hK]; k_is) (fun _ _ _ _ => by rfl) (by rfl) (by decide) (fun t1 t2 t3 t4 => LocOk.cons (by rfl) t1 (LocOk.cons (by rfl) t2 (LocOk.cons (by rfl) t3 (LocOk.cons (by rfl) t4 .nil)))) (fun L' t1 t2 t3 t4 => .nil) ?_
  intro L L' oL τ s Q F k
  dsimp only [List.nil_append, List.cons_append] at F
  have hB := fun e => hA.deeper e
  have hI := map_get' hx
  refine S_asg F (by kxs_still) (by rfl) fun s F => ?_
  refine S_asg F (EV.item (by kxs_still) (by kxs_still) (SU.ml (by lcg_sub) hI rfl (by omega))) (by rfl) fun s F => ?_
  refine S_asg F (EV.callK (by kxs_still) (by rw [hK]; k_is) (by kas_types) (hst _ _ (hB _))) (by rfl) fun s F => ?_
  refine S_ifF F (TV.cmp (by kxs_still) (by kxs_still) (CO.eqD (c := false) (hB _).uu (by rfl) (by rfl) (by simp))) fun s F => ?_
  refine S_ifF F (TV.cmp (by kxs_still) (by kxs_still) (CO.eqD (c := false) (hB _).uu (by rfl) (by rfl) (by simpa using hne))) fun s F => ?_
  refine S_exp F (EV.append (by kxs_still) (by kxs_still) (by lcg_sub) (by lcg_sub) (by simp; omega)) fun s F => ?_
  replace F := F.mcast (M' := (L, .raw oL) :: (pre ++ SB P a { v with trail := v.trail ++ [.tuple [.int x, Dom lo hi, Lit x sg b, rs, .int sp]] } rest)) (by simp only [List.set_cons_succ, set_pre, SB, List.map_append]; rfl)
  refine S_item F (by kxs_still) (by kxs_still) (by kxs_still) (by lcg_sub) rfl (by have := (List.getElem?_eq_some_iff.mp hx).1; simpa using this) (by simp; omega) fun s F => ?_
  replace F := F.mcast (M' := (L, .raw oL) :: (pre ++ SB P a { v with doms := v.doms.set x (Dom lo' hi'), trail := v.trail ++ [.tuple [.int x, Dom lo hi, Lit x sg b, rs, .int sp]] } rest)) (by simp only [List.set_cons_succ, set_pre, SB, List.map_set]; rfl)
  refine S_news F (by kxs_still) (by kxs_still) (by kxs_still) (by lcg_sub) (by omega) fun s F => ?_
  replace F := F.mcast (M' := (L, .raw oL) :: (pre ++ SB P a { v with doms := v.doms.set x (Dom lo' hi'), trail := v.trail ++ [.tuple [.int x, Dom lo hi, Lit x sg b, rs, .int sp]], nn := v.nn + 1 } rest)) (by simp only [List.set_cons_succ, set_pre, SB]; rfl)
  exact S_ret F (by kxs_still) fun v s' F' => k _ _ _ F'
end

section
variable {P : Setup} {A : Around} {M pre rest : ME} {a : StA} {v v' : StV}
theorem strike_ok (hK : P.K = hd.heap_1 P.w.params) (hA : Ok A 5) {lit : Dat} {rs : List Dat} {r : Bool} (hl : rs.length ≤ 1000)
    (hE : ∀ A pre, Ok A 4 → CL P A (pre ++ SB P a v rest) (.ref 221) [.r (.ref a.st), .d lit, .d (.tuple rs), .d (.int (-1))] (.d (.bool r)) (pre ++ SB P a v' rest)) :
    CL P A (pre ++ SB P a v rest) (.ref 228) [.r (.ref a.st), .d lit, .d (.list rs)] (.d (.bool r)) (pre ++ SB P a v' rest) := by
  refine CL.fn3 (p1 := Str.ofString "self") (p2 := Str.ofString "literal") (p3 := Str.ofString "reasons") (ρ' := [(Str.ofString "self", _), (Str.ofString "literal", _), (Str.ofString "reasons", _)]) (cl := fun _ => []) hA (by rw [hK]; k_is) (by rw [hK]; k_is) (fun _ _ _ => by rfl) (by rfl) (by decide) (fun t1 t2 t3 => LocOk.cons (by rfl) t1 (LocOk.cons (by rfl) t2 (LocOk.cons (by rfl) t3 .nil))) (fun L' t1 t2 t3 => .nil) ?_
  intro L L' oL τ s Q F k
  dsimp only [List.nil_append, List.cons_append] at F
  have hB := fun e => hA.deeper e
  exact S_ret F (EV.meth (by kxs_still) (by lcg_sub) (by lcg_sub) (by rfl) (by rw [hK]; k_is) (by rw [hK]; k_is) (by rw [hK]; k_is) (by rw [hK]; k_is)
    (AR.cons (by kxs_still) (AR.cons (EV.callT (by kxs_still) (by kas_types) (CL.tupL (by omega))) (AR.cons (by kxs_still) AR.nil))) (hE _ ((L, .raw oL) :: pre) (hB _))) fun v s' F' => k _ _ _ F'
theorem decide_ok (hK : P.K = hd.heap_1 P.w.params) (hA : Ok A 5) {lit : Dat} {r : Bool}
    (hE : ∀ A pre, Ok A 4 → CL P A (pre ++ SB P a v rest) (.ref 221) [.r (.ref a.st), .d lit, .d .none, .d (.int (-1))] (.d (.bool r)) (pre ++ SB P a v' rest)) :
    CL P A (pre ++ SB P a v rest) (.ref 235) [.r (.ref a.st), .d lit] (.d (.bool r)) (pre ++ SB P a v' rest) := by
  refine CL.fn2 (p1 := Str.ofString "self") (p2 := Str.ofString "literal") (ρ' := [(Str.ofString "self", _), (Str.ofString "literal", _)]) (cl := fun _ => []) hA (by rw [hK]; k_is) (by rw [hK]; k_is) (fun _ _ => by rfl) (by rfl) (by decide) (fun t1 t2 => LocOk.cons (by rfl) t1 (LocOk.cons (by rfl) t2 .nil)) (fun L' t1 t2 => .nil) ?_
  intro L L' oL τ s Q F k
  dsimp only [List.nil_append, List.cons_append] at F
  have hB := fun e => hA.deeper e
  exact S_ret F (EV.meth (by kxs_still) (by lcg_sub) (by lcg_sub) (by rfl) (by rw [hK]; k_is) (by rw [hK]; k_is) (by rw [hK]; k_is) (by rw [hK]; k_is)
    (AR.cons (by kxs_still) (AR.cons (by kxs_still) (AR.cons (by kxs_still) AR.nil))) (hE _ ((L, .raw oL) :: pre) (hB _))) fun v s' F' => k _ _ _ F'
theorem retNone {env : Env} {ρ : LE} {τ : TE} {s : Shared} {Q : Value → Shared → Prop} {E : Value → Shared → Prop} (h : Q .none s) : wpAny (model P.prog P.w) A (execs [] env) (fun fl s' => Q (retOf fl) s') E s := S_nil h
theorem push_ok (hK : P.K = hd.heap_1 P.w.params) (hA : Ok A 1) (hT : v.trail.length ≤ 1000) (hM : v.marks.length ≤ 1000) : CL P A (pre ++ SB P a v rest) (.ref 249) [.r (.ref a.st)] (.d .none) (pre ++ SB P a { v with marks := v.marks ++ [.int v.trail.length] } rest) := by
  refine CL.fn1 (p1 := Str.ofString "self") (ρ' := [(Str.ofString "self", _)]) (cl := fun _ => []) hA (by rw [hK]; k_is) (by rw [hK]; k_is) (fun _ => by rfl) (by rfl) (by decide) (fun t1 => LocOk.cons (by rfl) t1 .nil) (fun L' t1 => .nil) ?_
  intro L L' oL τ s Q F k
  dsimp only [List.nil_append, List.cons_append] at F
  have hB := fun e => hA.deeper e
  refine S_exp F (EV.append (by kxs_still) (EV.callB (by kxs_still) (by kas_types) (CL.lenM (by lcg_sub) (by simp; omega))) (by lcg_sub) (by lcg_sub) (by simp; omega)) fun s F => ?_
  replace F := F.mcast (M' := (L, .raw oL) :: (pre ++ SB P a { v with marks := v.marks ++ [.int v.trail.length] } rest)) (by simp only [List.set_cons_succ, set_pre, SB, List.map_append, List.length_map]; rfl)
  exact S_nil (k _ _ _ (F.nn))
theorem new_var_ok (hK : P.K = hd.heap_1 P.w.params) (hA : Ok A 1) {lo hi : Int} (hD : v.doms.length ≤ 1000) (hF : v.firsts.length ≤ 1000) : CL P A (pre ++ SB P a v rest) (.ref 144) [.r (.ref a.st), .d (Dom lo hi)] (.d (.int v.doms.length)) (pre ++ SB P a { v with doms := v.doms ++ [Dom lo hi], firsts := v.firsts ++ [Dom lo hi] } rest) := by
  refine CL.fn2 (p1 := Str.ofString "self") (p2 := Str.ofString "domain") (ρ' := [(Str.ofString "self", _), (Str.ofString "domain", _)]) (cl := fun _ => []) hA (by rw [hK]; k_is) (by rw [hK]; k_is) (fun _ _ => by rfl) (by rfl) (by decide) (fun t1 t2 => LocOk.cons (by rfl) t1 (LocOk.cons (by rfl) t2 .nil)) (fun L' t1 t2 => .nil) ?_
  intro L L' oL τ s Q F k
  dsimp only [List.nil_append, List.cons_append] at F
  have hB := fun e => hA.deeper e
  refine S_exp F (EV.append (by kxs_still) (by kxs_still) (by lcg_sub) (by lcg_sub) (by simp; omega)) fun s F => ?_
  replace F := F.mcast (M' := (L, .raw oL) :: (pre ++ SB P a { v with doms := v.doms ++ [Dom lo hi] } rest)) (by simp only [List.set_cons_succ, set_pre, SB, List.map_append]; rfl)
  refine S_exp F (EV.append (by kxs_still) (by kxs_still) (by lcg_sub) (by lcg_sub) (by simp; omega)) fun s F => ?_
  replace F := F.mcast (M' := (L, .raw oL) :: (pre ++ SB P a { v with doms := v.doms ++ [Dom lo hi], firsts := v.firsts ++ [Dom lo hi] } rest)) (by simp only [List.set_cons_succ, set_pre, SB, List.map_append]; rfl)
  refine S_ifF F (TV.cmp (by kxs_still) (by kxs_still) (CO.eqD (c := false) (hB _).uu (by rfl) (by rfl) (by simp))) fun s F => ?_
  exact S_ret F (EV.to (EV.bin (EV.callB (by kxs_still) (by kas_types) (CL.lenM (by lcg_sub) (by simp; omega))) (by kxs_still) BO.sub) (by simp)) fun v s' F' => k _ _ _ F'

/- the tape -/
def tapeVal (cs : List Int) (spot : Nat) : Int := if spot < cs.length then cs.getD spot 0 else (12 * (spot : Int) * spot + 5 * spot + 4).fmod 103
theorem pull_ok (hK : P.K = hd.heap_1 P.w.params) (hA : Ok A 1) {tp : Addr} {j : Nat} {cs : List Int} {spot : Nat} {many : Int} (hj : M[j]? = some (tp, .list [.d (.list (cs.map .int)), .d (.int spot)])) (hs : spot ≤ 1000) (hm : many ≠ 0) (hc : cs.length ≤ 1000) :
    CL P A M (.ref 413) [.r (.ref tp), .d (.int many)] (.d (.int ((tapeVal cs spot).fmod many))) (M.set j (tp, .list [.d (.list (cs.map .int)), .d (.int ((spot + 1 : Nat) : Int))])) := by
  refine CL.fn2 (p1 := Str.ofString "tape") (p2 := Str.ofString "many") (ρ' := [(Str.ofString "tape", _), (Str.ofString "many", _)]) (cl := fun _ => []) hA (by rw [hK]; k_is) (by rw [hK]; k_is) (fun _ _ => by rfl) (by rfl) (by decide) (fun t1 t2 => LocOk.cons (by rfl) t1 (LocOk.cons (by rfl) t2 .nil)) (fun L' t1 t2 => .nil) ?_
  intro L L' oL τ s Q F k
  dsimp only [List.nil_append, List.cons_append] at F
  have hB := fun e => hA.deeper e
  refine S_unpM (hB _).hh F (by kxs_still) (at_tail hj) (by rfl) (by rfl) (by keq_hits) fun s F => ?_
  refine S_item F (by kxs_still) (by kxs_still) (by kxs_still) (at_tail hj) (i := 1) rfl (by simp) (by simp) fun s F => ?_
  replace F := F.mcast (M' := (L, .raw oL) :: M.set j (tp, .list [.d (.list (cs.map .int)), .d (.int ((spot + 1 : Nat) : Int))])) (by simp only [List.set_cons_succ]; rfl)
  refine S_ret F (EV.bin (EV.ife (lv := .d (.int (tapeVal cs spot))) (b := decide (spot < cs.length)) (TV.to (TV.cmp (by kxs_still) (by kxs_still) CO.lt) (by simp)) (fun h => by
    have h := of_decide_eq_true h
    have hi : (cs.map Dat.int)[spot]? = some (.int (tapeVal cs spot)) := by
      rw [List.getElem?_map, List.getElem?_eq_getElem h]
      simp [tapeVal, h]
    exact EV.item (by kxs_still) (by kxs_still) (by exact SU.lst (i := spot) hi rfl (by omega))) (fun h => by
    have h := of_decide_eq_false h
    exact EV.to (EV.bin (EV.bin (EV.bin (EV.bin (EV.bin (by kxs_still) (by kxs_still) (by exact BO.mul (.of_left (intBits_le_64 (by omega) (by omega))))) (by kxs_still) (by exact BO.mul (.of_left (intBits_le_64 (by omega) (by omega))))) (EV.bin (by kxs_still) (by kxs_still) (by exact BO.mul (.of_left (intBits_le_64 (by omega) (by omega))))) (by exact BO.add)) (by kxs_still) (by exact BO.add)) (by kxs_still) (by exact BO.mod (by decide))) (by simp [tapeVal, h]))) (by kxs_still) (BO.mod hm)) fun v s' F' => k _ _ _ F'
end

def nd (k : Nat) : Dat := .int (k : Int)
def natOf : Dat → Nat
  | .int i => i.toNat
  | _ => 0
theorem natOf_nd (k : Nat) : natOf (nd k) = k := by simp [natOf, nd]
abbrev lastOf (ls : List Int) (k : Nat) : Int := ls.getD k 0
def tasksN (ls : List Int) : List Nat := [0, 1, 2].filter fun k => decide (0 < lastOf ls k)
def withinN (lo hi : Nat → Int) (ls : List Int) (b e : Int) : List Nat := (tasksN ls).filter fun k => decide (b ≤ lo k) && decide (hi k + lastOf ls k ≤ e)
def reasonsD (ls : List Int) (some : List Nat) (b e : Int) : List Dat := some.flatMap fun (k : Nat) => [Lit (k : Int) GE b, Lit (k : Int) LEs (e - lastOf ls k)]
abbrev dfs (ls : List Int) : LE := [(Str.ofString "number", .d (.int (-1))), (Str.ofString "scope", .d (.tuple [.int 0, .int 1, .int 2])), (Str.ofString "strength", .d (.str (Str.ofString "weak"))), (Str.ofString "lasts", .d (.tuple (ls.map .int)))]
theorem rng3 : rngL 0 3 = [0, 1, 2].map nd := by rfl
theorem tasksN_lt {ls : List Int} {k : Nat} (h : k ∈ tasksN ls) : k < 3 := by
  have := (List.mem_filter.mp h).1
  simp at this; omega
theorem nd_get {l : List Nat} {i : Nat} {d : Dat} (h : (l.map nd)[i]? = some d) : ∃ k, k ∈ l ∧ d = nd k ∧ l[i]? = some k := by
  rw [List.getElem?_map] at h
  cases e : l[i]? with
  | none => rw [e] at h; cases h
  | some k => rw [e] at h; cases h; exact ⟨k, List.mem_of_getElem? e, rfl, rfl⟩
theorem last_get {ls : List Int} (h3 : ls.length = 3) {k : Nat} (hk : k < 3) : (ls.map Dat.int)[k]? = some (.int (lastOf ls k)) := by
  rw [List.getElem?_map, List.getElem?_eq_getElem (by omega)]
  simp [lastOf, List.getElem?_eq_getElem, h3, hk]
theorem scope_get {k : Nat} (hk : k < 3) : ([Dat.int 0, .int 1, .int 2])[k]? = some (.int (k : Int)) := by
  match k, hk with
  | 0, _ => rfl
  | 1, _ => rfl
  | 2, _ => rfl
section
variable {P : Setup} {A : Around} {M pre rest : ME} {a : StA} {v : StV} {ls : List Int} {dj ddx : Addr} {j1 j2 : Nat}
theorem S_newl {env : Env} {ρ : LE} {τ : TE} {s : Shared} {x : Str} {xp pos lp : Pos} {stm : List Stmt} {Q : Flow → Shared → Prop} {E : Value → Shared → Prop} (F : FS P.s₀ env.locals ρ M τ s) (hx : env.kindOf x = some .local)
    (k : ∀ a s', FS P.s₀ env.locals ((x, .r (.ref a)) :: ρ) ((a, .list []) :: M) τ s' → wpAny (model P.prog P.w) A (execs stm env) Q E s') (hp : (env.scope.kind == .class || (env.scope.kind == .module && env.locals != env.globals)) = false := by rfl) : wpAny (model P.prog P.w) A (execs (.Assign [.Name x xp] (.List [] lp) pos :: stm) env) Q E s :=
  wpAny_execs_cons (wpAny_Assign_Name (List_ (args_nil (d_listM F .nil (by simp) fun a s' F' => st_local F' (.head _) (fun s'' F'' => k a _ (F''.sub (sub_tail sub_refl))) hx hp))) (by rfl))
theorem tasks_ok (hK : P.K = hd.heap_1 P.w.params) (hA : Ok A 1) (h3 : ls.length = 3) (m1 : M[j1]? = some (dj, .inst 404 ddx)) (m2 : M[j2]? = some (ddx, .dict (dfs ls))) : CL P A M (.ref 347) [.r (.ref dj)] (.d (.list ((tasksN ls).map nd))) M := by
  refine CL.fn1 (p1 := Str.ofString "self") (ρ' := []) (cl := fun L' => [(L' + 1, .cell (some (.r (.ref dj))))]) hA (by rw [hK]; k_is) (by rw [hK]; k_is) (fun _ => by rfl) (by rfl) (by decide) (fun _ => .nil) (fun L' t1 => by exact .some (by rfl) t1 .nil) ?_
  intro L L' oL τ s Q F k
  dsimp only [List.nil_append, List.cons_append] at F
  have hB := fun e => hA.deeper e
  have e : (([0, 1, 2].map nd).filter fun d => decide (0 < lastOf ls (natOf d))).map id = (tasksN ls).map nd := by
    rw [List.map_id, List.filter_map]; rfl
  refine S_ret F (EV.to (EV.comp0 (ds := [0, 1, 2].map nd) (Ms := fun _ => _) (c := fun d => decide (0 < lastOf ls (natOf d))) (f := id) (hB _).hh (by rfl) (by kxs_still) (rng3 ▸ it_range (by decide) (by decide)) (by decide) (fun _ _ => by rfl) ?_) (by rw [e])) fun v s' F' => k _ _ _ F'.drop
  intro i d hd L'' oL' acc it ψ X
  obtain ⟨k, hk, rfl, _⟩ := nd_get hd
  have hk : k < 3 := by simp at hk; omega
  rw [natOf_nd]
  have hl := last_get h3 hk
  exact TURN.of (TG.name (by rfl)) (TS.one (TV.cmp (EV.item (by kxs_still) (by kxs_still) (SU.tup hl rfl (by omega))) (by kxs_still) (by keq_rows))) (fun _ => by kxs_still) (fun _ => rfl)
theorem within_ok (hK : P.K = hd.heap_1 P.w.params) (hA : Ok A 3) (h3 : ls.length = 3) {lo hi : Nat → Int} {b e : Int} (hD : ∀ k, k < 3 → v.doms[k]? = some (Dom (lo k) (hi k))) (m1 : (pre ++ SB P a v rest)[j1]? = some (dj, .inst 404 ddx)) (m2 : (pre ++ SB P a v rest)[j2]? = some (ddx, .dict (dfs ls))) :
    CL P A (pre ++ SB P a v rest) (.ref 361) [.r (.ref dj), .r (.ref a.st), .d (.int b), .d (.int e)] (.d (.list ((withinN lo hi ls b e).map nd))) (pre ++ SB P a v rest) := by
  refine CL.fn4 (p1 := Str.ofString "self") (p2 := Str.ofString "store") (p3 := Str.ofString "begin") (p4 := Str.ofString "end") (ρ' := [(Str.ofString "self", _), (Str.ofString "store", _), (Str.ofString "begin", _), (Str.ofString "end", _)]) (cl := fun _ => []) hA (by rw [hK]; k_is) (by rw [hK]; k_is) (fun _ _ _ _ => by rfl) (by rfl) (by decide) (fun t1 t2 t3 t4 => LocOk.cons (by rfl) t1 (LocOk.cons (by rfl) t2 (LocOk.cons (by rfl) t3 (LocOk.cons (by rfl) t4 .nil)))) (fun L' t1 t2 t3 t4 => .nil) ?_
  intro L L' oL τ s Q F k
  dsimp only [List.nil_append, List.cons_append] at F
  have hB := fun e => hA.deeper e
  refine S_newl F (by rfl) fun fa s F => ?_
  let cc : Nat → Bool := fun k => decide (b ≤ lo k) && decide (hi k + lastOf ls k ≤ e)
  refine S_for (X := List Nat) (ds := (tasksN ls).map nd) (R := fun i X => X = ((tasksN ls).take i).filter cc) (ρs := fun _ => [(Str.ofString "found", .r (.ref fa)), (Str.ofString "self", .r (.ref dj)), (Str.ofString "store", .r (.ref a.st)), (Str.ofString "begin", .d (.int b)), (Str.ofString "end", .d (.int e))]) (Ms := fun X => (fa, .list ((X.map nd).map .d)) :: (L, .raw oL) :: (pre ++ SB P a v rest)) (ρt := fun d => [(Str.ofString "k", .d d)]) (x0 := []) (hB _).hh F
    (EV.meth0 (by kxs_still) (by lcg_sub) (by lcg_sub) (by rfl) (by rw [hK]; k_is) (by rw [hK]; k_is) (by rw [hK]; k_is) (by rw [hK]; k_is) (tasks_ok hK ((hB _).le (by decide)) h3 (by lcg_sub) (by lcg_sub))) (it_list _) rfl (fun i d hd => TG.name (by rfl)) (fun i d X it ψ τ' s E' hd hR hτ F => ?_) fun X s' hR F => ?_
  · dsimp only [List.nil_append, List.cons_append] at F
    obtain ⟨k, hk, rfl, hki⟩ := nd_get hd
    have hk := tasksN_lt hk
    have hl := last_get h3 hk
    have hs := scope_get hk
    have hstep : ((tasksN ls).take (i + 1)).filter cc = X ++ if cc k then [k] else [] := by
      rw [List.take_add_one, hki, List.filter_append, hR]
      cases hp : cc k <;> simp [hp]
    have hX : X.length ≤ 3 := by
      rw [hR]
      refine Nat.le_trans (List.length_filter_le _ _) (Nat.le_trans (List.length_take_le' _ _) ?_)
      exact Nat.le_trans (List.length_filter_le _ _) (by decide)
    refine S_if (c := cc k) F (TV.and2 (TV.cmp (by kxs_still) (EV.meth (by kxs_still) (by lcg_sub) (by lcg_sub) (by rfl) (by rw [hK]; k_is) (by rw [hK]; k_is) (by rw [hK]; k_is) (by rw [hK]; k_is) (AR.cons (EV.item (by kxs_still) (by kxs_still) (SU.tup hs rfl (by omega))) AR.nil) (low_ok (pre := (it, .own ψ) :: (fa, .list ((X.map nd).map .d)) :: (L, .raw oL) :: pre) hK (hB _) (hD k hk) (by omega))) (by keq_rows))
      (fun _ => TV.cmp (EV.bin (EV.meth (by kxs_still) (by lcg_sub) (by lcg_sub) (by rfl) (by rw [hK]; k_is) (by rw [hK]; k_is) (by rw [hK]; k_is) (by rw [hK]; k_is) (AR.cons (EV.item (by kxs_still) (by kxs_still) (SU.tup hs rfl (by omega))) AR.nil) (high_ok (pre := (it, .own ψ) :: (fa, .list ((X.map nd).map .d)) :: (L, .raw oL) :: pre) hK (hB _) (hD k hk) (by omega))) (EV.item (by kxs_still) (by kxs_still) (SU.tup hl rfl (by omega))) (by keq_rows)) (by kxs_still) (by keq_rows)) (fun _ => rfl)) (fun hc s F => ?_) (fun hc s F => ?_)
    · refine S_exp F (EV.append (by kxs_still) (by kxs_still) (by lcg_sub) (by lcg_sub) (by simp; omega)) fun s F => ?_
      refine S_nil (S_nil ⟨_, rfl, ?_⟩)
      rw [hstep, if_pos hc]
      refine (F.weak (fun p hp => ?_) sub_refl).mcast ?_
      · simp only [List.mem_cons, List.not_mem_nil, or_false] at hp
        rcases hp with rfl | rfl | rfl | rfl | rfl <;> rfl
      · simp
    · refine S_nil (S_nil ⟨_, rfl, ?_⟩)
      rw [hstep, hc, if_neg Bool.false_ne_true, List.append_nil]
      refine (F.weak (fun p hp => ?_) sub_refl)
      simp only [List.mem_cons, List.not_mem_nil, or_false] at hp
      rcases hp with rfl | rfl | rfl | rfl | rfl <;> rfl
  · have hR : X = withinN lo hi ls b e := by
      rw [hR, List.length_map, List.take_length]; rfl
    subst hR
    have F := F.freeze.reloc (x := Str.ofString "found") (by rfl) (.head _)
    exact S_ret F (by kxs_still) fun v s' F' => k _ _ _ (F'.sub (sub_head (.head _) (sub_tail (sub_tail sub_refl))))
end

section
variable {P : Setup} {A : Around} {M pre rest : ME} {a : StA} {v : StV} {ls : List Int} {dj ddx : Addr} {j1 j2 : Nat}
theorem reasons_ok (hK : P.K = hd.heap_1 P.w.params) (hA : Ok A 1) (h3 : ls.length = 3) {so : List Nat} (hso : ∀ k ∈ so, k < 3) (hsl : so.length ≤ 3) {b e : Int} (m1 : M[j1]? = some (dj, .inst 404 ddx)) (m2 : M[j2]? = some (ddx, .dict (dfs ls))) :
    CL P A M (.ref 368) [.r (.ref dj), .d (.list (so.map nd)), .d (.int b), .d (.int e)] (.d (.list (reasonsD ls so b e))) M := by
  refine CL.fn4 (p1 := Str.ofString "self") (p2 := Str.ofString "some") (p3 := Str.ofString "begin") (p4 := Str.ofString "end") (ρ' := [(Str.ofString "self", _), (Str.ofString "some", _), (Str.ofString "begin", _), (Str.ofString "end", _)]) (cl := fun _ => []) hA (by rw [hK]; k_is) (by rw [hK]; k_is) (fun _ _ _ _ => by rfl) (by rfl) (by decide) (fun t1 t2 t3 t4 => LocOk.cons (by rfl) t1 (LocOk.cons (by rfl) t2 (LocOk.cons (by rfl) t3 (LocOk.cons (by rfl) t4 .nil)))) (fun L' t1 t2 t3 t4 => .nil) ?_
  intro L L' oL τ s Q F k
  dsimp only [List.nil_append, List.cons_append] at F
  have hB := fun e => hA.deeper e
  refine S_newl F (by rfl) fun fa s F => ?_
  refine S_for (X := List Dat) (ds := so.map nd) (R := fun i X => X = reasonsD ls (so.take i) b e) (ρs := fun _ => [(Str.ofString "found", .r (.ref fa)), (Str.ofString "self", .r (.ref dj)), (Str.ofString "some", .d (.list (so.map nd))), (Str.ofString "begin", .d (.int b)), (Str.ofString "end", .d (.int e))]) (Ms := fun X => (fa, .list (X.map .d)) :: (L, .raw oL) :: M) (ρt := fun d => [(Str.ofString "k", .d d)]) (x0 := []) (hB _).hh F
    (by kxs_still) (it_list _) rfl (fun i d hd => TG.name (by rfl)) (fun i d X it ψ τ' s E' hd hR hτ F => ?_) fun X s' hR F => ?_
  · dsimp only [List.nil_append, List.cons_append] at F
    obtain ⟨k, hk, rfl, hki⟩ := nd_get hd
    have hk := hso k hk
    have hl := last_get h3 hk
    have hs := scope_get hk
    have hX : X.length ≤ 6 := by
      rw [hR]
      have : ∀ l : List Nat, (reasonsD ls l b e).length = 2 * l.length := by
        intro l
        induction l with
        | nil => rfl
        | cons x l ih => simp only [reasonsD, List.flatMap_cons, List.length_append, List.length_cons] at ih ⊢; simp only [List.length_nil]; omega
      rw [this]
      have := List.length_take_le' i so
      omega
    refine S_exp F (EV.append (by kxs_still) (EV.tup (AR.cons (EV.item (by kxs_still) (by kxs_still) (SU.tup hs rfl (by omega))) (by kas_types)) (by repeat constructor)) (by lcg_sub) (by lcg_sub) (by simp; omega)) fun s F => ?_
    dsimp only [List.set_cons_succ, List.set_cons_zero] at F
    refine S_exp F (EV.append (by kxs_still) (EV.tup (AR.cons (EV.item (by kxs_still) (by kxs_still) (SU.tup hs rfl (by omega))) (AR.cons (by kxs_still) (AR.cons (EV.bin (by kxs_still) (EV.item (by kxs_still) (by kxs_still) (SU.tup hl rfl (by omega))) (by keq_rows)) AR.nil))) (by repeat constructor)) (by lcg_sub) (by lcg_sub) (by simp; omega)) fun s F => ?_
    refine S_nil ⟨_, rfl, ?_⟩
    refine (F.weak (fun p hp => ?_) sub_refl).mcast ?_
    · simp only [List.mem_cons, List.not_mem_nil, or_false] at hp
      rcases hp with rfl | rfl | rfl | rfl | rfl <;> rfl
    · rw [List.take_add_one, hki, hR]
      simp [reasonsD]
  · have hR : X = reasonsD ls so b e := by rw [hR, List.length_map, List.take_length]
    subst hR
    have F := F.freeze.reloc (x := Str.ofString "found") (by rfl) (.head _)
    exact S_ret F (by kxs_still) fun v s' F' => k _ _ _ (F'.sub (sub_head (.head _) (sub_tail (sub_tail sub_refl))))

def stkGE (v : StV) (k : Nat) (lo hi c : Int) (rs : List Dat) : StV × Bool :=
  if c ≤ hi then (if lo < c then ({ v with doms := v.doms.set k (Dom c hi), trail := v.trail ++ [.tuple [.int k, Dom lo hi, Lit k GE c, .tuple rs, .int (-1)]], nn := v.nn + 1 }, true) else (v, true))
  else ({ v with fail := true, clash := .tuple (rs ++ [Lit k LEs (c - 1)]) }, false)
def stkLE (v : StV) (k : Nat) (lo hi c : Int) (rs : List Dat) : StV × Bool :=
  if lo ≤ c then (if c < hi then ({ v with doms := v.doms.set k (Dom lo c), trail := v.trail ++ [.tuple [.int k, Dom lo hi, Lit k LEs c, .tuple rs, .int (-1)]], nn := v.nn + 1 }, true) else (v, true))
  else ({ v with fail := true, clash := .tuple (rs ++ [Lit k GE (c + 1)]) }, false)
structure Small (v : StV) : Prop where
  t : v.trail.length ≤ 900
  n : v.nn ≤ 900
  d : v.doms.length ≤ 900
theorem strikeGE (hK : P.K = hd.heap_1 P.w.params) (hA : Ok A 5) {k : Nat} {lo hi c : Int} {rs : List Dat} (hx : v.doms[k]? = some (Dom lo hi)) (hz : k < 1000) (hr : rs ≠ []) (hl : rs.length ≤ 1000) (hs : Small v) :
    CL P A (pre ++ SB P a v rest) (.ref 228) [.r (.ref a.st), .d (Lit k GE c), .d (.list rs)] (.d (.bool (stkGE v k lo hi c rs).2)) (pre ++ SB P a (stkGE v k lo hi c rs).1 rest) := by
  unfold stkGE
  by_cases h1 : c ≤ hi
  · rw [if_pos h1]
    by_cases h2 : lo < c
    · rw [if_pos h2]
      refine strike_ok hK hA hl fun A pre h => enter_new hK h hx hz (by omega) (by have := hs.t; omega) (by have := hs.n; omega) (by have := hs.d; omega) fun A M h => ?_
      have := struck_ge (M := M) (x := k) (b := c) (lo := lo) (hi := hi) hK h
      rwa [if_pos h1, if_pos h2] at this
    · rw [if_neg h2]
      refine strike_ok hK hA hl fun A pre h => enter_same hK h hx hz fun A M h => ?_
      have := struck_ge (M := M) (x := k) (b := c) (lo := lo) (hi := hi) hK h
      rwa [if_pos h1, if_neg h2] at this
  · rw [if_neg h1]
    refine strike_ok hK hA hl fun A pre h => enter_fail hK h hx hz hr hl (fun A M h => ?_) fun A M h => negation_ge hK h
    have := struck_ge (M := M) (x := k) (b := c) (lo := lo) (hi := hi) hK h
    rwa [if_neg h1] at this
theorem strikeLE (hK : P.K = hd.heap_1 P.w.params) (hA : Ok A 5) {k : Nat} {lo hi c : Int} {rs : List Dat} (hx : v.doms[k]? = some (Dom lo hi)) (hz : k < 1000) (hr : rs ≠ []) (hl : rs.length ≤ 1000) (hs : Small v) :
    CL P A (pre ++ SB P a v rest) (.ref 228) [.r (.ref a.st), .d (Lit k LEs c), .d (.list rs)] (.d (.bool (stkLE v k lo hi c rs).2)) (pre ++ SB P a (stkLE v k lo hi c rs).1 rest) := by
  unfold stkLE
  by_cases h1 : lo ≤ c
  · rw [if_pos h1]
    by_cases h2 : c < hi
    · rw [if_pos h2]
      refine strike_ok hK hA hl fun A pre h => enter_new hK h hx hz (by omega) (by have := hs.t; omega) (by have := hs.n; omega) (by have := hs.d; omega) fun A M h => ?_
      have := struck_le (M := M) (x := k) (b := c) (lo := lo) (hi := hi) hK h
      rwa [if_pos h1, if_pos h2] at this
    · rw [if_neg h2]
      refine strike_ok hK hA hl fun A pre h => enter_same hK h hx hz fun A M h => ?_
      have := struck_le (M := M) (x := k) (b := c) (lo := lo) (hi := hi) hK h
      rwa [if_pos h1, if_neg h2] at this
  · rw [if_neg h1]
    refine strike_ok hK hA hl fun A pre h => enter_fail hK h hx hz hr hl (fun A M h => ?_) fun A M h => negation_le hK h
    have := struck_le (M := M) (x := k) (b := c) (lo := lo) (hi := hi) hK h
    rwa [if_neg h1] at this
end

def needN (ls : List Int) (so : List Nat) : Int := (so.map (lastOf ls)).sum
def fitStep (ls : List Int) (so : List Nat) (need b e : Int) (rs : List Dat) (lo hi : Nat → Int) (k : Nat) (v : StV) : StV × Bool :=
  if k ∈ so ∨ need + lastOf ls k ≤ e - b then (v, true)
  else if b ≤ lo k then stkGE v k (lo k) (hi k) (b + need) (Lit k GE b :: rs)
  else if hi k + lastOf ls k ≤ e then stkLE v k (lo k) (hi k) (e - need - lastOf ls k) (Lit k LEs (e - lastOf ls k) :: rs)
  else (v, true)
def fitGo (ls : List Int) (so : List Nat) (need b e : Int) (rs : List Dat) (lo hi : Nat → Int) : List Nat → StV → StV × Bool
  | [], v => (v, true)
  | k :: ks, v => if (fitStep ls so need b e rs lo hi k v).2 = true then fitGo ls so need b e rs lo hi ks (fitStep ls so need b e rs lo hi k v).1 else ((fitStep ls so need b e rs lo hi k v).1, false)
def fitAll (ls : List Int) (lo hi : Nat → Int) (b e : Int) (v : StV) : StV × Bool :=
  if e - b < needN ls (withinN lo hi ls b e) then ({ v with fail := true, clash := .tuple (reasonsD ls (withinN lo hi ls b e) b e) }, false)
  else if needN ls (withinN lo hi ls b e) = 0 then (v, true)
  else fitGo ls (withinN lo hi ls b e) (needN ls (withinN lo hi ls b e)) b e (reasonsD ls (withinN lo hi ls b e) b e) lo hi (tasksN ls) v
structure Sized (v : StV) (n : Nat) : Prop where
  t : v.trail.length ≤ n
  n : v.nn ≤ n
  d : v.doms.length ≤ 900
theorem Sized.small {v : StV} {n : Nat} (h : Sized v n) (hn : n ≤ 900) : Small v := ⟨by have := h.t; omega, by have := h.n; omega, h.d⟩
theorem Sized.up {v : StV} {n m : Nat} (h : Sized v n) (hm : n ≤ m) : Sized v m := ⟨by have := h.t; omega, by have := h.n; omega, h.d⟩
theorem nd_mem {k : Nat} {l : List Nat} : nd k ∈ l.map nd ↔ k ∈ l := by
  simp only [List.mem_map, nd, Dat.int.injEq]
  constructor
  · rintro ⟨j, hj, e⟩
    have : j = k := by omega
    exact this ▸ hj
  · exact fun h => ⟨k, h, rfl⟩
theorem stkGE_inv {v : StV} {k : Nat} {lo hi c : Int} {rs : List Dat} {n : Nat} (h : Sized v n) : Sized (stkGE v k lo hi c rs).1 (n + 1) ∧ ∀ j, j ≠ k → (stkGE v k lo hi c rs).1.doms[j]? = v.doms[j]? := by
  unfold stkGE
  have h1 := h.t
  have h2 := h.n
  have h3 := h.d
  split
  · split
    · exact ⟨⟨by simp; omega, by show v.nn + 1 ≤ n + 1; omega, by simp; omega⟩, fun j hj => by simp [List.getElem?_set, Ne.symm hj]⟩
    · exact ⟨h.up (by omega), fun j hj => rfl⟩
  · exact ⟨⟨by show v.trail.length ≤ _; omega, by show v.nn ≤ n + 1; omega, by show v.doms.length ≤ _; omega⟩, fun j hj => rfl⟩
theorem stkLE_inv {v : StV} {k : Nat} {lo hi c : Int} {rs : List Dat} {n : Nat} (h : Sized v n) : Sized (stkLE v k lo hi c rs).1 (n + 1) ∧ ∀ j, j ≠ k → (stkLE v k lo hi c rs).1.doms[j]? = v.doms[j]? := by
  unfold stkLE
  have h1 := h.t
  have h2 := h.n
  have h3 := h.d
  split
  · split
    · exact ⟨⟨by simp; omega, by show v.nn + 1 ≤ n + 1; omega, by simp; omega⟩, fun j hj => by simp [List.getElem?_set, Ne.symm hj]⟩
    · exact ⟨h.up (by omega), fun j hj => rfl⟩
  · exact ⟨⟨by show v.trail.length ≤ _; omega, by show v.nn ≤ n + 1; omega, by show v.doms.length ≤ _; omega⟩, fun j hj => rfl⟩
theorem stkGE_hi {v : StV} {k : Nat} {lo hi c : Int} {rs : List Dat} (hx : v.doms[k]? = some (Dom lo hi)) (hr : (stkGE v k lo hi c rs).2 = true) : ∃ lo', (stkGE v k lo hi c rs).1.doms[k]? = some (Dom lo' hi) := by
  unfold stkGE at hr ⊢
  split
  · split
    · have := (List.getElem?_eq_some_iff.mp hx).1
      exact ⟨c, by simp [List.getElem?_set, this]⟩
    · exact ⟨lo, hx⟩
  · rename_i h; rw [if_neg h] at hr; cases hr
theorem tasks_nodup (ls : List Int) : (tasksN ls).Nodup := (List.filter_sublist).nodup (by decide)
theorem so_len (lo hi : Nat → Int) (ls : List Int) (b e : Int) : (withinN lo hi ls b e).length ≤ 3 :=
  Nat.le_trans (List.length_filter_le _ _) (Nat.le_trans (List.length_filter_le _ _) (by decide))
theorem so_lt {lo hi : Nat → Int} {ls : List Int} {b e : Int} : ∀ k ∈ withinN lo hi ls b e, k < 3 := fun k hk => tasksN_lt (List.mem_filter.mp hk).1
theorem reasons_len (ls : List Int) (b e : Int) : ∀ l : List Nat, (reasonsD ls l b e).length = 2 * l.length := by
  intro l
  induction l with
  | nil => rfl
  | cons x l ih => simp only [reasonsD, List.flatMap_cons, List.length_append, List.length_cons] at ih ⊢; simp only [List.length_nil]; omega
section
variable {P : Setup} {A : Around} {M pre rest : ME} {a : StA} {v : StV} {ls : List Int} {dj ddx : Addr} {j1 j2 : Nat}
theorem fit_ok (hK : P.K = hd.heap_1 P.w.params) (hA : Ok A 7) (h3 : ls.length = 3) {lo hi : Nat → Int} {b e : Int} (hD : ∀ k, k < 3 → v.doms[k]? = some (Dom (lo k) (hi k))) (hS : Sized v 800) (m1 : ∀ v, (pre ++ SB P a v rest)[j1]? = some (dj, .inst 404 ddx)) (m2 : ∀ v, (pre ++ SB P a v rest)[j2]? = some (ddx, .dict (dfs ls))) :
    CL P A (pre ++ SB P a v rest) (.ref 373) [.r (.ref dj), .r (.ref a.st), .d (.int b), .d (.int e)] (.d (.bool (fitAll ls lo hi b e v).2)) (pre ++ SB P a (fitAll ls lo hi b e v).1 rest) := by
  refine CL.fn4 (p1 := Str.ofString "self") (p2 := Str.ofString "store") (p3 := Str.ofString "begin") (p4 := Str.ofString "end") (ρ' := [(Str.ofString "store", _), (Str.ofString "begin", _), (Str.ofString "end", _)]) (cl := fun L' => [(L' + 1, .cell (some (.r (.ref dj))))]) hA (by rw [hK]; k_is) (by rw [hK]; k_is) (fun _ _ _ _ => by rfl) (by rfl) (by decide) (fun t1 t2 t3 t4 => LocOk.cons (by rfl) t2 (LocOk.cons (by rfl) t3 (LocOk.cons (by rfl) t4 .nil))) (fun L' t1 t2 t3 t4 => by exact .some (by rfl) t1 .nil) ?_
  intro L L' oL τ s Q F kQ
  dsimp only [List.nil_append, List.cons_append] at F
  have hB := fun e => hA.deeper e
  have hsl := so_len lo hi ls b e
  have hst := @so_lt lo hi ls b e
  have m1v := m1 v
  have m2v := m2 v
  have hunf : fitAll ls lo hi b e v = fitAll ls lo hi b e v := rfl
  conv at hunf => rhs; unfold fitAll
  generalize hso : withinN lo hi ls b e = so at hsl hst hunf
  generalize hneed : needN ls so = need at hunf
  refine S_asg F (lv := .d (.list (so.map nd))) (EV.meth (by kxs_still) (by lcg_sub) (by lcg_sub) (by rfl) (by rw [hK]; k_is) (by rw [hK]; k_is) (by rw [hK]; k_is) (by rw [hK]; k_is) (by kas_types) (hso ▸ within_ok (pre := (L' + 1, .cell (some (.r (.ref dj)))) :: (L, .raw oL) :: pre) hK ((hB _).le (by decide)) h3 hD (by lcg_sub) (by lcg_sub))) (by rfl) fun s F => ?_
  dsimp only [List.cons_append] at F
  have hsum : (((so.map nd).filter fun _ => true).map fun d => Dat.int (lastOf ls (natOf d))) = (so.map (lastOf ls)).map Dat.int := by
    rw [List.filter_eq_self.mpr (fun _ _ => rfl), List.map_map, List.map_map]
    exact List.map_congr_left fun k _ => by simp [natOf_nd]
  refine S_asg F (lv := .d (.int need)) (EV.to (EV.callB (by kxs_still) (AR.cons (EV.to (EV.comp0 (ds := so.map nd) (Ms := fun _ => (L' + 1, .cell (some (.r (.ref dj)))) :: (L, .raw oL) :: (pre ++ SB P a v rest)) (c := fun _ => true) (f := fun d => .int (lastOf ls (natOf d))) (hB _).hh (by rfl) (by kxs_still) (it_list _) (by simp; omega) (fun _ _ => by rfl) (fun i d hd L'' oL' acc it ψ X => by
    obtain ⟨k, hk, rfl, _⟩ := nd_get hd
    rw [natOf_nd]
    exact TURN.of (TG.name (by rfl)) TS.nil (fun _ => EV.item (by kxs_still) (by kxs_still) (SU.tup (last_get h3 (hst k hk)) rfl (by have := hst k hk; omega))) (fun h => nomatch h))) (by rw [hsum])) AR.nil) (CL.sum (hB _).hh)) (by rw [← hneed]; rfl)) (by rfl) fun s F => ?_
  refine S_if (c := decide (e - b < need)) F (by kpc_turns) (fun hc s F => ?_) (fun hc s F => S_nil ?_)
  · have hc := of_decide_eq_true hc
    rw [if_pos hc] at hunf
    rw [hunf] at kQ
    refine S_ret F (EV.meth (by kxs_still) (by lcg_sub) (by lcg_sub) (by rfl) (by rw [hK]; k_is) (by rw [hK]; k_is) (by rw [hK]; k_is) (by rw [hK]; k_is) (AR.cons (EV.meth (by kxs_still) (by lcg_sub) (by lcg_sub) (by rfl) (by rw [hK]; k_is) (by rw [hK]; k_is) (by rw [hK]; k_is) (by rw [hK]; k_is) (by kas_types) (reasons_ok hK ((hB _).le (by decide)) h3 hst hsl (by lcg_sub) (by lcg_sub))) AR.nil)
      (fail_ok (pre := (L' + 1, .cell (some (.r (.ref dj)))) :: (L, .raw oL) :: pre) (a := a) (v := v) (rest := rest) (ds := reasonsD ls so b e) hK ((hB _).le (by decide)) fun _ _ => CL.tupL (by rw [reasons_len]; omega))) fun v s' F' => kQ _ _ _ F'.drop
  have hc := of_decide_eq_false hc
  rw [if_neg hc] at hunf
  refine S_if (c := decide (need = 0)) F (by kpc_turns) (fun hc s F => ?_) (fun hc s F => S_nil ?_)
  · have hc := of_decide_eq_true hc
    rw [if_pos hc] at hunf
    rw [hunf] at kQ
    exact S_ret F (by kxs_still) fun v s' F' => kQ _ _ _ F'.drop
  have hc := of_decide_eq_false hc
  rw [if_neg hc] at hunf
  rw [hunf] at kQ
  clear hunf
  have hrl := reasons_len ls b e so
  generalize hrs : reasonsD ls so b e = rs at kQ hrl
  refine S_asg F (lv := .d (.list rs)) (EV.meth (by kxs_still) (by lcg_sub) (by lcg_sub) (by rfl) (by rw [hK]; k_is) (by rw [hK]; k_is) (by rw [hK]; k_is) (by rw [hK]; k_is) (by kas_types) (hrs ▸ reasons_ok hK ((hB _).le (by decide)) h3 hst hsl (by lcg_sub) (by lcg_sub))) (by rfl) fun s F => ?_
  generalize hgo : fitGo ls so need b e rs lo hi (tasksN ls) v = res at kQ
  have hnd := tasks_nodup ls
  have hdrop : ∀ i k, (tasksN ls)[i]? = some k → (tasksN ls).drop i = k :: (tasksN ls).drop (i + 1) := fun i k h => by
    obtain ⟨hlt, e⟩ := List.getElem?_eq_some_iff.mp h
    rw [List.drop_eq_getElem_cons hlt, e]
  refine S_for (X := StV) (ds := (tasksN ls).map nd) (R := fun i X => i ≤ 3 ∧ fitGo ls so need b e rs lo hi ((tasksN ls).drop i) X = res ∧ (∀ k ∈ (tasksN ls).drop i, X.doms[k]? = some (Dom (lo k) (hi k))) ∧ Sized X (800 + i)) (ρs := fun _ => [(Str.ofString "reasons", .d (.list rs)), (Str.ofString "need", .d (.int need)), (Str.ofString "some", .d (.list (so.map nd))), (Str.ofString "store", .r (.ref a.st)), (Str.ofString "begin", .d (.int b)), (Str.ofString "end", .d (.int e))]) (Ms := fun X => (L' + 1, .cell (some (.r (.ref dj)))) :: (L, .raw oL) :: (pre ++ SB P a X rest)) (ρt := fun d => [(Str.ofString "k", .d d)]) (x0 := v) (hB _).hh F
    (EV.meth0 (by kxs_still) (by lcg_sub) (by lcg_sub) (by rfl) (by rw [hK]; k_is) (by rw [hK]; k_is) (by rw [hK]; k_is) (by rw [hK]; k_is) (tasks_ok hK ((hB _).le (by decide)) h3 (by lcg_sub) (by lcg_sub))) (it_list _) ⟨by omega, by simpa using hgo, fun k hk => hD k (tasksN_lt (List.mem_of_mem_drop hk)), by simpa using hS⟩ (fun i d hd => TG.name (by rfl)) (fun i d X it ψ τ' s E' hd hR hτ F => ?_) fun X s' hR F => ?_
  · dsimp only [List.nil_append, List.cons_append] at F
    obtain ⟨k, hkm, rfl, hki⟩ := nd_get hd
    obtain ⟨hi3, hres, hdm, hsz⟩ := hR
    have hk := tasksN_lt hkm
    have hl := last_get h3 hk
    have hs := scope_get hk
    have m1X := m1 X
    have m2X := m2 X
    rw [hdrop i k hki] at hres hdm
    have hX := hdm k (.head _)
    have hnk : ∀ j ∈ (tasksN ls).drop (i + 1), j ≠ k := fun j hj e => by
      subst e
      have := hdrop i j hki
      have h2 : ((tasksN ls).drop i).Nodup := List.Nodup.sublist (List.drop_sublist _ _) hnd
      rw [this, List.nodup_cons] at h2
      exact h2.1 hj
    have hi4 : i + 1 ≤ 3 := by
      have h1 := (List.getElem?_eq_some_iff.mp hki).1
      have h2 : (tasksN ls).length ≤ 3 := List.length_filter_le _ _
      omega
    have fin : ∀ {ρx : LE} {X' : StV} {s : Shared}, fitStep ls so need b e rs lo hi k X = (X', true) → Sized X' (800 + (i + 1)) → (∀ j, j ≠ k → X'.doms[j]? = X.doms[j]?) → FS P.s₀ L' ρx ((it, .own ψ) :: (L' + 1, .cell (some (.r (.ref dj)))) :: (L, .raw oL) :: (pre ++ SB P a X' rest)) τ' s →
        (∀ p ∈ ([(Str.ofString "reasons", .d (.list rs)), (Str.ofString "need", .d (.int need)), (Str.ofString "some", .d (.list (so.map nd))), (Str.ofString "store", .r (.ref a.st)), (Str.ofString "begin", .d (.int b)), (Str.ofString "end", .d (.int e))] : LE), ρx.lookup p.1 = some p.2) →
        ∃ X1, (i + 1 ≤ 3 ∧ fitGo ls so need b e rs lo hi ((tasksN ls).drop (i + 1)) X1 = res ∧ (∀ k ∈ (tasksN ls).drop (i + 1), X1.doms[k]? = some (Dom (lo k) (hi k))) ∧ Sized X1 (800 + (i + 1))) ∧ FS P.s₀ L' [(Str.ofString "reasons", .d (.list rs)), (Str.ofString "need", .d (.int need)), (Str.ofString "some", .d (.list (so.map nd))), (Str.ofString "store", .r (.ref a.st)), (Str.ofString "begin", .d (.int b)), (Str.ofString "end", .d (.int e))] ((it, .own ψ) :: (L' + 1, .cell (some (.r (.ref dj)))) :: (L, .raw oL) :: (pre ++ SB P a X1 rest)) τ' s := fun h1 h2 h3 h4 h5 => by
      refine ⟨_, ⟨hi4, ?_, fun j hj => ?_, h2⟩, h4.weak h5 sub_refl⟩
      · rw [← hres]
        conv => rhs; unfold fitGo
        rw [h1]; rfl
      · rw [h3 j (hnk j hj)]; exact hdm j (.tail _ hj)
    have stop : ∀ {X' : StV}, fitStep ls so need b e rs lo hi k X = (X', false) → res = (X', false) := fun h1 => by
      rw [← hres]
      unfold fitGo
      rw [h1]; rfl
    refine S_swp (names := [Str.ofString "x", Str.ofString "last"]) (ds := [.int (k : Int), .int (lastOf ls k)]) (hB _).hh F (EV.tup (AR.cons (EV.item (by kxs_still) (by kxs_still) (SU.tup hs rfl (by omega))) (AR.cons (EV.item (by kxs_still) (by kxs_still) (SU.tup hl rfl (by omega))) AR.nil)) (by repeat constructor)) (by rfl) (by exact AO'.bind (by rfl) (by exact AO'.bind (by rfl) (by exact AO'.nil))) fun s F => ?_
    refine S_if (c := decide (k ∈ so) || decide (need + lastOf ls k ≤ e - b)) F (TV.or2 (TV.cmp (by kxs_still) (by kxs_still) (CO.inL (c := decide (k ∈ so)) (hB _).uu (fun d hd => by obtain ⟨j, _, rfl⟩ := List.mem_map.mp hd; rfl) (by rfl) (by rw [nd_mem]; simp))) (fun _ => by kpc_turns) (fun _ => rfl)) (fun hc s F => ?_) (fun hc s F => S_nil ?_)
    · refine S_cont (fin (X' := X) ?_ (hsz.up (by omega)) (fun _ _ => rfl) F ?_)
      · unfold fitStep
        rw [if_pos (by simpa using hc)]
      · intro p hp
        simp only [List.mem_cons, List.not_mem_nil, or_false] at hp
        rcases hp with rfl | rfl | rfl | rfl | rfl | rfl <;> rfl
    have hc1 : ¬ (k ∈ so ∨ need + lastOf ls k ≤ e - b) := by simpa using hc
    have hnot : ¬ (b ≤ lo k ∧ hi k + lastOf ls k ≤ e) := fun h => hc1 (.inl (by
      rw [← hso]
      exact List.mem_filter.mpr ⟨hkm, by simp only [Bool.and_eq_true, decide_eq_true_eq]; exact h⟩))
    by_cases h1 : b ≤ lo k
    · have hstep : fitStep ls so need b e rs lo hi k X = stkGE X k (lo k) (hi k) (b + need) (Lit k GE b :: rs) := by unfold fitStep; rw [if_neg hc1, if_pos h1]
      have hn : ¬ hi k + lastOf ls k ≤ e := fun h => hnot ⟨h1, h⟩
      obtain ⟨iv1, iv2⟩ := @stkGE_inv X k (lo k) (hi k) (b + need) (Lit k GE b :: rs) _ hsz
      have hh := @stkGE_hi X k (lo k) (hi k) (b + need) (Lit k GE b :: rs) hX
      refine S_if (c := true && !(stkGE X k (lo k) (hi k) (b + need) (Lit k GE b :: rs)).2) F (TV.and2 (b := true) (TV.to (TV.cmp (EV.meth (by kxs_still) (by lcg_sub) (by lcg_sub) (by rfl) (by rw [hK]; k_is) (by rw [hK]; k_is) (by rw [hK]; k_is) (by rw [hK]; k_is) (by kas_types) (low_ok (pre := (it, .own ψ) :: (L' + 1, .cell (some (.r (.ref dj)))) :: (L, .raw oL) :: pre) hK ((hB _).le (by decide)) hX (by omega))) (by kxs_still) (by keq_rows)) (by simpa using h1)) (fun _ => TV.not (TV.val (EV.meth (by kxs_still) (by lcg_sub) (by lcg_sub) (by rfl) (by rw [hK]; k_is) (by rw [hK]; k_is) (by rw [hK]; k_is) (by rw [hK]; k_is) (AR.cons (by kxs_still) (AR.cons (EV.bin (by kxs_still) (by kxs_still) (by exact BO.catL (by simp; omega))) AR.nil)) (strikeGE (pre := (it, .own ψ) :: (L' + 1, .cell (some (.r (.ref dj)))) :: (L, .raw oL) :: pre) hK ((hB _).le (by decide)) hX (by omega) (by simp) (by simp; omega) (hsz.small (by omega)))))) (fun h => nomatch h)) (fun hc s F => ?_) (fun hc s F => S_nil ?_)
      · have hr : (stkGE X k (lo k) (hi k) (b + need) (Lit k GE b :: rs)).2 = false := by simpa using hc
        have hres := stop (X' := (stkGE X k (lo k) (hi k) (b + need) (Lit k GE b :: rs)).1) (by rw [hstep]; exact Prod.ext rfl hr)
        subst hres
        exact S_ret F (by kxs_still) fun v s' F' => kQ _ _ _ ((F'.drop (p := (it, .own ψ))).drop.sub (sub_head (.head _) (sub_tail hτ)))
      · have hr : (stkGE X k (lo k) (hi k) (b + need) (Lit k GE b :: rs)).2 = true := by simpa using hc
        obtain ⟨lo', hx'⟩ := hh hr
        refine S_ifF F (TV.to (TV.cmp (EV.bin (EV.meth (by kxs_still) (by lcg_sub) (by lcg_sub) (by rfl) (by rw [hK]; k_is) (by rw [hK]; k_is) (by rw [hK]; k_is) (by rw [hK]; k_is) (by kas_types) (high_ok (pre := (it, .own ψ) :: (L' + 1, .cell (some (.r (.ref dj)))) :: (L, .raw oL) :: pre) hK ((hB _).le (by decide)) hx' (by omega))) (by kxs_still) (by keq_rows)) (by kxs_still) (by keq_rows)) (by simpa using hn)) fun s F => ?_
        refine S_nil (fin (by rw [hstep]; exact Prod.ext rfl hr) (iv1.up (by omega)) iv2 F ?_)
        intro p hp
        simp only [List.mem_cons, List.not_mem_nil, or_false] at hp
        rcases hp with rfl | rfl | rfl | rfl | rfl | rfl <;> rfl
    · refine S_if (c := false && false) F (TV.and2 (b := false) (TV.to (TV.cmp (EV.meth (by kxs_still) (by lcg_sub) (by lcg_sub) (by rfl) (by rw [hK]; k_is) (by rw [hK]; k_is) (by rw [hK]; k_is) (by rw [hK]; k_is) (by kas_types) (low_ok (pre := (it, .own ψ) :: (L' + 1, .cell (some (.r (.ref dj)))) :: (L, .raw oL) :: pre) hK ((hB _).le (by decide)) hX (by omega))) (by kxs_still) (by keq_rows)) (by simpa using h1)) (fun h => nomatch h) (fun _ => rfl)) (fun hc s F => nomatch hc) (fun hc s F => S_nil ?_)
      by_cases h2 : hi k + lastOf ls k ≤ e
      · have hstep : fitStep ls so need b e rs lo hi k X = stkLE X k (lo k) (hi k) (e - need - lastOf ls k) (Lit k LEs (e - lastOf ls k) :: rs) := by unfold fitStep; rw [if_neg hc1, if_neg h1, if_pos h2]
        obtain ⟨iv1, iv2⟩ := @stkLE_inv X k (lo k) (hi k) (e - need - lastOf ls k) (Lit k LEs (e - lastOf ls k) :: rs) _ hsz
        refine S_ifT F (TV.to (TV.cmp (EV.bin (EV.meth (by kxs_still) (by lcg_sub) (by lcg_sub) (by rfl) (by rw [hK]; k_is) (by rw [hK]; k_is) (by rw [hK]; k_is) (by rw [hK]; k_is) (by kas_types) (high_ok (pre := (it, .own ψ) :: (L' + 1, .cell (some (.r (.ref dj)))) :: (L, .raw oL) :: pre) hK ((hB _).le (by decide)) hX (by omega))) (by kxs_still) (by keq_rows)) (by kxs_still) (by keq_rows)) (by simpa using h2)) fun s F => ?_
        refine S_if (c := !(stkLE X k (lo k) (hi k) (e - need - lastOf ls k) (Lit k LEs (e - lastOf ls k) :: rs)).2) F (TV.not (TV.val (EV.meth (by kxs_still) (by lcg_sub) (by lcg_sub) (by rfl) (by rw [hK]; k_is) (by rw [hK]; k_is) (by rw [hK]; k_is) (by rw [hK]; k_is) (AR.cons (by kxs_still) (AR.cons (EV.bin (by kxs_still) (by kxs_still) (by exact BO.catL (by simp; omega))) AR.nil)) (strikeLE (pre := (it, .own ψ) :: (L' + 1, .cell (some (.r (.ref dj)))) :: (L, .raw oL) :: pre) hK ((hB _).le (by decide)) hX (by omega) (by simp) (by simp; omega) (hsz.small (by omega)))))) (fun hc s F => ?_) (fun hc s F => S_nil (S_nil (S_nil ?_)))
        · have hr : (stkLE X k (lo k) (hi k) (e - need - lastOf ls k) (Lit k LEs (e - lastOf ls k) :: rs)).2 = false := by simpa using hc
          have hres := stop (X' := (stkLE X k (lo k) (hi k) (e - need - lastOf ls k) (Lit k LEs (e - lastOf ls k) :: rs)).1) (by rw [hstep]; exact Prod.ext rfl hr)
          subst hres
          exact S_ret F (by kxs_still) fun v s' F' => kQ _ _ _ ((F'.drop (p := (it, .own ψ))).drop.sub (sub_head (.head _) (sub_tail hτ)))
        · have hr : (stkLE X k (lo k) (hi k) (e - need - lastOf ls k) (Lit k LEs (e - lastOf ls k) :: rs)).2 = true := by simpa using hc
          refine fin (by rw [hstep]; exact Prod.ext rfl hr) (iv1.up (by omega)) iv2 F ?_
          intro p hp
          simp only [List.mem_cons, List.not_mem_nil, or_false] at hp
          rcases hp with rfl | rfl | rfl | rfl | rfl | rfl <;> rfl
      · refine S_ifF F (TV.to (TV.cmp (EV.bin (EV.meth (by kxs_still) (by lcg_sub) (by lcg_sub) (by rfl) (by rw [hK]; k_is) (by rw [hK]; k_is) (by rw [hK]; k_is) (by rw [hK]; k_is) (by kas_types) (high_ok (pre := (it, .own ψ) :: (L' + 1, .cell (some (.r (.ref dj)))) :: (L, .raw oL) :: pre) hK ((hB _).le (by decide)) hX (by omega))) (by kxs_still) (by keq_rows)) (by kxs_still) (by keq_rows)) (by simpa using h2)) fun s F => ?_
        refine S_nil (fin (X' := X) ?_ (hsz.up (by omega)) (fun _ _ => rfl) F ?_)
        · unfold fitStep
          rw [if_neg hc1, if_neg h1, if_neg h2]
        · intro p hp
          simp only [List.mem_cons, List.not_mem_nil, or_false] at hp
          rcases hp with rfl | rfl | rfl | rfl | rfl | rfl <;> rfl
  · obtain ⟨_, hres, _, _⟩ := hR
    rw [List.length_map, List.drop_length] at hres
    have : res = (X, true) := hres.symm
    subst this
    exact S_ret F (by kxs_still) fun v s' F' => kQ _ _ _ F'.drop
end

abbrev K1 : Str := Str.ofString "<="
abbrev K2 : Str := Str.ofString ">="
abbrev K3 : Str := Str.ofString "="
abbrev K4 : Str := Str.ofString "!="
def pickS (sg : Str) (l1 l2 l3 l4 : LV) : LV := if sg = K1 then l1 else if sg = K2 then l2 else if sg = K3 then l3 else l4
section
variable {P : Setup} {A : Around} {M : ME} {ρ : LE} {env : Env}
abbrev skd (P : Setup) (kvs : List (Str × Value)) (o : Obj) : Prop := o.IsDictOf (PySem.strKind P.prog P.w) kvs
theorem EV.tab {e1 e2 e3 e4 sl : Expr} {c1 c2 c3 c4 : Nat} {p1 p2 p3 p4 dp pos : Pos} {l1 l2 l3 l4 lv : LV} {sg : Str}
    (h1 : ∀ D, EV P A env ρ ((D, .own (skd P [])) :: M) e1 l1 ((D, .own (skd P [])) :: M)) (h2 : ∀ D, EV P A env ρ ((D, .own (skd P [])) :: M) e2 l2 ((D, .own (skd P [])) :: M))
    (h3 : ∀ D, EV P A env ρ ((D, .own (skd P [])) :: M) e3 l3 ((D, .own (skd P [])) :: M)) (h4 : ∀ D, EV P A env ρ ((D, .own (skd P [])) :: M) e4 l4 ((D, .own (skd P [])) :: M))
    (hs : ∀ D φ, EV P A env ρ ((D, .own φ) :: M) sl (.d (.str sg)) ((D, .own φ) :: M))
    (hv : ∀ v1 v2 v3 v4 : Value, ∃ v, valueAt (merged ([] : List (Str × Value)) [(K1, v1), (K2, v2), (K3, v3), (K4, v4)]) sg = some v ∧ ∀ τ : TE, (v1, l1) ∈ τ → (v2, l2) ∈ τ → (v3, l3) ∈ τ → (v4, l4) ∈ τ → (v, lv) ∈ τ)
    (ht : ∀ l t, subscripted sl false (.ref l) (.str sg t) = operate [.ref l, .str sg t] (getItem (.ref l) (.str sg t)) := by intro l t; rfl) :
    EV P A env ρ M (.Subscript (.Dict [some (.Constant (.str K1) c1 p1), some (.Constant (.str K2) c2 p2), some (.Constant (.str K3) c3 p3), some (.Constant (.str K4) c4 p4)] [e1, e2, e3, e4] dp) sl pos) lv M := ⟨by
  intro τ s Q E F k
  refine Subscript_ (wpAny_Dict_walk (knd := PySem.strKind P.prog P.w) rfl rfl (by simp) (by simp) ?_)
  obtain ⟨o0, ho0, hd0⟩ := Heap.dictOf_iff.mp (Heap.DictOf.new (knd := PySem.strKind P.prog P.w) s.heap)
  have F0 : FS P.s₀ env.locals ρ ((s.heap.objs.size, .own (skd P [])) :: M) τ { s with heap := s.heap.push { cls := .type "dict", data := .dict #[] } } := by
    obtain ⟨V, O, m, f⟩ := F
    exact ⟨V, _, m, f.newM (tk := s.toks) (fun _ _ e => Heap.get?_push_of_some _ e) (get_size s.heap) ho0 hd0⟩
  generalize s.heap.objs.size = D at F0 ⊢
  refine pairTrees_cons_walk (c_str F0 fun w1 s1 F1 => (h1 D).go F1 fun v1 s1 F1 => ?_)
  refine pairTrees_cons_walk (c_str F1 fun w2 s2 F2 => (h2 D).go F2 fun v2 s2 F2 => ?_)
  refine pairTrees_cons_walk (c_str F2 fun w3 s3 F3 => (h3 D).go F3 fun v3 s3 F3 => ?_)
  refine pairTrees_cons_walk (c_str F3 fun w4 s4 F4 => (h4 D).go F4 fun v4 s4 F4 => ?_)
  refine pairTrees_nil_walk ?_
  obtain ⟨t1, rfl⟩ := F4.str (y := K1) (.tail _ (.tail _ (.tail _ (.tail _ (.tail _ (.tail _ (.tail _ (.head _))))))))
  obtain ⟨t2, rfl⟩ := F4.str (y := K2) (.tail _ (.tail _ (.tail _ (.tail _ (.tail _ (.head _))))))
  obtain ⟨t3, rfl⟩ := F4.str (y := K3) (.tail _ (.tail _ (.tail _ (.head _))))
  obtain ⟨t4, rfl⟩ := F4.str (y := K4) (.tail _ (.head _))
  obtain ⟨V, O, m, f⟩ := F4
  obtain ⟨o, e0, hd, hg, _⟩ := f.getM (j := 0) at_head
  refine ⟨[(K1, v1), (K2, v2), (K3, v3), (K4, v4)], ⟨strKind_is _ _ _ _, rfl, strKind_is _ _ _ _, rfl, strKind_is _ _ _ _, rfl, strKind_is _ _ _ _, rfl, trivial⟩, Heap.dictOf_iff.mpr ⟨o, hg, hd⟩, fun h' hm hsb => ?_⟩
  obtain ⟨o', ho', hd'⟩ := Heap.dictOf_iff.mp hm
  have F5 : FS P.s₀ env.locals ρ ((D, .own (skd P (merged [] [(K1, v1), (K2, v2), (K3, v3), (K4, v4)]))) :: M) _ _ := ⟨V, _, m, f.setM (tk := s4.toks + 4) (j := 0) at_head hsb ho' hd'⟩
  obtain ⟨v, hva, hmem⟩ := hv v1 v2 v3 v4
  refine (hs D _).go F5 fun w5 s5 F6 => ?_
  obtain ⟨t5, rfl⟩ := F6.str (.head _)
  obtain ⟨V, O, m, f⟩ := F6
  obtain ⟨o, e0, hd, hg, _⟩ := f.getM (j := 0) at_head
  have hmm : (D, o) ∈ O ++ V := List.mem_append.mpr (.inl (List.mem_of_getElem? e0))
  refine kdt_tail (knd := PySem.strKind P.prog P.w) f.nv hmm hd (kdt_getItem (knd := PySem.strKind P.prog P.w) f.nv hmm hd (strKind_is _ _ _ _) hva (k _ _ ?_)) (ht _ _)
  refine (FS.drop (p := (D, .own _)) ⟨V, O, m, f.tok (s5.toks + 1)⟩).sub (sub_head ?_ ?_)
  · exact hmem _ (.tail _ (.tail _ (.tail _ (.tail _ (.tail _ (.tail _ (.tail _ (.head _)))))))) (.tail _ (.tail _ (.tail _ (.tail _ (.tail _ (.head _)))))) (.tail _ (.tail _ (.tail _ (.head _)))) (.tail _ (.head _))
  · exact sub_tail (sub_tail (sub_tail (sub_tail (sub_tail (sub_tail (sub_tail (sub_tail (sub_tail sub_refl))))))))⟩
theorem is_ge (hK : P.K = hd.heap_1 P.w.params) (hA : Ok A 1) {x c v : Int} : CL P A M (.ref 420) [.d (Lit x GE c), .d (.int v)] (.d (.bool (decide (c ≤ v)))) M := by
  refine CL.fn2 (p1 := Str.ofString "literal") (p2 := Str.ofString "v") (ρ' := [(Str.ofString "literal", _), (Str.ofString "v", _)]) (cl := fun _ => []) hA (by rw [hK]; k_is) (by rw [hK]; k_is) (fun _ _ => by rfl) (by rfl) (by decide) (fun t1 t2 => LocOk.cons (by rfl) t1 (LocOk.cons (by rfl) t2 .nil)) (fun L' t1 t2 => .nil) ?_
  intro L L' oL τ s Q F k
  dsimp only [List.nil_append, List.cons_append] at F
  have hB := fun e => hA.deeper e
  refine S_asg F (by kxs_still) (by rfl) fun s F => ?_
  exact S_ret F (EV.tab (fun D => by kxs_still) (fun D => by kxs_still) (fun D => by kxs_still) (fun D => by kxs_still) (fun D φ => by kxs_still) (fun v1 v2 v3 v4 => ⟨v2, by rfl, fun _ _ h _ _ => h⟩)) fun v s' F' => k _ _ _ F'
theorem is_le (hK : P.K = hd.heap_1 P.w.params) (hA : Ok A 1) {x c v : Int} : CL P A M (.ref 420) [.d (Lit x LEs c), .d (.int v)] (.d (.bool (decide (v ≤ c)))) M := by
  refine CL.fn2 (p1 := Str.ofString "literal") (p2 := Str.ofString "v") (ρ' := [(Str.ofString "literal", _), (Str.ofString "v", _)]) (cl := fun _ => []) hA (by rw [hK]; k_is) (by rw [hK]; k_is) (fun _ _ => by rfl) (by rfl) (by decide) (fun t1 t2 => LocOk.cons (by rfl) t1 (LocOk.cons (by rfl) t2 .nil)) (fun L' t1 t2 => .nil) ?_
  intro L L' oL τ s Q F k
  dsimp only [List.nil_append, List.cons_append] at F
  have hB := fun e => hA.deeper e
  refine S_asg F (by kxs_still) (by rfl) fun s F => ?_
  exact S_ret F (EV.tab (fun D => by kxs_still) (fun D => by kxs_still) (fun D => by kxs_still) (fun D => by kxs_still) (fun D φ => by kxs_still) (fun v1 v2 v3 v4 => ⟨v1, by rfl, fun _ h _ _ _ => h⟩)) fun v s' F' => k _ _ _ F'
end

structure SL where
  x : Nat
  ge : Bool
  c : Int
def sgn (g : Bool) : Str := if g then GE else LEs
def litD (l : SL) : Dat := Lit l.x (sgn l.ge) l.c
def litB (l : SL) (v : Int) : Bool := if l.ge then decide (l.c ≤ v) else decide (v ≤ l.c)
def slOf : Dat → SL
  | .tuple [.int x, .str sg, .int c] => ⟨x.toNat, decide (sg = GE), c⟩
  | _ => ⟨0, true, 0⟩
theorem slOf_litD (l : SL) : slOf (litD l) = l := by
  obtain ⟨x, g, c⟩ := l
  cases g
  · show (⟨_, decide (LEs = GE), _⟩ : SL) = _
    rw [show decide (LEs = GE) = false by decide]
    simp
  · show (⟨_, decide (GE = GE), _⟩ : SL) = _
    simp
theorem ok_litD (l : SL) : kqdOk 8 (litD l) = true := by
  obtain ⟨x, g, c⟩ := l
  have h1 : PyData.strOk GE = true := by decide +kernel
  have h2 : PyData.strOk LEs = true := by decide +kernel
  cases g
  · simp only [litD, sgn, kqdOk, List.all_cons, List.all_nil, Bool.and_true, Bool.true_and, Bool.false_eq_true, if_false, h2]
  · simp only [litD, sgn, kqdOk, List.all_cons, List.all_nil, Bool.and_true, Bool.true_and, if_true, h1]
structure Row where
  (a b c : Int)
def rowD (r : Row) : Dat := .tuple [.int r.a, .int r.b, .int r.c]
def Row.at (r : Row) : Nat → Int
  | 0 => r.a
  | 1 => r.b
  | _ => r.c
def rowOf : Dat → Row
  | .tuple [.int a, .int b, .int c] => ⟨a, b, c⟩
  | _ => ⟨0, 0, 0⟩
theorem rowOf_rowD (r : Row) : rowOf (rowD r) = r := rfl
theorem row_get (r : Row) {k : Nat} (hk : k < 3) : ([Dat.int r.a, .int r.b, .int r.c])[k]? = some (.int (r.at k)) := by
  match k, hk with
  | 0, _ => rfl
  | 1, _ => rfl
  | 2, _ => rfl
def keepB (L : List SL) (r : Row) : Bool := L.all fun l => litB l (r.at l.x)
theorem map_getE {α : Type} {f : α → Dat} {l : List α} {i : Nat} {d : Dat} (h : (l.map f)[i]? = some d) : ∃ x, x ∈ l ∧ d = f x ∧ l[i]? = some x := by
  rw [List.getElem?_map] at h
  cases e : l[i]? with
  | none => rw [e] at h; cases h
  | some k => rw [e] at h; cases h; exact ⟨k, List.mem_of_getElem? e, rfl, rfl⟩
theorem ok_list {ds : List Dat} {n : Nat} (h : ∀ d ∈ ds, kqdOk n d = true) : kqdOk (n + 1) (.list ds) = true := by
  simp only [kqdOk, List.all_eq_true]; exact h
section
variable {P : Setup} {A : Around} {M : ME}
theorem is_ok (hK : P.K = hd.heap_1 P.w.params) (hA : Ok A 1) {l : SL} {v : Int} : CL P A M (.ref 420) [.d (litD l), .d (.int v)] (.d (.bool (litB l v))) M := by
  obtain ⟨x, g, c⟩ := l
  cases g
  · exact is_le hK hA
  · exact is_ge hK hA
theorem keep_ok (hK : P.K = hd.heap_1 P.w.params) (hA : Ok A 2) {rows : List Row} {L : List SL} {lv : LV} (hL : ∀ l ∈ L, l.x < 3) (hI : Itb P lv ((L.map litD).map .d)) (hl : L.length ≤ 1000) (hr : rows.length ≤ 1000) :
    CL P A M (.ref 435) [.d (.list (rows.map rowD)), lv] (.d (.list ((rows.filter (keepB L)).map rowD))) M := by
  refine CL.fn2 (p1 := Str.ofString "rows") (p2 := Str.ofString "literals") (ρ' := [(Str.ofString "rows", _)]) (cl := fun L' => [(L' + 1, .cell (some lv))]) hA (by rw [hK]; k_is) (by rw [hK]; k_is) (fun _ _ => by rfl) (by rfl) (by decide) (fun t1 _ => LocOk.cons (by rfl) t1 .nil) (fun L' _ t2 => by exact .some (by rfl) t2 .nil) ?_
  intro L0 L' oL τ s Q F k
  dsimp only [List.nil_append, List.cons_append] at F
  have hB := fun e => hA.deeper e
  have e : (((rows.map rowD).filter fun d => keepB L (rowOf d)).map id) = (rows.filter (keepB L)).map rowD := by
    rw [List.map_id, List.filter_map]; rfl
  refine S_ret F (EV.to (EV.comp1 (ds := rows.map rowD) (c := fun d => keepB L (rowOf d)) (f := id) (hB _).hh (by rfl) (by kxs_still) (it_list _) (by simp; omega) (fun _ _ => by rfl) ?_) (by rw [e])) fun v s' F' => k _ _ _ F'.drop
  intro i d hd L'' oL' acc it o ψ X
  obtain ⟨r, _, rfl, _⟩ := map_getE hd
  rw [rowOf_rowD]
  refine TURN.ofc (by rfl) (by rfl) (by rfl) (TS.one (TV.cmp (EV.comp0 (ds := L.map litD) (Ms := fun _ => _) (c := fun d => !(litB (slOf d) (r.at (slOf d).x))) (f := id) (hB _).hh (by rfl) (by kxs_still) hI (by simp; omega) (fun _ _ => by rfl) ?_) (by kxs_still) (CO.eqD (hB _).uu ?_ (by rfl) ?_))) (fun _ => by kxs_still)
  · intro i d hd L3 oL3 acc3 it3 ψ3 X3
    obtain ⟨l, hl, rfl, _⟩ := map_getE hd
    rw [slOf_litD]
    have hx := hL l hl
    have hg := row_get r hx
    exact TURN.of (TG.name (by rfl)) (TS.one (TV.not (TV.val (EV.callK (by kxs_still) (by rw [hK]; k_is) (AR.cons (by kxs_still) (AR.cons (EV.item (lv := .d (.int (r.at l.x))) (by kxs_still) (EV.item (lv := .d (.int l.x)) (by kxs_still) (by kxs_still) (SU.tup (i := 0) (by rfl) rfl (by decide))) (SU.tup hg rfl (by omega))) AR.nil)) (is_ok hK (hB _)))))) (fun _ => by kxs_still) (fun _ => rfl)
  · rw [List.map_id]
    refine ok_list fun d hd => ?_
    obtain ⟨l, _, rfl⟩ := List.mem_map.mp (List.mem_filter.mp hd).1
    exact ok_litD l
  · rw [List.map_id]
    simp only [keepB, List.all_eq_true, Dat.list.injEq, List.filter_eq_nil_iff, List.mem_map, forall_exists_index, and_imp, forall_apply_eq_imp_iff₂, slOf_litD, Bool.not_eq_true', Bool.not_eq_false]
end

abbrev listI (l : List Int) : Dat := .list (l.map .int)
def hD (H : List (List Int)) : List Dat := H.map listI
def intOf : Dat → Int
  | .int i => i
  | _ => 0
abbrev hdI (l : List Int) : Int := l.headD 0
abbrev laI (l : List Int) : Int := l.getLastD 0
theorem hd_get {l : List Int} (h : l ≠ []) : (l.map Dat.int)[0]? = some (.int (hdI l)) := by
  cases l with
  | nil => exact absurd rfl h
  | cons x l => rfl
theorem la_get {l : List Int} (h : l ≠ []) : (l.map Dat.int)[l.length - 1]? = some (.int (laI l)) := by
  rw [List.getElem?_map, ← List.getLast?_eq_getElem?]
  cases l with
  | nil => exact absurd rfl h
  | cons x l => simp [laI, List.getLast?_cons, List.getLastD_cons]
abbrev rowAt (H : List (List Int)) (k : Nat) : List Int := H.getD k []
theorem hD_get {H : List (List Int)} {k : Nat} (hk : k < H.length) : ((hD H).map LV.d)[k]? = some (.d (listI (rowAt H k))) := by
  simp [hD, List.getElem?_eq_getElem hk, rowAt]
def dueSome (H : List (List Int)) (ls : List Int) (b e : Int) : List Nat := [0, 1, 2].filter fun k => decide (0 < lastOf ls k) && (decide (b ≤ hdI (rowAt H k)) && (decide (laI (rowAt H k) + lastOf ls k ≤ e) && true))
def due1 (need b : Int) (h : List Int) : List Int := if b ≤ hdI h then h.filter fun v => decide (b + need ≤ v) else h
def due2 (need la e : Int) (h : List Int) : List Int := if h ≠ [] ∧ laI h + la ≤ e then h.filter fun v => decide (v ≤ e - need - la) else h
def dueOn (ls : List Int) (so : List Nat) (need b e : Int) (k : Nat) : Bool := decide (0 < need) && (decide (0 < lastOf ls k) && (decide (k ∉ so) && (decide (e - b < need + lastOf ls k) && true)))
def dueStep (ls : List Int) (so : List Nat) (need b e : Int) (k : Nat) (H : List (List Int)) : List (List Int) × Bool :=
  if dueOn ls so need b e k = true then (H.set k (due2 need (lastOf ls k) e (due1 need b (rowAt H k))), decide (due2 need (lastOf ls k) e (due1 need b (rowAt H k)) ≠ [])) else (H, true)
def dueGo (ls : List Int) (so : List Nat) (need b e : Int) : List Nat → List (List Int) → List (List Int) × Bool
  | [], H => (H, true)
  | k :: ks, H => if (dueStep ls so need b e k H).2 = true then dueGo ls so need b e ks (dueStep ls so need b e k H).1 else ((dueStep ls so need b e k H).1, false)
def dueAll (H : List (List Int)) (ls : List Int) (b e : Int) : List (List Int) × Bool :=
  if e - b < needN ls (dueSome H ls b e) then (H, false) else dueGo ls (dueSome H ls b e) (needN ls (dueSome H ls b e)) b e [0, 1, 2] H
/-- the conjuncts of a test -/
structure AL (P : Setup) (A : Around) (env : Env) (ρ : LE) (M : ME) (es : List Expr) (b : Bool) : Prop where
  go : ∀ {τ : TE} {s : Shared} {Q : Bool → Shared → Prop} {E : Value → Shared → Prop}, FS P.s₀ env.locals ρ M τ s → (∀ s', FS P.s₀ env.locals ρ M τ s' → Q b s') → wpAny (model P.prog P.w) A (allTrue .And es env) Q E s
section
variable {P : Setup} {A : Around} {M : ME} {ρ : LE} {env : Env} {τ : TE} {s : Shared}
theorem AL.nil : AL P A env ρ M [] true := ⟨fun F k => wpAny_allTrue_And_nil (k _ F)⟩
theorem AL.cons {e : Expr} {es : List Expr} {b c : Bool} (h1 : TV P A env ρ M e b M) (h2 : b = true → AL P A env ρ M es c) : AL P A env ρ M (e :: es) (b && c) := ⟨fun F k => wpAny_allTrue_And_cons (h1.go F fun s₁ F₁ => by
  cases b with
  | false => exact k _ F₁
  | true => rw [if_pos rfl]; exact (h2 rfl).go F₁ k)⟩
theorem TV.all {es : List Expr} {b : Bool} {pos : Pos} (h : AL P A env ρ M es b) : TV P A env ρ M (.BoolOp .And es pos) b M := ⟨fun F k => wpAny_isTrue_BoolOp (h.go F k)⟩
theorem FS.recell {L c : Addr} {j : Nat} {v : Value} {lv : LV} (F : FS P.s₀ L ρ M τ s) (hm : M[j]? = some (c, .cell (some (.r v)))) (h2 : (v, lv) ∈ τ) : FS P.s₀ L ρ (M.set j (c, .cell (some lv))) τ s := by
  obtain ⟨V, O, m, f⟩ := F
  obtain ⟨o, e0, ⟨v', e, q⟩, hg, hL, h0⟩ := f.getM hm
  have q : v' = v := q
  subst q
  have hO : O.set j (c, o) = O := by
    apply List.ext_getElem?
    intro i
    rw [List.getElem?_set]
    split
    · rename_i h; subst h
      have := (List.getElem?_eq_some_iff.mp e0).1
      simp [this, e0]
      obtain ⟨_, h⟩ := List.getElem?_eq_some_iff.mp e0
      exact h.symm
    · rfl
  refine ⟨V, O, m, f.fr, f.nv, ?_, f.nd, f.dj, f.loc, f.tmp, f.same⟩
  have := f.om.set (x := .cell (some lv)) (o := o) ⟨v', e, f.tmp _ h2⟩ hm
  rwa [hO] at this
end
section
variable {P : Setup} {A : Around} {M : ME}
theorem nd_mem' {k : Nat} {l : List Nat} : (decide (k ∉ l) = true) ↔ nd k ∉ l.map nd := by rw [nd_mem]; simp
theorem int_get {l : List Int} {i : Nat} {d : Dat} (h : (l.map Dat.int)[i]? = some d) : ∃ x, x ∈ l ∧ d = .int x := by
  obtain ⟨x, hx, e, _⟩ := map_getE h
  exact ⟨x, hx, e⟩
theorem filt_int (l : List Int) (p : Int → Bool) : (((l.map Dat.int).filter fun d => p (intOf d)).map id) = (l.filter p).map Dat.int := by
  rw [List.map_id, List.filter_map]; rfl
theorem rowAt_set {H : List (List Int)} {k : Nat} {h : List Int} (hk : k < H.length) : rowAt (H.set k h) k = h := by
  simp [rowAt, hk]
theorem set_rowAt {H : List (List Int)} {k : Nat} (hk : k < H.length) : H.set k (rowAt H k) = H := by
  simp [rowAt, List.getElem?_eq_getElem hk]
theorem S_ifj {env : Env} {ρ : LE} {M M₁ M₂ : ME} {τ : TE} {s : Shared} {e : Expr} {c : Bool} {pos : Pos} {body stm : List Stmt} {Q : Flow → Shared → Prop} {E : Value → Shared → Prop} (F : FS P.s₀ env.locals ρ M τ s) (h1 : TV P A env ρ M e c M₁)
    (k1 : c = true → ∀ s' (Qn : Flow → Shared → Prop), FS P.s₀ env.locals ρ M₁ τ s' → (∀ s'', FS P.s₀ env.locals ρ M₂ τ s'' → Qn .next s'') → wpAny (model P.prog P.w) A (execs body env) Qn E s') (k2 : c = false → M₁ = M₂)
    (k : ∀ s', FS P.s₀ env.locals ρ M₂ τ s' → wpAny (model P.prog P.w) A (execs stm env) Q E s') : wpAny (model P.prog P.w) A (execs (.If e body [] pos :: stm) env) Q E s :=
  S_if F h1 (fun hc s F => k1 hc s _ F fun s F => k s F) fun hc s F => S_nil (k s (k2 hc ▸ F))
theorem due_ret {env : Env} {ρ : LE} {M : ME} {τ : TE} {s : Shared} {X : List (List Int)} {hn c6 c5 c4 c3 c2 c1 : Addr} {o6 o5 o4 o3 o2 : Option LV} {r : Bool} {n kk : Nat} {p1 p2 tp pos : Pos} {stm : List Stmt} {Q : Flow → Shared → Prop} {E : Value → Shared → Prop}
    (hx : env.kindOf (Str.ofString "held") = some .cell) (hc : env.cells.lookup (Str.ofString "held") = some c1) (hk : env.scope.kind = .function)
    (F : FS P.s₀ env.locals ρ ((hn, .list ((hD X).map .d)) :: (c6, .cell o6) :: (c5, .cell o5) :: (c4, .cell o4) :: (c3, .cell o3) :: (c2, .cell o2) :: (c1, .cell (some (.r (.ref hn)))) :: M) τ s)
    (k : ∀ v s' ρx, FS P.s₀ env.locals ρx M ((v, .d (.tuple [.bool r, .list (hD X)])) :: τ) s' → Q (.ret v) s') :
    wpAny (model P.prog P.w) A (execs (.Return (some (.Tuple [.Constant (.bool r) n p1, .Name (Str.ofString "held") p2] kk tp)) pos :: stm) env) Q E s := by
  have F := (F.freeze).recell (j := 5) rfl (.head _)
  dsimp only [List.set_cons_succ, List.set_cons_zero] at F
  have F := F.sub (sub_tail sub_refl)
  exact S_ret F (EV.tup (AR.cons EV.kBool (AR.cons (EV.cell hx hc (j := 5) rfl hk) AR.nil)) (by repeat constructor)) fun v s' F' => k v s' _ (FS.drop (FS.drop (FS.drop (FS.drop (FS.drop (FS.drop F'))))))
theorem due_ok (hK : P.K = hd.heap_1 P.w.params) (hA : Ok A 2) {H : List (List Int)} {ls : List Int} {b e : Int} {hm : Addr} {j : Nat} (hj : M[j]? = some (hm, .list ((hD H).map .d))) (h3 : ls.length = 3) (hH : H.length = 3) (hne : ∀ k, k < 3 → rowAt H k ≠ []) (hsz : ∀ k, k < 3 → (rowAt H k).length ≤ 900) :
    CL P A M (.ref 430) [.r (.ref hm), .d (.list (ls.map .int)), .d (.int b), .d (.int e)] (.d (.tuple [.bool (dueAll H ls b e).2, .list (hD (dueAll H ls b e).1)])) M := by
  refine CL.fn4 (p1 := Str.ofString "held") (p2 := Str.ofString "lasts") (p3 := Str.ofString "begin") (p4 := Str.ofString "end") (ρ' := []) (cl := fun L' => [(L' + 6, .cell none), (L' + 5, .cell none), (L' + 4, .cell (some (.d (.int e)))), (L' + 3, .cell (some (.d (.int b)))), (L' + 2, .cell (some (.d (.list (ls.map .int))))), (L' + 1, .cell (some (.r (.ref hm))))]) hA (by rw [hK]; k_is) (by rw [hK]; k_is) (fun _ _ _ _ => by rfl) (by rfl) (by decide) (fun _ _ _ _ => .nil) (fun L' t1 t2 t3 t4 => by exact .none (by rfl) (.none (by rfl) (.some (by rfl) t4 (.some (by rfl) t3 (.some (by rfl) t2 (.some (by rfl) t1 .nil)))))) ?_
  intro L L' oL τ s Q F kQ
  dsimp only [List.nil_append, List.cons_append] at F
  have hB := fun e => hA.deeper e
  have hgk : ∀ k, k < 3 → ((hD H).map LV.d)[k]? = some (.d (listI (rowAt H k))) := fun k hk => hD_get (by omega)
  -- some
  refine S_asgL (ds := [0, 1, 2].map nd) (Ms := fun _ => _) (c := fun d => decide (0 < lastOf ls (natOf d)) && (decide (b ≤ hdI (rowAt H (natOf d))) && (decide (laI (rowAt H (natOf d)) + lastOf ls (natOf d) ≤ e) && true))) (f := fun d => .d d) (hB _).hh F (by rfl) (by kxs_still) (rng3 ▸ it_range (by decide) (by decide)) (by decide) (fun _ _ => by rfl) (by rfl) ?_ fun acc τ₁ s hτ F => ?_
  · intro i d hd L'' oL' acc it ψ X
    obtain ⟨k, hk, rfl, _⟩ := nd_get hd
    have hk : k < 3 := by simp at hk; omega
    rw [natOf_nd]
    have hl := last_get h3 hk
    have hg := hgk k hk
    have hh := hd_get (hne k hk)
    have hla := la_get (hne k hk)
    have hlen : 0 < (rowAt H k).length := List.length_pos_iff.mpr (hne k hk)
    have hs9 := hsz k hk
    exact TURN.of (TG.name (by rfl)) (TS.one (TV.all (AL.cons (TV.cmp (EV.item (by kxs_still) (by kxs_still) (SU.lst hl rfl (by omega))) (by kxs_still) (by keq_rows)) fun _ => AL.cons (TV.cmp (by kxs_still) (EV.item (EV.item (by kxs_still) (by kxs_still) (SU.ml (by lcg_sub) hg rfl (by omega))) (by kxs_still) (SU.lst hh rfl (by decide))) (by keq_rows)) fun _ => AL.cons (TV.cmp (EV.bin (EV.item (EV.item (by kxs_still) (by kxs_still) (SU.ml (by lcg_sub) hg rfl (by omega))) (by kxs_still) (SU.lstN hla (by rw [List.length_map]; omega) (by decide) (by decide))) (EV.item (by kxs_still) (by kxs_still) (SU.lst hl rfl (by omega))) (by keq_rows)) (by kxs_still) (by keq_rows)) fun _ => AL.nil))) (fun _ => by kxs_still) (fun _ => rfl)
  have hso : (([0, 1, 2].map nd).filter fun d => decide (0 < lastOf ls (natOf d)) && (decide (b ≤ hdI (rowAt H (natOf d))) && (decide (laI (rowAt H (natOf d)) + lastOf ls (natOf d) ≤ e) && true))) = (dueSome H ls b e).map nd := by
    rw [List.filter_map]
    unfold dueSome
    congr 1
  have hsl : (dueSome H ls b e).length ≤ 3 := List.length_filter_le _ _
  have hslt : ∀ k ∈ dueSome H ls b e, k < 3 := fun k hk => by
    have := (List.mem_filter.mp hk).1
    simp at this; omega
  rw [hso] at F
  have hunf : dueAll H ls b e = dueAll H ls b e := rfl
  conv at hunf => rhs; unfold dueAll
  generalize dueSome H ls b e = so at F hsl hslt hunf
  replace F := F.freeze.reloc (x := Str.ofString "some") (by rfl) (.head _)
  replace F := (F.weak (ρ' := [(Str.ofString "some", .d (.list (so.map nd)))]) (fun p hp => by simp only [List.mem_cons, List.not_mem_nil, or_false] at hp; subst hp; rfl) (sub_tail hτ))
  -- need
  generalize hneed : needN ls so = need at hunf
  have hsum : (((so.map nd).filter fun _ => true).map fun d => Dat.int (lastOf ls (natOf d))) = (so.map (lastOf ls)).map Dat.int := by
    rw [List.filter_eq_self.mpr (fun _ _ => rfl), List.map_map, List.map_map]
    exact List.map_congr_left fun k _ => by simp [natOf_nd]
  refine S_asgC F (lv := .d (.int need)) (EV.to (EV.callB (by kxs_still) (AR.cons (EV.to (EV.comp0 (ds := so.map nd) (Ms := fun _ => _) (c := fun _ => true) (f := fun d => .int (lastOf ls (natOf d))) (hB _).hh (by rfl) (by kxs_still) (it_list _) (by simp; omega) (fun _ _ => by rfl) (fun i d hd L'' oL' acc it ψ X => by
    obtain ⟨k, hk, rfl, _⟩ := nd_get hd
    rw [natOf_nd]
    exact TURN.of (TG.name (by rfl)) TS.nil (fun _ => EV.item (by kxs_still) (by kxs_still) (SU.lst (last_get h3 (hslt k hk)) rfl (by have := hslt k hk; omega))) (fun h => nomatch h))) (by rw [hsum])) AR.nil) (CL.sum (hB _).hh)) (by rw [← hneed]; rfl)) (by rfl) (by lcg_sub) (by rfl) fun s F => ?_
  dsimp only [List.set_cons_zero] at F
  -- held
  refine wpAny_execs_cons (wpAny_Assign_Name (compM (μp := [(hm, .list ((hD H).map .d))]) (ds := hD H) (Ms := fun _ => (L' + 6, .cell (some (.d (.int need)))) :: (L' + 5, .cell none) :: (L' + 4, .cell (some (.d (.int e)))) :: (L' + 3, .cell (some (.d (.int b)))) :: (L' + 2, .cell (some (.d (.list (ls.map .int))))) :: (L' + 1, .cell (some (.r (.ref hm)))) :: (L, .raw oL) :: M) (c := fun _ => true) (f := fun d => .d d) (hB _).hh F (by rfl) (by kxs_still) (it_mlist hm (hD H)) (fun i p hp => by
      obtain rfl : p = (hm, .list ((hD H).map .d)) := by simpa using hp
      have := List.mem_of_getElem? hj
      simp [this]) (by simp [hD]; omega) (fun _ _ => by rfl) (fun i d hd L'' oL' acc it ψ X => by
      obtain ⟨l, hl, rfl, hli⟩ := map_getE hd
      have hlen : (l.map Dat.int).length ≤ 10000 := by
        have hi := (List.getElem?_eq_some_iff.mp hli).1
        have := hsz i (by omega)
        rw [rowAt, List.getD_eq_getElem?_getD, hli] at this
        simp only [Option.getD_some] at this
        simp; omega
      exact TURN.of (TG.name (by rfl)) TS.nil (fun _ => EV.callT (by kxs_still) (by kas_types) (CL.listL hlen)) (fun h => nomatch h)) fun hn τ₂ s hτ₂ F => ?_) (by rfl))
  rw [List.filter_eq_self.mpr (fun _ _ => rfl)] at F
  refine st_cellI (P := P) (j := 6) (F.tr (.ref hn)) (by rfl) (by rfl) (.head _) (fun s F => ?_) (by rfl) (by rfl)
  replace F : FS P.s₀ L' [(Str.ofString "some", .d (.list (so.map nd)))] ((hn, .list ((hD H).map .d)) :: (L' + 6, .cell (some (.d (.int need)))) :: (L' + 5, .cell none) :: (L' + 4, .cell (some (.d (.int e)))) :: (L' + 3, .cell (some (.d (.int b)))) :: (L' + 2, .cell (some (.d (.list (ls.map .int))))) :: (L' + 1, .cell (some (.r (.ref hn)))) :: (L, .raw oL) :: M) τ s := F.sub (sub_tail hτ₂)
  refine S_if (c := decide (e - b < need)) F (by kpc_turns) (fun hc s F => ?_) (fun hc s F => S_nil ?_)
  · rw [if_pos (of_decide_eq_true hc)] at hunf
    rw [hunf] at kQ
    exact due_ret (by rfl) (by rfl) (by rfl) F fun v s' ρx F' => kQ _ _ _ F'
  rw [if_neg (of_decide_eq_false hc)] at hunf
  rw [hunf] at kQ
  clear hunf
  generalize hgo : dueGo ls so need b e [0, 1, 2] H = res at kQ
  have hdrop : ∀ i, i < 3 → ([0, 1, 2] : List Nat).drop i = i :: ([0, 1, 2] : List Nat).drop (i + 1) := by
    intro i hi
    match i, hi with
    | 0, _ => rfl
    | 1, _ => rfl
    | 2, _ => rfl
  refine S_forG (X := List (List Int) × Option LV) (ds := [0, 1, 2].map nd) (R := fun i x => i ≤ 3 ∧ x.1.length = 3 ∧ (∀ k, k < 3 → (rowAt x.1 k).length ≤ 900) ∧ (∀ k, i ≤ k → k < 3 → rowAt x.1 k ≠ []) ∧ dueGo ls so need b e (([0, 1, 2] : List Nat).drop i) x.1 = res) (ρs := fun _ => [(Str.ofString "some", .d (.list (so.map nd)))]) (Ms := fun x => (hn, .list ((hD x.1).map .d)) :: (L' + 6, .cell (some (.d (.int need)))) :: (L' + 5, .cell x.2) :: (L' + 4, .cell (some (.d (.int e)))) :: (L' + 3, .cell (some (.d (.int b)))) :: (L' + 2, .cell (some (.d (.list (ls.map .int))))) :: (L' + 1, .cell (some (.r (.ref hn)))) :: (L, .raw oL) :: M)
    (ρt := fun _ _ => [(Str.ofString "some", .d (.list (so.map nd)))]) (Mt := fun d x => (hn, .list ((hD x.1).map .d)) :: (L' + 6, .cell (some (.d (.int need)))) :: (L' + 5, .cell (some (.d d))) :: (L' + 4, .cell (some (.d (.int e)))) :: (L' + 3, .cell (some (.d (.int b)))) :: (L' + 2, .cell (some (.d (.list (ls.map .int))))) :: (L' + 1, .cell (some (.r (.ref hn)))) :: (L, .raw oL) :: M) (x0 := (H, none)) (hB _).hh F (by kxs_still) (rng3 ▸ it_range (by decide) (by decide)) ⟨by omega, hH, hsz, fun k _ hk => hne k hk, hgo⟩
    (fun i d x p hd hR => fun F hv k => assign_Name (st_cellI (P := P) (j := 3) F (by rfl) (by rfl) hv (fun s' F' => k s' F') (by rfl) (by rfl))) (fun i d x it ψ τ' s E' hd hR hτ' F => ?_) fun x s hR F => ?_
  · obtain ⟨X, kc⟩ := x
    obtain ⟨k, hkm, rfl, hki⟩ := nd_get hd
    have hk : k < 3 := by simp at hkm; omega
    have hik : k = i := by
      have hi : i < 3 := by simpa using (List.getElem?_eq_some_iff.mp hki).1
      match i, hi, hki with
      | 0, _, h => simpa using h.symm
      | 1, _, h => simpa using h.symm
      | 2, _, h => simpa using h.symm
    subst hik
    obtain ⟨_, hX, hXs, hXn, hres⟩ := hR
    dsimp only at hX hXs hXn hres
    rw [hdrop k hk] at hres
    have hl := last_get h3 hk
    have hg : ((hD X).map LV.d)[k]? = some (.d (listI (rowAt X k))) := hD_get (by omega)
    have hn0 := hXn k (Nat.le_refl _) hk
    have hh := hd_get hn0
    have hs9 := hXs k hk
    refine S_if (c := dueOn ls so need b e k) F (TV.all (AL.cons (TV.cmp (by kxs_still) (by kxs_still) (by keq_rows)) fun _ => AL.cons (TV.cmp (EV.item (by kxs_still) (by kxs_still) (SU.lst hl rfl (by omega))) (by kxs_still) (by keq_rows)) fun _ => AL.cons (TV.cmp (by kxs_still) (by kxs_still) (CO.notInL (c := decide (k ∉ so)) (hB _).uu (fun d hd => by obtain ⟨j, _, rfl⟩ := List.mem_map.mp hd; rfl) (by rfl) nd_mem')) fun _ => AL.cons (TV.cmp (EV.bin (by kxs_still) (EV.item (by kxs_still) (by kxs_still) (SU.lst hl rfl (by omega))) (by keq_rows)) (by kxs_still) (by keq_rows)) fun _ => AL.nil)) (fun hc s F => ?_) (fun hc s F => S_nil (S_nil ?_))
    · have hstep : dueStep ls so need b e k X = (X.set k (due2 need (lastOf ls k) e (due1 need b (rowAt X k))), decide (due2 need (lastOf ls k) e (due1 need b (rowAt X k)) ≠ [])) := by unfold dueStep; rw [if_pos hc]
      generalize hd1 : due1 need b (rowAt X k) = h1 at hstep
      generalize hd2 : due2 need (lastOf ls k) e h1 = h2 at hstep
      have hl1 : h1.length ≤ 900 := by
        rw [← hd1]; unfold due1; split
        · exact Nat.le_trans (List.length_filter_le _ _) hs9
        · exact hs9
      have hl2 : h2.length ≤ 900 := by
        rw [← hd2]; unfold due2; split
        · exact Nat.le_trans (List.length_filter_le _ _) hl1
        · exact hl1
      refine S_ifj (M₂ := (it, .own ψ) :: (hn, .list ((hD (X.set k h1)).map .d)) :: (L' + 6, .cell (some (.d (.int need)))) :: (L' + 5, .cell (some (.d (nd k)))) :: (L' + 4, .cell (some (.d (.int e)))) :: (L' + 3, .cell (some (.d (.int b)))) :: (L' + 2, .cell (some (.d (.list (ls.map .int))))) :: (L' + 1, .cell (some (.r (.ref hn)))) :: (L, .raw oL) :: M) (c := decide (b ≤ hdI (rowAt X k))) F (TV.cmp (EV.item (EV.item (by kxs_still) (by kxs_still) (SU.ml (by lcg_sub) hg rfl (by omega))) (by kxs_still) (SU.lst hh rfl (by decide))) (by kxs_still) (by keq_rows)) (fun hb s Qn F kn => ?_) (fun hb => ?_) fun s F => ?_
      · refine S_item (lv := .d (listI h1)) (i := k) F (EV.to (EV.comp0 (ds := (rowAt X k).map .int) (Ms := fun _ => _) (c := fun d => decide (b + need ≤ intOf d)) (f := id) (hB _).hh (by rfl) (EV.item (by kxs_still) (by kxs_still) (SU.ml (by lcg_sub) hg rfl (by omega))) (it_list _) (by rw [List.length_map]; omega) (fun _ _ => by rfl) (fun i d hd L'' oL' acc it ψ X => by
          obtain ⟨x, _, rfl⟩ := int_get hd
          exact TURN.of (TG.name (by rfl)) (TS.one (by kpc_turns)) (fun _ => by kxs_still) (fun _ => rfl))) (by rw [filt_int (rowAt X k) (fun v => decide (b + need ≤ v)), ← hd1, due1, if_pos (of_decide_eq_true hb)])) (by kxs_still) (by kxs_still) (by lcg_sub) rfl (by simp [hD]; omega) (by simp [hD]; omega) fun s F => S_nil (kn _ (F.mcast ?_))
        simp only [List.set_cons_succ, List.set_cons_zero, hD, List.map_set]
      · have : h1 = rowAt X k := by rw [← hd1, due1, if_neg (of_decide_eq_false hb)]
        rw [this, set_rowAt (by omega)]
      have hg1 : ((hD (X.set k h1)).map LV.d)[k]? = some (.d (listI h1)) := by
        have := @hD_get (X.set k h1) k (by simp; omega)
        rwa [rowAt_set (by omega)] at this
      refine S_ifj (M₂ := (it, .own ψ) :: (hn, .list ((hD (X.set k h2)).map .d)) :: (L' + 6, .cell (some (.d (.int need)))) :: (L' + 5, .cell (some (.d (nd k)))) :: (L' + 4, .cell (some (.d (.int e)))) :: (L' + 3, .cell (some (.d (.int b)))) :: (L' + 2, .cell (some (.d (.list (ls.map .int))))) :: (L' + 1, .cell (some (.r (.ref hn)))) :: (L, .raw oL) :: M) (c := decide (h1 ≠ []) && decide (laI h1 + lastOf ls k ≤ e)) F (TV.and2 (b := decide (h1 ≠ [])) (TV.cmp (EV.item (by kxs_still) (by kxs_still) (SU.ml (by lcg_sub) hg1 rfl (by omega))) (by kxs_still) (CO.neD (hB _).uu (ok_list fun d hd => by obtain ⟨x, _, rfl⟩ := List.mem_map.mp hd; rfl) (by rfl) (by simp))) (fun hne => TV.cmp (EV.bin (EV.item (EV.item (by kxs_still) (by kxs_still) (SU.ml (by lcg_sub) hg1 rfl (by omega))) (by kxs_still) (SU.lstN (la_get (of_decide_eq_true hne)) (by have := List.length_pos_iff.mpr (of_decide_eq_true hne); rw [List.length_map]; omega) (by decide) (by decide))) (EV.item (by kxs_still) (by kxs_still) (SU.lst hl rfl (by omega))) (by keq_rows)) (by kxs_still) (by keq_rows)) (fun _ => rfl)) (fun hb s Qn F kn => ?_) (fun hb => ?_) fun s F => ?_
      · refine S_item (lv := .d (listI h2)) (i := k) F (EV.to (EV.comp0 (ds := h1.map .int) (Ms := fun _ => _) (c := fun d => decide (intOf d ≤ e - need - lastOf ls k)) (f := id) (hB _).hh (by rfl) (EV.item (by kxs_still) (by kxs_still) (SU.ml (by lcg_sub) hg1 rfl (by omega))) (it_list _) (by rw [List.length_map]; omega) (fun _ _ => by rfl) (fun i d hd L'' oL' acc it ψ X => by
          obtain ⟨x, _, rfl⟩ := int_get hd
          exact TURN.of (TG.name (by rfl)) (TS.one (TV.cmp (by kxs_still) (EV.bin (by kxs_still) (EV.item (by kxs_still) (by kxs_still) (SU.lst hl rfl (by omega))) (by keq_rows)) (by keq_rows))) (fun _ => by kxs_still) (fun _ => rfl))) (by rw [filt_int h1 (fun v => decide (v ≤ e - need - lastOf ls k)), ← hd2, due2, if_pos (by simpa using hb)])) (by kxs_still) (by kxs_still) (by lcg_sub) rfl (by simp [hD]; omega) (by simp [hD]; omega) fun s F => S_nil (kn _ (F.mcast ?_))
        simp only [List.set_cons_succ, List.set_cons_zero, hD, List.map_set, List.set_set]
      · have : h2 = h1 := by rw [← hd2, due2, if_neg (by simpa using hb)]
        rw [this]
      have hg2 : ((hD (X.set k h2)).map LV.d)[k]? = some (.d (listI h2)) := by
        have := @hD_get (X.set k h2) k (by simp; omega)
        rwa [rowAt_set (by omega)] at this
      refine S_if (c := decide (h2 = [])) F (TV.cmp (EV.item (by kxs_still) (by kxs_still) (SU.ml (by lcg_sub) hg2 rfl (by omega))) (by kxs_still) (CO.eqD (hB _).uu (ok_list fun d hd => by obtain ⟨x, _, rfl⟩ := List.mem_map.mp hd; rfl) (by rfl) (by simp))) (fun hb s F => ?_) (fun hb s F => S_nil (S_nil (S_nil ?_)))
      · have hb := of_decide_eq_true hb
        have hr : res = (X.set k h2, false) := by
          rw [← hres]; unfold dueGo; rw [hstep]; simp [hb]
        subst hr
        exact due_ret (by rfl) (by rfl) (by rfl) (F.drop (p := (it, .own ψ))) fun v s' ρx F' => kQ _ _ _ (F'.sub (sub_head (.head _) (sub_tail hτ')))
      · have hb := of_decide_eq_false hb
        refine ⟨(X.set k h2, some (.d (nd k))), ⟨by omega, by simp [hX], fun j hj => ?_, fun j hj1 hj => ?_, ?_⟩, F⟩
        · by_cases hjk : j = k
          · subst hjk; show (rowAt (X.set j h2) j).length ≤ 900; rw [rowAt_set (by omega)]; exact hl2
          · have := hXs j hj
            simp only [rowAt, List.getD_eq_getElem?_getD, List.getElem?_set] at this ⊢
            rw [if_neg (Ne.symm hjk)]; exact this
        · have := hXn j (by omega) hj
          simp only [rowAt, List.getD_eq_getElem?_getD, List.getElem?_set] at this ⊢
          rw [if_neg (by omega)]; exact this
        · rw [← hres]; conv => rhs; unfold dueGo
          rw [hstep]; simp [hb]
    · have hstep : dueStep ls so need b e k X = (X, true) := by unfold dueStep; rw [if_neg (by rw [hc]; exact Bool.false_ne_true)]
      refine ⟨(X, some (.d (nd k))), ⟨by omega, hX, hXs, fun j hj1 hj => hXn j (by omega) hj, ?_⟩, F⟩
      rw [← hres]; conv => rhs; unfold dueGo
      rw [hstep]; rfl
  · obtain ⟨_, _, _, _, hres⟩ := hR
    have hr : res = (x.1, true) := hres.symm
    subst hr
    exact due_ret (by rfl) (by rfl) (by rfl) F fun v s' ρx F' => kQ _ _ _ F'
end

section
variable {P : Setup} {A : Around} {M M₁ : ME} {ρ : LE} {env : Env} {τ : TE} {s : Shared} {L : Addr} {V O : Led} {m : Str → Option Value}
theorem FX.renewM {s₀ : Shared} (f : FX s₀ L ρ M τ V O m s) {h' : Heap} {tk : Nat} {D : Addr} {o : Obj} {y : AO} (F' : Fr s₀.heap L h' m) (N' : News s₀.heap L h' ((D, o) :: (O ++ V))) (hD : ∀ p ∈ O ++ V, p.1 ≠ D) (hy : OIn V o y) : FX s₀ L ρ ((D, y) :: M) τ V ((D, o) :: O) m { s with heap := h', toks := tk } := by
  refine ⟨F', N', .cons hy f.om, ?_, fun p hp hm => ?_, f.loc, f.tmp, let ⟨_, _, e⟩ := f.same; ⟨h', tk, by rw [e]⟩⟩
  · rw [List.map_cons, List.nodup_cons]
    refine ⟨fun hm => ?_, f.nd⟩
    obtain ⟨q, hq, e⟩ := List.mem_map.mp hm
    exact hD q (List.mem_append.mpr (.inl hq)) e
  · rw [List.map_cons] at hm
    rcases List.mem_cons.mp hm with e | hm
    · exact hD p (List.mem_append.mpr (.inr hp)) e
    · exact f.dj p hp hm
theorem S_attrL {a C dx : Addr} {j j' : Nat} {fs : LE} {e₁ : Expr} {x : Str} {ap lp pos : Pos} {stm : List Stmt} {Q : Flow → Shared → Prop} {E : Value → Shared → Prop} (F : FS P.s₀ env.locals ρ M τ s) (h2 : ∀ D, EV P A env ρ ((D, .list []) :: M) e₁ (.r (.ref a)) ((D, .list []) :: M)) (m1 : M[j]? = some (a, .inst C dx)) (m2 : M[j']? = some (dx, .dict fs))
    (h3 : findIn P.K (.ref C) "__setattr__" = some (some (.builtin "object.__setattr__"))) (h4 : plainOver P.K C = true) (h5 : takerIn P.K C x = some none) (h6 : hasDictIn P.K C = true) (hz : fs.length ≤ 900)
    (k : ∀ D s', FS P.s₀ env.locals ρ ((D, .list []) :: M.set j' (dx, .dict (setF x (.r (.ref D)) fs))) τ s' → wpAny (model P.prog P.w) A (execs stm env) Q E s')
    (hs : swapsWith (.List [] lp) (some (.Attribute e₁ x ap)) pos.line env = pure false := by rfl) : wpAny (model P.prog P.w) A (execs (.Assign [.Attribute e₁ x ap] (.List [] lp) pos :: stm) env) Q E s :=
  wpAny_execs_cons (plainObj_wpAny_Assign_Attribute (List_ (args_nil (d_listM F .nil (by simp) fun D s₁ F₁ => (h2 D).go F₁ fun ov s₂ F₂ => by
    obtain rfl := F₂.rval (.head _)
    exact s_attr P.B F₂ (at_tail m1) (at_tail m2) (.tail _ (.head _)) h3 h4 h5 h6 hz fun s' F' => k D _ (F'.sub (sub_tail (sub_tail sub_refl)))))) hs)
theorem S_attrD {a C dx : Addr} {j j' : Nat} {fs : LE} {e₁ : Expr} {x : Str} {ap lp pos : Pos} {stm : List Stmt} {Q : Flow → Shared → Prop} {E : Value → Shared → Prop} (F : FS P.s₀ env.locals ρ M τ s) (h2 : ∀ D, EV P A env ρ ((D, .own (isNews P 0)) :: M) e₁ (.r (.ref a)) ((D, .own (isNews P 0)) :: M)) (m1 : M[j]? = some (a, .inst C dx)) (m2 : M[j']? = some (dx, .dict fs))
    (h3 : findIn P.K (.ref C) "__setattr__" = some (some (.builtin "object.__setattr__"))) (h4 : plainOver P.K C = true) (h5 : takerIn P.K C x = some none) (h6 : hasDictIn P.K C = true) (hz : fs.length ≤ 900)
    (k : ∀ D s', FS P.s₀ env.locals ρ ((D, .own (isNews P 0)) :: M.set j' (dx, .dict (setF x (.r (.ref D)) fs))) τ s' → wpAny (model P.prog P.w) A (execs stm env) Q E s')
    (hs : swapsWith (.Dict [] [] lp) (some (.Attribute e₁ x ap)) pos.line env = pure false := by rfl) : wpAny (model P.prog P.w) A (execs (.Assign [.Attribute e₁ x ap] (.Dict [] [] lp) pos :: stm) env) Q E s := by
  refine wpAny_execs_cons (plainObj_wpAny_Assign_Attribute ?_ hs)
  obtain ⟨V, O, m, f⟩ := F
  obtain ⟨mean, mg, mb, T⟩ := P.B.T
  refine newDict_K f.fr f.nv T.nolimit fun D h' o F' N' l1 _ _ _ hd _ => ?_
  have F₁ : FS P.s₀ env.locals ρ ((D, .own (isNews P 0)) :: M) ((.ref D, .r (.ref D)) :: τ) { s with heap := h' } := ⟨V, _, m, (f.renewM (tk := s.toks) (y := .own (isNews P 0)) F' N' (fun p hp => Nat.ne_of_lt (l1 p hp)) ⟨[], hd, Nat.le_refl _⟩).tempr _⟩
  refine (h2 D).go F₁ fun ov s₂ F₂ => ?_
  obtain rfl := F₂.rval (.head _)
  exact s_attr P.B F₂ (at_tail m1) (at_tail m2) (.tail _ (.head _)) h3 h4 h5 h6 hz fun s' F' => k D _ (F'.sub (sub_tail (sub_tail sub_refl)))
def v0 : StV := ⟨[], [], [], [], 0, false, .tuple []⟩
theorem store_new (hK : P.K = hd.heap_1 P.w.params) (hA : Ok A 3) {Q E : Value → Shared → Prop} (F : FS P.s₀ L ρ M τ s) (k : ∀ a s', FS P.s₀ L ρ (SB P a v0 M) τ s' → Q (.ref a.st) s') : wpAny (model P.prog P.w) A (call (.ref 273) []) Q E s := by
  refine mk_inst (C := 273) (fI := 137) F (by rw [hK]; k_is) (by rw [hK]; k_is) (by rw [hK]; k_is) fun x dx s F => ?_
  have hC := hA.make (C := 273) (vals := [])
  refine code_fn (binds := [(Str.ofString "self", .ref x)]) (ρ' := [(Str.ofString "self", .r (.ref x))]) (cl := fun _ => []) P.B (F.tr (.ref x)) (f := 137) (by rw [hK]; k_is) (by rw [hK]; k_is) hC.room (by rfl) (by rfl) (by decide) (LocOk.cons (by rfl) (.head _) .nil) (fun L' => .nil) fun L' oL τc s bk F => ?_
  dsimp only [List.nil_append, List.cons_append] at F
  have hB := fun e => hC.deeper e
  refine S_attrL F (fun D => by kxs_still) (by lcg_sub) (by lcg_sub) (by rw [hK]; k_is) (by rw [hK]; k_is) (by rw [hK]; k_is) (by rw [hK]; k_is) (by simp) fun D s F => ?_
  replace F := F.mcast (M' := (D, .list []) :: (L, .raw oL) :: (x, .inst 273 dx) :: (dx, .dict [(Str.ofString "domains", .r (.ref D))]) :: M) (by rfl)
  refine S_attrL F (fun D => by kxs_still) (by lcg_sub) (by lcg_sub) (by rw [hK]; k_is) (by rw [hK]; k_is) (by rw [hK]; k_is) (by rw [hK]; k_is) (by simp) fun Fi s F => ?_
  replace F := F.mcast (M' := (Fi, .list []) :: (D, .list []) :: (L, .raw oL) :: (x, .inst 273 dx) :: (dx, .dict [(Str.ofString "domains", .r (.ref D)), (Str.ofString "firsts", .r (.ref Fi))]) :: M) (by rfl)
  refine S_attrL F (fun D => by kxs_still) (by lcg_sub) (by lcg_sub) (by rw [hK]; k_is) (by rw [hK]; k_is) (by rw [hK]; k_is) (by rw [hK]; k_is) (by simp) fun T s F => ?_
  replace F := F.mcast (M' := (T, .list []) :: (Fi, .list []) :: (D, .list []) :: (L, .raw oL) :: (x, .inst 273 dx) :: (dx, .dict [(Str.ofString "domains", .r (.ref D)), (Str.ofString "firsts", .r (.ref Fi)), (Str.ofString "trail", .r (.ref T))]) :: M) (by rfl)
  refine S_attrL F (fun D => by kxs_still) (by lcg_sub) (by lcg_sub) (by rw [hK]; k_is) (by rw [hK]; k_is) (by rw [hK]; k_is) (by rw [hK]; k_is) (by simp) fun Mk s F => ?_
  replace F := F.mcast (M' := (Mk, .list []) :: (T, .list []) :: (Fi, .list []) :: (D, .list []) :: (L, .raw oL) :: (x, .inst 273 dx) :: (dx, .dict [(Str.ofString "domains", .r (.ref D)), (Str.ofString "firsts", .r (.ref Fi)), (Str.ofString "trail", .r (.ref T)), (Str.ofString "marks", .r (.ref Mk))]) :: M) (by rfl)
  refine S_attrD F (fun D => by kxs_still) (by lcg_sub) (by lcg_sub) (by rw [hK]; k_is) (by rw [hK]; k_is) (by rw [hK]; k_is) (by rw [hK]; k_is) (by simp) fun N s F => ?_
  replace F := F.mcast (M' := (N, .own (isNews P 0)) :: (Mk, .list []) :: (T, .list []) :: (Fi, .list []) :: (D, .list []) :: (L, .raw oL) :: (x, .inst 273 dx) :: (dx, .dict [(Str.ofString "domains", .r (.ref D)), (Str.ofString "firsts", .r (.ref Fi)), (Str.ofString "trail", .r (.ref T)), (Str.ofString "marks", .r (.ref Mk)), (Str.ofString "news", .r (.ref N))]) :: M) (by rfl)
  refine S_attr F (by kxs_still) (by kxs_still) (by lcg_sub) (by lcg_sub) (by rw [hK]; k_is) (by rw [hK]; k_is) (by rw [hK]; k_is) (by rw [hK]; k_is) (by simp) fun s F => ?_
  replace F := F.mcast (M' := (N, .own (isNews P 0)) :: (Mk, .list []) :: (T, .list []) :: (Fi, .list []) :: (D, .list []) :: (L, .raw oL) :: (x, .inst 273 dx) :: (dx, .dict [(Str.ofString "domains", .r (.ref D)), (Str.ofString "firsts", .r (.ref Fi)), (Str.ofString "trail", .r (.ref T)), (Str.ofString "marks", .r (.ref Mk)), (Str.ofString "news", .r (.ref N)), (Str.ofString "speaker", .d (.int (-1)))]) :: M) (by rfl)
  refine S_attr F (by kxs_still) (by kxs_still) (by lcg_sub) (by lcg_sub) (by rw [hK]; k_is) (by rw [hK]; k_is) (by rw [hK]; k_is) (by rw [hK]; k_is) (by simp) fun s F => ?_
  replace F := F.mcast (M' := (N, .own (isNews P 0)) :: (Mk, .list []) :: (T, .list []) :: (Fi, .list []) :: (D, .list []) :: (L, .raw oL) :: (x, .inst 273 dx) :: (dx, .dict [(Str.ofString "domains", .r (.ref D)), (Str.ofString "firsts", .r (.ref Fi)), (Str.ofString "trail", .r (.ref T)), (Str.ofString "marks", .r (.ref Mk)), (Str.ofString "news", .r (.ref N)), (Str.ofString "speaker", .d (.int (-1))), (Str.ofString "is_failed", .d (.bool false))]) :: M) (by rfl)
  refine S_attr F (by kxs_still) (by kxs_still) (by lcg_sub) (by lcg_sub) (by rw [hK]; k_is) (by rw [hK]; k_is) (by rw [hK]; k_is) (by rw [hK]; k_is) (by simp) fun s F => ?_
  replace F := F.mcast (M' := (N, .own (isNews P 0)) :: (Mk, .list []) :: (T, .list []) :: (Fi, .list []) :: (D, .list []) :: (L, .raw oL) :: (x, .inst 273 dx) :: (dx, .dict [(Str.ofString "domains", .r (.ref D)), (Str.ofString "firsts", .r (.ref Fi)), (Str.ofString "trail", .r (.ref T)), (Str.ofString "marks", .r (.ref Mk)), (Str.ofString "news", .r (.ref N)), (Str.ofString "speaker", .d (.int (-1))), (Str.ofString "is_failed", .d (.bool false)), (Str.ofString "clash", .d (.tuple []))]) :: M) (by rfl)
  refine S_nil ⟨rfl, ?_⟩
  have F' := FS.sel (P := [(N, .own (isNews P 0)), (Mk, .list []), (T, .list []), (Fi, .list []), (D, .list []), (L, .raw oL), (x, .inst 273 dx), (dx, .dict [(Str.ofString "domains", .r (.ref D)), (Str.ofString "firsts", .r (.ref Fi)), (Str.ofString "trail", .r (.ref T)), (Str.ofString "marks", .r (.ref Mk)), (Str.ofString "news", .r (.ref N)), (Str.ofString "speaker", .d (.int (-1))), (Str.ofString "is_failed", .d (.bool false)), (Str.ofString "clash", .d (.tuple []))])]) (M₀ := M) [5, 6, 7, 4, 3, 2, 1, 0] F (by decide)
  have F'' := bk _ _ _ _ _ (F'.mcast (M' := (L, .raw oL) :: SB P ⟨x, dx, D, Fi, T, Mk, N⟩ v0 M) (by rfl)) (fun p hp => List.mem_append.mpr (.inl hp))
  exact k ⟨x, dx, D, Fi, T, Mk, N⟩ _ (F''.sub (fun p hp => List.mem_append.mpr (.inr (.tail _ hp))))
end

section
variable {P : Setup} {A : Around} {M M₁ : ME} {ρ : LE} {env : Env} {τ : TE} {s : Shared} {L : Addr} {V O : Led} {m : Str → Option Value} 
def bestI (ns : List Int) : Int := ns.getD (argBest (fun i j => decide (ns.getD i 0 < ns.getD j 0)) (ns.length - 1)) 0
theorem ints_get {V : Led} {ns : List Int} {vs : List Value} (h : DatAll V vs (ns.map .int)) {i : Nat} {v : Value} (e : vs[i]? = some v) : ∃ t, v = .int (ns.getD i 0) t := by
  induction ns generalizing vs i with
  | nil => cases h; simp at e
  | cons n ns ih =>
    cases h with
    | cons a b =>
      cases i with
      | zero => simp at e; subst e; cases a with | int _ t => exact ⟨t, rfl⟩
      | succ i => simp at e; simpa using ih b e
theorem CL.minT {ns : List Int} (hh : A.handled = none) (hn : ns ≠ []) : CL P A M (.builtin "min") [.d (.tuple (ns.map .int))] (.d (.int (bestI ns))) M := ⟨by
  intro L ρ τ s Q E vs F t k
  cases t with | cons t1 t2 =>
  cases t2
  obtain ⟨V, O, m, f⟩ := F
  obtain ⟨x, vs, n, rfl, hm, hg, q⟩ := f.tup t1
  have hl : s.heap.IsTuple x vs.toArray := ⟨_, hg, rfl, n, rfl⟩
  have hlen := q.length
  rw [List.length_map] at hlen
  refine call_min_walk (wpAny_pyIter_tuple hl ?_)
  have hne : x ≠ s.heap.objs.size := Nat.ne_of_lt (Heap.lt_size hg)
  have W := Walks.tuple (prog := P.prog) (w := P.w) (A := A.in1) hh s.heap.objs.size x hne vs.toArray
  have f₁ := f.pushM { cls := .type "tuple_iterator", data := .fields #[.ref x, .int 0 0] } (y := .raw { cls := .type "tuple_iterator", data := .fields #[.ref x, .int 0 0] }) rfl
  refine ⟨s.heap.objs.size, _, _, _, _, _, _, rfl, W, ⟨⟨_, Heap.get?_push_size _ rfl, rfl, rfl⟩, hl.push _⟩, fun b hb => ?_, by rw [List.size_toArray, hlen]; exact List.length_pos_iff.mpr hn, CmpOf.ints_lt (fun i => ns.getD i 0) (fun i v e => ints_get q (by simpa using e)), fun v h' tk hv hk => ?_⟩
  · simp only [List.mem_cons, List.not_mem_nil, or_false] at hb
    rcases hb with rfl | rfl
    · rw [Heap.size_push]; exact Nat.lt_succ_self _
    · rw [Heap.size_push]; exact Nat.lt_succ_of_lt (Heap.lt_size hg)
  · obtain ⟨t, rfl⟩ := ints_get q (by simpa using hv)
    rw [hlen]
    have f₂ := f₁.eraseE (j := 0) (tk := tk) at_head fun b o hb e => hk b o (by simpa using hb) e
    exact k _ _ ⟨V, _, m, f₂.tempd (.int _ _)⟩⟩
theorem bestI_nonneg {ns : List Int} (h : ∀ n ∈ ns, 0 ≤ n) : 0 ≤ bestI ns := by
  unfold bestI
  generalize argBest _ _ = i
  rw [List.getD_eq_getElem?_getD]
  cases e : ns[i]? with
  | none => simp
  | some n => exact h n (List.mem_of_getElem? e)
theorem numbers_ok (hK : P.K = hd.heap_1 P.w.params) (hA : Ok A 2) {ls : List Int} {wh : Str} (h3 : ls.length = 3) (hp : ∀ n ∈ ls, 0 ≤ n) : CL P A M (.ref 326) [.d (.list (ls.map .int)), .d (.int 3), .d (.str wh)] (.d (.tuple (ls.map .int))) M := by
  refine CL.fn3 (p1 := Str.ofString "some") (p2 := Str.ofString "many") (p3 := Str.ofString "what") (ρ' := [(Str.ofString "some", _), (Str.ofString "many", _), (Str.ofString "what", _)]) (cl := fun _ => []) hA (by rw [hK]; k_is) (by rw [hK]; k_is) (fun _ _ _ => by rfl) (by rfl) (by decide) (fun t1 t2 t3 => LocOk.cons (by rfl) t1 (LocOk.cons (by rfl) t2 (LocOk.cons (by rfl) t3 .nil))) (fun L' t1 t2 t3 => .nil) ?_
  intro L L' oL τ s Q F k
  dsimp only [List.nil_append, List.cons_append] at F
  have hB := fun e => hA.deeper e
  have hne : ls.map Dat.int ≠ [] := by intro h; simp at h; subst h; simp at h3
  have hcat : ls.map Dat.int ++ [.int 0] = (ls ++ [0]).map Dat.int := by simp
  refine S_asg F (EV.callT (by kxs_still) (by kas_types) (CL.tupL (by rw [List.length_map]; omega))) (by rfl) fun s F => ?_
  refine S_ifF F (TV.to (TV.or2 (b := false) (c := false) (TV.to (TV.cmp (EV.callB (by kxs_still) (by kas_types) (CL.lenT (by rw [List.length_map]; omega))) (by kxs_still) (by keq_rows)) (by rw [List.length_map, h3]; rfl)) (fun _ => TV.to (TV.cmp (EV.callB (by kxs_still) (AR.cons (EV.to (EV.bin (by kxs_still) (EV.tup (by kas_types) (by repeat constructor)) (by exact BO.catT hne (by simp) (by rw [List.length_map]; simp; omega))) (by rw [hcat])) AR.nil) (CL.minT (hB _).hh (by simp))) (by kxs_still) (by keq_rows)) (decide_eq_false (Int.not_lt.mpr (bestI_nonneg (fun n hn => by
    rcases List.mem_append.mp hn with h | h
    · exact hp n h
    · simp at h; omega))))) (fun h => nomatch h)) (by rfl)) fun s F => ?_
  exact S_ret F (by kxs_still) fun v s' F' => k _ _ _ F'
/-- Propagator.__init__ -/
theorem prop_ok (hK : P.K = hd.heap_1 P.w.params) (hA : Ok A 1) {ds : List Dat} {wk : Str} {x dx : Addr} {v1 v2 : Value} {R : Result → Shared → Prop} (F₀ : FS P.s₀ L ρ ((x, .inst 404 dx) :: (dx, .dict []) :: M) τ s) (t0 : (Value.ref x, LV.r (.ref x)) ∈ τ) (t1 : (v1, LV.d (.tuple ds)) ∈ τ) (t2 : (v2, LV.d (.str wk)) ∈ τ)
    (kR : ∀ v s', FS P.s₀ L ρ ((x, .inst 404 dx) :: (dx, .dict [(Str.ofString "number", .d (.int (-1))), (Str.ofString "scope", .d (.tuple ds)), (Str.ofString "strength", .d (.str wk))]) :: M) ((v, .d .none) :: τ) s' → R (.ok (.ret v)) s') : codeAny (model P.prog P.w) A (.call (.ref 291) ⟨[.ref x, v1, v2], []⟩) R s := by
  refine bd_code (binds := [(Str.ofString "self", _), (Str.ofString "scope", _), (Str.ofString "strength", _)]) (ρ' := [(Str.ofString "self", _), (Str.ofString "scope", _), (Str.ofString "strength", _)]) (cl := fun _ => []) hA F₀ (by rw [hK]; k_is) (by rw [hK]; k_is) (by rfl) (by rfl) (by decide) (LocOk.cons (by rfl) t0 (LocOk.cons (by rfl) t1 (LocOk.cons (by rfl) t2 .nil))) (fun L' => .nil) ?_ kR
  intro L L' oL τ s Q F k
  dsimp only [List.nil_append, List.cons_append] at F
  have hB := fun e => hA.deeper e
  refine S_attr F (by kxs_still) (by kxs_still) (by lcg_sub) (by lcg_sub) (by rw [hK]; k_is) (by rw [hK]; k_is) (by rw [hK]; k_is) (by rw [hK]; k_is) (by simp) fun s F => ?_
  replace F := F.mcast (M' := (L, .raw oL) :: (x, .inst 404 dx) :: (dx, .dict [(Str.ofString "number", .d (.int (-1)))]) :: M) (by rfl)
  refine S_attr F (by kxs_still) (by kxs_still) (by lcg_sub) (by lcg_sub) (by rw [hK]; k_is) (by rw [hK]; k_is) (by rw [hK]; k_is) (by rw [hK]; k_is) (by simp) fun s F => ?_
  replace F := F.mcast (M' := (L, .raw oL) :: (x, .inst 404 dx) :: (dx, .dict [(Str.ofString "number", .d (.int (-1))), (Str.ofString "scope", .d (.tuple ds))]) :: M) (by rfl)
  refine S_attr F (by kxs_still) (by kxs_still) (by lcg_sub) (by lcg_sub) (by rw [hK]; k_is) (by rw [hK]; k_is) (by rw [hK]; k_is) (by rw [hK]; k_is) (by simp) fun s F => ?_
  replace F := F.mcast (M' := (L, .raw oL) :: (x, .inst 404 dx) :: (dx, .dict [(Str.ofString "number", .d (.int (-1))), (Str.ofString "scope", .d (.tuple ds)), (Str.ofString "strength", .d (.str wk))]) :: M) (by rfl)
  exact S_nil (k _ _ _ F.nn)
end
section
variable {P : Setup} {A : Around} {M : ME} {ρ : LE} {τ : TE} {s : Shared} {L : Addr}
theorem disj_new (hP : P.prog = PySem.Challenge.rw_pc0042_01.row.prog) (hK : P.K = hd.heap_1 P.w.params) (hA : Ok A 6) {ls : List Int} (h3 : ls.length = 3) (hp : ∀ n ∈ ls, 0 ≤ n) {vs : List Value} {Q E : Value → Shared → Prop} (F : FS P.s₀ L ρ M τ s) (ht : TL τ vs [.d (.tuple [.int 0, .int 1, .int 2]), .d (.list (ls.map .int))])
    (k : ∀ x dx s', FS P.s₀ L ρ ((x, .inst 404 dx) :: (dx, .dict (dfs ls)) :: M) τ s' → Q (.ref x) s') : wpAny (model P.prog P.w) A (call (.ref 404) vs) Q E s := by
  cases ht with | cons t1 ht =>
  rename_i v1 vs
  cases ht with | cons t2 ht =>
  rename_i v2 vs
  cases ht
  refine mk_inst (C := 404) (fI := 342) F (by rw [hK]; k_is) (by rw [hK]; k_is) (by rw [hK]; k_is) fun x dx s F => ?_
  have hC := hA.make (C := 404) (vals := [v1, v2])
  refine code_cls (binds := [(Str.ofString "self", .ref x), (Str.ofString "starts", _), (Str.ofString "lasts", _)]) (ρ' := [(Str.ofString "self", .r (.ref x)), (Str.ofString "starts", _), (Str.ofString "lasts", _)]) (F.tr (.ref x)) (f := 342) (by rw [hK]; k_is) (by rw [hK]; k_is) hC.room (BindsTo.of_eq rfl) (locs rfl) (LocOk.cons (by rfl) (.head _) (LocOk.cons (by rfl) (.tail _ t1) (LocOk.cons (by rfl) (.tail _ t2) .nil))) (fun L' oL τc s bk F => ?_) (by decide)
  have hB := fun e => hC.deeper e
  refine ks_wpAt_execs_cons (ks_wpAt_Expr_any (ks_wpAt_MethodCall ?_))
  obtain ⟨V, O, m, f⟩ := F
  obtain ⟨mean, mg, mb, T⟩ := P.B.T
  obtain ⟨es, n, i2, q, I⟩ := f.inst (at_tail at_head) (at_tail (at_tail at_head))
  obtain ⟨sv, e1, e2⟩ := f.loc (Str.ofString "self") _ (by rfl)
  have e2 : sv = .ref x := e2
  subst e2
  refine ks_node f.fr P.B.X f.nv T (by rw [hK]; k_is) (by rfl) e1 I (by rw [hK]; k_is) (by rfl) (by rw [hP]; first | rfl | decide +kernel) (by rw [hK]; k_is) (by rw [hK]; k_is) (by rw [hK]; k_is) (by rw [hK]; k_is) (by decide) (by rfl) (by rfl) (by rfl) (by rfl) (by rw [hP]; decide +kernel) (by first | boot_by_name | rfl | kernel_rfl) fun so h' F' N' l1 => ?_
  have f₁ := (f.renewV (tk := s.toks) F' N' fun p hp => Nat.ne_of_lt (l1 p hp)).temp (x := .o (ks_superObj 404 x 404)) ⟨so, rfl, .head _⟩
  obtain ⟨es, n, i2, q, I⟩ := f₁.inst (at_tail at_head) (at_tail (at_tail at_head))
  refine ks_method f₁.fr P.B.X f₁.nv (List.mem_append.mpr (.inr (.head _))) I (by rw [hK]; k_is) (by rw [hK]; ks_is) (by rw [hK]; k_is) (by decide) fun q' h' F' N' l1 => ?_
  have f₂ := (f₁.renewV (tk := s.toks + 1) F' N' fun p hp => Nat.ne_of_lt (l1 p hp)).temp (x := .o (methodObj (.ref 291) (.ref x))) ⟨q', rfl, .head _⟩
  have F₂ : FS P.s₀ L' _ _ _ _ := ⟨_, _, _, f₂⟩
  refine callWith_M P.B.X f₂.nv (List.mem_append.mpr (.inr (.head _))) (by rw [hK]; k_is) ((AR.cons (EV.loc (by rfl) (by rfl)) (AR.cons EV.kStr AR.nil)).go F₂ fun vs τ' s₃ F₃ t hs => ?_)
  have hq : s₃.heap.get? q' = some (methodObj (.ref 291) (.ref x)) := by
    obtain ⟨V, O, m, f⟩ := F₃
    exact (f.oat' (hs _ (.head _))).2
  refine ⟨⟨hq, F₃.keep⟩, ?_⟩
  cases t with | cons t1' t =>
  cases t with | cons t2' t =>
  cases t
  have F₃' := (FS.sel (P := [(L, .raw oL), (x, .inst 404 dx), (dx, .dict [])]) (M₀ := M) [1, 2, 0] F₃ (by decide)).mcast (M' := (x, .inst 404 dx) :: (dx, .dict []) :: (L, .raw oL) :: M) (by rfl)
  refine wpAny_call (ks_codeAny_call_bound hq (prop_ok (M := (L, .raw oL) :: M) hK (hB _ |>.le (by decide)) F₃' (hs _ (.tail _ (.tail _ (List.mem_append.mpr (.inr (.head _)))))) t1' t2' fun v s' F' => ?_))
  have F₄ := (FS.sel (P := [(x, .inst 404 dx), (dx, .dict [(Str.ofString "number", .d (.int (-1))), (Str.ofString "scope", .d (.tuple [.int 0, .int 1, .int 2])), (Str.ofString "strength", .d (.str (Str.ofString "weak")))]), (L, .raw oL)]) (M₀ := M) [2, 0, 1] F' (by decide)).mcast (M' := (L, .raw oL) :: (x, .inst 404 dx) :: (dx, .dict [(Str.ofString "number", .d (.int (-1))), (Str.ofString "scope", .d (.tuple [.int 0, .int 1, .int 2])), (Str.ofString "strength", .d (.str (Str.ofString "weak")))]) :: M) (by rfl)
  replace F₄ := F₄.sub (sub_tail (fun p hp => hs p (.tail _ (.tail _ hp))))
  refine wpAt_of_wpAny ?_
  refine S_attr (lv := .d (.tuple (ls.map .int))) F₄ (EV.callK (by kxs_still) (by rw [hK]; k_is) (AR.cons (by kxs_still) (AR.cons (EV.to (EV.callB (by kxs_still) (by kas_types) (by kbo_bools)) (by rfl)) (AR.cons (by kxs_still) AR.nil))) (numbers_ok hK ((hB _).le (by decide)) h3 hp)) (by kxs_still) (by lcg_sub) (by lcg_sub) (by rw [hK]; k_is) (by rw [hK]; k_is) (by rw [hK]; k_is) (by rw [hK]; k_is) (by simp) fun s F => ?_
  replace F := F.mcast (M' := (L, .raw oL) :: (x, .inst 404 dx) :: (dx, .dict (dfs ls)) :: M) (by rfl)
  refine S_nil ⟨rfl, ?_⟩
  exact k x dx _ ((bk _ _ _ _ _ F (fun p hp => List.mem_append.mpr (.inl hp))).sub (fun p hp => List.mem_append.mpr (.inr (.tail _ hp))))
end

def rngI (a b : Int) : List Int := (List.range (b - a).toNat).map fun (i : Nat) => a + (i : Int)
theorem rngL_eq (a b : Int) : rngL a b = (rngI a b).map .int := by simp [rngL, rngI]
def timesI (as bs : List Int) : List Int := (as.zip bs).flatMap fun p => rngI p.1 (p.1 + p.2)
theorem timesD_eq (as bs : List Int) : timesD as bs = (timesI as bs).map .int := by
  unfold timesD timesI
  rw [List.map_flatMap]
  congr 1
  funext p
  exact rngL_eq _ _
def rowOk (ls : List Int) (r : Row) : Bool := decide (((timesI [r.a, r.b, r.c] ls).length : Int) = (setN (timesI [r.a, r.b, r.c] ls) : Int))
def rows3 (ls : List Int) (a b : Int) (C : List Int) : List Row := C.flatMap fun c => if rowOk ls ⟨a, b, c⟩ = true then [⟨a, b, c⟩] else []
def rows2 (ls : List Int) (a : Int) (B C : List Int) : List Row := B.flatMap fun b => rows3 ls a b C
def rowsN (ls : List Int) (A B C : List Int) : List Row := A.flatMap fun a => rows2 ls a B C
theorem take_int {l : List Int} {i : Nat} {d : Dat} (h : (l.map Dat.int)[i]? = some d) : ∃ x, x ∈ l ∧ d = .int x ∧ l.take (i + 1) = l.take i ++ [x] := by
  obtain ⟨x, hx, e, hi⟩ := map_getE h
  exact ⟨x, hx, e, by rw [List.take_add_one, hi]; rfl⟩
theorem timesI_len {as bs : List Int} (h : as.length ≤ 3) (hb : ∀ b ∈ bs, b ≤ 100) : (timesI as bs).length ≤ 1000 := by
  have gen : ∀ l : List (Int × Int), (∀ p ∈ l, p.2 ≤ 100) → (l.flatMap fun p => rngI p.1 (p.1 + p.2)).length ≤ 100 * l.length := by
    intro l
    induction l with
    | nil => intro _; simp
    | cons p l ih =>
      intro hp
      have h1 := ih fun q hq => hp q (.tail _ hq)
      have h2 := hp p (.head _)
      have h3 : (rngI p.1 (p.1 + p.2)).length = p.2.toNat := by simp [rngI]; omega
      simp only [List.flatMap_cons, List.length_append, List.length_cons, h3] at h1 ⊢
      omega
  have := gen (as.zip bs) fun p hp => hb _ (List.of_mem_zip hp).2
  have h2 : (as.zip bs).length ≤ as.length := by simp; omega
  unfold timesI
  omega
section
variable {P : Setup} {A : Around} {M : ME}
theorem mark_ok {A : Around} {k : Nat} (h : Ok A k) : A.mark none = A := by
  have := h.1
  cases A; simp_all [Around.mark]
theorem rows_ok (hK : P.K = hd.heap_1 P.w.params) (hA : Ok A 3) {SA SB SC ls : List Int} (h3 : ls.length = 3) (hp : ∀ n ∈ ls, 0 ≤ n ∧ n ≤ 100) (ha : SA.length ≤ 10) (hb : SB.length ≤ 10) (hc : SC.length ≤ 10) (va : ∀ x ∈ SA ++ SB ++ SC, -50000 ≤ x ∧ x ≤ 50000) :
    CL P A M (.ref 425) [.d (.list [listI SA, listI SB, listI SC]), .d (.list (ls.map .int))] (.d (.list ((rowsN ls SA SB SC).map rowD))) M := by
  refine CL.fn2 (p1 := Str.ofString "starts") (p2 := Str.ofString "lasts") (ρ' := [(Str.ofString "starts", _), (Str.ofString "lasts", _)]) (cl := fun _ => []) hA (by rw [hK]; k_is) (by rw [hK]; k_is) (fun _ _ => by rfl) (by rfl) (by decide) (fun t1 t2 => LocOk.cons (by rfl) t1 (LocOk.cons (by rfl) t2 .nil)) (fun L' t1 t2 => .nil) ?_
  intro L L' oL τ s Q F k
  dsimp only [List.nil_append, List.cons_append] at F
  have hB := fun e => hA.deeper e
  refine S_newl F (by rfl) fun fa s F => ?_
  refine S_for (X := List Row) (ds := SA.map .int) (R := fun i X => X.length ≤ 100 * i ∧ i ≤ 10 ∧ X = (SA.take i).flatMap fun a => rows2 ls a SB SC) (ρs := fun _ => [(Str.ofString "found", .r (.ref fa)), (Str.ofString "starts", .d (.list [listI SA, listI SB, listI SC])), (Str.ofString "lasts", .d (.list (ls.map .int)))]) (Ms := fun X => (fa, .list ((X.map rowD).map .d)) :: (L, .raw oL) :: M) (ρt := fun d => [(Str.ofString "a", .d d)]) (x0 := []) (hB _).hh F
    (by kxs_still) (it_list _) ⟨by simp, by omega, rfl⟩ (fun i d hd => TG.name (by rfl)) (fun i d X it ψ τ' s E' hd hR hτ F => ?_) fun X s' hR F => ?_
  · dsimp only [List.nil_append, List.cons_append] at F
    obtain ⟨a, hma, rfl, hta⟩ := take_int hd
    obtain ⟨hXl, hi10, hX⟩ := hR
    have hi9 : i + 1 ≤ 10 := by have := (List.getElem?_eq_some_iff.mp hd).1; rw [List.length_map] at this; omega
    refine S_for (X := List Row) (ds := SB.map .int) (R := fun j Y => Y.length ≤ X.length + 10 * j ∧ j ≤ 10 ∧ Y = X ++ (SB.take j).flatMap fun b => rows3 ls a b SC) (ρs := fun _ => [(Str.ofString "a", .d (.int a)), (Str.ofString "found", .r (.ref fa)), (Str.ofString "starts", .d (.list [listI SA, listI SB, listI SC])), (Str.ofString "lasts", .d (.list (ls.map .int)))]) (Ms := fun Y => (it, .own ψ) :: (fa, .list ((Y.map rowD).map .d)) :: (L, .raw oL) :: M) (ρt := fun d => [(Str.ofString "b", .d d)]) (x0 := X) (hB _).hh F
      (by kxs_still) (it_list _) ⟨by simp, by omega, by simp⟩ (fun i d hd => TG.name (by rfl)) (fun j d Y it2 ψ2 τ2 s E2 hd hR hτ2 F => ?_) fun Y s' hR F => ?_
    · dsimp only [List.nil_append, List.cons_append] at F
      obtain ⟨b, hmb, rfl, htb⟩ := take_int hd
      obtain ⟨hYl, hj10, hY⟩ := hR
      have hj9 : j + 1 ≤ 10 := by have := (List.getElem?_eq_some_iff.mp hd).1; rw [List.length_map] at this; omega
      refine S_for (X := List Row) (ds := SC.map .int) (R := fun k Z => Z.length ≤ Y.length + k ∧ k ≤ 10 ∧ Z = Y ++ (SC.take k).flatMap fun c => if rowOk ls ⟨a, b, c⟩ = true then [⟨a, b, c⟩] else []) (ρs := fun _ => [(Str.ofString "b", .d (.int b)), (Str.ofString "a", .d (.int a)), (Str.ofString "found", .r (.ref fa)), (Str.ofString "starts", .d (.list [listI SA, listI SB, listI SC])), (Str.ofString "lasts", .d (.list (ls.map .int)))]) (Ms := fun Z => (it2, .own ψ2) :: (it, .own ψ) :: (fa, .list ((Z.map rowD).map .d)) :: (L, .raw oL) :: M) (ρt := fun d => [(Str.ofString "c", .d d)]) (x0 := Y) (hB _).hh F
        (by kxs_still) (it_list _) ⟨by simp, by omega, by simp⟩ (fun i d hd => TG.name (by rfl)) (fun k d Z it3 ψ3 τ3 s E3 hd hR hτ3 F => ?_) fun Z s' hR F => ?_
      · dsimp only [List.nil_append, List.cons_append] at F
        obtain ⟨c, hmc, rfl, htc⟩ := take_int hd
        obtain ⟨hZl, hk10, hZ⟩ := hR
        have hk9 : k + 1 ≤ 10 := by have := (List.getElem?_eq_some_iff.mp hd).1; rw [List.length_map] at this; omega
        have tl := timesI_len (as := [a, b, c]) (bs := ls) (by simp) fun n hn => (hp n hn).2
        have hmk := mark_ok (hB (envOfC (Str.ofString "_law_rows") default L' 425 .none))
        refine S_times (as := [a, b, c]) (bs := ls) (hB _).hh F (by rfl) (by kxs_still) (by kas_types) (fun _ _ => by rfl) (by rfl) (by simp [h3]) (fun k x y hx hy => ⟨va x ?_, hp y (List.mem_of_getElem? hy)⟩) (by simp) (fun a b => [(Str.ofString "last", .d (.int b)), (Str.ofString "v", .d (.int a))]) (fun L'' a b => TG.tup2 (hB _).hh (by rfl) (by rfl)) (fun L'' a b M => by kxs_still) (fun d => [(Str.ofString "t", .d d)]) (fun L'' d => TG.name (by rfl)) (fun L'' d M => by kxs_still) fun s F => ?_
        · have := List.mem_of_getElem? hx
          simp only [List.mem_cons, List.not_mem_nil, or_false] at this
          simp only [List.mem_append]
          rcases this with rfl | rfl | rfl
          · exact .inl (.inl hma)
          · exact .inl (.inr hmb)
          · exact .inr hmc
        rw [timesD_eq] at F
        refine S_if (c := rowOk ls ⟨a, b, c⟩) F (TV.to (TV.cmp (EV.callB (by kxs_still) (by kas_types) (CL.lenL (by rw [List.length_map]; omega))) (EV.callB (by kxs_still) (AR.cons (EV.callT (by kxs_still) (by kas_types) (CL.set (hB _).hh (by omega))) AR.nil) (CL.lenS (by omega))) (by keq_rows)) (by rw [List.length_map]; rfl)) (fun hr s F => ?_) (fun hr s F => S_nil (S_nil ?_))
        · refine S_exp F (EV.append (by kxs_still) (by kxs_still) (by lcg_sub) (by lcg_sub) (by simp; omega)) fun s F => S_nil (S_nil ?_)
          refine ⟨Z ++ [⟨a, b, c⟩], ⟨by simp; omega, by omega, ?_⟩, ?_⟩
          · rw [htc, List.flatMap_append, ← List.append_assoc, ← hZ]; simp [hr]
          · refine (F.weak (fun p hp => ?_) sub_refl).mcast (by simp [rowD])
            simp only [List.mem_cons, List.not_mem_nil, or_false] at hp
            rcases hp with rfl | rfl | rfl | rfl | rfl <;> rfl
        · refine ⟨Z, ⟨by omega, by omega, ?_⟩, ?_⟩
          · rw [htc, List.flatMap_append, ← List.append_assoc, ← hZ]; simp [hr]
          · refine (F.weak (fun p hp => ?_) sub_refl)
            simp only [List.mem_cons, List.not_mem_nil, or_false] at hp
            rcases hp with rfl | rfl | rfl | rfl | rfl <;> rfl
      · obtain ⟨hZl, hk10, hZ⟩ := hR
        rw [List.length_map] at hZl hk10 hZ
        refine S_nil ⟨Z, ⟨by omega, by omega, ?_⟩, ?_⟩
        · rw [htb, List.flatMap_append, ← List.append_assoc, ← hY, hZ, List.take_length]; simp [rows3]
        · refine (F.weak (fun p hp => ?_) sub_refl)
          simp only [List.mem_cons, List.not_mem_nil, or_false] at hp
          rcases hp with rfl | rfl | rfl | rfl <;> rfl
    · obtain ⟨hYl, hj10, hY⟩ := hR
      rw [List.length_map] at hYl hj10 hY
      refine S_nil ⟨Y, ⟨by omega, by omega, ?_⟩, ?_⟩
      · rw [hta, List.flatMap_append, ← hX, hY, List.take_length]; simp [rows2]
      · refine (F.weak (fun p hp => ?_) sub_refl)
        simp only [List.mem_cons, List.not_mem_nil, or_false] at hp
        rcases hp with rfl | rfl | rfl <;> rfl
  · obtain ⟨_, _, hX⟩ := hR
    have hX : X = rowsN ls SA SB SC := by rw [hX, List.length_map, List.take_length]; rfl
    subst hX
    have F := F.freeze.reloc (x := Str.ofString "found") (by rfl) (.head _)
    exact S_ret F (by kxs_still) fun v s' F' => k _ _ _ (F'.sub (sub_head (.head _) (sub_tail (sub_tail sub_refl))))
end

section
variable {P : Setup} {A : Around} {M M₁ : ME} {ρ ρ' : LE} {env : Env} {τ : TE} {s : Shared} {L : Addr} {V O : Led} {m : Str → Option Value}
theorem ints_dat {V : Led} {vs : List Value} {ns : List Int} (h : IntsAre vs ns) : DatAll V vs (ns.map .int) := by
  induction h with
  | nil => exact .nil
  | cons n t _ ih => exact .cons (.int n t) ih
/-- list(x[:k]) of a list of ints that lay there before the law -/
theorem base_head {sa : Addr} {vs : List Value} {ns : List Int} {e : Expr} {k : Int} {sp sp2 cp p3 : Pos} {kk : Nat} {fz : Expr} (hl : P.s₀.heap.IsList sa vs.toArray) (hi : IntsAre vs ns) (hn : ns.length ≤ 1000) (h1 : EV P A env ρ M e (.r (.ref sa)) M) (hz : EV P A env ρ M fz (.r (.type "list")) M)
    (hs : ∀ l n, subscripted (.Slice Option.none (some (.Constant (.int k) kk p3)) Option.none sp) false (.ref l) (.ref n) = operate [.ref n, .ref l] (getItem (.ref l) (.ref n)) := by intro l n; rfl) (ht : ∀ a r, letTemporaryGo e (.ref a) r = pure () := by intro a r; rfl)
    (he : eval (.Call fz [.Subscript e (.Slice Option.none (some (.Constant (.int k) kk p3)) Option.none sp) sp2] [] cp) env = (do let f ← eval fz env; callWith cp f [] (backTo cp (starEach [.Subscript e (.Slice Option.none (some (.Constant (.int k) kk p3)) Option.none sp) sp2] env)) (backToKw cp (keywordEach [] env))) := by rfl)
    (hst : starEach [.Subscript e (.Slice Option.none (some (.Constant (.int k) kk p3)) Option.none sp) sp2] env = (false, eval (.Subscript e (.Slice Option.none (some (.Constant (.int k) kk p3)) Option.none sp) sp2) env) :: starEach [] env := by rfl) :
    EV P A env ρ M (.Call fz [.Subscript e (.Slice Option.none (some (.Constant (.int k) kk p3)) Option.none sp) sp2] [] cp) (.d (.list (pickD (ns.map .int) Option.none (some k)))) M := by
  refine EV.callT (ls := [.d (.list (pickD (ns.map .int) Option.none (some k)))]) hz (AR.cons ⟨fun {τ s Q E} F kk => ?_⟩ AR.nil hst) (CL.listL ?_) he hst rfl
  · refine Subscript_ (h1.go F fun u s₁ F₁ => wpAny_Slice ((PT.none (P := P) (ρ := ρ) (M := M)).go F₁ fun vl s₂ F₂ pl => ((PT.some (P := P) EV.kInt)).go F₂ fun vu s₃ F₃ pu => PT.none.go F₃ fun vn s₄ F₄ pn => ?_))
    cases pn
    obtain rfl := F₁.rval (.head _)
    obtain ⟨V, O, m, f⟩ := F₄
    have hl4 : s₄.heap.IsList sa vs.toArray := by
      obtain ⟨o, ho, r⟩ := hl
      exact ⟨o, f.fr.keep _ _ ho, r⟩
    have q : DatAll V vs (ns.map .int) := ints_dat hi
    refine kms_slice_lit f.fr f.nv hl4 pl pu rfl (fun D h' F' N' l1 => kk _ _ ⟨_, O, m, ((f.renewV (tk := s₄.toks) F' N' fun p hp => Nat.ne_of_lt (l1 p hp)).tempd (x := .list (pickD (ns.map .int) Option.none (some k))) (.list (n := 0) (.head _) ((pick_in q Option.none (some k)).mono fun _ hp => .tail _ hp))).weak (fun _ _ e => e) (sub_head (.head _) (sub_tail (sub_tail sub_refl)))⟩) (hs _ _) (ht _) (by have := q.length; rw [List.length_map] at this; rw [List.size_toArray, this, sizeLine_eq]; omega)
  · unfold pickD
    rw [List.length_take, List.length_drop, List.length_map]
    omega
/-- a tuple display just made, unpacked -/
theorem nt_unpack {elts : List Expr} {vs : List Value} {ls : List LV} {kk : Nat} {tp : Pos} {Q : Unit → Shared → Prop} {E : Value → Shared → Prop} (hh : A.handled = none) (F : FS P.s₀ env.locals ρ M τ s) (t : TL τ vs ls) (hz : vs.length ≤ 1000) (hn : (assignEach elts env).length = ls.length) (hst : (assignEach elts env).findIdx? (·.1) = none)
    (h2 : AO' P A env ρ M ((assignEach elts env).map (·.2)) ls ρ' M₁) (k : ∀ s', FS P.s₀ env.locals ρ' M₁ τ s' → Q () s') : wpAny (model P.prog P.w) A (newTuple vs) (fun v s₁ => wpAny (model P.prog P.w) A (assign (.Tuple elts kk tp) env v) Q E s₁) E s := by
  refine wpAny_newObj_type ?_ (by show vs.toArray.size ≤ sizeLine; rw [List.size_toArray, sizeLine_eq]; omega)
  exact u_new hh F (by rw [hn, t.len]) hst fun s' F' => h2.go F' t fun s'' F'' => k s'' F''
theorem EV.cast {e : Expr} {lv lv' : LV} {N : ME} (h : EV P A env ρ M e lv M₁) (q : lv = lv') (r : M₁ = N) : EV P A env ρ M e lv' N := q ▸ r ▸ h
end

abbrev IV : Type := Int × Int
abbrev rowI (p : IV) : Dat := listI (rngI p.1 (p.2 + 1))
abbrev domI (p : IV) : Dat := Dom p.1 p.2
/-- the mutable objects of the law, but the list of starts and held -/
abbrev ML (P : Setup) (a : StA) (v : StV) (ta L : Addr) (cs : List Int) (sp : Nat) (held lit : Option LV) : ME :=
  SB P a v ((ta, .list [.d (.list (cs.map .int)), .d (.int (sp : Int))]) :: (L + 4, .cell lit) :: (L + 3, .cell held) :: (L + 2, .cell (some (.r (.ref a.st)))) :: (L + 1, .cell (some (.r (.ref ta)))) :: [])
theorem fmod_b (x : Int) {n : Int} (hn : 0 < n) : 0 ≤ x.fmod n ∧ x.fmod n < n := ⟨Int.fmod_nonneg_of_pos _ hn, Int.fmod_lt_of_pos _ hn⟩
theorem pick40 (ns : List Int) : pickD (ns.map Dat.int) none (some 40) = (ns.take 40).map .int := by
  unfold pickD kms_lo kms_hi
  simp
theorem rngI_ne {a b : Int} (h : a < b) : rngI a b ≠ [] := by
  unfold rngI
  intro e
  have := congrArg List.length e
  simp at this; omega
theorem rngI_len (a b : Int) : (rngI a b).length = (b - a).toNat := by simp [rngI]
theorem rngI_la {a b : Int} (h : a < b) : laI (rngI a b) = b - 1 := by
  unfold laI rngI
  obtain ⟨n, hn⟩ : ∃ n : Nat, (b - a).toNat = n + 1 := ⟨(b - a).toNat - 1, by omega⟩
  rw [hn, List.range_succ, List.map_append]
  simp
  omega
theorem rngI_hd {a b : Int} (h : a < b) : hdI (rngI a b) = a := by
  unfold hdI rngI
  obtain ⟨n, hn⟩ : ∃ n : Nat, (b - a).toNat = n + 1 := ⟨(b - a).toNat - 1, by omega⟩
  rw [hn, List.range_succ_eq_map]
  simp
abbrev vD (ds : List Dat) : StV := ⟨ds, ds, [], [], 0, false, .tuple []⟩
def IVs (p0 p1 p2 : IV) : Prop := (0 ≤ p0.1 ∧ p0.1 < p0.2 ∧ p0.2 ≤ 8) ∧ (0 ≤ p1.1 ∧ p1.1 < p1.2 ∧ p1.2 ≤ 8) ∧ (0 ≤ p2.1 ∧ p2.1 < p2.2 ∧ p2.2 ≤ 8)
def L3s (l0 l1 l2 : Int) : Prop := (0 ≤ l0 ∧ l0 < 4) ∧ (0 ≤ l1 ∧ l1 < 4) ∧ (0 ≤ l2 ∧ l2 < 4)
structure X1 where
  (I : List IV)
  (sp : Nat)
section
variable {P : Setup} {A : Around}
set_option maxHeartbeats 4000000 in
theorem lawA (hP : P.prog = PySem.Challenge.rw_pc0042_01.row.prog) (hK : P.K = hd.heap_1 P.w.params) :
    ∃ oc od osl name qual params body scope dV kV doc pm an cdv0 ct, P.K.lookup 440 = some ⟨oc, od, .func (fnOf name qual params body scope dV kV doc pm an cdv0 ct), osl⟩ ∧
      ∀ (f : Addr) (cdv : Value) (A : Around) (L sa : Addr) (vs : List Value) (ns : List Int) (τ : TE) (s : Shared) (Q : Flow → Shared → Prop) (E : Value → Shared → Prop), Ok A 12 → P.s₀.heap.IsList sa vs.toArray → IntsAre vs ns → ns.length ≤ 1000 →
        FS P.s₀ L [(Str.ofString "script", .r (.ref sa))] [(L + 4, .cell none), (L + 3, .cell none), (L + 2, .cell none), (L + 1, .cell none)] τ s →
        (∀ a ta hl cs p0 p1 p2 l0 l1 l2 s', cs.length ≤ 1000 → IVs p0 p1 p2 → L3s l0 l1 l2 → FS P.s₀ L [(Str.ofString "lasts", .d (.list ([l0, l1, l2].map .int))), (Str.ofString "starts", .d (.list [rowI p0, rowI p1, rowI p2]))] ((hl, .list (([p0, p1, p2].map rowI).map .d)) :: ML P a (vD [domI p0, domI p1, domI p2]) ta L cs 9 (some (.r (.ref hl))) none) [] s' → wpAny (model P.prog P.w) A (execs (body.drop 3) (envOfC qual scope L f cdv)) Q E s') → wpAny (model P.prog P.w) A (execs body (envOfC qual scope L f cdv)) Q E s := by
  refine ⟨_, _, _, _, _, _, _, _, _, _, _, _, _, _, _, by rw [hK]; k_is, ?_⟩
  intro f cdv A L sa vs ns τ s Q E hA hl hi hn F kC
  have hB : Env → Ok A 12 := fun _ => hA
  -- 1
  refine wpAny_execs_cons (Assign_Tuple (Tuple_ (args_cons (List_ ((AR.cons (base_head (P := P) (sa := sa) (vs := vs) (ns := ns) (k := 40) hl hi hn (by kxs_still) (by kxs_still)) (AR.cons EV.kInt AR.nil)).go F fun vs1 τ1 s1 F1 t1 h1 => d_listM F1 t1 (by rw [t1.len]; simp) fun ta s2 F2 => ?_)))))
  refine args_cons (Call_ ((EV.glob (P := P) (by rw [hK]; k_is)).go F2 fun cf s3 F3 => ?_))
  obtain rfl := F3.rval (.head _)
  refine callWith_K0 F3.keep (by rw [hK]; k_is) (store_new hK (hA.le (by decide)) F3 fun a s4 F4 => ?_)
  refine args_cons (List_ (args_nil (d_listM F4 .nil (by simp) fun sta s5 F5 => args_nil ?_)))
  refine nt_unpack (ls := [.r (.ref ta), .r (.ref a.st), .r (.ref sta)]) hA.hh ((F5.tr (.ref a.st)).tr (.ref ta)) (.cons (.head _) (.cons (.tail _ (.head _)) (.cons (.tail _ (.tail _ (.head _))) .nil))) (by simp) (by rfl) (by rfl) (by exact AO'.cell (by rfl) (by lcg_sub) (by rfl) (by dsimp only [SB, List.set_cons_succ, List.set_cons_zero]; exact AO'.cell (by rfl) (by lcg_sub) (by rfl) (by dsimp only [List.set_cons_succ, List.set_cons_zero]; exact AO'.loc (by rfl) (by exact AO'.nil)))) fun s F => ?_
  rw [pick40] at F
  generalize hcs : ns.take 40 = cs at F
  have hcl : cs.length ≤ 1000 := by rw [← hcs, List.length_take]; omega
  replace F := (F.weak (ρ' := [(Str.ofString "starts", .r (.ref sta))]) (fun p hp => by simp only [List.mem_cons, List.not_mem_nil, or_false] at hp; subst hp; rfl) (τ' := []) (fun _ h => nomatch h)).mcast (M' := (sta, .list []) :: ML P a v0 ta L cs 0 none none) (by rfl)
  -- 2
  refine S_for (X := X1) (ds := [0, 1, 2].map nd) (R := fun i X => i ≤ 3 ∧ X.I.length = i ∧ X.sp = 2 * i ∧ ∀ p ∈ X.I, 0 ≤ p.1 ∧ p.1 < p.2 ∧ p.2 ≤ 8) (ρs := fun _ => [(Str.ofString "starts", .r (.ref sta))]) (Ms := fun X => (sta, .list ((X.I.map rowI).map .d)) :: ML P a (vD (X.I.map domI)) ta L cs X.sp none none) (ρt := fun d => [(Str.ofString "x", .d d)]) (x0 := ⟨[], 0⟩) hA.hh F
    (by kxs_still) (rng3 ▸ it_range (by decide) (by decide)) ⟨by omega, rfl, rfl, fun _ h => nomatch h⟩ (fun i d hd => TG.name (by rfl)) (fun i d X it ψ τ' s E' hd hR hτ F => ?_) fun X s' hR F => ?_
  · dsimp only [List.nil_append, List.cons_append] at F
    obtain ⟨k, hkm, rfl, hki⟩ := nd_get hd
    obtain ⟨hi3, hIl, hsp, hIb⟩ := hR
    have hki' : k = i := by
      have hi : i < 3 := by simpa using (List.getElem?_eq_some_iff.mp hki).1
      match i, hi, hki with
      | 0, _, h => simpa using h.symm
      | 1, _, h => simpa using h.symm
      | 2, _, h => simpa using h.symm
    subst hki'
    obtain ⟨I, sp⟩ := X
    dsimp only at hIl hsp hIb F
    have hk3 : k < 3 := by simp at hkm; omega
    have b4 := fmod_b (tapeVal cs sp) (n := 4) (by decide)
    have b3 := fmod_b (tapeVal cs (sp + 1)) (n := 3) (by decide)
    refine S_asg F (EV.callK (by kxs_still) (by rw [hK]; k_is) (by kas_types) (pull_ok hK (hA.le (by decide)) (spot := sp) (cs := cs) (by lcg_sub) (by omega) (by decide) hcl)) (by rfl) fun s F => ?_
    generalize (tapeVal cs sp).fmod 4 = low at F b4
    replace F := F.mcast (M' := (it, .own ψ) :: (sta, .list ((I.map rowI).map .d)) :: ML P a (vD (I.map domI)) ta L cs (sp + 1) none none) (by rfl)
    generalize hn3 : (tapeVal cs (sp + 1)).fmod 3 = n at b3
    refine S_exp F (EV.append (lv := .d (rowI (low, low + 1 + n))) (M₁ := (it, .own ψ) :: (sta, .list ((I.map rowI).map .d)) :: ML P a (vD (I.map domI)) ta L cs (sp + 2) none none) (by kxs_still) (EV.to (EV.callT (by kxs_still) (AR.cons (EV.callT (by kxs_still) (AR.cons (by kxs_still) (AR.cons (EV.bin (by kxs_still) (EV.callK (by kxs_still) (by rw [hK]; k_is) (by kas_types) (pull_ok hK (hA.le (by decide)) (spot := sp + 1) (cs := cs) (by lcg_sub) (by omega) (by decide) hcl)) (by keq_rows)) AR.nil)) CL.range2) AR.nil) (CL.listR hA.hh (by omega) (by rw [hn3]; omega))) (by rw [hn3, rngL_eq]; show LV.d (listI (rngI low (low + 2 + n))) = LV.d (listI (rngI low (low + 1 + n + 1))); rw [show low + 2 + n = low + 1 + n + 1 by omega])) (by lcg_sub) (by lcg_sub) (by simp; omega)) fun s F => ?_
    replace F := F.mcast (M' := (it, .own ψ) :: (sta, .list (((I ++ [(low, low + 1 + n)]).map rowI).map .d)) :: ML P a (vD (I.map domI)) ta L cs (sp + 2) none none) (by simp only [List.set_cons_succ, List.set_cons_zero, List.map_append]; rfl)
    have hgk : (((I ++ [(low, low + 1 + n)]).map rowI).map LV.d)[k]? = some (.d (rowI (low, low + 1 + n))) := by
      rw [List.getElem?_map, List.getElem?_map, List.getElem?_append_right (by omega), hIl]; simp
    have hrl : (rngI low (low + 1 + n + 1)).length = (n + 2).toNat := by rw [rngI_len]; congr 1; omega
    have hla := la_get (rngI_ne (show low < low + 1 + n + 1 by omega))
    rw [rngI_la (show low < low + 1 + n + 1 by omega)] at hla
    refine S_exp F (EV.meth (ls := [.d (Dom low (low + 1 + n))]) (by kxs_still) (by lcg_sub) (by lcg_sub) (by rfl) (by rw [hK]; k_is) (by rw [hK]; k_is) (by rw [hK]; k_is) (by rw [hK]; k_is) (AR.cons (EV.tup (AR.cons (EV.tup (AR.cons (by kxs_still) (AR.cons (EV.to (EV.item (EV.item (by kxs_still) (by kxs_still) (SU.ml (by lcg_sub) hgk rfl (by omega))) (by kxs_still) (SU.lstN hla (by rw [List.length_map]; simp only [rngI_len]; omega) (by decide) (by decide))) (show LV.d (.int (low + 1 + n + 1 - 1)) = LV.d (.int (low + 1 + n)) by rw [show low + 1 + n + 1 - 1 = low + 1 + n by omega])) AR.nil)) (by repeat constructor)) AR.nil) (by repeat constructor)) AR.nil)
      (new_var_ok (pre := [(it, .own ψ), (sta, .list (((I ++ [(low, low + 1 + n)]).map rowI).map .d))]) hK (hA.le (by decide)) (lo := low) (hi := low + 1 + n) (by simp; omega) (by simp; omega))) fun s F => S_nil ?_
    refine ⟨⟨I ++ [(low, low + 1 + n)], sp + 2⟩, ⟨by omega, by simp [hIl], by show sp + 2 = 2 * (k + 1); omega, fun p hp => ?_⟩, (F.weak (fun p hp => by simp only [List.mem_cons, List.not_mem_nil, or_false] at hp; subst hp; rfl) sub_refl).mcast ?_⟩
    · rcases List.mem_append.mp hp with hp | hp
      · exact hIb p hp
      · simp only [List.mem_cons, List.not_mem_nil, or_false] at hp
        subst hp
        exact ⟨by omega, by show low < low + 1 + n; omega, by show low + 1 + n ≤ 8; omega⟩
    · simp only [List.map_append]; rfl
  -- 3
  obtain ⟨I, sp⟩ := X
  obtain ⟨_, hIl, hsp, hIb⟩ := hR
  dsimp only [List.length_map, List.length_cons, List.length_nil] at hIl hsp hIb F
  have F := F.freeze.reloc (x := Str.ofString "starts") (by rfl) (.head _)
  replace F := F.weak (ρ' := [(Str.ofString "starts", .d (.list (I.map rowI)))]) (fun p hp => by simp only [List.mem_cons, List.not_mem_nil, or_false] at hp; subst hp; rfl) (τ' := []) (fun _ h => nomatch h)
  obtain ⟨p0, p1, p2, rfl⟩ : ∃ p0 p1 p2, I = [p0, p1, p2] := by
    match I, hIl with
    | [p0, p1, p2], _ => exact ⟨p0, p1, p2, rfl⟩
  subst hsp
  have c0 := hIb p0 (.head _)
  have c1 := hIb p1 (.tail _ (.head _))
  have c2 := hIb p2 (.tail _ (.tail _ (.head _)))
  have b0 := fmod_b (tapeVal cs 6) (n := 4) (by decide)
  have b1 := fmod_b (tapeVal cs 7) (n := 4) (by decide)
  have b2 := fmod_b (tapeVal cs 8) (n := 4) (by decide)
  have hget3 : ∀ (i : Nat) (d : Dat), ([0, 1, 2].map nd)[i]? = some d → i < 3 ∧ d = nd i := by
    intro i d hd
    have hi : i < 3 := by simpa using (List.getElem?_eq_some_iff.mp hd).1
    match i, hi, hd with
    | 0, _, h => exact ⟨by omega, by simpa using h.symm⟩
    | 1, _, h => exact ⟨by omega, by simpa using h.symm⟩
    | 2, _, h => exact ⟨by omega, by simpa using h.symm⟩
  refine wpAny_execs_cons (Assign_Tuple (Tuple_ (args_cons ((EV.comp0 (A := A) (ds := [0, 1, 2].map nd) (Ms := fun i => ML P a (vD [domI p0, domI p1, domI p2]) ta L cs (6 + i) none none) (c := fun _ => true) (f := fun d => .int ((tapeVal cs (6 + natOf d)).fmod 4)) hA.hh (by rfl) (by kxs_still) (rng3 ▸ it_range (by decide) (by decide)) (by decide) (fun _ _ => by rfl) (fun i d hd L'' oL' acc it ψ X => by
    obtain ⟨hi, rfl⟩ := hget3 i d hd
    rw [natOf_nd]
    dsimp only
    exact TURN.of (TG.name (by rfl)) TS.nil (fun _ => by exact EV.cast (EV.callK (by kxs_still) (by rw [hK]; k_is) (by kas_types) (pull_ok hK (hA.le (by decide)) (spot := 6 + i) (cs := cs) (by lcg_sub) (by omega) (by decide) hcl)) (by rfl) (by rfl)) (fun h => nomatch h))).go F fun lv s1 F1 => ?_))))
  refine args_cons (compM (μp := []) (ds := [rowI p0, rowI p1, rowI p2]) (Ms := fun _ => ML P a (vD [domI p0, domI p1, domI p2]) ta L cs 9 none none) (c := fun _ => true) (f := fun d => .d d) hA.hh F1 (by rfl) (by kxs_still) (it_list _) (fun _ _ h => nomatch h) (by simp) (fun _ _ => by rfl) (fun i d hd L'' oL' acc it ψ X => by
    have hmem := List.mem_of_getElem? hd
    have hlen : ∃ l : List Int, d = listI l ∧ l.length ≤ 100 := by
      simp only [List.mem_cons, List.not_mem_nil, or_false] at hmem
      rcases hmem with rfl | rfl | rfl
      · exact ⟨_, rfl, by rw [rngI_len]; omega⟩
      · exact ⟨_, rfl, by rw [rngI_len]; omega⟩
      · exact ⟨_, rfl, by rw [rngI_len]; omega⟩
    obtain ⟨l, rfl, hll⟩ := hlen
    exact TURN.of (TG.name (by rfl)) TS.nil (fun _ => EV.callT (by kxs_still) (by kas_types) (CL.listL (by rw [List.length_map]; omega))) (fun h => nomatch h)) fun hl τ2 s2 hτ2 F2 => args_nil ?_)
  refine nt_unpack (ls := [.d (.list ([(tapeVal cs 6).fmod 4, (tapeVal cs 7).fmod 4, (tapeVal cs 8).fmod 4].map .int)), .r (.ref hl)]) hA.hh (F2.tr (.ref hl)) (.cons (.tail _ (hτ2 _ (.head _))) (.cons (.head _) .nil)) (by simp) (by rfl) (by rfl) (by exact AO'.loc (by rfl) (by exact AO'.cell (by rfl) (by lcg_sub) (by rfl) (by exact AO'.nil))) fun s F => ?_
  refine kC a ta hl cs p0 p1 p2 _ _ _ s hcl ⟨c0, c1, c2⟩ ⟨b0, b1, b2⟩ ((F.weak (τ' := []) (fun p hp => ?_) (fun _ h => nomatch h)).mcast (by rfl))
  simp only [List.mem_cons, List.not_mem_nil, or_false] at hp
  rcases hp with rfl | rfl <;> rfl
end

theorem pickF1 (ds : List Dat) : pickD ds (some 1) none = ds.drop 1 := by
  unfold pickD kms_lo kms_hi
  cases ds with
  | nil => simp
  | cons d ds => simp
theorem pickU1 (ds : List Dat) : pickD ds none (some (-1)) = ds.take (ds.length - 1) := by
  unfold pickD kms_lo kms_hi
  simp
theorem rngI_drop (a b : Int) : (rngI a b).drop 1 = rngI (a + 1) b := by
  apply List.ext_getElem?
  intro i
  rw [List.getElem?_drop]
  simp only [rngI, List.getElem?_map]
  by_cases h : 1 + i < (b - a).toNat
  · rw [List.getElem?_range h, List.getElem?_range (by omega)]
    simp; omega
  · rw [List.getElem?_eq_none (by simp; omega), List.getElem?_eq_none (by simp; omega)]; rfl
theorem rngI_take (a b : Int) : (rngI a b).take ((rngI a b).length - 1) = rngI a (b - 1) := by
  apply List.ext_getElem?
  intro i
  rw [rngI_len]
  simp only [rngI, List.getElem?_take, List.getElem?_map]
  by_cases h : i < (b - a).toNat - 1
  · rw [if_pos h, List.getElem?_range (by omega), List.getElem?_range (by omega)]
  · rw [if_neg h, List.getElem?_eq_none (by simp; omega)]; rfl
theorem rngI_get {a b : Int} {i : Nat} (h : i < (b - a).toNat) : ((rngI a b).map Dat.int)[i]? = some (.int (a + i)) := by
  simp only [rngI, List.getElem?_map, List.getElem?_range h]; rfl
section
variable {P : Setup} {A : Around} {M M₁ : ME} {ρ : LE} {env : Env} {pos : Pos} {ds : List Dat}
/-- a slice of a list of data, whatever the base -/
theorem EV.sliceA {e₁ : Expr} {lo hi : Option Expr} {kl kh : Option Int} {sp : Pos} (h1 : EV P A env ρ M e₁ (.d (.list ds)) M₁) (hl : PT P A env ρ M₁ lo kl) (hh : PT P A env ρ M₁ hi kh) (hz : ds.length ≤ 10000)
    (hs : ∀ l n, subscripted (.Slice lo hi none sp) false (.ref l) (.ref n) = operate [.ref n, .ref l] (getItem (.ref l) (.ref n)) := by intro l n; rfl) :
    EV P A env ρ M (.Subscript e₁ (.Slice lo hi none sp) pos) (.d (.list (pickD ds kl kh))) M₁ :=
  ⟨fun F k => Subscript_ (h1.go F fun u s₁ F₁ => wpAny_Slice (hl.go F₁ fun vl s₂ F₂ pl => hh.go F₂ fun vu s₃ F₃ pu => PT.none.go F₃ fun vn s₄ F₄ pn => by
    cases pn
    obtain ⟨V, O, m, f⟩ := F₄
    obtain ⟨x, vs, n, rfl, hm, hg, q⟩ := f.lst (.head _)
    have hl : s₄.heap.IsList x vs.toArray := ⟨_, hg, rfl, n, rfl⟩
    refine kba_turn (value' := PySem.Expr.Name (PySem.Str.ofString "_") ⟨0, 0, 0, 0⟩) (fun _ => rfl) ?_
    refine kms_slice_lit f.fr f.nv hl pl pu rfl (fun D h' F' N' l1 => k _ _ ⟨_, O, m, ((f.renewV (tk := s₄.toks) F' N' fun p hp => Nat.ne_of_lt (l1 p hp)).tempd (x := .list (pickD ds kl kh)) (.list (n := 0) (.head _) ((pick_in q kl kh).mono fun _ hp => .tail _ hp))).weak (fun _ _ e => e) (sub_head (.head _) (sub_tail (sub_tail sub_refl)))⟩) (hs _ _) (fun _ => rfl) (by rw [List.size_toArray, q.length, sizeLine_eq]; omega)))⟩
end
structure X2 where
  (J : List IV)
  (v : StV)
  (sp : Nat)
abbrev ivAt (J : List IV) (k : Nat) : IV := J.getD k (0, 0)
structure RB (p0 p1 p2 : IV) (i : Nat) (X : X2) : Prop where
  len : X.J.length = 3
  sub : ∀ k, k < 3 → (ivAt [p0, p1, p2] k).1 ≤ (ivAt X.J k).1 ∧ (ivAt X.J k).1 ≤ (ivAt X.J k).2 ∧ (ivAt X.J k).2 ≤ (ivAt [p0, p1, p2] k).2
  doms : X.v.doms = X.J.map domI
  fail : X.v.fail = false
  t : X.v.trail.length ≤ i
  mks : X.v.marks.length ≤ i
  nn : X.v.nn ≤ i
  sp : X.sp = 10 + 2 * i
theorem ivAt_set {J : List IV} {k j : Nat} {q : IV} (hk : k < J.length) : ivAt (J.set k q) j = if k = j then q else ivAt J j := by
  simp only [ivAt, List.getD_eq_getElem?_getD, List.getElem?_set]
  split
  · rename_i h; subst h; simp [hk]
  · rfl
theorem RB.next {p0 p1 p2 : IV} {i k sp : Nat} {J : List IV} {v v' : StV} {q : IV} (h : RB p0 p1 p2 i ⟨J, v, sp⟩) (hk : k < 3) (hq : (ivAt [p0, p1, p2] k).1 ≤ q.1 ∧ q.1 ≤ q.2 ∧ q.2 ≤ (ivAt [p0, p1, p2] k).2) (h1 : v'.doms = v.doms.set k (domI q)) (h2 : v'.fail = v.fail) (h3 : v'.trail.length = v.trail.length + 1) (h4 : v'.marks.length = v.marks.length + 1) (h5 : v'.nn = v.nn + 1) : RB p0 p1 p2 (i + 1) ⟨J.set k q, v', sp + 2⟩ := by
  obtain ⟨a1, a2, a3, a4, a5, a6, a7, a8⟩ := h
  dsimp only at a1 a2 a3 a4 a5 a6 a7 a8
  refine ⟨by simp [a1], fun j hj => ?_, ?_, by rw [← a4]; exact h2, by dsimp only; omega, by dsimp only; omega, by dsimp only; omega, by dsimp only; omega⟩
  · dsimp only
    rw [ivAt_set (by omega)]
    split
    · rename_i e; subst e; exact hq
    · exact a2 j hj
  · dsimp only
    rw [h1, a3, List.map_set]
theorem RB.skip {p0 p1 p2 : IV} {i sp : Nat} {J : List IV} {v : StV} (h : RB p0 p1 p2 i ⟨J, v, sp⟩) : RB p0 p1 p2 (i + 1) ⟨J, v, sp + 2⟩ := by
  obtain ⟨a1, a2, a3, a4, a5, a6, a7, a8⟩ := h
  dsimp only at a1 a2 a3 a4 a5 a6 a7 a8
  exact ⟨a1, a2, a3, a4, by dsimp only; omega, by dsimp only; omega, by dsimp only; omega, by dsimp only; omega⟩
theorem iv_get {J : List IV} {k : Nat} (h : k < J.length) : J[k]? = some (ivAt J k) := by simp [ivAt, List.getElem?_eq_getElem h]
theorem IVs.at {p0 p1 p2 : IV} (h : IVs p0 p1 p2) {k : Nat} (hk : k < 3) : 0 ≤ (ivAt [p0, p1, p2] k).1 ∧ (ivAt [p0, p1, p2] k).1 < (ivAt [p0, p1, p2] k).2 ∧ (ivAt [p0, p1, p2] k).2 ≤ 8 := by
  match k, hk with
  | 0, _ => exact h.1
  | 1, _ => exact h.2.1
  | 2, _ => exact h.2.2
section
variable {P : Setup} {A : Around}
set_option maxHeartbeats 4000000 in
theorem lawB (hP : P.prog = PySem.Challenge.rw_pc0042_01.row.prog) (hK : P.K = hd.heap_1 P.w.params) :
    ∃ oc od osl name qual params body scope dV kV doc pm an cdv0 ct, P.K.lookup 440 = some ⟨oc, od, .func (fnOf name qual params body scope dV kV doc pm an cdv0 ct), osl⟩ ∧
      ∀ (f : Addr) (cdv : Value) (A : Around) (L : Addr) (s : Shared) (Q : Flow → Shared → Prop) (E : Value → Shared → Prop) a ta hl cs p0 p1 p2 (ρl ρs0 : LV), Ok A 12 → cs.length ≤ 1000 → IVs p0 p1 p2 →
        FS P.s₀ L [(Str.ofString "lasts", ρl), (Str.ofString "starts", ρs0)] ((hl, .list (([p0, p1, p2].map rowI).map .d)) :: ML P a (vD [domI p0, domI p1, domI p2]) ta L cs 9 (some (.r (.ref hl))) none) [] s →
        (∀ X s', RB p0 p1 p2 2 X ∨ RB p0 p1 p2 1 X ∨ RB p0 p1 p2 0 X → FS P.s₀ L [(Str.ofString "lasts", ρl), (Str.ofString "starts", ρs0)] ((hl, .list ((X.J.map rowI).map .d)) :: ML P a X.v ta L cs X.sp (some (.r (.ref hl))) none) [] s' → wpAny (model P.prog P.w) A (execs (body.drop 4) (envOfC qual scope L f cdv)) Q E s') → wpAny (model P.prog P.w) A (execs (body.drop 3) (envOfC qual scope L f cdv)) Q E s := by
  refine ⟨_, _, _, _, _, _, _, _, _, _, _, _, _, _, _, by rw [hK]; k_is, ?_⟩
  intro f cdv A L s Q E a ta hl cs p0 p1 p2 ρl ρs0 hA hcl hIV F kC
  have hB : Env → Ok A 12 := fun _ => hA
  have bt := fmod_b (tapeVal cs 9) (n := 3) (by decide)
  generalize hnt : (tapeVal cs 9).fmod 3 = nt at bt
  refine S_for (X := X2) (ds := rngL 0 nt) (R := fun i X => i ≤ 2 ∧ RB p0 p1 p2 i X) (ρs := fun _ => [(Str.ofString "lasts", ρl), (Str.ofString "starts", ρs0)]) (Ms := fun X => (hl, .list ((X.J.map rowI).map .d)) :: ML P a X.v ta L cs X.sp (some (.r (.ref hl))) none) (ρt := fun d => [(Str.ofString "turn", .d d)]) (x0 := ⟨[p0, p1, p2], vD [domI p0, domI p1, domI p2], 10⟩) hA.hh F
    (EV.cast (EV.callT (by kxs_still) (AR.cons (EV.callK (by kxs_still) (by rw [hK]; k_is) (by kas_types) (pull_ok hK (hA.le (by decide)) (spot := 9) (cs := cs) (by lcg_sub) (by omega) (by decide) hcl)) AR.nil) CL.range1) (by rw [hnt]) (by rfl)) (it_range (a := 0) (b := nt) (by omega) (by omega)) ⟨by omega, ⟨rfl, fun k hk => ⟨Int.le_refl _, Int.le_of_lt (hIV.at hk).2.1, Int.le_refl _⟩, rfl, rfl, Nat.le_refl _, Nat.le_refl _, Nat.le_refl _, rfl⟩⟩ (fun i d hd => TG.name (by rfl)) (fun i d X it ψ τ' s E' hd hR hτ F => ?_) fun X s' hR F => ?_
  · dsimp only [List.nil_append, List.cons_append] at F
    obtain ⟨hi2, hR⟩ := hR
    obtain ⟨J, v, sp⟩ := X
    obtain ⟨hJl, hJs, hvd, hvf, hvt, hvm, hvn, hsp⟩ := id hR
    dsimp only at hJl hJs hvd hvf hvt hvm hvn hsp F
    have hi1 : i < 2 := by
      have := (List.getElem?_eq_some_iff.mp hd).1
      simp [rngL] at this; omega
    have bk := fmod_b (tapeVal cs sp) (n := 3) (by decide)
    obtain ⟨k, hk⟩ : ∃ k : Nat, (tapeVal cs sp).fmod 3 = k := ⟨((tapeVal cs sp).fmod 3).toNat, by omega⟩
    have hk3 : k < 3 := by omega
    generalize hbl : decide ((tapeVal cs (sp + 1)).fmod 2 = 0) = bl
    refine S_swp (names := [Str.ofString "x", Str.ofString "is_least"]) (ds := [.int (k : Int), .bool bl]) hA.hh F (EV.cast (EV.tup (AR.cons (EV.cast (N := (it, .own ψ) :: (hl, .list ((J.map rowI).map .d)) :: ML P a v ta L cs (sp + 1) (some (.r (.ref hl))) none) (EV.callK (by kxs_still) (by rw [hK]; k_is) (by kas_types) (pull_ok hK (hA.le (by decide)) (spot := sp) (cs := cs) (by lcg_sub) (by omega) (by decide) hcl)) rfl (by rfl)) (AR.cons (EV.cmp (EV.callK (by kxs_still) (by rw [hK]; k_is) (by kas_types) (pull_ok hK (hA.le (by decide)) (spot := sp + 1) (cs := cs) (by lcg_sub) (by omega) (by decide) hcl)) (by kxs_still) (by keq_rows)) AR.nil)) (by repeat constructor)) (by rw [hk, hbl]) rfl) (by rfl) (by exact AO'.bind (by rfl) (by exact AO'.bind (by rfl) (by exact AO'.nil))) fun s F => ?_
    replace F := F.mcast (M' := (it, .own ψ) :: (hl, .list ((J.map rowI).map .d)) :: ML P a v ta L cs (sp + 2) (some (.r (.ref hl))) none) (by rfl)
    have hs123 := hJs k hk3
    have hI3 := hIV.at hk3
    have hg : ((J.map rowI).map LV.d)[k]? = some (.d (rowI (ivAt J k))) := by rw [List.getElem?_map, List.getElem?_map, iv_get (by omega)]; rfl
    have hx : v.doms[k]? = some (Dom (ivAt J k).1 (ivAt J k).2) := by rw [hvd, List.getElem?_map, iv_get (by omega)]; rfl
    generalize ivAt J k = p at hs123 hg hx
    obtain ⟨a1, b1⟩ := p
    dsimp only at hs123 hg hx
    have hlen : ((rngI a1 (b1 + 1)).map Dat.int).length = (b1 + 1 - a1).toNat := by rw [List.length_map, rngI_len]
    have hgk : ∀ q : IV, (J.map rowI).set k (rowI q) = (J.set k q).map rowI := fun q => by rw [List.map_set]
    have hgd : ∀ q : IV, ((J.map rowI).map LV.d).set k (.d (rowI q)) = ((J.set k q).map rowI).map LV.d := fun q => by rw [List.map_set, List.map_set]
    refine S_if (c := decide (1 < ((b1 + 1 - a1).toNat : Int))) F (TV.to (TV.cmp (EV.callB (by kxs_still) (AR.cons (EV.item (by kxs_still) (by kxs_still) (SU.ml (by lcg_sub) hg rfl (by omega))) AR.nil) (CL.lenL (by rw [hlen]; omega))) (by kxs_still) (by keq_rows)) (by rw [hlen])) (fun hc s F => ?_) (fun hc s F => S_nil (S_nil ?_))
    · have hc := of_decide_eq_true hc
      refine S_exp F (EV.meth0 (by kxs_still) (by lcg_sub) (by lcg_sub) (by rfl) (by rw [hK]; k_is) (by rw [hK]; k_is) (by rw [hK]; k_is) (by rw [hK]; k_is) (push_ok (pre := [(it, .own ψ), (hl, .list ((J.map rowI).map .d))]) (v := v) hK (hA.le (by decide)) (by omega) (by omega))) fun s F => ?_
      cases bl
      · have hq : (rngI a1 (b1 + 1)).take ((rngI a1 (b1 + 1)).length - 1) = rngI a1 (b1 - 1 + 1) := by rw [rngI_take]; congr 1; omega
        have hget2 : ((rngI a1 (b1 + 1)).map Dat.int)[(b1 + 1 - a1).toNat - 2]? = some (.int (b1 - 1)) := by
          rw [rngI_get (by omega)]; congr 2; omega
        refine S_exp F (EV.meth (by kxs_still) (by lcg_sub) (by lcg_sub) (by rfl) (by rw [hK]; k_is) (by rw [hK]; k_is) (by rw [hK]; k_is) (by rw [hK]; k_is) (AR.cons (EV.ife (b := false) (by kpc_turns) (fun h => nomatch h) (fun _ => EV.tup (AR.cons (by kxs_still) (AR.cons (by kxs_still) (AR.cons (EV.item (EV.item (by kxs_still) (by kxs_still) (SU.ml (by lcg_sub) hg rfl (by omega))) (by kxs_still) (SU.lstN hget2 (by rw [hlen]; omega) (by decide) (by decide))) AR.nil))) (by repeat constructor))) AR.nil)
          (decide_ok (pre := [(it, .own ψ), (hl, .list ((J.map rowI).map .d))]) (v := { v with marks := v.marks ++ [.int v.trail.length] }) hK (hA.le (by decide)) fun A pre hA4 => enter_new (lo' := a1) (hi' := b1 - 1) hK hA4 hx (by omega) (by omega) (by dsimp only; omega) (by dsimp only; omega) (by dsimp only; rw [hvd, List.length_map]; omega) fun A M hA3 => by
            have := struck_le (M := M) (x := (k : Int)) (b := b1 - 1) (lo := a1) (hi := b1) hK hA3
            rwa [if_pos (by omega), if_pos (by omega)] at this)) fun s F => ?_
        refine S_item (lv := .d (rowI (a1, b1 - 1))) (i := k) F (EV.to (EV.ife (b := false) (by kpc_turns) (fun h => nomatch h) (fun _ => EV.sliceA (EV.item (by kxs_still) (by kxs_still) (SU.ml (by lcg_sub) hg rfl (by omega))) PT.none (PT.some (by kxs_still)) (by rw [hlen]; omega))) (by rw [pickU1, List.length_map, ← List.map_take, hq])) (by kxs_still) (by kxs_still) (by lcg_sub) rfl (by simp; omega) (by simp; omega) fun s F => S_nil (S_nil ?_)
        exact ⟨⟨J.set k (a1, b1 - 1), ⟨v.doms.set k (Dom a1 (b1 - 1)), v.firsts, v.trail ++ [.tuple [.int k, Dom a1 b1, Lit k LEs (b1 - 1), .none, .int (-1)]], v.marks ++ [.int v.trail.length], v.nn + 1, v.fail, v.clash⟩, sp + 2⟩, ⟨by omega, RB.next hR hk3 (by dsimp only; omega) (by rfl) (by rfl) (by simp) (by simp) (by rfl)⟩, (F.weak (fun p hp => by simp only [List.mem_cons, List.not_mem_nil, or_false] at hp; rcases hp with rfl | rfl <;> rfl) sub_refl).mcast (by dsimp only; rw [← hgd]; rfl)⟩
      · have hq : (rngI a1 (b1 + 1)).drop 1 = rngI (a1 + 1) (b1 + 1) := rngI_drop _ _
        have hget2 : ((rngI a1 (b1 + 1)).map Dat.int)[1]? = some (.int (a1 + 1)) := by
          rw [rngI_get (by omega)]; rfl
        refine S_exp F (EV.meth (by kxs_still) (by lcg_sub) (by lcg_sub) (by rfl) (by rw [hK]; k_is) (by rw [hK]; k_is) (by rw [hK]; k_is) (by rw [hK]; k_is) (AR.cons (EV.ife (b := true) (by kpc_turns) (fun _ => EV.tup (AR.cons (by kxs_still) (AR.cons (by kxs_still) (AR.cons (EV.item (EV.item (by kxs_still) (by kxs_still) (SU.ml (by lcg_sub) hg rfl (by omega))) (by kxs_still) (SU.lst hget2 rfl (by decide))) AR.nil))) (by repeat constructor)) (fun h => nomatch h)) AR.nil)
          (decide_ok (pre := [(it, .own ψ), (hl, .list ((J.map rowI).map .d))]) (v := { v with marks := v.marks ++ [.int v.trail.length] }) hK (hA.le (by decide)) fun A pre hA4 => enter_new (lo' := a1 + 1) (hi' := b1) hK hA4 hx (by omega) (by omega) (by dsimp only; omega) (by dsimp only; omega) (by dsimp only; rw [hvd, List.length_map]; omega) fun A M hA3 => by
            have := struck_ge (M := M) (x := (k : Int)) (b := a1 + 1) (lo := a1) (hi := b1) hK hA3
            rwa [if_pos (by omega), if_pos (by omega)] at this)) fun s F => ?_
        refine S_item (lv := .d (rowI (a1 + 1, b1))) (i := k) F (EV.to (EV.ife (b := true) (by kpc_turns) (fun _ => EV.sliceA (EV.item (by kxs_still) (by kxs_still) (SU.ml (by lcg_sub) hg rfl (by omega))) (PT.some (by kxs_still)) PT.none (by rw [hlen]; omega)) (fun h => nomatch h)) (by rw [pickF1, ← List.map_drop, hq])) (by kxs_still) (by kxs_still) (by lcg_sub) rfl (by simp; omega) (by simp; omega) fun s F => S_nil (S_nil ?_)
        exact ⟨⟨J.set k (a1 + 1, b1), ⟨v.doms.set k (Dom (a1 + 1) b1), v.firsts, v.trail ++ [.tuple [.int k, Dom a1 b1, Lit k GE (a1 + 1), .none, .int (-1)]], v.marks ++ [.int v.trail.length], v.nn + 1, v.fail, v.clash⟩, sp + 2⟩, ⟨by omega, RB.next hR hk3 (by dsimp only; omega) (by rfl) (by rfl) (by simp) (by simp) (by rfl)⟩, (F.weak (fun p hp => by simp only [List.mem_cons, List.not_mem_nil, or_false] at hp; rcases hp with rfl | rfl <;> rfl) sub_refl).mcast (by dsimp only; rw [← hgd]; rfl)⟩
    · exact ⟨⟨J, v, sp + 2⟩, ⟨by omega, RB.skip hR⟩, F.weak (fun p hp => by simp only [List.mem_cons, List.not_mem_nil, or_false] at hp; rcases hp with rfl | rfl <;> rfl) sub_refl⟩
  · obtain ⟨hi, hR⟩ := hR
    refine kC X s' ?_ F
    have : (rngL 0 nt).length = nt.toNat := by simp [rngL]
    rw [this] at hR
    rcases (show nt = 0 ∨ nt = 1 ∨ nt = 2 by omega) with rfl | rfl | rfl
    · exact .inr (.inr hR)
    · exact .inr (.inl hR)
    · exact .inl hR
end

abbrev rowL (p : IV) : List Int := rngI p.1 (p.2 + 1)
theorem rngI_nil {a b : Int} (h : b ≤ a) : rngI a b = [] := by
  unfold rngI; rw [show (b - a).toNat = 0 by omega]; rfl
theorem rngI_mem {a b v : Int} : v ∈ rngI a b ↔ a ≤ v ∧ v < b := by
  simp only [rngI, List.mem_map, List.mem_range]
  constructor
  · rintro ⟨i, hi, rfl⟩; omega
  · intro h; exact ⟨(v - a).toNat, by omega, by omega⟩
theorem rngI_app {a b c : Int} (h1 : a ≤ c) (h2 : c ≤ b) : rngI a b = rngI a c ++ rngI c b := by
  apply List.ext_getElem?
  intro i
  simp only [rngI, List.getElem?_append, List.length_map, List.length_range, List.getElem?_map]
  split
  · rw [List.getElem?_range (by omega), List.getElem?_range (by omega)]
  · by_cases h : i < (b - a).toNat
    · rw [List.getElem?_range h, List.getElem?_range (by omega)]; simp; omega
    · rw [List.getElem?_eq_none (by simp; omega), List.getElem?_eq_none (by simp; omega)]; rfl
theorem rngI_ge {a b c : Int} (h1 : a ≤ c) (h2 : c ≤ b) : (rngI a b).filter (fun v => decide (c ≤ v)) = rngI c b := by
  rw [rngI_app h1 h2, List.filter_append, List.filter_eq_nil_iff.mpr (fun v hv => by have := rngI_mem.mp hv; simp; omega), List.filter_eq_self.mpr (fun v hv => by have := rngI_mem.mp hv; simp; omega)]; rfl
theorem rngI_le {a b c : Int} (h1 : a ≤ c + 1) (h2 : c + 1 ≤ b) : (rngI a b).filter (fun v => decide (v ≤ c)) = rngI a (c + 1) := by
  rw [rngI_app h1 h2, List.filter_append, List.filter_eq_self.mpr (fun v hv => by have := rngI_mem.mp hv; simp; omega), List.filter_eq_nil_iff.mpr (fun v hv => by have := rngI_mem.mp hv; simp; omega), List.append_nil]
/- the rows: no two tasks meet -/
theorem met_inj (val : Nat → Int) : ∀ n, (firstMet val n).length = n → ∀ i j, i < j → j < n → val i ≠ val j := by
  intro n
  induction n with
  | zero => intro _ i j _ h; omega
  | succ n ih =>
    intro h i j hij hj
    rw [firstMet_succ] at h
    have hle := firstMet_length_le val n
    by_cases ha : (firstMet val n).any (· == val n) = true
    · rw [show step_dedup (firstMet val n) (val n) = firstMet val n by unfold step_dedup; simp only [ha, if_true]] at h; omega
    · have hl : (firstMet val n).length = n := by
        unfold step_dedup at h; simp only [ha] at h; simp at h; omega
      by_cases hjn : j = n
      · subst hjn
        intro e
        apply ha
        rw [firstMet_any]
        simp only [List.any_map, List.any_eq_true, List.mem_range, Function.comp_apply, beq_iff_eq]
        exact ⟨i, hij, e⟩
      · exact ih hl i j hij (by omega)
theorem row_nodup {ls : List Int} {r : Row} (h : rowOk ls r = true) : (timesI [r.a, r.b, r.c] ls).Nodup := by
  unfold rowOk at h
  have h := of_decide_eq_true h
  generalize timesI [r.a, r.b, r.c] ls = ns at h
  have h : setN ns = ns.length := by omega
  have := met_inj _ _ h
  refine List.pairwise_iff_getElem.mpr fun i j hi hj hij => ?_
  have := this i j hij hj
  simpa [List.getD_eq_getElem?_getD, List.getElem?_eq_getElem hi, List.getElem?_eq_getElem hj] using this
def Dis (ls : List Int) (r : Row) : Prop := ∀ j k, j < 3 → k < 3 → j ≠ k → 0 < lastOf ls j → 0 < lastOf ls k → r.at j + lastOf ls j ≤ r.at k ∨ r.at k + lastOf ls k ≤ r.at j
theorem apart {a la b lb : Int} (h : ∀ x, x ∈ rngI a (a + la) → ∀ y, y ∈ rngI b (b + lb) → x ≠ y) (h1 : 0 < la) (h2 : 0 < lb) : a + la ≤ b ∨ b + lb ≤ a := by
  by_cases h3 : a ≤ b
  · by_cases h4 : a + la ≤ b
    · exact .inl h4
    · exact absurd rfl (h b (rngI_mem.mpr (by omega)) b (rngI_mem.mpr (by omega)))
  · by_cases h4 : b + lb ≤ a
    · exact .inr h4
    · exact absurd rfl (h a (rngI_mem.mpr (by omega)) a (rngI_mem.mpr (by omega)))
theorem row_dis {l0 l1 l2 : Int} {r : Row} (h : rowOk [l0, l1, l2] r = true) : Dis [l0, l1, l2] r := by
  have h := row_nodup h
  simp only [timesI, List.zip_cons_cons, List.zip_nil_right, List.flatMap_cons, List.flatMap_nil, List.append_nil, List.nodup_append] at h
  obtain ⟨_, ⟨_, _, h12⟩, h0⟩ := h
  have h01 : ∀ x, x ∈ rngI r.a (r.a + l0) → ∀ y, y ∈ rngI r.b (r.b + l1) → x ≠ y := fun x hx y hy => h0 x hx y (List.mem_append.mpr (.inl hy))
  have h02 : ∀ x, x ∈ rngI r.a (r.a + l0) → ∀ y, y ∈ rngI r.c (r.c + l2) → x ≠ y := fun x hx y hy => h0 x hx y (List.mem_append.mpr (.inr hy))
  intro j k hj hk hjk pj pk
  match j, k, hj, hk with
  | 0, 0, _, _ => exact absurd rfl hjk
  | 1, 1, _, _ => exact absurd rfl hjk
  | 2, 2, _, _ => exact absurd rfl hjk
  | 0, 1, _, _ => exact apart h01 pj pk
  | 0, 2, _, _ => exact apart h02 pj pk
  | 1, 2, _, _ => exact apart h12 pj pk
  | 1, 0, _, _ => exact (apart h01 pk pj).symm
  | 2, 0, _, _ => exact (apart h02 pk pj).symm
  | 2, 1, _, _ => exact (apart h12 pk pj).symm
/- need, as a sum over the three -/
def soOf (p : Nat → Bool) : List Nat := [0, 1, 2].filter p
abbrev bsel (c : Bool) (l : Int) : Int := if c then l else 0
theorem need_sum (ls : List Int) (p : Nat → Bool) : needN ls (soOf p) = bsel (p 0) (lastOf ls 0) + bsel (p 1) (lastOf ls 1) + bsel (p 2) (lastOf ls 2) := by
  unfold needN soOf
  cases h0 : p 0 <;> cases h1 : p 1 <;> cases h2 : p 2 <;> simp [List.filter, bsel, h0, h1, h2] <;> omega
theorem so_mem {p : Nat → Bool} {k : Nat} (hk : k < 3) : k ∈ soOf p ↔ p k = true := by
  unfold soOf
  rw [List.mem_filter]
  constructor
  · exact fun h => h.2
  · intro h
    refine ⟨?_, h⟩
    match k, hk with
    | 0, _ => simp
    | 1, _ => simp
    | 2, _ => simp
theorem pig_ge {i1 i2 : Bool} {l r l1 r1 l2 r2 b e : Int} (hl : 0 < l) (h1 : i1 = true → 0 < l1 ∧ b ≤ r1 ∧ r1 ≤ e - l1) (h2 : i2 = true → 0 < l2 ∧ b ≤ r2 ∧ r2 ≤ e - l2) (d1 : i1 = true → r + l ≤ r1 ∨ r1 + l1 ≤ r) (d2 : i2 = true → r + l ≤ r2 ∨ r2 + l2 ≤ r) (d12 : i1 = true → i2 = true → r1 + l1 ≤ r2 ∨ r2 + l2 ≤ r1)
    (hn : e - b < bsel i1 l1 + bsel i2 l2 + l) (hb : b ≤ r) : b + (bsel i1 l1 + bsel i2 l2) ≤ r := by
  cases i1 <;> cases i2 <;> simp [bsel] at * <;> omega
theorem pig_le {i1 i2 : Bool} {l r l1 r1 l2 r2 b e : Int} (hl : 0 < l) (h1 : i1 = true → 0 < l1 ∧ b ≤ r1 ∧ r1 ≤ e - l1) (h2 : i2 = true → 0 < l2 ∧ b ≤ r2 ∧ r2 ≤ e - l2) (d1 : i1 = true → r + l ≤ r1 ∨ r1 + l1 ≤ r) (d2 : i2 = true → r + l ≤ r2 ∨ r2 + l2 ≤ r) (d12 : i1 = true → i2 = true → r1 + l1 ≤ r2 ∨ r2 + l2 ≤ r1)
    (hn : e - b < bsel i1 l1 + bsel i2 l2 + l) (hb : r ≤ e - l) : r ≤ e - (bsel i1 l1 + bsel i2 l2) - l := by
  cases i1 <;> cases i2 <;> simp [bsel] at * <;> omega
theorem pig_over {i0 i1 i2 : Bool} {l0 r0 l1 r1 l2 r2 b e : Int} (hbe : b < e) (h0 : i0 = true → 0 < l0 ∧ b ≤ r0 ∧ r0 ≤ e - l0) (h1 : i1 = true → 0 < l1 ∧ b ≤ r1 ∧ r1 ≤ e - l1) (h2 : i2 = true → 0 < l2 ∧ b ≤ r2 ∧ r2 ≤ e - l2) (d01 : i0 = true → i1 = true → r0 + l0 ≤ r1 ∨ r1 + l1 ≤ r0) (d02 : i0 = true → i2 = true → r0 + l0 ≤ r2 ∨ r2 + l2 ≤ r0) (d12 : i1 = true → i2 = true → r1 + l1 ≤ r2 ∨ r2 + l2 ≤ r1) :
    bsel i0 l0 + bsel i1 l1 + bsel i2 l2 ≤ e - b := by
  cases i0 <;> cases i1 <;> cases i2 <;> simp [bsel] at * <;> omega
/-- what the members of the stretch say of a row -/
structure Ins (ls : List Int) (p : Nat → Bool) (b e : Int) (r : Row) : Prop where
  go : ∀ j, j < 3 → p j = true → 0 < lastOf ls j ∧ b ≤ r.at j ∧ r.at j ≤ e - lastOf ls j
theorem row_ge {ls : List Int} {p : Nat → Bool} {b e : Int} {r : Row} {k : Nat} (hk : k < 3) (hp : p k = false) (hl : 0 < lastOf ls k) (D : Dis ls r) (I : Ins ls p b e r) (hn : e - b < needN ls (soOf p) + lastOf ls k) (hb : b ≤ r.at k) : b + needN ls (soOf p) ≤ r.at k := by
  rw [need_sum] at hn ⊢
  have i0 := I.go 0 (by decide)
  have i1 := I.go 1 (by decide)
  have i2 := I.go 2 (by decide)
  have D' : ∀ j k, j < 3 → k < 3 → j ≠ k → 0 < lastOf ls j → (p k = true → 0 < lastOf ls k ∧ b ≤ r.at k ∧ r.at k ≤ e - lastOf ls k) → p k = true → r.at j + lastOf ls j ≤ r.at k ∨ r.at k + lastOf ls k ≤ r.at j := fun j k hj hk hjk h1 h2 h3 => D j k hj hk hjk h1 (h2 h3).1
  match k, hk with
  | 0, _ =>
    have := pig_ge hl i1 i2 (D' 0 1 (by decide) (by decide) (by decide) hl i1) (D' 0 2 (by decide) (by decide) (by decide) hl i2) (fun h1 h2 => D' 1 2 (by decide) (by decide) (by decide) (i1 h1).1 i2 h2) (b := b) (e := e) (by rw [hp] at hn; simp only [bsel, Bool.false_eq_true, if_false] at hn ⊢; omega) hb
    rw [hp]; simp only [bsel, Bool.false_eq_true, if_false] at this ⊢; omega
  | 1, _ =>
    have := pig_ge hl i0 i2 (D' 1 0 (by decide) (by decide) (by decide) hl i0) (D' 1 2 (by decide) (by decide) (by decide) hl i2) (fun h1 h2 => D' 0 2 (by decide) (by decide) (by decide) (i0 h1).1 i2 h2) (b := b) (e := e) (by rw [hp] at hn; simp only [bsel, Bool.false_eq_true, if_false] at hn ⊢; omega) hb
    rw [hp]; simp only [bsel, Bool.false_eq_true, if_false] at this ⊢; omega
  | 2, _ =>
    have := pig_ge hl i0 i1 (D' 2 0 (by decide) (by decide) (by decide) hl i0) (D' 2 1 (by decide) (by decide) (by decide) hl i1) (fun h1 h2 => D' 0 1 (by decide) (by decide) (by decide) (i0 h1).1 i1 h2) (b := b) (e := e) (by rw [hp] at hn; simp only [bsel, Bool.false_eq_true, if_false] at hn ⊢; omega) hb
    rw [hp]; simp only [bsel, Bool.false_eq_true, if_false] at this ⊢; omega
theorem row_le {ls : List Int} {p : Nat → Bool} {b e : Int} {r : Row} {k : Nat} (hk : k < 3) (hp : p k = false) (hl : 0 < lastOf ls k) (D : Dis ls r) (I : Ins ls p b e r) (hn : e - b < needN ls (soOf p) + lastOf ls k) (hb : r.at k ≤ e - lastOf ls k) : r.at k ≤ e - needN ls (soOf p) - lastOf ls k := by
  rw [need_sum] at hn ⊢
  have i0 := I.go 0 (by decide)
  have i1 := I.go 1 (by decide)
  have i2 := I.go 2 (by decide)
  have D' : ∀ j k, j < 3 → k < 3 → j ≠ k → 0 < lastOf ls j → (p k = true → 0 < lastOf ls k ∧ b ≤ r.at k ∧ r.at k ≤ e - lastOf ls k) → p k = true → r.at j + lastOf ls j ≤ r.at k ∨ r.at k + lastOf ls k ≤ r.at j := fun j k hj hk hjk h1 h2 h3 => D j k hj hk hjk h1 (h2 h3).1
  match k, hk with
  | 0, _ =>
    have := pig_le hl i1 i2 (D' 0 1 (by decide) (by decide) (by decide) hl i1) (D' 0 2 (by decide) (by decide) (by decide) hl i2) (fun h1 h2 => D' 1 2 (by decide) (by decide) (by decide) (i1 h1).1 i2 h2) (b := b) (e := e) (by rw [hp] at hn; simp only [bsel, Bool.false_eq_true, if_false] at hn ⊢; omega) hb
    rw [hp]; simp only [bsel, Bool.false_eq_true, if_false] at this ⊢; omega
  | 1, _ =>
    have := pig_le hl i0 i2 (D' 1 0 (by decide) (by decide) (by decide) hl i0) (D' 1 2 (by decide) (by decide) (by decide) hl i2) (fun h1 h2 => D' 0 2 (by decide) (by decide) (by decide) (i0 h1).1 i2 h2) (b := b) (e := e) (by rw [hp] at hn; simp only [bsel, Bool.false_eq_true, if_false] at hn ⊢; omega) hb
    rw [hp]; simp only [bsel, Bool.false_eq_true, if_false] at this ⊢; omega
  | 2, _ =>
    have := pig_le hl i0 i1 (D' 2 0 (by decide) (by decide) (by decide) hl i0) (D' 2 1 (by decide) (by decide) (by decide) hl i1) (fun h1 h2 => D' 0 1 (by decide) (by decide) (by decide) (i0 h1).1 i1 h2) (b := b) (e := e) (by rw [hp] at hn; simp only [bsel, Bool.false_eq_true, if_false] at hn ⊢; omega) hb
    rw [hp]; simp only [bsel, Bool.false_eq_true, if_false] at this ⊢; omega
theorem row_over {ls : List Int} {p : Nat → Bool} {b e : Int} {r : Row} (hbe : b < e) (D : Dis ls r) (I : Ins ls p b e r) : needN ls (soOf p) ≤ e - b := by
  rw [need_sum]
  have i0 := I.go 0 (by decide)
  have i1 := I.go 1 (by decide)
  have i2 := I.go 2 (by decide)
  exact pig_over hbe i0 i1 i2 (fun h1 h2 => D 0 1 (by decide) (by decide) (by decide) (i0 h1).1 (i1 h2).1) (fun h1 h2 => D 0 2 (by decide) (by decide) (by decide) (i0 h1).1 (i2 h2).1) (fun h1 h2 => D 1 2 (by decide) (by decide) (by decide) (i1 h1).1 (i2 h2).1)

structure EN where
  (o : IV)
  (l : SL)
  (rsn : List SL)
def enD (e : EN) : Dat := .tuple [.int (e.l.x : Int), domI e.o, litD e.l, .tuple (e.rsn.map litD), .int (-1)]
def updH (H : List (List Int)) (e : EN) : List (List Int) := H.set e.l.x ((rowAt H e.l.x).filter (litB e.l))
structure EOk (rows : List Row) (H : List (List Int)) (e : EN) : Prop where
  x : e.l.x < 3
  n : e.rsn.length ≤ 10
  held : ∀ s ∈ e.rsn, s.x < 3 ∧ ∀ v ∈ rowAt H s.x, litB s v = true
  keep : ∀ r ∈ rows, keepB e.rsn r = true → litB e.l (r.at e.l.x) = true
def TrOk (rows : List Row) : List EN → List (List Int) → Prop
  | [], _ => True
  | e :: es, H => EOk rows H e ∧ TrOk rows es (updH H e)
def heldA (es : List EN) (H : List (List Int)) : List (List Int) := es.foldl updH H
structure ClOk (rows : List Row) (cl : List SL) (H : List (List Int)) : Prop where
  n : cl.length ≤ 10
  held : ∀ s ∈ cl, s.x < 3 ∧ ∀ v ∈ rowAt H s.x, litB s v = true
  keep : ∀ r ∈ rows, keepB cl r = false
def rS (ls : List Int) (so : List Nat) (b e : Int) : List SL := so.flatMap fun k => [⟨k, true, b⟩, ⟨k, false, e - lastOf ls k⟩]
theorem litGE (k : Nat) (b : Int) : litD ⟨k, true, b⟩ = Lit (k : Int) GE b := rfl
theorem litLE (k : Nat) (b : Int) : litD ⟨k, false, b⟩ = Lit (k : Int) LEs b := rfl
theorem reasons_eq (ls : List Int) (so : List Nat) (b e : Int) : reasonsD ls so b e = (rS ls so b e).map litD := by
  unfold reasonsD rS
  rw [List.map_flatMap]
  rfl
theorem rS_len (ls : List Int) (so : List Nat) (b e : Int) : (rS ls so b e).length = 2 * so.length := by
  have := reasons_len ls b e so
  rw [reasons_eq, List.length_map] at this
  exact this
theorem soOf_len (p : Nat → Bool) : (soOf p).length ≤ 3 := List.length_filter_le _ _
theorem soOf_lt {p : Nat → Bool} {k : Nat} (h : k ∈ soOf p) : k < 3 ∧ p k = true := by
  obtain ⟨h1, h2⟩ := List.mem_filter.mp h
  simp at h1
  exact ⟨by omega, h2⟩
theorem rowAt_map {J : List IV} {k : Nat} (hk : k < J.length) : rowAt (J.map rowL) k = rowL (ivAt J k) := by
  simp [rowAt, ivAt, List.getD_eq_getElem?_getD, List.getElem?_map, List.getElem?_eq_getElem hk]
theorem set_ivAt {J : List IV} {k : Nat} (hk : k < J.length) : J.set k (ivAt J k) = J := by
  simp [ivAt, List.getD_eq_getElem?_getD, List.getElem?_eq_getElem hk]
theorem rS_mem {ls : List Int} {p : Nat → Bool} {b e : Int} {s : SL} (h : s ∈ rS ls (soOf p) b e) : s.x < 3 ∧ p s.x = true ∧ ((s.ge = true ∧ s.c = b) ∨ (s.ge = false ∧ s.c = e - lastOf ls s.x)) := by
  obtain ⟨k, hk, hs⟩ := List.mem_flatMap.mp h
  obtain ⟨h1, h2⟩ := soOf_lt hk
  simp only [List.mem_cons, List.not_mem_nil, or_false] at hs
  rcases hs with rfl | rfl
  · exact ⟨h1, h2, .inl ⟨rfl, rfl⟩⟩
  · exact ⟨h1, h2, .inr ⟨rfl, rfl⟩⟩
theorem keep_ins {ls : List Int} {p : Nat → Bool} {b e : Int} {r : Row} (hp : ∀ j, j < 3 → p j = true → 0 < lastOf ls j) (h : keepB (rS ls (soOf p) b e) r = true) : Ins ls p b e r := ⟨fun j hj hpj => by
  have hm := (so_mem hj).mpr hpj
  unfold keepB at h
  rw [List.all_eq_true] at h
  have h1 := h ⟨j, true, b⟩ (List.mem_flatMap.mpr ⟨j, hm, by simp⟩)
  have h2 := h ⟨j, false, e - lastOf ls j⟩ (List.mem_flatMap.mpr ⟨j, hm, by simp⟩)
  refine ⟨hp j hj hpj, ?_, ?_⟩
  · simpa [litB] using h1
  · simpa [litB] using h2⟩
theorem held_rS {ls : List Int} {p : Nat → Bool} {b e : Int} {J : List IV} (hJ : J.length = 3) (hin : ∀ j, j < 3 → p j = true → b ≤ (ivAt J j).1 ∧ (ivAt J j).2 + lastOf ls j ≤ e) : ∀ s ∈ rS ls (soOf p) b e, s.x < 3 ∧ ∀ v ∈ rowAt (J.map rowL) s.x, litB s v = true := by
  intro s hs
  obtain ⟨h1, h2, h3⟩ := rS_mem hs
  refine ⟨h1, fun v hv => ?_⟩
  rw [rowAt_map (by omega)] at hv
  have hv := rngI_mem.mp hv
  have := hin _ h1 h2
  rcases h3 with ⟨e1, e2⟩ | ⟨e1, e2⟩
  · simp only [litB, e1, e2, if_true, decide_eq_true_eq]; omega
  · simp only [litB, e1, e2, Bool.false_eq_true, if_false, decide_eq_true_eq]; omega
theorem dueOn_no {ls : List Int} {so : List Nat} {need b e : Int} {k : Nat} (h : need ≤ 0 ∨ lastOf ls k ≤ 0 ∨ k ∈ so ∨ need + lastOf ls k ≤ e - b) : dueOn ls so need b e k = false := by
  unfold dueOn
  rcases h with h | h | h | h
  · simp [show ¬ 0 < need by omega]
  · rw [decide_eq_false (show ¬ 0 < lastOf ls k by omega)]; simp
  · simp [h]
  · rw [decide_eq_false (show ¬ e - b < need + lastOf ls k by omega)]; simp
theorem dueOn_yes {ls : List Int} {so : List Nat} {need b e : Int} {k : Nat} (h1 : 0 < need) (h2 : 0 < lastOf ls k) (h3 : ¬ (k ∈ so ∨ need + lastOf ls k ≤ e - b)) : dueOn ls so need b e k = true := by
  unfold dueOn
  have h4 : k ∉ so := fun h => h3 (.inl h)
  have h5 : e - b < need + lastOf ls k := by have := fun h => h3 (.inr h); omega
  simp only [h1, h2, h4, h5, decide_true, not_false_eq_true, Bool.and_true]
abbrev StepT (ls : List Int) (p : Nat → Bool) (b e : Int) (rows : List Row) (J : List IV) (k : Nat) (v : StV) (R1 : StV × Bool) (R2 : List (List Int) × Bool) : Prop :=
  (∃ es q v', R1 = (v', true) ∧ R2 = ((J.set k q).map rowL, true) ∧ v'.trail = v.trail ++ es.map enD ∧ v'.doms = (J.set k q).map domI ∧ v'.fail = v.fail ∧ TrOk rows es (J.map rowL) ∧ heldA es (J.map rowL) = (J.set k q).map rowL ∧ (p k = true → q = ivAt J k) ∧ q.1 ≤ q.2 ∧ es.length ≤ 1) ∨
  (∃ v' H' cl, R1 = (v', false) ∧ R2 = (H', false) ∧ v'.trail = v.trail ∧ v'.fail = true ∧ v'.clash = .tuple (cl.map litD) ∧ ClOk rows cl (J.map rowL))
theorem step_id {ls : List Int} {p : Nat → Bool} {b e : Int} {rows : List Row} {J : List IV} {k : Nat} {v : StV} (hk : k < J.length) (hab : (ivAt J k).1 ≤ (ivAt J k).2) (hvd : v.doms = J.map domI) : StepT ls p b e rows J k v (v, true) (J.map rowL, true) :=
  .inl ⟨[], ivAt J k, v, rfl, by rw [set_ivAt hk], by simp, by rw [set_ivAt hk, hvd], rfl, trivial, by rw [set_ivAt hk]; rfl, fun _ => rfl, hab, by simp⟩
theorem map_row_set {J : List IV} {k : Nat} (q : IV) : (J.map rowL).set k (rowL q) = (J.set k q).map rowL := by rw [List.map_set]
theorem step_ok {ls : List Int} {p : Nat → Bool} {b e : Int} {rows : List Row} {J : List IV} {k : Nat} {v : StV} {lo hi : Nat → Int} (hJ : J.length = 3) (hk : k < 3) (hab : (ivAt J k).1 ≤ (ivAt J k).2) (hlk : 0 < lastOf ls k) (hp : ∀ j, j < 3 → p j = true → 0 < lastOf ls j) (hin : ∀ j, j < 3 → p j = true → b ≤ (ivAt J j).1 ∧ (ivAt J j).2 + lastOf ls j ≤ e) (hout : p k = false → ¬ (b ≤ (ivAt J k).1 ∧ (ivAt J k).2 + lastOf ls k ≤ e)) (hneed : 0 < needN ls (soOf p)) (hD : ∀ r ∈ rows, Dis ls r) (hvd : v.doms = J.map domI) (hlo : lo k = (ivAt J k).1) (hhi : hi k = (ivAt J k).2) :
    StepT ls p b e rows J k v (fitStep ls (soOf p) (needN ls (soOf p)) b e (reasonsD ls (soOf p) b e) lo hi k v) (dueStep ls (soOf p) (needN ls (soOf p)) b e k (J.map rowL)) := by
  have hrs := held_rS hJ hin
  have hlen := rS_len ls (soOf p) b e
  have hsol := soOf_len p
  have hins : ∀ r, keepB (rS ls (soOf p) b e) r = true → Ins ls p b e r := fun r => keep_ins hp
  have hge : p k = false → e - b < needN ls (soOf p) + lastOf ls k → ∀ r ∈ rows, keepB (rS ls (soOf p) b e) r = true → b ≤ r.at k → b + needN ls (soOf p) ≤ r.at k := fun h1 h2 r hr h3 h4 => row_ge hk h1 hlk (hD r hr) (hins r h3) h2 h4
  have hle : p k = false → e - b < needN ls (soOf p) + lastOf ls k → ∀ r ∈ rows, keepB (rS ls (soOf p) b e) r = true → r.at k ≤ e - lastOf ls k → r.at k ≤ e - needN ls (soOf p) - lastOf ls k := fun h1 h2 r hr h3 h4 => row_le hk h1 hlk (hD r hr) (hins r h3) h2 h4
  have hrow : rowAt (J.map rowL) k = rowL (ivAt J k) := rowAt_map (by omega)
  have hpk := @so_mem p k hk
  have hid : StepT ls p b e rows J k v (v, true) (J.map rowL, true) := step_id (by omega) hab hvd
  rw [reasons_eq]
  generalize needN ls (soOf p) = need at *
  generalize rS ls (soOf p) b e = rs at *
  by_cases hc : k ∈ soOf p ∨ need + lastOf ls k ≤ e - b
  · rw [show fitStep ls (soOf p) need b e (rs.map litD) lo hi k v = (v, true) by unfold fitStep; rw [if_pos hc], show dueStep ls (soOf p) need b e k (J.map rowL) = (J.map rowL, true) by unfold dueStep; rw [dueOn_no (.inr (.inr hc))]; rfl]
    exact hid
  have hpf : p k = false := by cases h : p k with
    | false => rfl
    | true => exact absurd (.inl (hpk.mpr h)) hc
  have hn : e - b < need + lastOf ls k := by have := fun h => hc (.inr h); omega
  have hout := hout hpf
  have hge := hge hpf hn
  have hle := hle hpf hn
  have hfu : fitStep ls (soOf p) need b e (rs.map litD) lo hi k v = if b ≤ lo k then stkGE v k (lo k) (hi k) (b + need) (Lit k GE b :: rs.map litD) else if hi k + lastOf ls k ≤ e then stkLE v k (lo k) (hi k) (e - need - lastOf ls k) (Lit k LEs (e - lastOf ls k) :: rs.map litD) else (v, true) := by
    unfold fitStep; rw [if_neg hc]
  have hdu : dueStep ls (soOf p) need b e k (J.map rowL) = ((J.map rowL).set k (due2 need (lastOf ls k) e (due1 need b (rowL (ivAt J k)))), decide (due2 need (lastOf ls k) e (due1 need b (rowL (ivAt J k))) ≠ [])) := by
    unfold dueStep; rw [dueOn_yes hneed hlk hc, if_pos rfl, hrow]
  rw [hfu, hdu]
  clear hfu hdu
  have hcons : ∀ (g : SL), g.x = k → (∀ v ∈ rowL (ivAt J k), litB g v = true) → ∀ s ∈ g :: rs, s.x < 3 ∧ ∀ v ∈ rowAt (J.map rowL) s.x, litB s v = true := by
    intro g hg h s hs
    rcases List.mem_cons.mp hs with rfl | hs
    · exact ⟨by omega, by rw [hg, hrow]; exact h⟩
    · exact hrs s hs
  rw [hlo, hhi]
  generalize hq : ivAt J k = q0 at *
  obtain ⟨a, c⟩ := q0
  dsimp only at hab hout hlo hhi ⊢
  have hne : rowL (a, c) ≠ [] := rngI_ne (by dsimp only; omega)
  have hhd : hdI (rowL (a, c)) = a := rngI_hd (by dsimp only; omega)
  have hla : laI (rowL (a, c)) = c := by rw [rngI_la (by dsimp only; omega)]; dsimp only; omega
  have hd1 : due1 need b (rowL (a, c)) = if b ≤ a then (rowL (a, c)).filter (fun v => decide (b + need ≤ v)) else rowL (a, c) := by unfold due1; rw [hhd]
  have hsame : (J.map rowL).set k (rowL (a, c)) = J.map rowL := by rw [map_row_set, ← hq, set_ivAt (by omega)]
  have hset : ∀ (l : SL) (q : IV), l.x = k → (rowL (a, c)).filter (litB l) = rowL q → heldA [⟨(a, c), l, ([] : List SL)⟩] (J.map rowL) = (J.set k q).map rowL := by
    intro l q hl h
    show (J.map rowL).set l.x ((rowAt (J.map rowL) l.x).filter (litB l)) = _
    rw [hl, hrow, h, map_row_set]
  by_cases hb : b ≤ a
  · rw [if_pos hb]
    rw [if_pos hb] at hd1
    rw [hd1]
    have hnl : ¬ c + lastOf ls k ≤ e := fun h => hout ⟨hb, h⟩
    have hgl : ∀ v ∈ rowL (a, c), litB ⟨k, true, b⟩ v = true := fun v hv => by have := rngI_mem.mp hv; simp only [litB, if_true, decide_eq_true_eq]; dsimp only at this; omega
    have hcon := hcons ⟨k, true, b⟩ rfl hgl
    unfold stkGE
    by_cases h1 : b + need ≤ c
    · rw [if_pos h1]
      by_cases h2 : a < b + need
      · rw [if_pos h2]
        have hf : (rowL (a, c)).filter (fun v => decide (b + need ≤ v)) = rowL (b + need, c) := rngI_ge (by dsimp only; omega) (by dsimp only; omega)
        have hne2 : rowL (b + need, c) ≠ [] := rngI_ne (by dsimp only; omega)
        have hla2 : laI (rowL (b + need, c)) = c := by rw [rngI_la (by dsimp only; omega)]; dsimp only; omega
        have hd2 : due2 need (lastOf ls k) e (rowL (b + need, c)) = rowL (b + need, c) := by unfold due2; rw [hla2, if_neg (fun h => hnl h.2)]
        rw [hf, hd2, map_row_set]
        refine .inl ⟨[⟨(a, c), ⟨k, true, b + need⟩, ⟨k, true, b⟩ :: rs⟩], (b + need, c), _, rfl, by simp [hne2], ?_, ?_, rfl, ⟨⟨hk, by simp; omega, hcon, fun r hr hkp => ?_⟩, trivial⟩, ?_, fun h => ?_, h1, by simp⟩
        · rfl
        · show v.doms.set k _ = _
          rw [hvd, List.map_set]
        · unfold keepB at hkp hge
          rw [List.all_cons, Bool.and_eq_true] at hkp
          have h3 := hge r hr hkp.2 (by simpa [litB] using hkp.1)
          simpa [litB] using h3
        · exact hset ⟨k, true, b + need⟩ (b + need, c) rfl (by exact hf)
        · rw [hpf] at h; cases h
      · rw [if_neg h2]
        have hf : (rowL (a, c)).filter (fun v => decide (b + need ≤ v)) = rowL (a, c) := List.filter_eq_self.mpr fun v hv => by have := rngI_mem.mp hv; dsimp only at this; simp; omega
        have hd2 : due2 need (lastOf ls k) e (rowL (a, c)) = rowL (a, c) := by unfold due2; rw [hla, if_neg (fun h => hnl h.2)]
        rw [hf, hd2, hsame, show decide (rowL (a, c) ≠ []) = true from decide_eq_true hne]
        exact hid
    · rw [if_neg h1]
      have hf : (rowL (a, c)).filter (fun v => decide (b + need ≤ v)) = [] := List.filter_eq_nil_iff.mpr fun v hv => by have := rngI_mem.mp hv; dsimp only at this; simp; omega
      have hd2 : due2 need (lastOf ls k) e [] = [] := by unfold due2; simp
      rw [hf, hd2]
      refine .inr ⟨_, _, (⟨k, true, b⟩ :: rs) ++ [⟨k, false, b + need - 1⟩], rfl, rfl, rfl, rfl, ?_, ⟨by simp; omega, fun s hs => ?_, fun r hr => ?_⟩⟩
      · simp [litGE, litLE]
      · rcases List.mem_append.mp hs with hs | hs
        · exact hcon s hs
        · simp only [List.mem_cons, List.not_mem_nil, or_false] at hs
          subst hs
          refine ⟨hk, fun v hv => ?_⟩
          dsimp only at hv
          rw [hrow] at hv
          have := rngI_mem.mp hv
          dsimp only at this
          simp only [litB, Bool.false_eq_true, if_false, decide_eq_true_eq]; omega
      · cases hkp : keepB ((⟨k, true, b⟩ :: rs) ++ [⟨k, false, b + need - 1⟩]) r with
        | false => rfl
        | true =>
          unfold keepB at hkp hge
          rw [List.all_append, List.all_cons, List.all_cons, List.all_nil, Bool.and_eq_true, Bool.and_eq_true, Bool.and_eq_true] at hkp
          have h3 := hge r hr hkp.1.2 (by simpa [litB] using hkp.1.1)
          have h4 : r.at k ≤ b + need - 1 := by simpa [litB] using hkp.2.1
          omega
  · rw [if_neg hb]
    rw [if_neg hb] at hd1
    rw [hd1]
    by_cases hl : c + lastOf ls k ≤ e
    · rw [if_pos hl]
      have hgl : ∀ v ∈ rowL (a, c), litB ⟨k, false, e - lastOf ls k⟩ v = true := fun v hv => by have := rngI_mem.mp hv; simp only [litB, Bool.false_eq_true, if_false, decide_eq_true_eq]; dsimp only at this; omega
      have hcon := hcons ⟨k, false, e - lastOf ls k⟩ rfl hgl
      have hd2 : due2 need (lastOf ls k) e (rowL (a, c)) = (rowL (a, c)).filter fun v => decide (v ≤ e - need - lastOf ls k) := by unfold due2; rw [hla, if_pos ⟨hne, hl⟩]
      rw [hd2]
      generalize hcc : e - need - lastOf ls k = cc at *
      unfold stkLE
      by_cases h1 : a ≤ cc
      · rw [if_pos h1]
        by_cases h2 : cc < c
        · rw [if_pos h2]
          have hf : (rowL (a, c)).filter (fun v => decide (v ≤ cc)) = rowL (a, cc) := rngI_le (by dsimp only; omega) (by dsimp only; omega)
          have hne2 : rowL (a, cc) ≠ [] := rngI_ne (by dsimp only; omega)
          rw [hf, map_row_set]
          refine .inl ⟨[⟨(a, c), ⟨k, false, cc⟩, ⟨k, false, e - lastOf ls k⟩ :: rs⟩], (a, cc), _, rfl, by simp [hne2], ?_, ?_, rfl, ⟨⟨hk, by simp; omega, hcon, fun r hr hkp => ?_⟩, trivial⟩, ?_, fun h => ?_, h1, by simp⟩
          · rfl
          · show v.doms.set k _ = _
            rw [hvd, List.map_set]
          · unfold keepB at hkp hle
            rw [List.all_cons, Bool.and_eq_true] at hkp
            have h3 := hle r hr hkp.2 (by simpa [litB] using hkp.1)
            simpa [litB] using h3
          · exact hset ⟨k, false, cc⟩ (a, cc) rfl (by exact hf)
          · rw [hpf] at h; cases h
        · rw [if_neg h2]
          have hf : (rowL (a, c)).filter (fun v => decide (v ≤ cc)) = rowL (a, c) := List.filter_eq_self.mpr fun v hv => by have := rngI_mem.mp hv; dsimp only at this; simp; omega
          rw [hf, hsame, show decide (rowL (a, c) ≠ []) = true from decide_eq_true hne]
          exact hid
      · rw [if_neg h1]
        have hf : (rowL (a, c)).filter (fun v => decide (v ≤ cc)) = [] := List.filter_eq_nil_iff.mpr fun v hv => by have := rngI_mem.mp hv; dsimp only at this; simp; omega
        rw [hf]
        refine .inr ⟨_, _, (⟨k, false, e - lastOf ls k⟩ :: rs) ++ [⟨k, true, cc + 1⟩], rfl, rfl, rfl, rfl, ?_, ⟨by simp; omega, fun s hs => ?_, fun r hr => ?_⟩⟩
        · simp [litGE, litLE]
        · rcases List.mem_append.mp hs with hs | hs
          · exact hcon s hs
          · simp only [List.mem_cons, List.not_mem_nil, or_false] at hs
            subst hs
            refine ⟨hk, fun v hv => ?_⟩
            dsimp only at hv
            rw [hrow] at hv
            have := rngI_mem.mp hv
            dsimp only at this
            simp only [litB, if_true, decide_eq_true_eq]; omega
        · cases hkp : keepB ((⟨k, false, e - lastOf ls k⟩ :: rs) ++ [⟨k, true, cc + 1⟩]) r with
          | false => rfl
          | true =>
            unfold keepB at hkp hle
            rw [List.all_append, List.all_cons, List.all_cons, List.all_nil, Bool.and_eq_true, Bool.and_eq_true, Bool.and_eq_true] at hkp
            have h3 := hle r hr hkp.1.2 (by simpa [litB] using hkp.1.1)
            have h4 : cc + 1 ≤ r.at k := by simpa [litB] using hkp.2.1
            omega
    · rw [if_neg hl]
      have hd2 : due2 need (lastOf ls k) e (rowL (a, c)) = rowL (a, c) := by unfold due2; rw [hla, if_neg (fun h => hl h.2)]
      rw [hd2, hsame, show decide (rowL (a, c) ≠ []) = true from decide_eq_true hne]
      exact hid
/-- the whole of the two runs, side by side -/
abbrev GoT (rows : List Row) (J : List IV) (v : StV) (R1 : StV × Bool) (R2 : List (List Int) × Bool) (n : Nat) : Prop :=
  ∃ es J', R1.1.trail = v.trail ++ es.map enD ∧ TrOk rows es (J.map rowL) ∧ heldA es (J.map rowL) = J'.map rowL ∧ es.length ≤ n ∧ J'.length = 3 ∧
    ((R1.2 = true ∧ R2 = (J'.map rowL, true) ∧ R1.1.doms = J'.map domI ∧ R1.1.fail = v.fail ∧ ∀ k, k < 3 → (ivAt J' k).1 ≤ (ivAt J' k).2) ∨
      (R1.2 = false ∧ R2.2 = false ∧ R1.1.fail = true ∧ ∃ cl, R1.1.clash = .tuple (cl.map litD) ∧ ClOk rows cl (J'.map rowL)))
theorem TrOk.app {rows : List Row} : ∀ {es fs : List EN} {H : List (List Int)}, TrOk rows es H → TrOk rows fs (heldA es H) → TrOk rows (es ++ fs) H := by
  intro es
  induction es with
  | nil => intro fs H _ h; exact h
  | cons e es ih => intro fs H h1 h2; exact ⟨h1.1, ih h1.2 h2⟩
theorem heldA_app (es fs : List EN) (H : List (List Int)) : heldA (es ++ fs) H = heldA fs (heldA es H) := List.foldl_append ..
theorem go_ok {ls : List Int} {p : Nat → Bool} {b e : Int} {rows : List Row} {lo hi : Nat → Int} (hp : ∀ j, j < 3 → p j = true → 0 < lastOf ls j) (hneed : 0 < needN ls (soOf p)) (hD : ∀ r ∈ rows, Dis ls r) :
    ∀ (ks : List Nat) (J : List IV) (v : StV), ks.Nodup → (∀ k ∈ ks, k < 3) → J.length = 3 → (∀ k, k < 3 → (ivAt J k).1 ≤ (ivAt J k).2) → (∀ j, j < 3 → p j = true → b ≤ (ivAt J j).1 ∧ (ivAt J j).2 + lastOf ls j ≤ e) → (∀ k ∈ ks, 0 < lastOf ls k → p k = false → ¬ (b ≤ (ivAt J k).1 ∧ (ivAt J k).2 + lastOf ls k ≤ e)) → v.doms = J.map domI → (∀ k ∈ ks, lo k = (ivAt J k).1 ∧ hi k = (ivAt J k).2) →
      GoT rows J v (fitGo ls (soOf p) (needN ls (soOf p)) b e (reasonsD ls (soOf p) b e) lo hi (ks.filter fun k => decide (0 < lastOf ls k)) v) (dueGo ls (soOf p) (needN ls (soOf p)) b e ks (J.map rowL)) ks.length := by
  intro ks
  induction ks with
  | nil =>
    intro J v _ _ hJ hab _ _ hvd _
    exact ⟨[], J, by simp [fitGo], trivial, rfl, by simp, hJ, .inl ⟨rfl, rfl, hvd, rfl, hab⟩⟩
  | cons k ks ih =>
    intro J v hnd hk3 hJ hab hin hout hvd hlh
    obtain ⟨hkk, hnd⟩ := List.nodup_cons.mp hnd
    have hk := hk3 k (.head _)
    by_cases hlk : 0 < lastOf ls k
    · rw [List.filter_cons_of_pos (by simpa using hlk)]
      have hst := step_ok (v := v) hJ hk (hab k hk) hlk hp hin (hout k (.head _) hlk) hneed hD hvd (hlh k (.head _)).1 (hlh k (.head _)).2
      unfold fitGo dueGo
      rcases hst with ⟨es, q, v', e1, e2, h1, h2, h3, h4, h5, h6, h7, h8⟩ | ⟨v', H', cl, e1, e2, h1, h2, h3, h4⟩
      · rw [e1, e2]
        dsimp only
        rw [if_pos rfl, if_pos rfl]
        have hiv : ∀ j, ivAt (J.set k q) j = if k = j then q else ivAt J j := fun j => ivAt_set (by omega)
        have hJ' : (J.set k q).length = 3 := by simp [hJ]
        have hother : ∀ j, j ≠ k → ivAt (J.set k q) j = ivAt J j := fun j h => by rw [hiv, if_neg (Ne.symm h)]
        have := ih (J.set k q) v' hnd (fun j hj => hk3 j (.tail _ hj)) hJ' (fun j hj => by
            rw [hiv]; split
            · exact h7
            · exact hab j hj) (fun j hj hpj => by
            rw [hiv]; split
            · rename_i hkj; subst hkj; rw [h6 hpj]; exact hin _ hj hpj
            · exact hin j hj hpj) (fun j hj hl hpj => by
            rw [hother j (fun h => hkk (h ▸ hj))]; exact hout j (.tail _ hj) hl hpj) h2 (fun j hj => by
            rw [hother j (fun h => hkk (h ▸ hj))]; exact hlh j (.tail _ hj))
        obtain ⟨fs, J', g1, g2, g3, g4, g5, g6⟩ := this
        refine ⟨es ++ fs, J', ?_, h4.app (by rw [h5]; exact g2), by rw [heldA_app, h5]; exact g3, by simp; omega, g5, ?_⟩
        · rw [g1, h1, List.append_assoc, List.map_append]
        · rw [h3] at g6; exact g6
      · rw [e1, e2]
        dsimp only
        rw [if_neg (by simp), if_neg (by simp)]
        exact ⟨[], J, by simp [h1], trivial, rfl, by simp, hJ, .inr ⟨rfl, rfl, h2, cl, h3, h4⟩⟩
    · rw [List.filter_cons_of_neg (by simpa using hlk)]
      have hd : dueStep ls (soOf p) (needN ls (soOf p)) b e k (J.map rowL) = (J.map rowL, true) := by unfold dueStep; rw [dueOn_no (.inr (.inl (by omega)))]; rfl
      conv => arg 5; unfold dueGo
      rw [hd]
      dsimp only
      rw [if_pos rfl]
      obtain ⟨fs, J', g1, g2, g3, g4, g⟩ := ih J v hnd (fun j hj => hk3 j (.tail _ hj)) hJ hab hin (fun j hj => hout j (.tail _ hj)) hvd (fun j hj => hlh j (.tail _ hj))
      exact ⟨fs, J', g1, g2, g3, by simp; omega, g⟩
theorem dueGo_zero {ls : List Int} {so : List Nat} {need b e : Int} (h : need ≤ 0) : ∀ ks H, dueGo ls so need b e ks H = (H, true) := by
  intro ks
  induction ks with
  | nil => intro H; rfl
  | cons k ks ih =>
    intro H
    unfold dueGo
    rw [show dueStep ls so need b e k H = (H, true) by unfold dueStep; rw [dueOn_no (.inl h)]; rfl]
    dsimp only
    rw [if_pos rfl]
    exact ih H
theorem law_ok {ls : List Int} {b e : Int} {rows : List Row} {J : List IV} {v : StV} {lo hi : Nat → Int} (hbe : b < e) (hJ : J.length = 3) (hab : ∀ k, k < 3 → (ivAt J k).1 ≤ (ivAt J k).2) (hvd : v.doms = J.map domI) (hlh : ∀ k, k < 3 → lo k = (ivAt J k).1 ∧ hi k = (ivAt J k).2) (hD : ∀ r ∈ rows, Dis ls r) :
    GoT rows J v (fitAll ls lo hi b e v) (dueAll (J.map rowL) ls b e) 3 := by
  let p : Nat → Bool := fun k => decide (0 < lastOf ls k) && (decide (b ≤ (ivAt J k).1) && decide ((ivAt J k).2 + lastOf ls k ≤ e))
  have hpv : ∀ k, p k = (decide (0 < lastOf ls k) && (decide (b ≤ (ivAt J k).1) && decide ((ivAt J k).2 + lastOf ls k ≤ e))) := fun _ => rfl
  have h3 : ∀ k ∈ ([0, 1, 2] : List Nat), k < 3 := by decide
  have hw : withinN lo hi ls b e = soOf p := by
    unfold withinN tasksN soOf
    rw [List.filter_filter]
    refine List.filter_congr fun k hk => ?_
    obtain ⟨e1, e2⟩ := hlh k (h3 k hk)
    rw [hpv, e1, e2, Bool.and_comm]
  have hdw : dueSome (J.map rowL) ls b e = soOf p := by
    unfold dueSome soOf
    refine List.filter_congr fun k hk => ?_
    have hk := h3 k hk
    have := hab k hk
    rw [rowAt_map (by omega), rngI_hd (by omega), rngI_la (by omega), hpv, Bool.and_true, show (ivAt J k).2 + 1 - 1 = (ivAt J k).2 by omega]
  clear_value p
  have hp : ∀ j, j < 3 → p j = true → 0 < lastOf ls j := fun j _ h => by
    rw [hpv] at h; simp only [Bool.and_eq_true, decide_eq_true_eq] at h; exact h.1
  have hin : ∀ j, j < 3 → p j = true → b ≤ (ivAt J j).1 ∧ (ivAt J j).2 + lastOf ls j ≤ e := fun j _ h => by
    rw [hpv] at h; simp only [Bool.and_eq_true, decide_eq_true_eq] at h; exact h.2
  have hout : ∀ k ∈ ([0, 1, 2] : List Nat), 0 < lastOf ls k → p k = false → ¬ (b ≤ (ivAt J k).1 ∧ (ivAt J k).2 + lastOf ls k ≤ e) := fun k _ hl h hx => by
    rw [hpv] at h; simp only [hl, hx.1, hx.2, decide_true, Bool.and_true] at h; cases h
  have hnn : 0 ≤ needN ls (soOf p) := by
    rw [need_sum]
    have h0 := hp 0 (by decide)
    have h1 := hp 1 (by decide)
    have h2 := hp 2 (by decide)
    revert h0 h1 h2
    cases p 0 <;> cases p 1 <;> cases p 2 <;> simp only [bsel, if_true, Bool.false_eq_true, if_false, forall_const, false_implies, true_implies] <;> intros <;> omega
  unfold fitAll dueAll
  rw [hw, hdw]
  by_cases h1 : e - b < needN ls (soOf p)
  · rw [if_pos h1, if_pos h1]
    refine ⟨[], J, by simp, trivial, rfl, by simp, hJ, .inr ⟨rfl, rfl, rfl, rS ls (soOf p) b e, by dsimp only; rw [reasons_eq], ⟨by have := rS_len ls (soOf p) b e; have := soOf_len p; omega, held_rS hJ hin, fun r hr => ?_⟩⟩⟩
    cases hk : keepB (rS ls (soOf p) b e) r with
    | false => rfl
    | true =>
      have := row_over hbe (hD r hr) (keep_ins hp hk)
      omega
  rw [if_neg h1, if_neg h1]
  by_cases h2 : needN ls (soOf p) = 0
  · rw [if_pos h2, dueGo_zero (by omega)]
    exact ⟨[], J, by simp, trivial, rfl, by simp, hJ, .inl ⟨rfl, rfl, hvd, rfl, hab⟩⟩
  rw [if_neg h2]
  exact go_ok hp (by omega) hD [0, 1, 2] J v (by decide) h3 hJ hab hin hout hvd (fun k hk => hlh k (h3 k hk))

theorem flat_len {α β : Type} {f : α → List β} {c : Nat} : ∀ l : List α, (∀ x ∈ l, (f x).length ≤ c) → (l.flatMap f).length ≤ c * l.length := by
  intro l
  induction l with
  | nil => intro _; simp
  | cons x l ih =>
    intro h
    have h1 := ih fun y hy => h y (.tail _ hy)
    have h2 := h x (.head _)
    simp only [List.flatMap_cons, List.length_append, List.length_cons]
    rw [Nat.mul_add]
    omega
theorem rows_len {ls A B C : List Int} (ha : A.length ≤ 10) (hb : B.length ≤ 10) (hc : C.length ≤ 10) : (rowsN ls A B C).length ≤ 1000 := by
  have h3 : ∀ a b, (rows3 ls a b C).length ≤ 10 := fun a b => by
    have := flat_len (c := 1) (f := fun c => if rowOk ls ⟨a, b, c⟩ = true then [(⟨a, b, c⟩ : Row)] else []) C (fun x _ => by split <;> simp)
    unfold rows3; omega
  have h2 : ∀ a, (rows2 ls a B C).length ≤ 100 := fun a => by
    have := flat_len (c := 10) (f := fun b => rows3 ls a b C) B (fun x _ => h3 a x)
    unfold rows2; omega
  have := flat_len (c := 100) (f := fun a => rows2 ls a B C) A (fun x _ => h2 x)
  unfold rowsN; omega
theorem rows_ok' {ls A B C : List Int} {r : Row} (h : r ∈ rowsN ls A B C) : rowOk ls r = true := by
  unfold rowsN at h
  obtain ⟨a, _, h⟩ := List.mem_flatMap.mp h
  unfold rows2 at h
  obtain ⟨b, _, h⟩ := List.mem_flatMap.mp h
  unfold rows3 at h
  obtain ⟨c, _, h⟩ := List.mem_flatMap.mp h
  split at h
  · rename_i hr
    simp only [List.mem_cons, List.not_mem_nil, or_false] at h
    rw [h]; exact hr
  · cases h
theorem hD_rows (J : List IV) : J.map rowI = hD (J.map rowL) := by
  unfold hD
  rw [List.map_map]
  rfl
theorem upd_sub {H : List (List Int)} {e : EN} {k : Nat} {x : Int} (h : x ∈ rowAt (updH H e) k) : x ∈ rowAt H k := by
  unfold updH at h
  by_cases hk : e.l.x < H.length
  · by_cases he : e.l.x = k
    · subst he; rw [rowAt_set hk] at h; exact (List.mem_filter.mp h).1
    · simp only [rowAt, List.getD_eq_getElem?_getD, List.getElem?_set, if_neg he] at h ⊢; exact h
  · rw [List.set_eq_of_length_le (by omega)] at h; exact h
theorem held_sub : ∀ {es : List EN} {H : List (List Int)} {k : Nat} {x : Int}, x ∈ rowAt (heldA es H) k → x ∈ rowAt H k := by
  intro es
  induction es with
  | nil => intro H k x h; exact h
  | cons e es ih => intro H k x h; exact upd_sub (ih h)
structure RC (J' : List IV) (H0 : List (List Int)) (rows : List Row) (es : List EN) (v v' : StV) (r : Bool) (late : List (List Int)) : Prop where
  jl : J'.length = 3
  hl : H0.length = 3
  hs : ∀ k, k < 3 → (rowAt H0 k).length ≤ 100
  rl : rows.length ≤ 1000
  vt : v.trail.length ≤ 2
  tr : v'.trail = v.trail ++ es.map enD
  ok : TrOk rows es H0
  held : heldA es H0 = J'.map rowL
  el : es.length ≤ 3
  stands : r = true → late = J'.map rowL ∧ v'.doms = J'.map domI ∧ ∀ k, k < 3 → (ivAt J' k).1 ≤ (ivAt J' k).2 ∧ 0 ≤ (ivAt J' k).1 ∧ (ivAt J' k).2 ≤ 8
  clash : r = false → ∃ cl, v'.clash = .tuple (cl.map litD) ∧ ClOk rows cl (J'.map rowL)
/-- a tuple display just made, unpacked with the stores turned -/
theorem nt_swp {P : Setup} {A : Around} {M M₁ : ME} {ρ ρ' : LE} {env : Env} {τ : TE} {s : Shared} {names : List Str} {vs : List Value} {ls : List LV} {Q : Unit → Shared → Prop} {E : Value → Shared → Prop} (hh : A.handled = none) (F : FS P.s₀ env.locals ρ M τ s) (t : TL τ vs ls) (hz : vs.length ≤ 1000) (hn : names.length = ls.length)
    (h2 : AO' P A env ρ M (names.reverse.map fun n => bindName env n) ls.reverse ρ' M₁) (k : ∀ s', FS P.s₀ env.locals ρ' M₁ τ s' → Q () s') : wpAny (model P.prog P.w) A (newTuple vs) (fun v s₁ => wpAny (model P.prog P.w) A (unpackItems v names.length none) (fun items s₂ => wpAny (model P.prog P.w) A (assignInOrder (names.reverse.map fun n => bindName env n) items.reverse) Q E s₂) E s₁) E s := by
  refine wpAny_newObj_type ?_ (by show vs.toArray.size ≤ sizeLine; rw [List.size_toArray, sizeLine_eq]; omega)
  obtain ⟨V, O, m, f⟩ := F
  have g := f.grow (tk := s.toks) (h' := s.heap.push { cls := .type "tuple", data := .seq vs.toArray }) fun _ _ e => Heap.get?_push_of_some _ e
  rw [show names.length = vs.toArray.size by rw [List.size_toArray, hn, t.len]]
  refine unpackItems_tuple hh ⟨_, Heap.get?_push_size _ rfl, rfl, 0, rfl⟩ fun h' hk => ?_
  have F' : FS P.s₀ env.locals ρ M τ _ := ⟨V, O, m, g.ext hk⟩
  exact h2.go F' t.rev fun s₃ F₃ => k _ F₃
section
variable {P : Setup} {A : Around}
set_option maxHeartbeats 4000000 in
theorem lawC (hP : P.prog = PySem.Challenge.rw_pc0042_01.row.prog) (hK : P.K = hd.heap_1 P.w.params) :
    ∃ oc od osl name qual params body scope dV kV doc pm an cdv0 ct, P.K.lookup 440 = some ⟨oc, od, .func (fnOf name qual params body scope dV kV doc pm an cdv0 ct), osl⟩ ∧
      ∀ (f : Addr) (cdv : Value) (A : Around) (L : Addr) (s : Shared) (Q : Flow → Shared → Prop) (E : Value → Shared → Prop) a ta hl cs p0 p1 p2 l0 l1 l2 (X : X2) i, Ok A 12 → cs.length ≤ 1000 → IVs p0 p1 p2 → L3s l0 l1 l2 → i ≤ 2 → RB p0 p1 p2 i X →
        FS P.s₀ L [(Str.ofString "lasts", .d (.list ([l0, l1, l2].map .int))), (Str.ofString "starts", .d (.list [rowI p0, rowI p1, rowI p2]))] ((hl, .list ((X.J.map rowI).map .d)) :: ML P a X.v ta L cs X.sp (some (.r (.ref hl))) none) [] s →
        (∀ J' H0 rows es v' r late s', RC J' H0 rows es X.v v' r late → FS P.s₀ L [(Str.ofString "late", .d (.list (hD late))), (Str.ofString "stands", .d (.bool r)), (Str.ofString "many", .d (.int X.v.trail.length)), (Str.ofString "rows", .d (.list (rows.map rowD)))] ((hl, .list ((hD H0).map .d)) :: ML P a v' ta L cs (X.sp + 2) (some (.r (.ref hl))) none) [] s' → wpAny (model P.prog P.w) A (execs (body.drop 9) (envOfC qual scope L f cdv)) Q E s') → wpAny (model P.prog P.w) A (execs (body.drop 4) (envOfC qual scope L f cdv)) Q E s := by
  refine ⟨_, _, _, _, _, _, _, _, _, _, _, _, _, _, _, by rw [hK]; k_is, ?_⟩
  intro f cdv A L s Q E a ta hl cs p0 p1 p2 l0 l1 l2 X i hA hcl hIV hL3 hi2 hR F kC
  have hB : Env → Ok A 12 := fun _ => hA
  obtain ⟨J, v, sp⟩ := X
  obtain ⟨hJl, hJs, hvd, hvf, hvt, hvm, hvn, hsp⟩ := id hR
  dsimp only at hJl hJs hvd hvf hvt hvm hvn hsp F kC
  have hls : ∀ n ∈ [l0, l1, l2], 0 ≤ n ∧ n ≤ 100 := by
    obtain ⟨h0, h1, h2⟩ := hL3
    intro n hn
    simp only [List.mem_cons, List.not_mem_nil, or_false] at hn
    rcases hn with rfl | rfl | rfl <;> omega
  have hJb : ∀ k, k < 3 → 0 ≤ (ivAt J k).1 ∧ (ivAt J k).1 ≤ (ivAt J k).2 ∧ (ivAt J k).2 ≤ 8 := fun k hk => by
    have h1 := hJs k hk
    have h2 := hIV.at hk
    omega
  rw [hD_rows] at F
  -- begin
  have bb := fmod_b (tapeVal cs sp) (n := 5) (by decide)
  refine S_asg F (EV.cast (N := (hl, .list ((hD (J.map rowL)).map .d)) :: ML P a v ta L cs (sp + 1) (some (.r (.ref hl))) none) (EV.callK (by kxs_still) (by rw [hK]; k_is) (by kas_types) (pull_ok hK (hA.le (by decide)) (spot := sp) (cs := cs) (by lcg_sub) (by omega) (by decide) hcl)) rfl (by rfl)) (by rfl) fun s F => ?_
  generalize (tapeVal cs sp).fmod 5 = b at F bb
  -- end
  have be := fmod_b (tapeVal cs (sp + 1)) (n := 5) (by decide)
  refine S_asg F (EV.cast (N := (hl, .list ((hD (J.map rowL)).map .d)) :: ML P a v ta L cs (sp + 2) (some (.r (.ref hl))) none) (EV.bin (by kxs_still) (EV.callK (by kxs_still) (by rw [hK]; k_is) (by kas_types) (pull_ok hK (hA.le (by decide)) (spot := sp + 1) (cs := cs) (by lcg_sub) (by omega) (by decide) hcl)) (by keq_rows)) rfl (by rfl)) (by rfl) fun s F => ?_
  generalize (tapeVal cs (sp + 1)).fmod 5 = n at F be
  generalize he : b + 1 + n = e at F
  have hbe : b < e := by omega
  -- rows, many, disjunctive
  have hlen : ∀ p : IV, p.2 ≤ 8 → 0 ≤ p.1 → (rowL p).length ≤ 10 := fun p h1 h2 => by rw [rngI_len]; omega
  have hmem : ∀ p : IV, p.2 ≤ 8 → 0 ≤ p.1 → ∀ x ∈ rowL p, -50000 ≤ x ∧ x ≤ 50000 := fun p h1 h2 x hx => by have := rngI_mem.mp hx; omega
  have hrl := rows_len (ls := [l0, l1, l2]) (hlen p0 hIV.1.2.2 hIV.1.1) (hlen p1 hIV.2.1.2.2 hIV.2.1.1) (hlen p2 hIV.2.2.2.2 hIV.2.2.1)
  have hrk := @rows_ok' [l0, l1, l2] (rowL p0) (rowL p1) (rowL p2)
  refine wpAny_execs_cons (Assign_Tuple_swapped (names := [Str.ofString "rows", Str.ofString "many", Str.ofString "disjunctive"]) (Tuple_ (args_cons ((EV.callK (P := P) (by kxs_still) (by rw [hK]; k_is) (by kas_types) (rows_ok hK (hA.le (by decide)) (SA := rowL p0) (SB := rowL p1) (SC := rowL p2) rfl hls (hlen p0 hIV.1.2.2 hIV.1.1) (hlen p1 hIV.2.1.2.2 hIV.2.1.1) (hlen p2 hIV.2.2.2.2 hIV.2.2.1) (fun x hx => by
    rcases List.mem_append.mp hx with hx | hx
    · rcases List.mem_append.mp hx with hx | hx
      · exact hmem p0 hIV.1.2.2 hIV.1.1 x hx
      · exact hmem p1 hIV.2.1.2.2 hIV.2.1.1 x hx
    · exact hmem p2 hIV.2.2.2.2 hIV.2.2.1 x hx))).go F fun v1 s1 F1 => args_cons ((EV.callB (P := P) (by kxs_still) (by kas_types) (CL.lenM (xs := v.trail.map .d) (by lcg_sub) (by simp; omega))).go F1 fun v2 s2 F2 => args_cons (Call_ ((EV.glob (P := P) (by rw [hK]; k_is)).go F2 fun cf s3 F3 => ?_)))))))
  obtain rfl := F3.rval (.head _)
  refine callWith_K F3.keep (by rw [hK]; k_is) ((AR.cons (P := P) (by kxs_still) (AR.cons (by kxs_still) AR.nil)).go F3 fun vs τ4 s4 F4 t4 hs4 => ⟨F4.keep, ?_⟩)
  refine disj_new (ls := [l0, l1, l2]) hP hK (hA.le (by decide)) rfl (fun n hn => (hls n hn).1) F4 t4 fun dj ddx s5 F5 => args_nil ?_
  generalize rowsN [l0, l1, l2] (rowL p0) (rowL p1) (rowL p2) = rows at hrl hrk F5 hs4
  refine nt_swp (ls := [.d (.list (rows.map rowD)), .d (.int v.trail.length), .r (.ref dj)]) hA.hh (F5.tr (.ref dj)) (.cons (.tail _ (hs4 _ (.tail _ (.tail _ (.head _))))) (.cons (.tail _ (by have := hs4 _ (.tail _ (.head _)); rw [List.length_map] at this; exact this)) (.cons (.head _) .nil))) (by simp) (by rfl) (by exact AO'.bind (by rfl) (by exact AO'.bind (by rfl) (by exact AO'.bind (by rfl) (by exact AO'.nil)))) fun s F => ?_
  replace F := F.sub (τ' := []) (fun _ h => nomatch h)
  -- stands, late
  have hne : ∀ k, k < 3 → rowAt (J.map rowL) k ≠ [] := fun k hk => by
    rw [rowAt_map (by omega)]; have := hJb k hk; exact rngI_ne (by omega)
  have hsz : ∀ k, k < 3 → (rowAt (J.map rowL) k).length ≤ 100 := fun k hk => by
    rw [rowAt_map (by omega), rngI_len]; have := hJb k hk; omega
  refine S_unp hA.hh F (EV.callK (by kxs_still) (by rw [hK]; k_is) (by kas_types) (due_ok hK (hA.le (by decide)) (H := J.map rowL) (ls := [l0, l1, l2]) (b := b) (e := e) (by lcg_sub) rfl (by simp [hJl]) hne (fun k hk => Nat.le_trans (hsz k hk) (by decide)))) (by rfl) (by rfl) (by exact AO'.loc (by rfl) (by exact AO'.loc (by rfl) (by exact AO'.nil))) fun s F => ?_
  have hDis : ∀ r ∈ rows, Dis [l0, l1, l2] r := fun r hr => row_dis (hrk hr)
  have hlaw := law_ok (ls := [l0, l1, l2]) (rows := rows) (lo := fun k => (ivAt J k).1) (hi := fun k => (ivAt J k).2) hbe hJl (fun k hk => (hJb k hk).2.1) hvd (fun k hk => ⟨rfl, rfl⟩) hDis
  have hfit := @fit_ok P A [(dj, .inst 404 ddx), (ddx, .dict (dfs [l0, l1, l2])), (hl, .list ((hD (J.map rowL)).map .d))] ((ta, .list [.d (.list (cs.map .int)), .d (.int ((sp + 2 : Nat) : Int))]) :: (L + 4, .cell none) :: (L + 3, .cell (some (.r (.ref hl)))) :: (L + 2, .cell (some (.r (.ref a.st)))) :: (L + 1, .cell (some (.r (.ref ta)))) :: []) a v [l0, l1, l2] dj ddx 0 1 hK (hA.le (by decide)) rfl (fun k => (ivAt J k).1) (fun k => (ivAt J k).2) b e (fun k hk => by rw [hvd, List.getElem?_map, iv_get (by omega)]; rfl) ⟨by omega, by omega, by rw [hvd, List.length_map]; omega⟩ (fun _ => rfl) (fun _ => rfl)
  obtain ⟨es, J', t1, t2, t3, t4', t5, t6⟩ := hlaw
  generalize fitAll [l0, l1, l2] (fun k => (ivAt J k).1) (fun k => (ivAt J k).2) b e v = fr at hfit t1 t6
  generalize dueAll (J.map rowL) [l0, l1, l2] b e = dr at F t6
  obtain ⟨v', r1⟩ := fr
  obtain ⟨late, r⟩ := dr
  dsimp only at t1 t6 hfit F
  have hr1 : r1 = r ∧ v'.fail = !r := by
    rcases t6 with ⟨h1, h2, h3, h4, _⟩ | ⟨h1, h2, h3, _⟩
    · rw [h1, h4, hvf, (Prod.mk.inj h2).2]; exact ⟨rfl, rfl⟩
    · rw [h1, h2, h3]; exact ⟨rfl, rfl⟩
  refine S_ifF (M₁ := (dj, .inst 404 ddx) :: (ddx, .dict (dfs [l0, l1, l2])) :: (hl, .list ((hD (J.map rowL)).map .d)) :: ML P a v' ta L cs (sp + 2) (some (.r (.ref hl))) none) F (TV.to (TV.or2 (b := r1 != r) (c := v'.fail == r) (TV.cmp (EV.cast (N := (dj, .inst 404 ddx) :: (ddx, .dict (dfs [l0, l1, l2])) :: (hl, .list ((hD (J.map rowL)).map .d)) :: ML P a v' ta L cs (sp + 2) (some (.r (.ref hl))) none) (EV.meth (by kxs_still) (by lcg_sub) (by lcg_sub) (by rfl) (by rw [hK]; k_is) (by rw [hK]; k_is) (by rw [hK]; k_is) (by rw [hK]; k_is) (by kas_types) hfit) rfl (by rfl)) (by kxs_still) (by keq_rows)) (fun _ => TV.cmp (by kxs_still) (by kxs_still) (by keq_rows)) (fun _ => rfl)) (by rw [hr1.1, hr1.2]; cases r <;> rfl)) fun s F => ?_
  refine kC J' (J.map rowL) rows es v' r late s ⟨t5, by simp [hJl], hsz, hrl, by omega, t1, t2, t3, t4', fun hr => ?_, fun hr => ?_⟩ (F.drop.drop.weak (fun p hp => ?_) (fun _ h => nomatch h))
  · rcases t6 with ⟨h1, h2, h3, h4, h5⟩ | ⟨h1, h2, h3, _⟩
    · refine ⟨(Prod.mk.inj h2).1, h3, fun k hk => ?_⟩
      have h6 := h5 k hk
      have h7 : ∀ x, x ∈ rowL (ivAt J' k) → x ∈ rowL (ivAt J k) := fun x hx => by
        have := @held_sub es (J.map rowL) k x (by rw [t3, rowAt_map (by omega)]; exact hx)
        rwa [rowAt_map (by omega)] at this
      have h8 := rngI_mem.mp (h7 _ (rngI_mem.mpr (show (ivAt J' k).1 ≤ (ivAt J' k).1 ∧ (ivAt J' k).1 < (ivAt J' k).2 + 1 by omega)))
      have h9 := rngI_mem.mp (h7 _ (rngI_mem.mpr (show (ivAt J' k).1 ≤ (ivAt J' k).2 ∧ (ivAt J' k).2 < (ivAt J' k).2 + 1 by omega)))
      have h10 := hJb k hk
      omega
    · rw [hr] at h2; cases h2
  · rcases t6 with ⟨h1, h2, h3, h4, h5⟩ | ⟨h1, h2, h3, h4⟩
    · rw [hr] at h2; cases (Prod.mk.inj h2).2
    · exact h4
  · simp only [List.mem_cons, List.not_mem_nil, or_false] at hp
    rcases hp with rfl | rfl | rfl | rfl <;> rfl
end

def fld (d : Dat) (i : Nat) : Dat := match d with
  | .tuple ds => ds.getD i .none
  | _ => .none
theorem pick_drop (ds : List Dat) (k : Nat) (hk : k ≤ ds.length) : pickD ds (some (k : Int)) none = ds.drop k := by
  unfold pickD kms_lo kms_hi
  simp
  rw [if_neg (by omega), Nat.min_eq_left hk, List.take_of_length_le (by simp)]
theorem ok_lits (L : List SL) (p : Dat → Bool) : kqdOk 9 (.list (((L.map litD).filter p).map id)) = true := by
  rw [List.map_id]
  refine ok_list fun d hd => ?_
  obtain ⟨l, _, rfl⟩ := List.mem_map.mp (List.mem_filter.mp hd).1
  exact ok_litD l
theorem ok_rowsD (R : List Row) : kqdOk 9 (.list (R.map rowD)) = true := ok_list fun d hd => by
  obtain ⟨r, _, rfl⟩ := List.mem_map.mp hd; rfl
theorem ok_intsD (l : List Int) (p : Dat → Bool) : kqdOk 9 (.list (((l.map Dat.int).filter p).map id)) = true := by
  rw [List.map_id]
  refine ok_list fun d hd => ?_
  obtain ⟨x, _, rfl⟩ := List.mem_map.mp (List.mem_filter.mp hd).1
  rfl
theorem none_bad {L : List SL} {H : List (List Int)} (h : ∀ s ∈ L, s.x < 3 ∧ ∀ v ∈ rowAt H s.x, litB s v = true) : ((L.map litD).filter fun d => decide ((((rowAt H (slOf d).x).map Dat.int).filter fun v => !(litB (slOf d) (intOf v))).map id ≠ [])).map id = [] := by
  rw [List.map_id, List.filter_eq_nil_iff]
  intro d hd
  obtain ⟨s, hs, rfl⟩ := List.mem_map.mp hd
  rw [slOf_litD, List.map_id]
  have h1 := (h s hs).2
  simp only [decide_eq_true_eq, ne_eq, Decidable.not_not, List.filter_eq_nil_iff, List.mem_map, forall_exists_index, and_imp, forall_apply_eq_imp_iff₂]
  intro v hv
  simp [intOf, h1 v hv]
section
variable {P : Setup} {A : Around} {M M₁ : ME} {ρ : LE} {env : Env} {pos : Pos} {ds : List Dat}
/-- a slice of a mutable list, whatever the base -/
theorem EV.sliceMA {e₁ : Expr} {a : Addr} {j : Nat} {lo hi : Option Expr} {kl kh : Option Int} {sp : Pos} (h1 : EV P A env ρ M e₁ (.r (.ref a)) M₁) (m1 : M₁[j]? = some (a, .list (ds.map .d))) (hl : PT P A env ρ M₁ lo kl) (hh : PT P A env ρ M₁ hi kh) (hz : ds.length ≤ 10000)
    (hs : ∀ l n, subscripted (.Slice lo hi none sp) false (.ref l) (.ref n) = operate [.ref n, .ref l] (getItem (.ref l) (.ref n)) := by intro l n; rfl) :
    EV P A env ρ M (.Subscript e₁ (.Slice lo hi none sp) pos) (.d (.list (pickD ds kl kh))) M₁ :=
  ⟨fun F k => Subscript_ (h1.go F fun u s₁ F₁ => wpAny_Slice (hl.go F₁ fun vl s₂ F₂ pl => hh.go F₂ fun vu s₃ F₃ pu => PT.none.go F₃ fun vn s₄ F₄ pn => by
    cases pn
    obtain rfl := F₁.rval (.head _)
    obtain ⟨V, O, m, f⟩ := F₄
    obtain ⟨o, e0, ⟨vs, n, rfl, q⟩, hg, _⟩ := f.getM m1
    have q := lv_datAll q
    have hl : s₄.heap.IsList a vs.toArray := ⟨_, hg, rfl, n, rfl⟩
    refine kba_turn (value' := PySem.Expr.Name (PySem.Str.ofString "_") ⟨0, 0, 0, 0⟩) (fun _ => rfl) ?_
    refine kms_slice_lit f.fr f.nv hl pl pu rfl (fun D h' F' N' l1 => k _ _ ⟨_, O, m, ((f.renewV (tk := s₄.toks) F' N' fun p hp => Nat.ne_of_lt (l1 p hp)).tempd (x := .list (pickD ds kl kh)) (.list (n := 0) (.head _) ((pick_in q kl kh).mono fun _ hp => .tail _ hp))).weak (fun _ _ e => e) (sub_head (.head _) (sub_tail (sub_tail sub_refl)))⟩) (hs _ _) (fun _ => rfl) (by rw [List.size_toArray, q.length, sizeLine_eq]; omega)))⟩
theorem A_unp {ρ' : LE} {M' : ME} {τ : TE} {s : Shared} {u : Value} {elts : List Expr} {kk : Nat} {tp : Pos} {Q : Unit → Shared → Prop} {E : Value → Shared → Prop} (hh : A.handled = none) (F : FS P.s₀ env.locals ρ M τ s) (hv : (u, LV.d (.tuple ds)) ∈ τ) (hn : (assignEach elts env).length = ds.length) (hst : (assignEach elts env).findIdx? (·.1) = none)
    (h2 : AO' P A env ρ M ((assignEach elts env).map (·.2)) (ds.map .d) ρ' M') (k : ∀ s', FS P.s₀ env.locals ρ' M' τ s' → Q () s') : wpAny (model P.prog P.w) A (assign (.Tuple elts kk tp) env u) Q E s :=
  u_tuple hh F hv hn hst fun vs s₂ hl F₂ => h2.go F₂ (tl_zip (by simpa using hl)) fun s₃ F₃ => k _ (F₃.sub sub_app)
end
section
variable {P : Setup} {A : Around}
set_option maxHeartbeats 4000000 in
theorem lawD (hK : P.K = hd.heap_1 P.w.params) :
    ∃ oc od osl name qual params body scope dV kV doc pm an cdv0 ct, P.K.lookup 440 = some ⟨oc, od, .func (fnOf name qual params body scope dV kV doc pm an cdv0 ct), osl⟩ ∧
      ∀ (f : Addr) (cdv : Value) (A : Around) (L : Addr) (s : Shared) (Q : Flow → Shared → Prop) (E : Value → Shared → Prop) a ta hl cs sp J' H0 rows es v v' r late, Ok A 12 → RC J' H0 rows es v v' r late →
        FS P.s₀ L [(Str.ofString "late", .d (.list (hD late))), (Str.ofString "stands", .d (.bool r)), (Str.ofString "many", .d (.int v.trail.length)), (Str.ofString "rows", .d (.list (rows.map rowD)))] ((hl, .list ((hD H0).map .d)) :: ML P a v' ta L cs sp (some (.r (.ref hl))) none) [] s →
        (∀ o s', FS P.s₀ L [(Str.ofString "late", .d (.list (hD late))), (Str.ofString "stands", .d (.bool r)), (Str.ofString "rows", .d (.list (rows.map rowD)))] ((hl, .list ((hD (J'.map rowL)).map .d)) :: ML P a v' ta L cs sp (some (.r (.ref hl))) o) [] s' → wpAny (model P.prog P.w) A (execs (body.drop 10) (envOfC qual scope L f cdv)) Q E s') → wpAny (model P.prog P.w) A (execs (body.drop 9) (envOfC qual scope L f cdv)) Q E s := by
  refine ⟨_, _, _, _, _, _, _, _, _, _, _, _, _, _, _, by rw [hK]; k_is, ?_⟩
  intro f cdv A L s Q E a ta hl cs sp J' H0 rows es v v' r late hA hC F kC
  have hB : Env → Ok A 12 := fun _ => hA
  have htr : v'.trail.length ≤ 1000 := by rw [hC.tr, List.length_append, List.length_map]; have := hC.vt; have := hC.el; omega
  have hdrop : ∀ i e, es[i]? = some e → es.drop i = e :: es.drop (i + 1) := fun i k h => by
    obtain ⟨hlt, e⟩ := List.getElem?_eq_some_iff.mp h
    rw [List.drop_eq_getElem_cons hlt, e]
  have hel := hC.el
  have hrl := hC.rl
  refine S_forG (X := List (List Int) × Option LV) (ds := es.map enD) (R := fun i X => i ≤ es.length ∧ X.1 = heldA (es.take i) H0 ∧ TrOk rows (es.drop i) X.1 ∧ X.1.length = 3 ∧ ∀ k, k < 3 → (rowAt X.1 k).length ≤ 100) (ρs := fun _ => [(Str.ofString "late", .d (.list (hD late))), (Str.ofString "stands", .d (.bool r)), (Str.ofString "many", .d (.int v.trail.length)), (Str.ofString "rows", .d (.list (rows.map rowD)))])
    (Ms := fun X => (hl, .list ((hD X.1).map .d)) :: ML P a v' ta L cs sp (some (.r (.ref hl))) X.2)
    (ρt := fun d _ => [(Str.ofString "speaker", .d (fld d 4)), (Str.ofString "reasons", .d (fld d 3)), (Str.ofString "before", .d (fld d 1)), (Str.ofString "x", .d (fld d 0)), (Str.ofString "late", .d (.list (hD late))), (Str.ofString "stands", .d (.bool r)), (Str.ofString "many", .d (.int v.trail.length)), (Str.ofString "rows", .d (.list (rows.map rowD)))])
    (Mt := fun d X => (hl, .list ((hD X.1).map .d)) :: ML P a v' ta L cs sp (some (.r (.ref hl))) (some (.d (fld d 2)))) (x0 := (H0, none)) hA.hh F
    (EV.to (EV.sliceMA (ds := v'.trail) (by kxs_still) (by lcg_sub) (PT.some (by kxs_still)) PT.none (by omega)) (by rw [pick_drop _ _ (by rw [hC.tr, List.length_append]; omega), hC.tr, List.drop_left])) (it_list _) ⟨by omega, rfl, hC.ok, hC.hl, hC.hs⟩ (fun i d X0 p hd hR => ?_) (fun i d X it ψ τ' s E' hd hR hτ F => ?_) fun X s' hR F => ?_
  · intro τ s Q E v F hv k
    obtain ⟨e, _, rfl, _⟩ := map_getE hd
    refine A_unp (ds := [.int (e.l.x : Int), domI e.o, litD e.l, .tuple (e.rsn.map litD), .int (-1)]) hA.hh F hv (by rfl) (by rfl) (by exact AO'.loc (by rfl) (by exact AO'.loc (by rfl) (by exact AO'.cell (by rfl) (by lcg_sub) (by rfl) (by exact AO'.loc (by rfl) (by exact AO'.loc (by rfl) (by exact AO'.nil)))))) fun s₃ F₃ => k _ ?_
    exact F₃.mcast (by rfl)
  · obtain ⟨e, _, rfl, hei⟩ := map_getE hd
    obtain ⟨H, ol⟩ := X
    obtain ⟨hi, hH, hok, hH3, hHs⟩ := hR
    dsimp only at hH hok hH3 hHs F
    rw [hdrop i e hei] at hok
    obtain ⟨heo, hok⟩ := hok
    have hil := (List.getElem?_eq_some_iff.mp hei).1
    replace F : FS P.s₀ L [(Str.ofString "speaker", .d (.int (-1))), (Str.ofString "reasons", .d (.tuple (e.rsn.map litD))), (Str.ofString "before", .d (domI e.o)), (Str.ofString "x", .d (.int (e.l.x : Int))), (Str.ofString "late", .d (.list (hD late))), (Str.ofString "stands", .d (.bool r)), (Str.ofString "many", .d (.int v.trail.length)), (Str.ofString "rows", .d (.list (rows.map rowD)))] ((it, .own ψ) :: (hl, .list ((hD H).map .d)) :: ML P a v' ta L cs sp (some (.r (.ref hl))) (some (.d (litD e.l)))) τ' s := F
    have hen := heo.n
    have hex := heo.x
    refine S_ifF F (TV.cmp (EV.to (EV.comp1 (ds := e.rsn.map litD) (c := fun d => decide ((((rowAt H (slOf d).x).map Dat.int).filter fun v => !(litB (slOf d) (intOf v))).map id ≠ [])) (f := id) hA.hh (by rfl) (by kxs_still) (it_tuple _) (by simp; omega) (fun _ _ => by rfl) (fun i d hd L'' oL' acc it o ψ X => by
      obtain ⟨s, hs, rfl, _⟩ := map_getE hd
      rw [slOf_litD]
      obtain ⟨hx, _⟩ := heo.held s hs
      have hg : ((hD H).map LV.d)[s.x]? = some (.d (listI (rowAt H s.x))) := hD_get (by omega)
      have hsz := hHs s.x hx
      refine TURN.ofc (by rfl) (by rfl) (by rfl) (TS.one (TV.cmp (EV.comp0 (ds := (rowAt H s.x).map .int) (Ms := fun _ => _) (c := fun v => !(litB s (intOf v))) (f := id) hA.hh (by rfl) (EV.item (lv := .d (listI (rowAt H s.x))) (by kxs_still) (EV.item (lv := .d (.int s.x)) (by kxs_still) (by kxs_still) (SU.tup (i := 0) (by rfl) rfl (by decide))) (SU.ml (by lcg_sub) hg rfl (by omega))) (it_list _) (by rw [List.length_map]; omega) (fun _ _ => by rfl) (fun i d hd L3 oL3 acc3 it3 ψ3 X3 => by
        obtain ⟨x, _, rfl⟩ := int_get hd
        exact TURN.of (TG.name (by rfl)) (TS.one (TV.not (TV.val (EV.callK (by kxs_still) (by rw [hK]; k_is) (AR.cons (by kxs_still) (AR.cons (by kxs_still) AR.nil)) (is_ok hK (hA.le (by decide))))))) (fun _ => by kxs_still) (fun _ => rfl))) (by kxs_still) (CO.neD hA.uu (ok_intsD _ _) (by rfl) (by rw [decide_eq_true_eq, ne_eq, ne_eq, Dat.list.injEq])))) (fun _ => by kxs_still))) (by rw [none_bad heo.held])) (by kxs_still) (CO.neD (c := false) hA.uu (by rfl) (by rfl) (by simp))) fun s F => ?_
    have hkeep : (rows.filter (keepB e.rsn)).filter (keepB [e.l]) = rows.filter (keepB e.rsn) := List.filter_eq_self.mpr fun r hr => by
      obtain ⟨h1, h2⟩ := List.mem_filter.mp hr
      simp only [keepB, List.all_cons, List.all_nil, Bool.and_true]
      exact heo.keep r h1 h2
    have hfl := List.length_filter_le (keepB e.rsn) rows
    refine S_ifF F (TV.cmp (EV.callK (by kxs_still) (by rw [hK]; k_is) (AR.cons (EV.callK (by kxs_still) (by rw [hK]; k_is) (by kas_types) (keep_ok hK (hA.le (by decide)) (rows := rows) (L := e.rsn) (fun l hl => (heo.held l hl).1) (it_tuple _) (by omega) (by omega))) (AR.cons (by kxs_still) AR.nil)) (keep_ok hK (hA.le (by decide)) (rows := rows.filter (keepB e.rsn)) (L := [e.l]) (by intro l hl; simp only [List.mem_cons, List.not_mem_nil, or_false] at hl; subst hl; exact hex) (it_list _) (by simp) (by omega))) (EV.callK (by kxs_still) (by rw [hK]; k_is) (by kas_types) (keep_ok hK (hA.le (by decide)) (rows := rows) (L := e.rsn) (fun l hl => (heo.held l hl).1) (it_tuple _) (by omega) (by omega))) (CO.neD (c := false) hA.uu (ok_rowsD _) (ok_rowsD _) (by rw [hkeep]; simp))) fun s F => ?_
    have hg : ((hD H).map LV.d)[e.l.x]? = some (.d (listI (rowAt H e.l.x))) := hD_get (by omega)
    have hsz := hHs e.l.x hex
    refine S_item (lv := .d (listI ((rowAt H e.l.x).filter (litB e.l)))) (i := e.l.x) F (EV.to (EV.comp0 (ds := (rowAt H e.l.x).map .int) (Ms := fun _ => _) (c := fun d => litB e.l (intOf d)) (f := id) hA.hh (by rfl) (EV.item (by kxs_still) (by kxs_still) (SU.ml (by lcg_sub) hg rfl (by omega))) (it_list _) (by rw [List.length_map]; omega) (fun _ _ => by rfl) (fun i d hd L'' oL' acc it ψ X => by
      obtain ⟨x, _, rfl⟩ := int_get hd
      exact TURN.of (TG.name (by rfl)) (TS.one (TV.val (EV.callK (by kxs_still) (by rw [hK]; k_is) (by kas_types) (is_ok hK (hA.le (by decide)))))) (fun _ => by kxs_still) (fun _ => rfl))) (by rw [filt_int (rowAt H e.l.x) (fun v => litB e.l v)])) (by kxs_still) (by kxs_still) (by lcg_sub) rfl (by simp [hD]; omega) (by simp [hD]; omega) fun s F => S_nil ?_
    refine ⟨(updH H e, some (.d (litD e.l))), ⟨by omega, ?_, hok, by simp [updH, hH3], fun k hk => ?_⟩, (F.weak (fun p hp => ?_) sub_refl).mcast ?_⟩
    · dsimp only
      rw [List.take_add_one, hei, heldA_app, ← hH]; rfl
    · dsimp only [updH]
      by_cases hke : e.l.x = k
      · subst hke; rw [rowAt_set (by omega)]; exact Nat.le_trans (List.length_filter_le _ _) hsz
      · have := hHs k hk
        simp only [rowAt, List.getD_eq_getElem?_getD, List.getElem?_set, if_neg hke] at this ⊢; exact this
    · simp only [List.mem_cons, List.not_mem_nil, or_false] at hp
      rcases hp with rfl | rfl | rfl | rfl <;> rfl
    · dsimp only [updH]
      simp only [List.set_cons_succ, List.set_cons_zero, hD, List.map_set]
  · obtain ⟨hi, hH, hok, hH3, hHs⟩ := hR
    rw [List.length_map, List.take_length, hC.held] at hH
    obtain ⟨H, ol⟩ := X
    dsimp only at hH F
    subst hH
    refine kC ol s' (F.weak (fun p hp => ?_) sub_refl)
    simp only [List.mem_cons, List.not_mem_nil, or_false] at hp
    rcases hp with rfl | rfl | rfl <;> rfl
end

section
variable {P : Setup} {A : Around} {E : Value → Shared → Prop} {s₀ s : Shared} {env : Env} {L : Addr} {ρ ρ' : LE} {M M₁ M₂ M' : ME} {τ τ' : TE} {V O : Led} {m : Str → Option Value} {ds : List Dat} {pos : Pos}
/-- the outer loop of a comprehension with two clauses: over one pair of ints, an inner range -/
theorem comp_outD {elt it0 it1 : Expr} {e01 e02 : Expr} {x0 : Nat} {p0 : Pos} {tgt1 : Expr} {scope : Scope} {z acc : Addr} {R : Result → Shared → Prop} {C0 : Addr × AO} {a b : Int} {f : Dat → LV} {φ0 : Nat → Obj → Prop} {τz : TE}
    (hh : A.handled = none) (hs : ∀ x, foldedSetIterable it1 env x = pure x) (I0 : It P A z [.d (.tuple [.int a, .int b])] φ0 τz []) (hτz : ∀ p ∈ τz, p ∈ τ) (ha : -50000 ≤ a ∧ a ≤ 50000) (hb : -50000 ≤ b ∧ b ≤ 50000) (hab : (b + 1 - a).toNat ≤ 1000)
    (ρt : LE) (ht : TG P A env (.Tuple [e01, e02] x0 p0) (.d (.tuple [.int a, .int b])) ρt)
    (h1 : ∀ M, EV P A env ρt M it1 (.rng a (b + 1)) M)
    (ρ1 : Dat → LE) (ht1 : ∀ d, TG P (A.mark none) env tgt1 (.d d) (ρ1 d)) (he1 : ∀ d M, EV P (A.mark none) env (ρ1 d) M elt (f d) M)
    (done : ∀ s', FS P.s₀ env.locals [] (C0 :: (acc, .list ((rngL a (b + 1)).map f)) :: M) τ s' → R (.ok .next) s')
    (F : FS P.s₀ env.locals [] (C0 :: (acc, .list []) :: (z, .own (φ0 0)) :: M) τ s) :
    codeAny (model P.prog P.w) A (.compLoop (.ListComp elt [⟨.Tuple [e01, e02] x0 p0, it0, [], 0⟩, ⟨tgt1, it1, [], 0⟩] scope pos) 0 (.ref z) (.ref acc) env) R s := by
  let outs : Nat → List LV := fun k => match k with
    | 0 => []
    | _ + 1 => (rngL a (b + 1)).map f
  let In : Nat → Shared → Prop := fun n s => ∃ k, k ≤ 1 ∧ n = 1 - k ∧ FS P.s₀ env.locals [] (C0 :: (acc, .list (outs k)) :: (z, .own (φ0 k)) :: M) τ s
  refine codeAny_loop rfl In (fun n s hI => ?_) 1 ⟨0, Nat.zero_le _, by omega, F⟩
  obtain ⟨k, hk, hn, F⟩ := hI
  show wpAny _ A ((compTurn (.ListComp elt [⟨.Tuple [e01, e02] x0 p0, it0, [], 0⟩, ⟨tgt1, it1, [], 0⟩] scope pos) 0 (.ref z) (.ref acc) env).onRaise (fun x => do noteFrame x env; theTreesLotGoes x)) _ _ s
  refine wpAny_noted_turn ?_
  have hT : compTurn (.ListComp elt [⟨.Tuple [e01, e02] x0 p0, it0, [], 0⟩, ⟨tgt1, it1, [], 0⟩] scope pos) 0 (.ref z) (.ref acc) env = (do
      standAt it0.pos
      match ← pyNext (.ref z) with
      | none => pure (.done .next)
      | some v =>
        letOwnedTupleGo (.Tuple [e01, e02] x0 p0) (.ref z) v
        assign (.Tuple [e01, e02] x0 p0) env v
        let x ← eval it1 env
        standAt it1.pos
        let x ← foldedSetIterable it1 env x
        let _ ← runOwn (.compStart (.ListComp elt [⟨.Tuple [e01, e02] x0 p0, it0, [], 0⟩, ⟨tgt1, it1, [], 0⟩] scope pos) 1 (← holding [x] (pyIter x)) (.ref acc) env) env
        again (.compLoop (.ListComp elt [⟨.Tuple [e01, e02] x0 p0, it0, [], 0⟩, ⟨tgt1, it1, [], 0⟩] scope pos) 0 (.ref z) (.ref acc) env)) := by rfl
  rw [hT]
  refine wpAny_bind (wpAny_standAt (wpAny_bind ?_))
  by_cases hlt : k < 1
  · obtain rfl : k = 0 := by omega
    refine I0.next (i := 0) (lv := .d (.tuple [.int a, .int b])) (by rfl) F hτz (fun _ h => nomatch h) (at_tail (at_tail at_head)) fun v s₁ F₁ => ?_
    dsimp only
    refine wpAny_bind (I0.go (.Tuple [e01, e02] x0 p0) v F₁ (at_tail (at_tail at_head)) fun F₁ => ?_)
    refine wpAny_bind (ht.go F₁ (.head _) fun s₃ F₃ => ?_)
    rw [List.append_nil] at F₃
    refine wpAny_bind ((h1 _).go F₃ fun xv s₄ F₄ => ?_)
    refine wpAny_bind (wpAny_standAt (wpAny_bind (wpAny_of_eq (hs xv) (wpAny_bind (wpAny_holding ?_)))))
    refine it_range (a := a) (b := b + 1) (by omega) (by omega) A hh ((F₄.weak (ρ' := []) (fun _ h => nomatch h) sub_refl).mcast (M' := C0 :: (acc, .list []) :: (z, .own (φ0 1)) :: M) (by rfl)) (.head _) (fun _ h => nomatch h) fun it φ τp s₅ I F₅ => ?_
    have F₆ : FS P.s₀ env.locals [] (C0 :: (acc, .list []) :: (it, .own (φ 0)) :: ((z, .own (φ0 1)) :: M)) (τp ++ _) s₅ := (FS.sel (P := [(it, .own (φ 0)), C0, (acc, .list [])]) (M₀ := (z, .own (φ0 1)) :: M) [1, 2, 0] F₅ (by decide)).mcast (by rfl)
    have hrl : (rngL a (b + 1)).length = (b + 1 - a).toNat := by simp [rngL]
    have Im : It P (A.mark none) it ((rngL a (b + 1)).map .d) φ τp [] := by
      have : A.mark none = A := by cases A; simp_all [Around.mark]
      rw [this]; exact I
    have loop : ∀ {s₆}, FS P.s₀ env.locals [] (C0 :: (acc, .list []) :: (it, .own (φ 0)) :: ((z, .own (φ0 1)) :: M)) (τp ++ ((xv, .rng a (b + 1)) :: (v, .d (.tuple [.int a, .int b])) :: τ)) s₆ →
        codeAny (model P.prog P.w) (A.mark none) (.compLoop (.ListComp elt [⟨.Tuple [e01, e02] x0 p0, it0, [], 0⟩, ⟨tgt1, it1, [], 0⟩] scope pos) 1 (.ref it) (.ref acc) env) (fun r s' => match r with | .ok fl => wpAny (model P.prog P.w) A (again (.compLoop (.ListComp elt [⟨.Tuple [e01, e02] x0 p0, it0, [], 0⟩, ⟨tgt1, it1, [], 0⟩] scope pos) 0 (.ref z) (.ref acc) env)) (fun fin s' => match fin with | .done f => R (.ok f) s' | .again c' => c' = .compLoop (.ListComp elt [⟨.Tuple [e01, e02] x0 p0, it0, [], 0⟩, ⟨tgt1, it1, [], 0⟩] scope pos) 0 (.ref z) (.ref acc) env ∧ ∃ m, m < n ∧ In m s') (notedBy (model P.prog P.w) A env fun e s' => R (.error e) s') s' | .error e => cameBackBy (model P.prog P.w) A env (notedBy (model P.prog P.w) A env fun e s' => R (.error e) s') e s') s₆ := fun {s₆} F₆ => by
      refine comp_in Im (fun p hp => List.mem_append.mpr (.inl hp)) (by rw [hrl]; simp; omega) ρ1 ht1 he1 (fun s' F' => ?_) F₆
      refine wpAny_pure ⟨rfl, n - 1, by omega, 1, by omega, by omega, ?_⟩
      exact (F'.sub (fun p hp => List.mem_append.mpr (.inr (.tail _ (.tail _ hp))))).mcast (by rfl)
    refine wpAny_bind (wpAny_runOwn (start_any (loop F₆) (Im.self F₆ (fun p hp => List.mem_append.mpr (.inl hp)) (fun _ h => nomatch h) (at_tail (at_tail at_head)) fun F₇ => loop F₇)))
  · obtain rfl : k = 1 := by omega
    exact I0.done F hτz (fun _ h => nomatch h) (at_tail (at_tail at_head)) fun s₁ F₁ => wpAny_pure (done _ (F₁.mcast (by rfl)))
/-- [v for low, high in d for v in range(low, high + 1)], d a domain of one stretch -/
theorem EV.compDom {elt it0 it1 : Expr} {e01 e02 : Expr} {x0 : Nat} {p0 : Pos} {tgt1 : Expr} {scope : Scope} {cl : List (Str × Addr)} {a b : Int}
    (hh : A.handled = none) (hclos : closureFor scope env = pure cl) (h0 : EV P A env ρ M it0 (.d (Dom a b)) M₁)
    (hcell : ∀ L' M, cellME (L' + 1) scope.names M = M) (ha : -50000 ≤ a ∧ a ≤ 50000) (hb : -50000 ≤ b ∧ b ≤ 50000) (hab : (b + 1 - a).toNat ≤ 1000)
    (ρt : LE) (ht : ∀ L', TG P A (compEnvC scope (cellsFrom (L' + 1) scope.names cl) L' env) (.Tuple [e01, e02] x0 p0) (.d (.tuple [.int a, .int b])) ρt)
    (h1 : ∀ L' M, EV P A (compEnvC scope (cellsFrom (L' + 1) scope.names cl) L' env) ρt M it1 (.rng a (b + 1)) M)
    (ρ1 : Dat → LE) (ht1 : ∀ L' d, TG P (A.mark none) (compEnvC scope (cellsFrom (L' + 1) scope.names cl) L' env) tgt1 (.d d) (ρ1 d)) (he1 : ∀ L' d M, EV P (A.mark none) (compEnvC scope (cellsFrom (L' + 1) scope.names cl) L' env) (ρ1 d) M elt (.d d) M)
    (hs0 : ∀ x, foldedSetIterable it0 env x = pure x := by intro _; rfl) (hs1 : ∀ env x, foldedSetIterable it1 env x = pure x := by intro _ _; rfl)
    (hkind : scope.kind = .function := by rfl) (hnames : ∀ x ∈ scope.names, x.2 = .local → scope.names.lookup x.1 = some .local := by decide) :
    EV P A env ρ M (.ListComp elt [⟨.Tuple [e01, e02] x0 p0, it0, [], 0⟩, ⟨tgt1, it1, [], 0⟩] scope pos) (.d (.list (rngL a (b + 1)))) M₁ := ⟨fun {τ s Q E} F k => by
  show wpAny _ A (comprehension (.ListComp elt [⟨.Tuple [e01, e02] x0 p0, it0, [], 0⟩, ⟨tgt1, it1, [], 0⟩] scope pos) scope env _ (newList []) false (eval it0 env) none) _ _ s
  refine wpAny_comprehension_free rfl hs0 hclos hkind hnames (h0.go F fun xv s₁ F₁ => it_tuple [.tuple [.int a, .int b]] A hh F₁ (.head _) (fun _ h => nomatch h) fun it φ τp s₂ I F₂ => ?_)
  refine d_listM (xs := []) F₂ .nil (by simp) fun acc s₃ F₃ => ?_
  refine inner_env (P := P) F₃ hkind fun L' oL τc s₄ bk F₄ => ?_
  have e : ∀ e' : Env, e' = newEnv scope L' env.globals (cellsFrom (L' + 1) scope.names cl) env.qual none .none (some env) builtinsNs → ({ e' with scope := relabel scope env } : Env) = compEnvC scope (cellsFrom (L' + 1) scope.names cl) L' env := fun e' h => by subst h; rfl
  rw [e _ rfl]
  rw [hcell] at F₄
  have loop : ∀ {s₅}, FS P.s₀ L' [] ((env.locals, .raw oL) :: (acc, .list []) :: (it, .own (φ 0)) :: M₁) (τc ++ (Value.ref acc, LV.r (.ref acc)) :: (τp ++ (xv, .d (Dom a b)) :: τ)) s₅ →
      codeAny (model P.prog P.w) A (.compLoop (.ListComp elt [⟨.Tuple [e01, e02] x0 p0, it0, [], 0⟩, ⟨tgt1, it1, [], 0⟩] scope pos) 0 (.ref it) (.ref acc) (compEnvC scope (cellsFrom (L' + 1) scope.names cl) L' env)) (compPost (model P.prog P.w) A E none Q (.ref acc) L') s₅ := fun {s₅} F₅ => by
    refine comp_outD (f := fun d => .d d) hh (hs1 _) I (fun p hp => List.mem_append.mpr (.inr (.tail _ (List.mem_append.mpr (.inl hp))))) ha hb hab ρt (ht L') (h1 L') ρ1 (ht1 L') (he1 L') (fun s' F' => ?_) F₅
    obtain ⟨oC, hC, G⟩ := bk F' (fun p hp => List.mem_append.mpr (.inl hp))
    obtain ⟨V, O, m, g⟩ := id G
    obtain ⟨o, _, e, hg, _⟩ := g.getM (j := 0) at_head
    have e : o = oC := e
    subst e
    obtain ⟨m', hm⟩ := hC _ hg
    exact ⟨m', hm, fun h' hs' => k _ _ (((G.dropC hs').freeze).sub (sub_head (.head _) (sub_tail (fun p hp => List.mem_append.mpr (.inr (.tail _ (List.mem_append.mpr (.inr (.tail _ hp)))))))))⟩
  exact codeAny_compStart_list (loop F₄) (I.self F₄ (fun p hp => List.mem_append.mpr (.inr (.tail _ (List.mem_append.mpr (.inl hp))))) (fun _ h => nomatch h) (at_tail (at_tail at_head)) fun F₆ => loop F₆)⟩
end

theorem ok_hD (H : List (List Int)) : kqdOk 9 (.list (hD H)) = true := ok_list fun d hd => by
  obtain ⟨l, _, rfl⟩ := List.mem_map.mp hd
  exact ok_list fun d hd => by
    obtain ⟨x, _, rfl⟩ := List.mem_map.mp hd
    rfl
section
variable {P : Setup} {A : Around}
set_option maxHeartbeats 4000000 in
theorem lawE (hK : P.K = hd.heap_1 P.w.params) :
    ∃ oc od osl name qual params body scope dV kV doc pm an cdv0 ct, P.K.lookup 440 = some ⟨oc, od, .func (fnOf name qual params body scope dV kV doc pm an cdv0 ct), osl⟩ ∧
      ∀ (f : Addr) (cdv : Value) (A : Around) (L : Addr) (s : Shared) (Q : Flow → Shared → Prop) (E : Value → Shared → Prop) a ta hl cs sp J' H0 rows es v v' r late o, Ok A 12 → RC J' H0 rows es v v' r late →
        FS P.s₀ L [(Str.ofString "late", .d (.list (hD late))), (Str.ofString "stands", .d (.bool r)), (Str.ofString "rows", .d (.list (rows.map rowD)))] ((hl, .list ((hD (J'.map rowL)).map .d)) :: ML P a v' ta L cs sp (some (.r (.ref hl))) o) [] s →
        (∀ v s' ρ M τ, FS P.s₀ L ρ M ((v, .d (.bool true)) :: τ) s' → Q (.ret v) s') → wpAny (model P.prog P.w) A (execs (body.drop 10) (envOfC qual scope L f cdv)) Q E s := by
  refine ⟨_, _, _, _, _, _, _, _, _, _, _, _, _, _, _, by rw [hK]; k_is, ?_⟩
  intro f cdv A L s Q E a ta hl cs sp J' H0 rows es v v' r late o hA hC F kQ
  have hB : Env → Ok A 12 := fun _ => hA
  have hrl := hC.rl
  have hJl := hC.jl
  cases r with
  | false =>
    obtain ⟨cl, hcl, hco⟩ := hC.clash rfl
    have hcn := hco.n
    have hkeep : rows.filter (keepB cl) = [] := List.filter_eq_nil_iff.mpr fun r hr => by rw [hco.keep r hr]; simp
    have hsz : ∀ k, k < 3 → (rowAt (J'.map rowL) k).length ≤ 100 := by
      rw [← hC.held]
      have : ∀ (es : List EN) (H : List (List Int)), (∀ k, k < 3 → (rowAt H k).length ≤ 100) → ∀ k, k < 3 → (rowAt (heldA es H) k).length ≤ 100 := by
        intro es
        induction es with
        | nil => intro H h; exact h
        | cons e es ih =>
          intro H h
          refine ih _ fun k hk => ?_
          unfold updH
          by_cases hx : e.l.x < H.length
          · by_cases hke : e.l.x = k
            · subst hke; rw [rowAt_set hx]; exact Nat.le_trans (List.length_filter_le _ _) (h _ hk)
            · have := h k hk
              simp only [rowAt, List.getD_eq_getElem?_getD, List.getElem?_set, if_neg hke] at this ⊢; exact this
          · rw [List.set_eq_of_length_le (by omega)]; exact h k hk
      exact this es H0 hC.hs
    refine S_if (c := !false) F (by kpc_turns) (fun _ s F => ?_) (fun h => absurd h (by decide))
    refine S_asg F (lv := .d (.bool true)) (EV.cmp (EV.to (EV.comp1 (ds := cl.map litD) (c := fun d => decide ((((rowAt (J'.map rowL) (slOf d).x).map Dat.int).filter fun v => !(litB (slOf d) (intOf v))).map id ≠ [])) (f := id) hA.hh (by rfl) (EV.to (by kxs_still) (by rw [hcl])) (it_tuple _) (by simp; omega) (fun _ _ => by rfl) (fun i d hd L'' oL' acc it o ψ X => by
      obtain ⟨s, hs, rfl, _⟩ := map_getE hd
      rw [slOf_litD]
      obtain ⟨hx, _⟩ := hco.held s hs
      have hg : ((hD (J'.map rowL)).map LV.d)[s.x]? = some (.d (listI (rowAt (J'.map rowL) s.x))) := hD_get (by simp; omega)
      have hsz := hsz s.x hx
      refine TURN.ofc (by rfl) (by rfl) (by rfl) (TS.one (TV.cmp (EV.comp0 (ds := (rowAt (J'.map rowL) s.x).map .int) (Ms := fun _ => _) (c := fun v => !(litB s (intOf v))) (f := id) hA.hh (by rfl) (EV.item (lv := .d (listI (rowAt (J'.map rowL) s.x))) (by kxs_still) (EV.item (lv := .d (.int s.x)) (by kxs_still) (by kxs_still) (SU.tup (i := 0) (by rfl) rfl (by decide))) (SU.ml (by lcg_sub) hg rfl (by omega))) (it_list _) (by rw [List.length_map]; omega) (fun _ _ => by rfl) (fun i d hd L3 oL3 acc3 it3 ψ3 X3 => by
        obtain ⟨x, _, rfl⟩ := int_get hd
        exact TURN.of (TG.name (by rfl)) (TS.one (TV.not (TV.val (EV.callK (by kxs_still) (by rw [hK]; k_is) (AR.cons (by kxs_still) (AR.cons (by kxs_still) AR.nil)) (is_ok hK (hA.le (by decide))))))) (fun _ => by kxs_still) (fun _ => rfl))) (by kxs_still) (CO.neD hA.uu (ok_intsD _ _) (by rfl) (by rw [decide_eq_true_eq, ne_eq, ne_eq, Dat.list.injEq])))) (fun _ => by kxs_still))) (by rw [none_bad hco.held])) (by kxs_still) (CO.eqD (c := true) hA.uu (by rfl) (by rfl) (by simp))) (by rfl) fun s F => ?_
    exact S_ret F (EV.and2 (b := true) (c := true) (by kxs_still) (fun _ => EV.cmp (EV.callK (by kxs_still) (by rw [hK]; k_is) (AR.cons (by kxs_still) (AR.cons (EV.to (by kxs_still) (by rw [hcl])) AR.nil)) (keep_ok hK (hA.le (by decide)) (rows := rows) (L := cl) (fun l hl => (hco.held l hl).1) (it_tuple _) (by omega) (by omega))) (by kxs_still) (CO.eqD (c := true) hA.uu (ok_rowsD _) (by rfl) (by rw [hkeep]; simp)))) fun v s' F' => kQ _ _ _ _ _ F'
  | true =>
    obtain ⟨hlate, hdoms, hbnd⟩ := hC.stands rfl
    subst hlate
    refine S_if (c := !true) F (by kpc_turns) (fun h => absurd h (by decide)) (fun _ s F => S_nil ?_)
    refine S_asgL (ds := [0, 1, 2].map nd) (Ms := fun _ => (hl, .list ((hD (J'.map rowL)).map .d)) :: ML P a v' ta L cs sp (some (.r (.ref hl))) o) (c := fun _ => true) (f := fun d => .d (rowI (ivAt J' (natOf d)))) hA.hh F (by rfl) (by kxs_still) (rng3 ▸ it_range (by decide) (by decide)) (by decide) (fun _ _ => by rfl) (by rfl) (fun i d hd L'' oL' acc it ψ X => by
      obtain ⟨k, hkm, rfl, hki⟩ := nd_get hd
      have hk3 : k < 3 := by simp at hkm; omega
      rw [natOf_nd]
      have hdk : v'.doms[k]? = some (Dom (ivAt J' k).1 (ivAt J' k).2) := by rw [hdoms, List.getElem?_map, iv_get (by omega)]; rfl
      have hbk := hbnd k hk3
      exact TURN.of (TG.name (by rfl)) TS.nil (fun _ => EV.to (EV.compDom (a := (ivAt J' k).1) (b := (ivAt J' k).2) hA.hh (by rfl) (EV.meth (by kxs_still) (by lcg_sub) (by lcg_sub) (by rfl) (by rw [hK]; k_is) (by rw [hK]; k_is) (by rw [hK]; k_is) (by rw [hK]; k_is) (AR.cons (EV.to (lv' := .d (.int (k : Int))) (by kxs_still) rfl) AR.nil) (dom_ok (pre := [(L, .raw oL'), (acc, .list X), (it, .own ψ), (hl, .list ((hD (J'.map rowL)).map .d))]) hK (hA.le (by decide)) hdk (by omega))) (fun _ _ => by rfl) (by omega) (by omega) (by omega) [(Str.ofString "high", .d (.int (ivAt J' k).2)), (Str.ofString "low", .d (.int (ivAt J' k).1))] (fun L3 => by exact TG.tup2 hA.hh (by rfl) (by rfl)) (fun L3 M => by kxs_still) (fun d => [(Str.ofString "v", .d d)]) (fun L3 d => by exact TG.name (by rfl)) (fun L3 d M => by kxs_still)) (by rw [rngL_eq])) (fun h => nomatch h)) fun tl τ' s hτ F => ?_
    have htl : (([0, 1, 2].map nd).filter fun _ => true).map (fun d => LV.d (rowI (ivAt J' (natOf d)))) = (hD (J'.map rowL)).map .d := by
      obtain ⟨j0, j1, j2, rfl⟩ : ∃ j0 j1 j2, J' = [j0, j1, j2] := by
        match J', hJl with
        | [j0, j1, j2], _ => exact ⟨j0, j1, j2, rfl⟩
      rfl
    rw [htl] at F
    exact S_ret F (EV.and2 (b := true) (c := true) (EV.cmp (by kxs_still) (by kxs_still) (CO.eqM (c := true) (ds := hD (J'.map rowL)) (by lcg_sub) hA.uu (ok_hD _) (ok_hD _) (by simp))) (fun _ => EV.cmp (by kxs_still) (by kxs_still) (CO.eqM (c := true) (ds := hD (J'.map rowL)) (by lcg_sub) hA.uu (ok_hD _) (ok_hD _) (by simp)))) fun v s' F' => kQ _ _ _ _ _ F'
end

theorem fn_inj {oc oc' : Value} {od od' : Option Addr} {osl osl' : Array (Option Value)} {name name' qual qual' : Str} {params params' : Arguments} {body body' : List Stmt} {scope scope' : Scope} {dV dV' kV kV' doc doc' pm pm' : Value} {an an' : Option Addr} {cdv cdv' ct ct' : Value}
    (h : (some ⟨oc, od, .func (fnOf name qual params body scope dV kV doc pm an cdv ct), osl⟩ : Option Obj) = some ⟨oc', od', .func (fnOf name' qual' params' body' scope' dV' kV' doc' pm' an' cdv' ct'), osl'⟩) : qual = qual' ∧ body = body' ∧ scope = scope' := by
  unfold fnOf at h
  injection h with h
  injection h with _ _ h _
  injection h with h
  injection h
  refine ⟨?_, FuncBody.stmts.inj ?_, ?_⟩ <;> assumption
theorem law_go {P : Setup} (hP : P.prog = PySem.Challenge.rw_pc0042_01.row.prog) (hK : P.K = hd.heap_1 P.w.params) :
    ∃ oc od osl name qual params body scope dV kV doc pm an cdv0 ct, P.K.lookup 440 = some ⟨oc, od, .func (fnOf name qual params body scope dV kV doc pm an cdv0 ct), osl⟩ ∧
      ∀ (f : Addr) (cdv : Value) (A : Around) (L sa : Addr) (vs : List Value) (ns : List Int) (τ : TE) (s : Shared) (Q : Flow → Shared → Prop) (E : Value → Shared → Prop), Ok A 12 → P.s₀.heap.IsList sa vs.toArray → IntsAre vs ns → ns.length ≤ 1000 →
        FS P.s₀ L [(Str.ofString "script", .r (.ref sa))] [(L + 4, .cell none), (L + 3, .cell none), (L + 2, .cell none), (L + 1, .cell none)] τ s →
        (∀ v s' ρ M τ, FS P.s₀ L ρ M ((v, .d (.bool true)) :: τ) s' → Q (.ret v) s') → wpAny (model P.prog P.w) A (execs body (envOfC qual scope L f cdv)) Q E s := by
  obtain ⟨oc, od, osl, name, qual, params, body, scope, dV, kV, doc, pm, an, cdv0, ct, e1, hA'⟩ := lawA hP hK
  obtain ⟨oc2, od2, osl2, name2, qual2, params2, body2, scope2, dV2, kV2, doc2, pm2, an2, cdv2, ct2, e2, hB'⟩ := lawB hP hK
  obtain ⟨oc3, od3, osl3, name3, qual3, params3, body3, scope3, dV3, kV3, doc3, pm3, an3, cdv3, ct3, e3, hC'⟩ := lawC hP hK
  obtain ⟨oc4, od4, osl4, name4, qual4, params4, body4, scope4, dV4, kV4, doc4, pm4, an4, cdv4, ct4, e4, hD'⟩ := lawD hK
  obtain ⟨oc5, od5, osl5, name5, qual5, params5, body5, scope5, dV5, kV5, doc5, pm5, an5, cdv5, ct5, e5, hE'⟩ := lawE hK
  obtain ⟨rfl, rfl, rfl⟩ := fn_inj (e1.symm.trans e2)
  obtain ⟨rfl, rfl, rfl⟩ := fn_inj (e1.symm.trans e3)
  obtain ⟨rfl, rfl, rfl⟩ := fn_inj (e1.symm.trans e4)
  obtain ⟨rfl, rfl, rfl⟩ := fn_inj (e1.symm.trans e5)
  refine ⟨oc, od, osl, name, qual, params, body, scope, dV, kV, doc, pm, an, cdv0, ct, e1, ?_⟩
  intro f cdv A L sa vs ns τ s Q E hA hl hi hn F kQ
  refine hA' f cdv A L sa vs ns τ s Q E hA hl hi hn F fun a ta hl cs p0 p1 p2 l0 l1 l2 s hcl hIV hL3 F => ?_
  refine hB' f cdv A L s Q E a ta hl cs p0 p1 p2 _ _ hA hcl hIV F fun X s hX F => ?_
  obtain ⟨i, hi, hR⟩ : ∃ i, i ≤ 2 ∧ RB p0 p1 p2 i X := by
    rcases hX with h | h | h
    · exact ⟨2, by omega, h⟩
    · exact ⟨1, by omega, h⟩
    · exact ⟨0, by omega, h⟩
  refine hC' f cdv A L s Q E a ta hl cs p0 p1 p2 l0 l1 l2 X i hA hcl hIV hL3 hi hR F fun J' H0 rows es v' r late s hC F => ?_
  refine hD' f cdv A L s Q E a ta hl cs _ J' H0 rows es X.v v' r late hA hC F fun o s F => ?_
  exact hE' f cdv A L s Q E a ta hl cs _ J' H0 rows es X.v v' r late o hA hC F kQ
theorem joint {w : World} {s₁ : Shared} {h₁ : Heap} {tk : Nat} {p : Program} {loose : List Str} {m : Str → Option Value} {oc : Value} {od : Option Addr} {osl : Array (Option Value)} {name qual : Str} {params : Arguments} {body : List Stmt} {scope : Scope} {dV kV doc pm : Value} {an : Option Addr} {cdv0 ct cdv : Value} {f sa : Addr} {vs : List Value} {ns : List Int} {w3 w2 w1 w0 : Obj} {A : Around} {Q : Flow → Shared → Prop} {E : Value → Shared → Prop}
    (KX : (hd.heap_1 w.params).In s₁.heap) (T : ∃ mean mg mb, Top p loose mean mg mb s₁.heap) (ho : (hd.heap_1 w.params).lookup 440 = some ⟨oc, od, .func (fnOf name qual params body scope dV kV doc pm an cdv0 ct), osl⟩)
    (hL : s₁.heap.IsList sa vs.toArray) (hI : IntsAre vs ns) (hn : ns.length ≤ 1000) (F : Fr s₁.heap s₁.heap.objs.size h₁ m) (hm : m (Str.ofString "script") = some (.ref sa))
    (N : News s₁.heap s₁.heap.objs.size h₁ [(s₁.heap.objs.size + 1 + 1 + 1 + 1, w3), (s₁.heap.objs.size + 1 + 1 + 1, w2), (s₁.heap.objs.size + 1 + 1, w1), (s₁.heap.objs.size + 1, w0)])
    (d3 : w3.data = .cell none) (d2 : w2.data = .cell none) (d1 : w1.data = .cell none) (d0 : w0.data = .cell none) (hA : Ok A 12)
    (kQ : ∀ s' m', Fr s₁.heap s₁.heap.objs.size s'.heap m' → (∃ h tk, s' = { s₁ with heap := h, toks := tk }) → Q (.ret (.bool true)) s') :
    wpAny (model PySem.Challenge.rw_pc0042_01.row.prog w) A (execs body (envOfC qual scope s₁.heap.objs.size f cdv)) Q E { s₁ with heap := h₁, toks := tk } := by
  have G := @law_go ⟨PySem.Challenge.rw_pc0042_01.row.prog, w, s₁, p, loose, hd.heap_1 w.params, ⟨KX, T⟩⟩ rfl rfl
  obtain ⟨oc2, od2, osl2, name2, qual2, params2, body2, scope2, dV2, kV2, doc2, pm2, an2, cdv2, ct2, e2, hgo⟩ := G
  obtain ⟨rfl, rfl, rfl⟩ := fn_inj (ho.symm.trans e2)
  refine hgo f cdv A s₁.heap.objs.size sa vs ns [] _ Q E hA hL hI hn ⟨[], [(s₁.heap.objs.size + 1 + 1 + 1 + 1, w3), (s₁.heap.objs.size + 1 + 1 + 1, w2), (s₁.heap.objs.size + 1 + 1, w1), (s₁.heap.objs.size + 1, w0)], m, F, N, .cons d3 (.cons d2 (.cons d1 (.cons d0 .nil))), ?_, (fun _ h => nomatch h), (fun x lv h => ?_), (fun _ h => nomatch h), _, _, rfl⟩ fun v s' ρ M τ F' => ?_
  · have key : ∀ L : Nat, ([L + 1 + 1 + 1 + 1, L + 1 + 1 + 1, L + 1 + 1, L + 1] : List Nat).Nodup := by
      intro L
      simp only [List.nodup_cons, List.mem_cons, List.not_mem_nil, or_false, not_false_eq_true, List.nodup_nil, and_true]
      omega
    exact key s₁.heap.objs.size
  · rw [List.lookup_cons] at h
    cases hx : x == Str.ofString "script" with
    | false => rw [hx] at h; cases h
    | true =>
      rw [hx] at h
      have hx := eq_of_beq hx
      subst hx
      cases h
      exact ⟨_, hm, rfl⟩
  · obtain rfl := F'.bool (.head _)
    obtain ⟨V, O, m', g⟩ := F'
    exact kQ s' m' g.fr g.same
theorem ok_caller : Ok callerA 13 := ⟨rfl, by decide, by decide⟩

end Mine
set_option maxHeartbeats 8000000 in
theorem PySem.Challenge.cw_pc0042_01_holds : PySem.Challenge.rw_pc0042_01.Holds := by
  exact hd (by
    k_go0
    rename_i w3 w2 w1 w0 l2 l1 l0 r N0 X0
    refine Mine.joint (by assumption) ⟨_, _, _, by assumption⟩ (by k_is) (by assumption) (by assumption) (by omega) (by assumption) (by rfl) N0 l2 l1 l0 r (Mine.ok_caller.deeper _) fun s' m' F' hs => ?_
    obtain ⟨h, tk, rfl⟩ := hs
    exact goodW_bool F' (by assumption) (by intro _; rfl) (by wrow_post))
