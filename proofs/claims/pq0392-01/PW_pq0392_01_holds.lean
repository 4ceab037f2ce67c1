import PyProof.Rows.All
import Wide.All
import OpenK.AllK
import Wide.FinOn
import PySem.Challenge.RW_pq0392_01
open PySem PySem.W PyProof.Rows PySem.Spec PySem.Calls
set_option Elab.async false
set_option maxRecDepth 100000
set_option maxHeartbeats 8000000
set_option rowWalk.seconds 3000
section HDA_
open PySem PySem.W PyProof.Rows
namespace Mine
-- parts of the row's text, taken out by their place
noncomputable def tNth : List Stmt → Nat → Stmt
  | [], _ => .Pass default
  | s :: _, 0 => s
  | _ :: l, n + 1 => tNth l n
noncomputable def tFd (n : Nat) : Stmt := tNth PySem.Challenge.pw_pq0392_01.main.body n
noncomputable def tPar : Stmt → Arguments
  | .FunctionDef _ a _ _ _ _ _ _ _ _ => a
  | _ => { posonlyargs := [], args := [], vararg := none, kwonlyargs := [], kw_defaults := [], kwarg := none, defaults := [] }
noncomputable def tBod : Stmt → List Stmt
  | .FunctionDef _ _ b _ _ _ _ _ _ _ => b
  | _ => []
noncomputable def tSco : Stmt → Scope
  | .FunctionDef _ _ _ _ _ _ s _ _ _ => s
  | _ => { kind := .function, names := [], isGenerator := false, isCoroutine := false }
noncomputable def tCls : Stmt → List Stmt
  | .ClassDef _ _ _ b _ _ _ _ _ _ _ => b
  | _ => []
-- the view: the statements kept; hp0: the objects that the top leaves
noncomputable def vw0 : Program := { PySem.Challenge.rw_pq0392_01.row.toRowW.1 with main := { PySem.Challenge.rw_pq0392_01.row.toRowW.1.main with body := [tFd 1, tFd 2, tFd 3, tFd 4, tFd 5, tFd 7, tFd 8, tFd 9, tFd 10, tFd 11, tFd 12, tFd 14, tFd 15, tFd 16, tFd 17, tFd 18, tFd 19, tFd 20, tFd 21, tFd 22, tFd 23, tFd 24, tFd 25] } }
noncomputable def hp0 (a2 a3 a22 a24 a25 a27 a28 a29 a30 a31 a32 a33 a36 a38 a39 a41 a42 a43 a45 a46 a48 a49 a50 a53 a54 a55 a57 a58 a60 a61 a62 a64 a65 a67 a68 a69 a71 a72 a74 a75 a76 a78 a79 a81 a82 a83 a85 a86 a88 a89 a90 a92 a93 a95 a96 a97 a98 a99 a101 a102 a104 a105 a106 a108 a109 a111 a112 a113 a115 a116 a118 a119 a120 a122 a123 a125 a126 a127 a130 a131 a132 a134 a135 a137 a138 a139 a141 a142 a144 a145 a146 a149 a150 a151 a154 a155 a156 a159 a160 : Nat) (P : Params) : List (Nat × Obj) :=
  (a2, (Obj.mk Value.none none (Data.dict #[] (0 : Nat)) #[])) ::
  (a3, (Obj.mk (Value.type "dict") none (Data.dict #[(DictEntry.mk (PyData.keyHash P (Str.ofString "__name__")) (Value.str (Str.ofString "__name__") (165 : Nat)) (Value.str (Str.ofString "law_pq0392_01") (318 : Nat))), (DictEntry.mk (PyData.keyHash P (Str.ofString "__doc__")) (Value.str (Str.ofString "__doc__") (166 : Nat)) Value.none), (DictEntry.mk (PyData.keyHash P (Str.ofString "__package__")) (Value.str (Str.ofString "__package__") (167 : Nat)) Value.none), (DictEntry.mk (PyData.keyHash P (Str.ofString "__loader__")) (Value.str (Str.ofString "__loader__") (168 : Nat)) (Value.builtin "__main__.__loader__#opaque")), (DictEntry.mk (PyData.keyHash P (Str.ofString "__spec__")) (Value.str (Str.ofString "__spec__") (169 : Nat)) Value.none), (DictEntry.mk (PyData.keyHash P (Str.ofString "__annotations__")) (Value.str (Str.ofString "__annotations__") (170 : Nat)) (Value.ref (6 : Nat))), (DictEntry.mk (PyData.keyHash P (Str.ofString "__builtins__")) (Value.str (Str.ofString "__builtins__") (171 : Nat)) (Value.ref (4 : Nat))), (DictEntry.mk (PyData.keyHash P (Str.ofString "__file__")) (Value.str (Str.ofString "__file__") (173 : Nat)) (Value.str (Str.ofString "/claim/cut.py") (172 : Nat))), (DictEntry.mk (PyData.keyHash P (Str.ofString "__cached__")) (Value.str (Str.ofString "__cached__") (174 : Nat)) Value.none), (DictEntry.mk (PyData.keyHash P (Str.ofString "Op")) (Value.str (Str.ofString "Op") (223 : Nat)) (Value.ref (31 : Nat))), (DictEntry.mk (PyData.keyHash P (Str.ofString "plain_groups")) (Value.str (Str.ofString "plain_groups") (229 : Nat)) (Value.ref (42 : Nat))), (DictEntry.mk (PyData.keyHash P (Str.ofString "ops")) (Value.str (Str.ofString "ops") (246 : Nat)) (Value.ref (49 : Nat))), (DictEntry.mk (PyData.keyHash P (Str.ofString "names")) (Value.str (Str.ofString "names") (252 : Nat)) (Value.ref (54 : Nat))), (DictEntry.mk (PyData.keyHash P (Str.ofString "push_size")) (Value.str (Str.ofString "push_size") (259 : Nat)) (Value.ref (61 : Nat))), (DictEntry.mk (PyData.keyHash P (Str.ofString "JUMPDEST")) (Value.str (Str.ofString "JUMPDEST") (263 : Nat)) (Value.int (91 : Int) (262 : Nat))), (DictEntry.mk (PyData.keyHash P (Str.ofString "jump_places")) (Value.str (Str.ofString "jump_places") (272 : Nat)) (Value.ref (68 : Nat))), (DictEntry.mk (PyData.keyHash P (Str.ofString "pushed_number")) (Value.str (Str.ofString "pushed_number") (282 : Nat)) (Value.ref (75 : Nat))), (DictEntry.mk (PyData.keyHash P (Str.ofString "hex_text")) (Value.str (Str.ofString "hex_text") (291 : Nat)) (Value.ref (82 : Nat))), (DictEntry.mk (PyData.keyHash P (Str.ofString "rows_of")) (Value.str (Str.ofString "rows_of") (305 : Nat)) (Value.ref (89 : Nat))), (DictEntry.mk (PyData.keyHash P (Str.ofString "listing")) (Value.str (Str.ofString "listing") (317 : Nat)) (Value.ref (96 : Nat))), (DictEntry.mk (PyData.keyHash P (Str.ofString "_law_words")) (Value.str (Str.ofString "_law_words") (327 : Nat)) (Value.ref (97 : Nat))), (DictEntry.mk (PyData.keyHash P (Str.ofString "_law_traps")) (Value.str (Str.ofString "_law_traps") (333 : Nat)) (Value.ref (98 : Nat))), (DictEntry.mk (PyData.keyHash P (Str.ofString "_law_pip")) (Value.str (Str.ofString "_law_pip") (342 : Nat)) (Value.ref (105 : Nat))), (DictEntry.mk (PyData.keyHash P (Str.ofString "_law_own")) (Value.str (Str.ofString "_law_own") (349 : Nat)) (Value.ref (112 : Nat))), (DictEntry.mk (PyData.keyHash P (Str.ofString "_law_named")) (Value.str (Str.ofString "_law_named") (359 : Nat)) (Value.ref (119 : Nat))), (DictEntry.mk (PyData.keyHash P (Str.ofString "_law_due")) (Value.str (Str.ofString "_law_due") (375 : Nat)) (Value.ref (126 : Nat))), (DictEntry.mk (PyData.keyHash P (Str.ofString "_law_parted")) (Value.str (Str.ofString "_law_parted") (381 : Nat)) (Value.ref (131 : Nat))), (DictEntry.mk (PyData.keyHash P (Str.ofString "_law_text")) (Value.str (Str.ofString "_law_text") (392 : Nat)) (Value.ref (138 : Nat))), (DictEntry.mk (PyData.keyHash P (Str.ofString "_law_is_told")) (Value.str (Str.ofString "_law_is_told") (403 : Nat)) (Value.ref (145 : Nat))), (DictEntry.mk (PyData.keyHash P (Str.ofString "_law_flat")) (Value.str (Str.ofString "_law_flat") (409 : Nat)) (Value.ref (150 : Nat))), (DictEntry.mk (PyData.keyHash P (Str.ofString "_law_step")) (Value.str (Str.ofString "_law_step") (415 : Nat)) (Value.ref (155 : Nat))), (DictEntry.mk (PyData.keyHash P (Str.ofString "law")) (Value.str (Str.ofString "law") (421 : Nat)) (Value.ref (160 : Nat)))] (32 : Nat)) #[])) ::
  (a22, (Obj.mk (Value.type "tuple") none (Data.seq #[] (0 : Nat)) #[])) ::
  (a24, (Obj.mk (Value.type "tuple") none (Data.seq #[(Value.str (Str.ofString "self") (204 : Nat)), (Value.str (Str.ofString "name") (205 : Nat)), (Value.str (Str.ofString "takes") (206 : Nat)), (Value.str (Str.ofString "gives") (207 : Nat)), (Value.str (Str.ofString "cost") (208 : Nat))] (0 : Nat)) #[])) ::
  (a25, (Obj.mk (Value.type "tuple") none (Data.seq #[] (0 : Nat)) #[])) ::
  (a27, (Obj.mk (Value.type "code") none (Data.fields #[(Value.str (Str.ofString "__init__") (201 : Nat)), (Value.str (Str.ofString "Op.__init__") (202 : Nat)), (Value.str (Str.ofString "/claim/cut.py") (203 : Nat)), (Value.int (4 : Int) (0 : Nat)), (Value.int (5 : Int) (0 : Nat)), (Value.int (0 : Int) (0 : Nat)), (Value.int (0 : Int) (0 : Nat)), (Value.int (3 : Int) (0 : Nat)), (Value.ref (22 : Nat)), (Value.bool Bool.true), (Value.int (181 : Int) (0 : Nat)), (Value.ref (23 : Nat)), Value.none, (Value.ref (24 : Nat)), (Value.ref (25 : Nat)), (Value.ref (26 : Nat)), (Value.int (209 : Int) (0 : Nat)), (Value.int (4 : Int) (0 : Nat)), (Value.str (Str.ofString "/claim/cut.py") (210 : Nat))]) #[])) ::
  (a28, (Obj.mk (Value.type "function") none (Data.func (FuncData.mk (Str.ofString "__init__") (Str.ofString "Op.__init__") (tPar (tNth (tCls (tFd 1)) 0)) (FuncBody.stmts (tBod (tNth (tCls (tFd 1)) 0))) (tSco (tNth (tCls (tFd 1)) 0)) (3 : Nat) [] Value.none Value.none Value.none (Value.str (Str.ofString "gasledger.opcodes") (187 : Nat)) none (Value.ref (27 : Nat)) Value.none (0 : Nat))) #[])) ::
  (a29, (Obj.mk (Value.type "tuple") none (Data.seq #[(Value.str (Str.ofString "cost") (212 : Nat)), (Value.str (Str.ofString "gives") (213 : Nat)), (Value.str (Str.ofString "name") (214 : Nat)), (Value.str (Str.ofString "takes") (215 : Nat))] (0 : Nat)) #[])) ::
  (a30, (Obj.mk (Value.type "dict") none (Data.dict #[(DictEntry.mk (PyData.keyHash P (Str.ofString "__module__")) (Value.str (Str.ofString "__module__") (196 : Nat)) (Value.str (Str.ofString "gasledger.opcodes") (187 : Nat))), (DictEntry.mk (PyData.keyHash P (Str.ofString "__firstlineno__")) (Value.str (Str.ofString "__firstlineno__") (200 : Nat)) (Value.int (2 : Int) (199 : Nat))), (DictEntry.mk (PyData.keyHash P (Str.ofString "__init__")) (Value.str (Str.ofString "__init__") (211 : Nat)) (Value.ref (28 : Nat))), (DictEntry.mk (PyData.keyHash P (Str.ofString "__static_attributes__")) (Value.str (Str.ofString "__static_attributes__") (216 : Nat)) (Value.ref (29 : Nat))), (DictEntry.mk (PyData.keyHash P (Str.ofString "__dict__")) (Value.str (Str.ofString "__dict__") (218 : Nat)) (Value.ref (32 : Nat))), (DictEntry.mk (PyData.keyHash P (Str.ofString "__weakref__")) (Value.str (Str.ofString "__weakref__") (220 : Nat)) (Value.ref (33 : Nat))), (DictEntry.mk (PyData.keyHash P (Str.ofString "__doc__")) (Value.str (Str.ofString "__doc__") (221 : Nat)) Value.none)] (4 : Nat)) #[])) ::
  (a31, (Obj.mk (Value.type "type") none (Data.cls (ClassData.mk (Str.ofString "Op") [(Value.type "object")] [(Value.ref (31 : Nat)), (Value.type "object")] (30 : Nat) (Str.ofString "Op") Bool.true [] [] Bool.false none Bool.false)) #[none, none, (some (Value.str (Str.ofString "Op") (189 : Nat))), (some (Value.str (Str.ofString "Op") (197 : Nat))), (some (Value.builtin "object.__new__")), (some (Value.bool Bool.true))])) ::
  (a32, (Obj.mk (Value.type "getset_descriptor") none (Data.fields #[(Value.str (Str.ofString "__dict__") (217 : Nat)), (Value.ref (31 : Nat)), (Value.builtin "function.__dict__"), (Value.builtin "function.__dict__#set")]) #[])) ::
  (a33, (Obj.mk (Value.type "getset_descriptor") none (Data.fields #[(Value.str (Str.ofString "__weakref__") (219 : Nat)), (Value.ref (31 : Nat)), (Value.builtin "ExceptionGroup.__weakref__"), Value.none]) #[])) ::
  (a36, (Obj.mk (Value.type "tuple") none (Data.seq #[] (0 : Nat)) #[])) ::
  (a38, (Obj.mk (Value.type "tuple") none (Data.seq #[] (0 : Nat)) #[])) ::
  (a39, (Obj.mk (Value.type "tuple") none (Data.seq #[] (0 : Nat)) #[])) ::
  (a41, (Obj.mk (Value.type "code") none (Data.fields #[(Value.str (Str.ofString "plain_groups") (224 : Nat)), (Value.str (Str.ofString "plain_groups") (225 : Nat)), (Value.str (Str.ofString "/claim/cut.py") (226 : Nat)), (Value.int (9 : Int) (0 : Nat)), (Value.int (0 : Int) (0 : Nat)), (Value.int (0 : Int) (0 : Nat)), (Value.int (0 : Int) (0 : Nat)), (Value.int (3 : Int) (0 : Nat)), (Value.ref (36 : Nat)), (Value.bool Bool.true), (Value.int (181 : Int) (0 : Nat)), (Value.ref (37 : Nat)), Value.none, (Value.ref (38 : Nat)), (Value.ref (39 : Nat)), (Value.ref (40 : Nat)), (Value.int (227 : Int) (0 : Nat)), (Value.int (9 : Int) (0 : Nat)), (Value.str (Str.ofString "/claim/cut.py") (228 : Nat))]) #[])) ::
  (a42, (Obj.mk (Value.type "function") none (Data.func (FuncData.mk (Str.ofString "plain_groups") (Str.ofString "plain_groups") (tPar (tFd 2)) (FuncBody.stmts (tBod (tFd 2))) (tSco (tFd 2)) (3 : Nat) [] Value.none Value.none Value.none (Value.str (Str.ofString "gasledger.opcodes") (187 : Nat)) none (Value.ref (41 : Nat)) Value.none (0 : Nat))) #[])) ::
  (a43, (Obj.mk (Value.type "tuple") none (Data.seq #[] (0 : Nat)) #[])) ::
  (a45, (Obj.mk (Value.type "tuple") none (Data.seq #[(Value.str (Str.ofString "found") (233 : Nat)), (Value.str (Str.ofString "first") (234 : Nat)), (Value.str (Str.ofString "takes") (235 : Nat)), (Value.str (Str.ofString "gives") (236 : Nat)), (Value.str (Str.ofString "cost") (237 : Nat)), (Value.str (Str.ofString "words") (238 : Nat)), (Value.str (Str.ofString "at") (239 : Nat)), (Value.str (Str.ofString "name") (240 : Nat)), (Value.str (Str.ofString "size") (241 : Nat)), (Value.str (Str.ofString "depth") (242 : Nat)), (Value.str (Str.ofString "many") (243 : Nat))] (0 : Nat)) #[])) ::
  (a46, (Obj.mk (Value.type "tuple") none (Data.seq #[] (0 : Nat)) #[])) ::
  (a48, (Obj.mk (Value.type "code") none (Data.fields #[(Value.str (Str.ofString "ops") (230 : Nat)), (Value.str (Str.ofString "ops") (231 : Nat)), (Value.str (Str.ofString "/claim/cut.py") (232 : Nat)), (Value.int (11 : Int) (0 : Nat)), (Value.int (0 : Int) (0 : Nat)), (Value.int (0 : Int) (0 : Nat)), (Value.int (0 : Int) (0 : Nat)), (Value.int (3 : Int) (0 : Nat)), (Value.ref (43 : Nat)), (Value.bool Bool.true), (Value.int (181 : Int) (0 : Nat)), (Value.ref (44 : Nat)), Value.none, (Value.ref (45 : Nat)), (Value.ref (46 : Nat)), (Value.ref (47 : Nat)), (Value.int (244 : Int) (0 : Nat)), (Value.int (11 : Int) (0 : Nat)), (Value.str (Str.ofString "/claim/cut.py") (245 : Nat))]) #[])) ::
  (a49, (Obj.mk (Value.type "function") none (Data.func (FuncData.mk (Str.ofString "ops") (Str.ofString "ops") (tPar (tFd 3)) (FuncBody.stmts (tBod (tFd 3))) (tSco (tFd 3)) (3 : Nat) [] Value.none Value.none Value.none (Value.str (Str.ofString "gasledger.opcodes") (187 : Nat)) none (Value.ref (48 : Nat)) Value.none (0 : Nat))) #[])) ::
  (a50, (Obj.mk (Value.type "tuple") none (Data.seq #[] (0 : Nat)) #[])) ::
  (a53, (Obj.mk (Value.type "code") none (Data.fields #[(Value.str (Str.ofString "names") (247 : Nat)), (Value.str (Str.ofString "names") (248 : Nat)), (Value.str (Str.ofString "/claim/cut.py") (249 : Nat)), (Value.int (24 : Int) (0 : Nat)), (Value.int (0 : Int) (0 : Nat)), (Value.int (0 : Int) (0 : Nat)), (Value.int (0 : Int) (0 : Nat)), (Value.int (3 : Int) (0 : Nat)), (Value.ref (50 : Nat)), (Value.bool Bool.true), (Value.int (181 : Int) (0 : Nat)), (Value.ref (51 : Nat)), Value.none, Value.none, Value.none, (Value.ref (52 : Nat)), (Value.int (250 : Int) (0 : Nat)), (Value.int (24 : Int) (0 : Nat)), (Value.str (Str.ofString "/claim/cut.py") (251 : Nat))]) #[])) ::
  (a54, (Obj.mk (Value.type "function") none (Data.func (FuncData.mk (Str.ofString "names") (Str.ofString "names") (tPar (tFd 4)) (FuncBody.stmts (tBod (tFd 4))) (tSco (tFd 4)) (3 : Nat) [] Value.none Value.none Value.none (Value.str (Str.ofString "gasledger.opcodes") (187 : Nat)) none (Value.ref (53 : Nat)) Value.none (0 : Nat))) #[])) ::
  (a55, (Obj.mk (Value.type "tuple") none (Data.seq #[] (0 : Nat)) #[])) ::
  (a57, (Obj.mk (Value.type "tuple") none (Data.seq #[(Value.str (Str.ofString "number") (256 : Nat))] (0 : Nat)) #[])) ::
  (a58, (Obj.mk (Value.type "tuple") none (Data.seq #[] (0 : Nat)) #[])) ::
  (a60, (Obj.mk (Value.type "code") none (Data.fields #[(Value.str (Str.ofString "push_size") (253 : Nat)), (Value.str (Str.ofString "push_size") (254 : Nat)), (Value.str (Str.ofString "/claim/cut.py") (255 : Nat)), (Value.int (26 : Int) (0 : Nat)), (Value.int (1 : Int) (0 : Nat)), (Value.int (0 : Int) (0 : Nat)), (Value.int (0 : Int) (0 : Nat)), (Value.int (3 : Int) (0 : Nat)), (Value.ref (55 : Nat)), (Value.bool Bool.true), (Value.int (181 : Int) (0 : Nat)), (Value.ref (56 : Nat)), Value.none, (Value.ref (57 : Nat)), (Value.ref (58 : Nat)), (Value.ref (59 : Nat)), (Value.int (257 : Int) (0 : Nat)), (Value.int (26 : Int) (0 : Nat)), (Value.str (Str.ofString "/claim/cut.py") (258 : Nat))]) #[])) ::
  (a61, (Obj.mk (Value.type "function") none (Data.func (FuncData.mk (Str.ofString "push_size") (Str.ofString "push_size") (tPar (tFd 5)) (FuncBody.stmts (tBod (tFd 5))) (tSco (tFd 5)) (3 : Nat) [] Value.none Value.none Value.none (Value.str (Str.ofString "gasledger.opcodes") (187 : Nat)) none (Value.ref (60 : Nat)) Value.none (0 : Nat))) #[])) ::
  (a62, (Obj.mk (Value.type "tuple") none (Data.seq #[] (0 : Nat)) #[])) ::
  (a64, (Obj.mk (Value.type "tuple") none (Data.seq #[(Value.str (Str.ofString "code") (267 : Nat)), (Value.str (Str.ofString "found") (268 : Nat)), (Value.str (Str.ofString "place") (269 : Nat))] (0 : Nat)) #[])) ::
  (a65, (Obj.mk (Value.type "tuple") none (Data.seq #[] (0 : Nat)) #[])) ::
  (a67, (Obj.mk (Value.type "code") none (Data.fields #[(Value.str (Str.ofString "jump_places") (264 : Nat)), (Value.str (Str.ofString "jump_places") (265 : Nat)), (Value.str (Str.ofString "/claim/cut.py") (266 : Nat)), (Value.int (30 : Int) (0 : Nat)), (Value.int (1 : Int) (0 : Nat)), (Value.int (0 : Int) (0 : Nat)), (Value.int (0 : Int) (0 : Nat)), (Value.int (3 : Int) (0 : Nat)), (Value.ref (62 : Nat)), (Value.bool Bool.true), (Value.int (181 : Int) (0 : Nat)), (Value.ref (63 : Nat)), Value.none, (Value.ref (64 : Nat)), (Value.ref (65 : Nat)), (Value.ref (66 : Nat)), (Value.int (270 : Int) (0 : Nat)), (Value.int (30 : Int) (0 : Nat)), (Value.str (Str.ofString "/claim/cut.py") (271 : Nat))]) #[])) ::
  (a68, (Obj.mk (Value.type "function") none (Data.func (FuncData.mk (Str.ofString "jump_places") (Str.ofString "jump_places") (tPar (tFd 8)) (FuncBody.stmts (tBod (tFd 8))) (tSco (tFd 8)) (3 : Nat) [] Value.none Value.none Value.none (Value.str (Str.ofString "gasledger.code") (260 : Nat)) none (Value.ref (67 : Nat)) Value.none (0 : Nat))) #[])) ::
  (a69, (Obj.mk (Value.type "tuple") none (Data.seq #[] (0 : Nat)) #[])) ::
  (a71, (Obj.mk (Value.type "tuple") none (Data.seq #[(Value.str (Str.ofString "code") (276 : Nat)), (Value.str (Str.ofString "place") (277 : Nat)), (Value.str (Str.ofString "size") (278 : Nat)), (Value.str (Str.ofString "octets") (279 : Nat))] (0 : Nat)) #[])) ::
  (a72, (Obj.mk (Value.type "tuple") none (Data.seq #[] (0 : Nat)) #[])) ::
  (a74, (Obj.mk (Value.type "code") none (Data.fields #[(Value.str (Str.ofString "pushed_number") (273 : Nat)), (Value.str (Str.ofString "pushed_number") (274 : Nat)), (Value.str (Str.ofString "/claim/cut.py") (275 : Nat)), (Value.int (37 : Int) (0 : Nat)), (Value.int (3 : Int) (0 : Nat)), (Value.int (0 : Int) (0 : Nat)), (Value.int (0 : Int) (0 : Nat)), (Value.int (3 : Int) (0 : Nat)), (Value.ref (69 : Nat)), (Value.bool Bool.true), (Value.int (181 : Int) (0 : Nat)), (Value.ref (70 : Nat)), Value.none, (Value.ref (71 : Nat)), (Value.ref (72 : Nat)), (Value.ref (73 : Nat)), (Value.int (280 : Int) (0 : Nat)), (Value.int (37 : Int) (0 : Nat)), (Value.str (Str.ofString "/claim/cut.py") (281 : Nat))]) #[])) ::
  (a75, (Obj.mk (Value.type "function") none (Data.func (FuncData.mk (Str.ofString "pushed_number") (Str.ofString "pushed_number") (tPar (tFd 9)) (FuncBody.stmts (tBod (tFd 9))) (tSco (tFd 9)) (3 : Nat) [] Value.none Value.none Value.none (Value.str (Str.ofString "gasledger.code") (260 : Nat)) none (Value.ref (74 : Nat)) Value.none (0 : Nat))) #[])) ::
  (a76, (Obj.mk (Value.type "tuple") none (Data.seq #[] (0 : Nat)) #[])) ::
  (a78, (Obj.mk (Value.type "tuple") none (Data.seq #[(Value.str (Str.ofString "number") (286 : Nat)), (Value.str (Str.ofString "figures") (287 : Nat)), (Value.str (Str.ofString "found") (288 : Nat))] (0 : Nat)) #[])) ::
  (a79, (Obj.mk (Value.type "tuple") none (Data.seq #[] (0 : Nat)) #[])) ::
  (a81, (Obj.mk (Value.type "code") none (Data.fields #[(Value.str (Str.ofString "hex_text") (283 : Nat)), (Value.str (Str.ofString "hex_text") (284 : Nat)), (Value.str (Str.ofString "/claim/cut.py") (285 : Nat)), (Value.int (40 : Int) (0 : Nat)), (Value.int (2 : Int) (0 : Nat)), (Value.int (0 : Int) (0 : Nat)), (Value.int (0 : Int) (0 : Nat)), (Value.int (3 : Int) (0 : Nat)), (Value.ref (76 : Nat)), (Value.bool Bool.true), (Value.int (181 : Int) (0 : Nat)), (Value.ref (77 : Nat)), Value.none, (Value.ref (78 : Nat)), (Value.ref (79 : Nat)), (Value.ref (80 : Nat)), (Value.int (289 : Int) (0 : Nat)), (Value.int (40 : Int) (0 : Nat)), (Value.str (Str.ofString "/claim/cut.py") (290 : Nat))]) #[])) ::
  (a82, (Obj.mk (Value.type "function") none (Data.func (FuncData.mk (Str.ofString "hex_text") (Str.ofString "hex_text") (tPar (tFd 10)) (FuncBody.stmts (tBod (tFd 10))) (tSco (tFd 10)) (3 : Nat) [] Value.none Value.none Value.none (Value.str (Str.ofString "gasledger.code") (260 : Nat)) none (Value.ref (81 : Nat)) Value.none (0 : Nat))) #[])) ::
  (a83, (Obj.mk (Value.type "tuple") none (Data.seq #[] (0 : Nat)) #[])) ::
  (a85, (Obj.mk (Value.type "tuple") none (Data.seq #[(Value.str (Str.ofString "code") (295 : Nat)), (Value.str (Str.ofString "found") (296 : Nat)), (Value.str (Str.ofString "place") (297 : Nat)), (Value.str (Str.ofString "known") (298 : Nat)), (Value.str (Str.ofString "number") (299 : Nat)), (Value.str (Str.ofString "size") (300 : Nat)), (Value.str (Str.ofString "name") (301 : Nat)), (Value.str (Str.ofString "laid") (302 : Nat))] (0 : Nat)) #[])) ::
  (a86, (Obj.mk (Value.type "tuple") none (Data.seq #[] (0 : Nat)) #[])) ::
  (a88, (Obj.mk (Value.type "code") none (Data.fields #[(Value.str (Str.ofString "rows_of") (292 : Nat)), (Value.str (Str.ofString "rows_of") (293 : Nat)), (Value.str (Str.ofString "/claim/cut.py") (294 : Nat)), (Value.int (46 : Int) (0 : Nat)), (Value.int (1 : Int) (0 : Nat)), (Value.int (0 : Int) (0 : Nat)), (Value.int (0 : Int) (0 : Nat)), (Value.int (3 : Int) (0 : Nat)), (Value.ref (83 : Nat)), (Value.bool Bool.true), (Value.int (181 : Int) (0 : Nat)), (Value.ref (84 : Nat)), Value.none, (Value.ref (85 : Nat)), (Value.ref (86 : Nat)), (Value.ref (87 : Nat)), (Value.int (303 : Int) (0 : Nat)), (Value.int (46 : Int) (0 : Nat)), (Value.str (Str.ofString "/claim/cut.py") (304 : Nat))]) #[])) ::
  (a89, (Obj.mk (Value.type "function") none (Data.func (FuncData.mk (Str.ofString "rows_of") (Str.ofString "rows_of") (tPar (tFd 11)) (FuncBody.stmts (tBod (tFd 11))) (tSco (tFd 11)) (3 : Nat) [] Value.none Value.none Value.none (Value.str (Str.ofString "gasledger.code") (260 : Nat)) none (Value.ref (88 : Nat)) Value.none (0 : Nat))) #[])) ::
  (a90, (Obj.mk (Value.type "tuple") none (Data.seq #[] (0 : Nat)) #[])) ::
  (a92, (Obj.mk (Value.type "tuple") none (Data.seq #[(Value.str (Str.ofString "code") (309 : Nat)), (Value.str (Str.ofString "found") (310 : Nat)), (Value.str (Str.ofString "place") (311 : Nat)), (Value.str (Str.ofString "name") (312 : Nat)), (Value.str (Str.ofString "laid") (313 : Nat)), (Value.str (Str.ofString "row") (314 : Nat))] (0 : Nat)) #[])) ::
  (a93, (Obj.mk (Value.type "tuple") none (Data.seq #[] (0 : Nat)) #[])) ::
  (a95, (Obj.mk (Value.type "code") none (Data.fields #[(Value.str (Str.ofString "listing") (306 : Nat)), (Value.str (Str.ofString "listing") (307 : Nat)), (Value.str (Str.ofString "/claim/cut.py") (308 : Nat)), (Value.int (55 : Int) (0 : Nat)), (Value.int (1 : Int) (0 : Nat)), (Value.int (0 : Int) (0 : Nat)), (Value.int (0 : Int) (0 : Nat)), (Value.int (3 : Int) (0 : Nat)), (Value.ref (90 : Nat)), (Value.bool Bool.true), (Value.int (181 : Int) (0 : Nat)), (Value.ref (91 : Nat)), Value.none, (Value.ref (92 : Nat)), (Value.ref (93 : Nat)), (Value.ref (94 : Nat)), (Value.int (315 : Int) (0 : Nat)), (Value.int (55 : Int) (0 : Nat)), (Value.str (Str.ofString "/claim/cut.py") (316 : Nat))]) #[])) ::
  (a96, (Obj.mk (Value.type "function") none (Data.func (FuncData.mk (Str.ofString "listing") (Str.ofString "listing") (tPar (tFd 12)) (FuncBody.stmts (tBod (tFd 12))) (tSco (tFd 12)) (3 : Nat) [] Value.none Value.none Value.none (Value.str (Str.ofString "gasledger.code") (260 : Nat)) none (Value.ref (95 : Nat)) Value.none (0 : Nat))) #[])) ::
  (a97, (Obj.mk (Value.type "tuple") none (Data.seq #[(Value.str (Str.ofString "STOP ADD MUL SUB DIV SDIV MOD SMOD ADDMOD MULMOD EXP SIGNEXTEND") (320 : Nat)), (Value.str (Str.ofString "LT GT SLT SGT EQ ISZERO AND OR XOR NOT BYTE SHL SHR SAR") (321 : Nat)), (Value.str (Str.ofString "KECCAK256") (322 : Nat)), (Value.str (Str.ofString "ADDRESS BALANCE ORIGIN CALLER CALLVALUE CALLDATALOAD CALLDATASIZE CALLDATACOPY CODESIZE CODECOPY GASPRICE EXTCODESIZE EXTCODECOPY RETURNDATASIZE RETURNDATACOPY EXTCODEHASH") (323 : Nat)), (Value.str (Str.ofString "BLOCKHASH COINBASE TIMESTAMP NUMBER PREVRANDAO GASLIMIT CHAINID SELFBALANCE BASEFEE") (324 : Nat)), (Value.str (Str.ofString "POP MLOAD MSTORE MSTORE8 SLOAD SSTORE JUMP JUMPI PC MSIZE GAS JUMPDEST ? ? ? PUSH0") (325 : Nat)), (Value.str (Str.ofString "CREATE CALL CALLCODE RETURN DELEGATECALL CREATE2 ? ? ? ? STATICCALL ? ? REVERT INVALID SELFDESTRUCT") (326 : Nat))] (0 : Nat)) #[])) ::
  (a98, (Obj.mk (Value.type "tuple") none (Data.seq #[(Value.int (91 : Int) (328 : Nat)), (Value.int (96 : Int) (329 : Nat)), (Value.int (127 : Int) (330 : Nat)), (Value.int (0 : Int) (331 : Nat)), (Value.int (145 : Int) (332 : Nat))] (0 : Nat)) #[])) ::
  (a99, (Obj.mk (Value.type "tuple") none (Data.seq #[] (0 : Nat)) #[])) ::
  (a101, (Obj.mk (Value.type "tuple") none (Data.seq #[(Value.str (Str.ofString "tray") (337 : Nat)), (Value.str (Str.ofString "many") (338 : Nat)), (Value.str (Str.ofString "turn") (339 : Nat))] (0 : Nat)) #[])) ::
  (a102, (Obj.mk (Value.type "tuple") none (Data.seq #[] (0 : Nat)) #[])) ::
  (a104, (Obj.mk (Value.type "code") none (Data.fields #[(Value.str (Str.ofString "_law_pip") (334 : Nat)), (Value.str (Str.ofString "_law_pip") (335 : Nat)), (Value.str (Str.ofString "/claim/cut.py") (336 : Nat)), (Value.int (66 : Int) (0 : Nat)), (Value.int (2 : Int) (0 : Nat)), (Value.int (0 : Int) (0 : Nat)), (Value.int (0 : Int) (0 : Nat)), (Value.int (3 : Int) (0 : Nat)), (Value.ref (99 : Nat)), (Value.bool Bool.true), (Value.int (181 : Int) (0 : Nat)), (Value.ref (100 : Nat)), Value.none, (Value.ref (101 : Nat)), (Value.ref (102 : Nat)), (Value.ref (103 : Nat)), (Value.int (340 : Int) (0 : Nat)), (Value.int (66 : Int) (0 : Nat)), (Value.str (Str.ofString "/claim/cut.py") (341 : Nat))]) #[])) ::
  (a105, (Obj.mk (Value.type "function") none (Data.func (FuncData.mk (Str.ofString "_law_pip") (Str.ofString "_law_pip") (tPar (tFd 16)) (FuncBody.stmts (tBod (tFd 16))) (tSco (tFd 16)) (3 : Nat) [] Value.none Value.none Value.none (Value.str (Str.ofString "law_pq0392_01") (318 : Nat)) none (Value.ref (104 : Nat)) Value.none (0 : Nat))) #[])) ::
  (a106, (Obj.mk (Value.type "tuple") none (Data.seq #[] (0 : Nat)) #[])) ::
  (a108, (Obj.mk (Value.type "tuple") none (Data.seq #[(Value.str (Str.ofString "number") (346 : Nat))] (0 : Nat)) #[])) ::
  (a109, (Obj.mk (Value.type "tuple") none (Data.seq #[] (0 : Nat)) #[])) ::
  (a111, (Obj.mk (Value.type "code") none (Data.fields #[(Value.str (Str.ofString "_law_own") (343 : Nat)), (Value.str (Str.ofString "_law_own") (344 : Nat)), (Value.str (Str.ofString "/claim/cut.py") (345 : Nat)), (Value.int (72 : Int) (0 : Nat)), (Value.int (1 : Int) (0 : Nat)), (Value.int (0 : Int) (0 : Nat)), (Value.int (0 : Int) (0 : Nat)), (Value.int (3 : Int) (0 : Nat)), (Value.ref (106 : Nat)), (Value.bool Bool.true), (Value.int (181 : Int) (0 : Nat)), (Value.ref (107 : Nat)), Value.none, (Value.ref (108 : Nat)), (Value.ref (109 : Nat)), (Value.ref (110 : Nat)), (Value.int (347 : Int) (0 : Nat)), (Value.int (72 : Int) (0 : Nat)), (Value.str (Str.ofString "/claim/cut.py") (348 : Nat))]) #[])) ::
  (a112, (Obj.mk (Value.type "function") none (Data.func (FuncData.mk (Str.ofString "_law_own") (Str.ofString "_law_own") (tPar (tFd 17)) (FuncBody.stmts (tBod (tFd 17))) (tSco (tFd 17)) (3 : Nat) [] Value.none Value.none Value.none (Value.str (Str.ofString "law_pq0392_01") (318 : Nat)) none (Value.ref (111 : Nat)) Value.none (0 : Nat))) #[])) ::
  (a113, (Obj.mk (Value.type "tuple") none (Data.seq #[] (0 : Nat)) #[])) ::
  (a115, (Obj.mk (Value.type "tuple") none (Data.seq #[(Value.str (Str.ofString "number") (353 : Nat)), (Value.str (Str.ofString "high") (354 : Nat)), (Value.str (Str.ofString "low") (355 : Nat)), (Value.str (Str.ofString "told_now") (356 : Nat))] (0 : Nat)) #[])) ::
  (a116, (Obj.mk (Value.type "tuple") none (Data.seq #[] (0 : Nat)) #[])) ::
  (a118, (Obj.mk (Value.type "code") none (Data.fields #[(Value.str (Str.ofString "_law_named") (350 : Nat)), (Value.str (Str.ofString "_law_named") (351 : Nat)), (Value.str (Str.ofString "/claim/cut.py") (352 : Nat)), (Value.int (74 : Int) (0 : Nat)), (Value.int (1 : Int) (0 : Nat)), (Value.int (0 : Int) (0 : Nat)), (Value.int (0 : Int) (0 : Nat)), (Value.int (3 : Int) (0 : Nat)), (Value.ref (113 : Nat)), (Value.bool Bool.true), (Value.int (181 : Int) (0 : Nat)), (Value.ref (114 : Nat)), Value.none, (Value.ref (115 : Nat)), (Value.ref (116 : Nat)), (Value.ref (117 : Nat)), (Value.int (357 : Int) (0 : Nat)), (Value.int (74 : Int) (0 : Nat)), (Value.str (Str.ofString "/claim/cut.py") (358 : Nat))]) #[])) ::
  (a119, (Obj.mk (Value.type "function") none (Data.func (FuncData.mk (Str.ofString "_law_named") (Str.ofString "_law_named") (tPar (tFd 18)) (FuncBody.stmts (tBod (tFd 18))) (tSco (tFd 18)) (3 : Nat) [] Value.none Value.none Value.none (Value.str (Str.ofString "law_pq0392_01") (318 : Nat)) none (Value.ref (118 : Nat)) Value.none (0 : Nat))) #[])) ::
  (a120, (Obj.mk (Value.type "tuple") none (Data.seq #[] (0 : Nat)) #[])) ::
  (a122, (Obj.mk (Value.type "tuple") none (Data.seq #[(Value.str (Str.ofString "steps") (363 : Nat)), (Value.str (Str.ofString "many") (364 : Nat)), (Value.str (Str.ofString "at") (365 : Nat)), (Value.str (Str.ofString "told_now") (366 : Nat)), (Value.str (Str.ofString "goals") (367 : Nat)), (Value.str (Str.ofString "number") (368 : Nat)), (Value.str (Str.ofString "octets") (369 : Nat)), (Value.str (Str.ofString "laid_now") (370 : Nat)), (Value.str (Str.ofString "spot") (371 : Nat)), (Value.str (Str.ofString "octet") (372 : Nat))] (0 : Nat)) #[])) ::
  (a123, (Obj.mk (Value.type "tuple") none (Data.seq #[] (0 : Nat)) #[])) ::
  (a125, (Obj.mk (Value.type "code") none (Data.fields #[(Value.str (Str.ofString "_law_due") (360 : Nat)), (Value.str (Str.ofString "_law_due") (361 : Nat)), (Value.str (Str.ofString "/claim/cut.py") (362 : Nat)), (Value.int (84 : Int) (0 : Nat)), (Value.int (2 : Int) (0 : Nat)), (Value.int (0 : Int) (0 : Nat)), (Value.int (0 : Int) (0 : Nat)), (Value.int (3 : Int) (0 : Nat)), (Value.ref (120 : Nat)), (Value.bool Bool.true), (Value.int (181 : Int) (0 : Nat)), (Value.ref (121 : Nat)), Value.none, (Value.ref (122 : Nat)), (Value.ref (123 : Nat)), (Value.ref (124 : Nat)), (Value.int (373 : Int) (0 : Nat)), (Value.int (84 : Int) (0 : Nat)), (Value.str (Str.ofString "/claim/cut.py") (374 : Nat))]) #[])) ::
  (a126, (Obj.mk (Value.type "function") none (Data.func (FuncData.mk (Str.ofString "_law_due") (Str.ofString "_law_due") (tPar (tFd 19)) (FuncBody.stmts (tBod (tFd 19))) (tSco (tFd 19)) (3 : Nat) [] Value.none Value.none Value.none (Value.str (Str.ofString "law_pq0392_01") (318 : Nat)) none (Value.ref (125 : Nat)) Value.none (0 : Nat))) #[])) ::
  (a127, (Obj.mk (Value.type "tuple") none (Data.seq #[] (0 : Nat)) #[])) ::
  (a130, (Obj.mk (Value.type "code") none (Data.fields #[(Value.str (Str.ofString "_law_parted") (376 : Nat)), (Value.str (Str.ofString "_law_parted") (377 : Nat)), (Value.str (Str.ofString "/claim/cut.py") (378 : Nat)), (Value.int (96 : Int) (0 : Nat)), (Value.int (1 : Int) (0 : Nat)), (Value.int (0 : Int) (0 : Nat)), (Value.int (0 : Int) (0 : Nat)), (Value.int (3 : Int) (0 : Nat)), (Value.ref (127 : Nat)), (Value.bool Bool.true), (Value.int (181 : Int) (0 : Nat)), (Value.ref (128 : Nat)), Value.none, Value.none, Value.none, (Value.ref (129 : Nat)), (Value.int (379 : Int) (0 : Nat)), (Value.int (96 : Int) (0 : Nat)), (Value.str (Str.ofString "/claim/cut.py") (380 : Nat))]) #[])) ::
  (a131, (Obj.mk (Value.type "function") none (Data.func (FuncData.mk (Str.ofString "_law_parted") (Str.ofString "_law_parted") (tPar (tFd 20)) (FuncBody.stmts (tBod (tFd 20))) (tSco (tFd 20)) (3 : Nat) [] Value.none Value.none Value.none (Value.str (Str.ofString "law_pq0392_01") (318 : Nat)) none (Value.ref (130 : Nat)) Value.none (0 : Nat))) #[])) ::
  (a132, (Obj.mk (Value.type "tuple") none (Data.seq #[] (0 : Nat)) #[])) ::
  (a134, (Obj.mk (Value.type "tuple") none (Data.seq #[(Value.str (Str.ofString "told_now") (385 : Nat)), (Value.str (Str.ofString "lines") (386 : Nat)), (Value.str (Str.ofString "at") (387 : Nat)), (Value.str (Str.ofString "name") (388 : Nat)), (Value.str (Str.ofString "laid_now") (389 : Nat))] (0 : Nat)) #[])) ::
  (a135, (Obj.mk (Value.type "tuple") none (Data.seq #[] (0 : Nat)) #[])) ::
  (a137, (Obj.mk (Value.type "code") none (Data.fields #[(Value.str (Str.ofString "_law_text") (382 : Nat)), (Value.str (Str.ofString "_law_text") (383 : Nat)), (Value.str (Str.ofString "/claim/cut.py") (384 : Nat)), (Value.int (105 : Int) (0 : Nat)), (Value.int (1 : Int) (0 : Nat)), (Value.int (0 : Int) (0 : Nat)), (Value.int (0 : Int) (0 : Nat)), (Value.int (3 : Int) (0 : Nat)), (Value.ref (132 : Nat)), (Value.bool Bool.true), (Value.int (181 : Int) (0 : Nat)), (Value.ref (133 : Nat)), Value.none, (Value.ref (134 : Nat)), (Value.ref (135 : Nat)), (Value.ref (136 : Nat)), (Value.int (390 : Int) (0 : Nat)), (Value.int (105 : Int) (0 : Nat)), (Value.str (Str.ofString "/claim/cut.py") (391 : Nat))]) #[])) ::
  (a138, (Obj.mk (Value.type "function") none (Data.func (FuncData.mk (Str.ofString "_law_text") (Str.ofString "_law_text") (tPar (tFd 21)) (FuncBody.stmts (tBod (tFd 21))) (tSco (tFd 21)) (3 : Nat) [] Value.none Value.none Value.none (Value.str (Str.ofString "law_pq0392_01") (318 : Nat)) none (Value.ref (137 : Nat)) Value.none (0 : Nat))) #[])) ::
  (a139, (Obj.mk (Value.type "tuple") none (Data.seq #[] (0 : Nat)) #[])) ::
  (a141, (Obj.mk (Value.type "tuple") none (Data.seq #[(Value.str (Str.ofString "octets") (396 : Nat)), (Value.str (Str.ofString "steps") (397 : Nat)), (Value.str (Str.ofString "is_listed") (398 : Nat)), (Value.str (Str.ofString "told_now") (399 : Nat)), (Value.str (Str.ofString "goals") (400 : Nat))] (0 : Nat)) #[])) ::
  (a142, (Obj.mk (Value.type "tuple") none (Data.seq #[] (0 : Nat)) #[])) ::
  (a144, (Obj.mk (Value.type "code") none (Data.fields #[(Value.str (Str.ofString "_law_is_told") (393 : Nat)), (Value.str (Str.ofString "_law_is_told") (394 : Nat)), (Value.str (Str.ofString "/claim/cut.py") (395 : Nat)), (Value.int (110 : Int) (0 : Nat)), (Value.int (3 : Int) (0 : Nat)), (Value.int (0 : Int) (0 : Nat)), (Value.int (0 : Int) (0 : Nat)), (Value.int (3 : Int) (0 : Nat)), (Value.ref (139 : Nat)), (Value.bool Bool.true), (Value.int (181 : Int) (0 : Nat)), (Value.ref (140 : Nat)), Value.none, (Value.ref (141 : Nat)), (Value.ref (142 : Nat)), (Value.ref (143 : Nat)), (Value.int (401 : Int) (0 : Nat)), (Value.int (110 : Int) (0 : Nat)), (Value.str (Str.ofString "/claim/cut.py") (402 : Nat))]) #[])) ::
  (a145, (Obj.mk (Value.type "function") none (Data.func (FuncData.mk (Str.ofString "_law_is_told") (Str.ofString "_law_is_told") (tPar (tFd 22)) (FuncBody.stmts (tBod (tFd 22))) (tSco (tFd 22)) (3 : Nat) [] Value.none Value.none Value.none (Value.str (Str.ofString "law_pq0392_01") (318 : Nat)) none (Value.ref (144 : Nat)) Value.none (0 : Nat))) #[])) ::
  (a146, (Obj.mk (Value.type "tuple") none (Data.seq #[] (0 : Nat)) #[])) ::
  (a149, (Obj.mk (Value.type "code") none (Data.fields #[(Value.str (Str.ofString "_law_flat") (404 : Nat)), (Value.str (Str.ofString "_law_flat") (405 : Nat)), (Value.str (Str.ofString "/claim/cut.py") (406 : Nat)), (Value.int (115 : Int) (0 : Nat)), (Value.int (1 : Int) (0 : Nat)), (Value.int (0 : Int) (0 : Nat)), (Value.int (0 : Int) (0 : Nat)), (Value.int (3 : Int) (0 : Nat)), (Value.ref (146 : Nat)), (Value.bool Bool.true), (Value.int (181 : Int) (0 : Nat)), (Value.ref (147 : Nat)), Value.none, Value.none, Value.none, (Value.ref (148 : Nat)), (Value.int (407 : Int) (0 : Nat)), (Value.int (115 : Int) (0 : Nat)), (Value.str (Str.ofString "/claim/cut.py") (408 : Nat))]) #[])) ::
  (a150, (Obj.mk (Value.type "function") none (Data.func (FuncData.mk (Str.ofString "_law_flat") (Str.ofString "_law_flat") (tPar (tFd 23)) (FuncBody.stmts (tBod (tFd 23))) (tSco (tFd 23)) (3 : Nat) [] Value.none Value.none Value.none (Value.str (Str.ofString "law_pq0392_01") (318 : Nat)) none (Value.ref (149 : Nat)) Value.none (0 : Nat))) #[])) ::
  (a151, (Obj.mk (Value.type "tuple") none (Data.seq #[] (0 : Nat)) #[])) ::
  (a154, (Obj.mk (Value.type "code") none (Data.fields #[(Value.str (Str.ofString "_law_step") (410 : Nat)), (Value.str (Str.ofString "_law_step") (411 : Nat)), (Value.str (Str.ofString "/claim/cut.py") (412 : Nat)), (Value.int (117 : Int) (0 : Nat)), (Value.int (1 : Int) (0 : Nat)), (Value.int (0 : Int) (0 : Nat)), (Value.int (0 : Int) (0 : Nat)), (Value.int (3 : Int) (0 : Nat)), (Value.ref (151 : Nat)), (Value.bool Bool.true), (Value.int (181 : Int) (0 : Nat)), (Value.ref (152 : Nat)), Value.none, Value.none, Value.none, (Value.ref (153 : Nat)), (Value.int (413 : Int) (0 : Nat)), (Value.int (117 : Int) (0 : Nat)), (Value.str (Str.ofString "/claim/cut.py") (414 : Nat))]) #[])) ::
  (a155, (Obj.mk (Value.type "function") none (Data.func (FuncData.mk (Str.ofString "_law_step") (Str.ofString "_law_step") (tPar (tFd 24)) (FuncBody.stmts (tBod (tFd 24))) (tSco (tFd 24)) (3 : Nat) [] Value.none Value.none Value.none (Value.str (Str.ofString "law_pq0392_01") (318 : Nat)) none (Value.ref (154 : Nat)) Value.none (0 : Nat))) #[])) ::
  (a156, (Obj.mk (Value.type "tuple") none (Data.seq #[] (0 : Nat)) #[])) ::
  (a159, (Obj.mk (Value.type "code") none (Data.fields #[(Value.str (Str.ofString "law") (416 : Nat)), (Value.str (Str.ofString "law") (417 : Nat)), (Value.str (Str.ofString "/claim/cut.py") (418 : Nat)), (Value.int (130 : Int) (0 : Nat)), (Value.int (1 : Int) (0 : Nat)), (Value.int (0 : Int) (0 : Nat)), (Value.int (0 : Int) (0 : Nat)), (Value.int (3 : Int) (0 : Nat)), (Value.ref (156 : Nat)), (Value.bool Bool.true), (Value.int (181 : Int) (0 : Nat)), (Value.ref (157 : Nat)), Value.none, Value.none, Value.none, (Value.ref (158 : Nat)), (Value.int (419 : Int) (0 : Nat)), (Value.int (130 : Int) (0 : Nat)), (Value.str (Str.ofString "/claim/cut.py") (420 : Nat))]) #[])) ::
  (a160, (Obj.mk (Value.type "function") none (Data.func (FuncData.mk (Str.ofString "law") (Str.ofString "law") (tPar (tFd 25)) (FuncBody.stmts (tBod (tFd 25))) (tSco (tFd 25)) (3 : Nat) [] Value.none Value.none Value.none (Value.str (Str.ofString "law_pq0392_01") (318 : Nat)) none (Value.ref (159 : Nat)) Value.none (0 : Nat))) #[])) ::
  []
noncomputable def vw39 : Program := by
  refine' (?f : (vw0 = ?k) → Program) ?pf
  case pf => conv => lhs; dsimp only [vw0, tFd, PySem.Challenge.pw_pq0392_01, tNth]
  case f => exact fun _ => ?k
noncomputable def hp39 : Params → Frag := by
  refine' (?f : (hp0 = ?k) → (Params → Frag)) ?pf
  case pf => conv => lhs; delta hp0; dsimp only [tFd, tPar, tBod, tSco, tCls, tNth, PySem.Challenge.pw_pq0392_01]
  case f => exact fun _ => ?k (nat_lit 2) (nat_lit 3) (nat_lit 22) (nat_lit 24) (nat_lit 25) (nat_lit 27) (nat_lit 28) (nat_lit 29) (nat_lit 30) (nat_lit 31) (nat_lit 32) (nat_lit 33) (nat_lit 36) (nat_lit 38) (nat_lit 39) (nat_lit 41) (nat_lit 42) (nat_lit 43) (nat_lit 45) (nat_lit 46) (nat_lit 48) (nat_lit 49) (nat_lit 50) (nat_lit 53) (nat_lit 54) (nat_lit 55) (nat_lit 57) (nat_lit 58) (nat_lit 60) (nat_lit 61) (nat_lit 62) (nat_lit 64) (nat_lit 65) (nat_lit 67) (nat_lit 68) (nat_lit 69) (nat_lit 71) (nat_lit 72) (nat_lit 74) (nat_lit 75) (nat_lit 76) (nat_lit 78) (nat_lit 79) (nat_lit 81) (nat_lit 82) (nat_lit 83) (nat_lit 85) (nat_lit 86) (nat_lit 88) (nat_lit 89) (nat_lit 90) (nat_lit 92) (nat_lit 93) (nat_lit 95) (nat_lit 96) (nat_lit 97) (nat_lit 98) (nat_lit 99) (nat_lit 101) (nat_lit 102) (nat_lit 104) (nat_lit 105) (nat_lit 106) (nat_lit 108) (nat_lit 109) (nat_lit 111) (nat_lit 112) (nat_lit 113) (nat_lit 115) (nat_lit 116) (nat_lit 118) (nat_lit 119) (nat_lit 120) (nat_lit 122) (nat_lit 123) (nat_lit 125) (nat_lit 126) (nat_lit 127) (nat_lit 130) (nat_lit 131) (nat_lit 132) (nat_lit 134) (nat_lit 135) (nat_lit 137) (nat_lit 138) (nat_lit 139) (nat_lit 141) (nat_lit 142) (nat_lit 144) (nat_lit 145) (nat_lit 146) (nat_lit 149) (nat_lit 150) (nat_lit 151) (nat_lit 154) (nat_lit 155) (nat_lit 156) (nat_lit 159) (nat_lit 160)
noncomputable def as39 : List Nat := [nat_lit 2, nat_lit 3, nat_lit 22, nat_lit 24, nat_lit 25, nat_lit 27, nat_lit 28, nat_lit 29, nat_lit 30, nat_lit 31, nat_lit 32, nat_lit 33, nat_lit 36, nat_lit 38, nat_lit 39, nat_lit 41, nat_lit 42, nat_lit 43, nat_lit 45, nat_lit 46, nat_lit 48, nat_lit 49, nat_lit 50, nat_lit 53, nat_lit 54, nat_lit 55, nat_lit 57, nat_lit 58, nat_lit 60, nat_lit 61, nat_lit 62, nat_lit 64, nat_lit 65, nat_lit 67, nat_lit 68, nat_lit 69, nat_lit 71, nat_lit 72, nat_lit 74, nat_lit 75, nat_lit 76, nat_lit 78, nat_lit 79, nat_lit 81, nat_lit 82, nat_lit 83, nat_lit 85, nat_lit 86, nat_lit 88, nat_lit 89, nat_lit 90, nat_lit 92, nat_lit 93, nat_lit 95, nat_lit 96, nat_lit 97, nat_lit 98, nat_lit 99, nat_lit 101, nat_lit 102, nat_lit 104, nat_lit 105, nat_lit 106, nat_lit 108, nat_lit 109, nat_lit 111, nat_lit 112, nat_lit 113, nat_lit 115, nat_lit 116, nat_lit 118, nat_lit 119, nat_lit 120, nat_lit 122, nat_lit 123, nat_lit 125, nat_lit 126, nat_lit 127, nat_lit 130, nat_lit 131, nat_lit 132, nat_lit 134, nat_lit 135, nat_lit 137, nat_lit 138, nat_lit 139, nat_lit 141, nat_lit 142, nat_lit 144, nat_lit 145, nat_lit 146, nat_lit 149, nat_lit 150, nat_lit 151, nat_lit 154, nat_lit 155, nat_lit 156, nat_lit 159, nat_lit 160]
end Mine

end HDA_
section HDC_
open PySem PySem.W PyProof.Rows
namespace Mine
theorem left_ok : LeftO PySem.Challenge.rw_pq0392_01.row.toRowW.prog vw39 [] (fun s => xlAt vw39 [] s && recOk (RowW.records PySem.Challenge.rw_pq0392_01.row.toRowW) s) (Hook.obs (kHook hp39 as39 (fun _ => by kernel_rfl))) (Hook.val (kHook hp39 as39 (fun _ => by kernel_rfl))) 1890 := by
  intro w
  unfold openEnds fencedOpening topFrom
  rw [PySem.W.Fast.te10274390034422433532, PySem.W.Fast.te1435165496053646825, PySem.W.Fast.te14289696077712309145, PySem.W.Fast.te14082659384304107361, PySem.W.Fast.te8920871248978507458, PySem.W.Fast.te5923862056798008813, PySem.W.Fast.te4187177175401517315, PySem.W.Fast.te14364793385576792824]
  kernel_rfl
theorem said_ok : OpenLaw.wellSaid PySem.Challenge.rw_pq0392_01 = true := by
  rw [PySem.W.Fast.te9446332074065402090]
  kernel_rfl
end Mine

end HDC_
section BASE_
open PySem PySem.W PyProof.Rows PySem.Spec PySem.Calls
namespace Mine
abbrev Led := List (Addr × Obj)

noncomputable def Kept (h h' : Heap) (mu : Led) : Prop := ∀ b o, h.get? b = some o → (∀ p ∈ mu, p.1 ≠ b) → h'.get? b = some o
noncomputable def Held (h : Heap) (l : Led) : Prop := ∀ p ∈ l, h.get? p.1 = some p.2
noncomputable def FreshIn (h : Heap) (l : Led) : Prop := ∀ p ∈ l, h.get? p.1 = none

theorem Kept.nil {h h' : Heap} (k : Kept h h' []) : ∀ b o, h.get? b = some o → h'.get? b = some o := fun b o e => k b o e (fun _ hp => nomatch hp)
theorem Held.keeps {h h' : Heap} {l : Led} (x : Held h l) (k : ∀ b o, h.get? b = some o → h'.get? b = some o) : Held h' l := fun p hp => k _ _ (x p hp)
theorem Held.app {h : Heap} {l l' : Led} (x : Held h l) (y : Held h l') : Held h (l ++ l') := fun p hp => (List.mem_append.mp hp).elim (x p) (y p)

noncomputable def DatAt (h : Heap) (v : Value) (d : Dat) : Prop := ∃ l : Led, Held h l ∧ DatIn l v d
theorem DatAt.keeps {h h' : Heap} {v : Value} {d : Dat} (x : DatAt h v d) (k : ∀ b o, h.get? b = some o → h'.get? b = some o) : DatAt h' v d :=
  let ⟨l, a, b⟩ := x; ⟨l, a.keeps k, b⟩
theorem DatAt.of_led {h₀ h : Heap} {L : Addr} {news : Led} {v : Value} {d : Dat} (N : News h₀ L h news) (x : DatIn news v d) : DatAt h v d := ⟨news, fun p hp => (N p hp).1, x⟩
theorem DatAt.int (h : Heap) (i : Int) (t : Tok) : DatAt h (.int i t) (.int i) := ⟨[], (fun _ hp => nomatch hp), .int i t⟩

noncomputable def Tells (w : World) (mean : ExcName → Option Value) (mg mb : Str → Option Value) (f : Addr) (dep : Nat) (mu : Led) (Pre : Heap → Prop) (vs : List Value) (Post : Value → Led → Led → Prop) : Prop :=
  ∀ (dp un : Nat) (gd : Option (List Code)) (cn : Str) (cs : Scope) (a : Addr) (ccd : Value) (cl : List (Str × Addr)) (outer : List Env) (A₀ : Around) (base h₀ : Heap) (L : Addr) (m : Str → Option Value) (s : Shared)
    (Q E : Value → Shared → Prop),
    Below A₀ base outer h₀ → Fr h₀ L s.heap m → (Mine.hp39 w.params).In h₀ → News h₀ L s.heap mu → Top Mine.vw39 (looseW Mine.vw39 []) mean mg mb h₀ → cs.kind = .function → Pre s.heap → dp + dep < recursionLimit → un + 8 * dep < cLine →
    (∀ r h' tk' tl mu', Kept s.heap h' mu → Held h' tl → FreshIn s.heap tl → Held h' mu' → mu'.map (·.1) = mu.map (·.1) → Post r tl mu' → Q r { s with heap := h', toks := tk' }) →
    wpAny (model PySem.Challenge.rw_pq0392_01.row.prog w) (ktrTop dp un gd cn cs L a ccd cl outer) (call (.ref f) vs) Q E s

noncomputable def BodyPost (g : Heap) (L : Addr) (mu : Led) (Post : Value → Led → Led → Prop) (s : Shared) (fl : Flow) (s' : Shared) : Prop :=
  ∃ h' tk' m' tl mu', s' = { s with heap := h', toks := tk' } ∧ Fr g L h' m' ∧ News g L h' tl ∧ News g L h' mu' ∧ mu'.map (·.1) = mu.map (·.1) ∧ (∀ p ∈ tl, ∀ q ∈ mu, p.1 ≠ q.1) ∧
    Post (match fl with | .ret v => v | _ => .none) tl mu'

theorem BodyPost.ret {g : Heap} {L : Addr} {mu : Led} {Post : Value → Led → Led → Prop} {s : Shared} {v : Value} {h' : Heap} {tk' : Nat} {m' : Str → Option Value} {nx : Led} (tl mu' : Led)
    (F : Fr g L h' m') (N : News g L h' nx) (h1 : ∀ p ∈ tl, p ∈ nx) (h2 : ∀ p ∈ mu', p ∈ nx) (ha : mu'.map (·.1) = mu.map (·.1)) (ho : ∀ p ∈ tl, ∀ q ∈ mu, p.1 ≠ q.1) (hp : Post v tl mu') :
    BodyPost g L mu Post s (.ret v) { s with heap := h', toks := tk' } := ⟨h', tk', m', tl, mu', rfl, F, fun p hp => N p (h1 p hp), fun p hp => N p (h2 p hp), ha, ho, hp⟩
theorem BodyPost.ret0 {g : Heap} {L : Addr} {Post : Value → Led → Led → Prop} {s : Shared} {v : Value} {h' : Heap} {tk' : Nat} {m' : Str → Option Value} {nx : Led} (tl : Led)
    (F : Fr g L h' m') (N : News g L h' nx) (h1 : ∀ p ∈ tl, p ∈ nx) (hp : Post v tl []) :
    BodyPost g L [] Post s (.ret v) { s with heap := h', toks := tk' } := .ret tl [] F N h1 (fun _ hp => nomatch hp) rfl (fun _ _ _ hq => nomatch hq) hp

theorem tells_intro {w : World} {mean : ExcName → Option Value} {mg mb : Str → Option Value} {f : Addr} {dep : Nat} {mu : Led} {Pre : Heap → Prop} {vs : List Value} {Post : Value → Led → Led → Prop}
    {name qual : Str} {params : Arguments} {body : List Stmt} {scope : Scope} {dV kV doc pm cdv ct oc : Value} {an od : Option Addr} {osl : Array (Option Value)} {binds : List (Str × Value)}
    (ho : (Mine.hp39 w.params).lookup f = some ⟨oc, od, .func (fnOf name qual params body scope dV kV doc pm an cdv ct), osl⟩) (hcd : codeIn (Mine.hp39 w.params) cdv qual = true) (hdep : 1 ≤ dep)
    (hbind : bindArgs (fnOf name qual params body scope dV kV doc pm an cdv ct) ⟨vs, []⟩ = pure binds) (hloc : ∀ y ∈ binds, scope.names.lookup y.1 = some .local)
    (hPre : ∀ (h g : Heap), Kept h g mu → Pre h → Pre g)
    (h : ∀ (dp un : Nat) (gd : Option (List Code)) (outer : List Env) (A₀ : Around) (base g : Heap) (L : Addr) (h₁ : Heap) (s : Shared),
      Below A₀ base outer g → Fr g L h₁ (fun y => binds.reverse.lookup y) → News g L h₁ mu → (Mine.hp39 w.params).In g → Top Mine.vw39 (looseW Mine.vw39 []) mean mg mb g → Pre g → scope.kind = .function → dp + dep ≤ recursionLimit → un + 8 * dep < cLine + 5 →
      wpAny (model PySem.Challenge.rw_pq0392_01.row.prog w) (ktrTop dp un gd qual scope L f cdv [] outer) (execs body (envOf qual scope L f cdv)) (BodyPost g L mu Post s) (fun _ _ => False) { s with heap := h₁ })
    (hco : scope.isCoroutine = false) (hgen : scope.isGenerator = false) (hk : scope.kind = .function) (hcell : ∀ x ∈ scope.names, x.2 ≠ .cell) :
    Tells w mean mg mb f dep mu Pre vs Post := by
  intro dp un gd cn cs a ccd cl outer A₀ base h₀ L m s Q E B F X N T hcs hpre hd hu hret
  refine wpAny_call ?_
  refine code_defG B F X N T rfl rfl hcs ho hcd (by show dp < recursionLimit; omega) (BindsTo.of_eq hbind) hloc ?_ hco hgen hk hcell
  intro g L' h₁ FG F' N' B' X' T' G'
  have kg : Kept s.heap g mu := fun b o e hb => G' b o e (fun hm => by
    obtain ⟨p, hp, e⟩ := List.mem_map.mp hm
    exact hb p hp e)
  have key := h (dp + 1) (un + 3) gd _ _ base g L' h₁ { s with toks := s.toks + binds.length } B' F' N' X' T' (hPre _ _ kg hpre) hk (by omega) (by omega)
  refine wpAny_mono key (fun fl s' hb => ?_) (fun _ _ e => e.elim)
  obtain ⟨h', tk', m', tl, mu', rfl, F₂, N₂, M₂, ha, ho', hp⟩ := hb
  refine leaveK_ F₂ (news' := []) (fun p hp => nomatch hp) (fun _ _ => ?_)
  refine hret _ h' tk' tl mu' (fun b o e hb => F₂.keep b o (kg b o e hb)) (fun p hp => (N₂ p hp).1) (fun p hp => ?_) (fun p hp => (M₂ p hp).1) ha hp
  cases q : s.heap.get? p.1 with
  | none => rfl
  | some o => have := (N₂ p hp).2.2; rw [kg _ _ q (fun x hx e => ho' p hp x hx e.symm)] at this; cases this

section
variable {w : World} {mean : ExcName → Option Value} {mg mb : Str → Option Value} {f : Addr} {dep : Nat} {mu : Led} {Pre : Heap → Prop} {vs : List Value} {Post : Value → Led → Led → Prop}
  {dp un : Nat} {gd : Option (List Code)} {cn : Str} {cs : Scope} {a : Addr} {ccd : Value} {cl : List (Str × Addr)} {outer : List Env} {A₀ : Around} {base h₀ : Heap} {L : Addr} {m : Str → Option Value} {s : Shared}
  {Q E : Value → Shared → Prop} {news : Led}
theorem tells_use0 (C : Tells w mean mg mb f dep [] Pre vs Post) (B : Below A₀ base outer h₀) (F : Fr h₀ L s.heap m) (X : (Mine.hp39 w.params).In h₀) (N : News h₀ L s.heap news) (T : Top Mine.vw39 (looseW Mine.vw39 []) mean mg mb h₀) (hk : cs.kind = .function) (hp : Pre s.heap)
    (hd : dp + dep < recursionLimit) (hu : un + 8 * dep < cLine)
    (ret : ∀ r h' tk' tl, Fr h₀ L h' m → News h₀ L h' (news ++ tl) → FreshIn s.heap tl → (∀ p ∈ tl, ∀ q ∈ news, p.1 ≠ q.1) → Post r tl [] → (∀ b o, s.heap.get? b = some o → h'.get? b = some o) → Q r { s with heap := h', toks := tk' }) :
    wpAny (model PySem.Challenge.rw_pq0392_01.row.prog w) (ktrTop dp un gd cn cs L a ccd cl outer) (call (.ref f) vs) Q E s := by
  refine C dp un gd cn cs a ccd cl outer A₀ base h₀ L m s Q E B F X (fun _ hp => nomatch hp) T hk hp hd hu ?_
  intro r h' tk' tl mu' K Ht Hf Hm ha hpost
  have e : mu' = [] := List.map_eq_nil_iff.mp ha
  subst e
  have k := K.nil
  refine ret r h' tk' tl (Fr.keeps F k) ?_ Hf (fun p hp q hq e => ?_) hpost k
  · intro p hp
    rcases List.mem_append.mp hp with hp | hp
    · exact ⟨k _ _ (N p hp).1, (N p hp).2.1, (N p hp).2.2⟩
    · refine ⟨Ht p hp, fun e => ?_, ?_⟩
      · obtain ⟨oL, _, _, hL, _⟩ := F.ns
        have := Hf p hp; rw [e, hL] at this; cases this
      · cases q : h₀.get? p.1 with
        | none => rfl
        | some o => have := Hf p hp; rw [F.keep _ _ q] at this; cases this
  · have := Hf p hp; rw [e, (N q hq).1] at this; cases this
theorem tells_useP {P : Value → Prop} (C : Tells w mean mg mb f dep [] Pre vs (fun r tl _ => tl = [] ∧ P r)) (B : Below A₀ base outer h₀) (F : Fr h₀ L s.heap m) (X : (Mine.hp39 w.params).In h₀) (N : News h₀ L s.heap news) (T : Top Mine.vw39 (looseW Mine.vw39 []) mean mg mb h₀) (hk : cs.kind = .function) (hp : Pre s.heap)
    (hd : dp + dep < recursionLimit) (hu : un + 8 * dep < cLine)
    (ret : ∀ r h' tk', Fr h₀ L h' m → News h₀ L h' news → P r → (∀ b o, s.heap.get? b = some o → h'.get? b = some o) → Q r { s with heap := h', toks := tk' }) :
    wpAny (model PySem.Challenge.rw_pq0392_01.row.prog w) (ktrTop dp un gd cn cs L a ccd cl outer) (call (.ref f) vs) Q E s := by
  refine tells_use0 C B F X N T hk hp hd hu ?_
  rintro r h' tk' tl F' N' _ _ ⟨rfl, hP⟩ k
  rw [List.append_nil] at N'
  exact ret r h' tk' F' N' hP k
theorem tells_useQ {P : Value → Prop} (C : Tells w mean mg mb f dep [] Pre vs (fun r tl _ => tl = [] ∧ P r))
    (ret : ∀ r h' tk', Fr h₀ L h' m → News h₀ L h' news → P r → (∀ b o, s.heap.get? b = some o → h'.get? b = some o) → Q r { s with heap := h', toks := tk' })
    (B : Below A₀ base outer h₀ := by k_asm) (F : Fr h₀ L s.heap m := by k_asm) (X : (Mine.hp39 w.params).In h₀ := by k_asm) (N : News h₀ L s.heap news := by k_asm) (T : Top Mine.vw39 (looseW Mine.vw39 []) mean mg mb h₀ := by k_asm) (hk : cs.kind = .function := by first | k_asm | exact rfl) (hp : Pre s.heap := by exact trivial)
    (hd : dp + dep < recursionLimit := by omega) (hu : un + 8 * dep < cLine := by omega) :
    wpAny (model PySem.Challenge.rw_pq0392_01.row.prog w) (ktrTop dp un gd cn cs L a ccd cl outer) (call (.ref f) vs) Q E s := tells_useP C B F X N T hk hp hd hu ret
theorem tells_useQ0 (C : Tells w mean mg mb f dep [] Pre vs Post)
    (ret : ∀ r h' tk' tl, Fr h₀ L h' m → News h₀ L h' (news ++ tl) → FreshIn s.heap tl → (∀ p ∈ tl, ∀ q ∈ news, p.1 ≠ q.1) → Post r tl [] → (∀ b o, s.heap.get? b = some o → h'.get? b = some o) → Q r { s with heap := h', toks := tk' })
    (B : Below A₀ base outer h₀ := by k_asm) (F : Fr h₀ L s.heap m := by k_asm) (X : (Mine.hp39 w.params).In h₀ := by k_asm) (N : News h₀ L s.heap news := by k_asm) (T : Top Mine.vw39 (looseW Mine.vw39 []) mean mg mb h₀ := by k_asm) (hk : cs.kind = .function := by first | k_asm | exact rfl) (hp : Pre s.heap := by exact trivial)
    (hd : dp + dep < recursionLimit := by omega) (hu : un + 8 * dep < cLine := by omega) :
    wpAny (model PySem.Challenge.rw_pq0392_01.row.prog w) (ktrTop dp un gd cn cs L a ccd cl outer) (call (.ref f) vs) Q E s := tells_use0 C B F X N T hk hp hd hu ret
end
theorem dl9 {a b c l : Nat} (h : a + b < l) (k : Nat.ble c b = true) : a + c < l := Nat.lt_of_le_of_lt (Nat.add_le_add_left (Nat.le_of_ble_eq_true k) a) h
noncomputable def Stop (P : Prop) : Prop := P
theorem Stop.of {P : Prop} (h : Stop P) : P := h
theorem Stop.out {P : Prop} (h : P) : Stop P := h
theorem fillme : PySem.Challenge.rw_pq0392_01 = PySem.Challenge.rw_pq0392_01 ∧ Mine.hp39 = Mine.hp39 := ⟨rfl, rfl⟩
end Mine

end BASE_
theorem Mine.rst_P1 : True := by
  w_top off
  first | (walk1; done) | trivial
section P1_
open PySem PySem.W PyProof.Rows PySem.Spec PySem.Calls
namespace Mine
noncomputable def ownZ (n : Int) : Int := if 96 ≤ n ∧ n ≤ 127 then n - 95 else 0
theorem ownZ_lo (n : Int) : 0 ≤ ownZ n := by unfold ownZ; split <;> omega
theorem ownZ_hi (n : Int) : ownZ n ≤ 32 := by unfold ownZ; split <;> omega
noncomputable def segOf (bs : List Int) (p n : Int) : List Int := (bs.drop (p + 1).toNat).take n.toNat
noncomputable def pushedZ (bs : List Int) (p n : Int) : Int := KFB.value (segOf bs p n) * 2 ^ (8 * (n.toNat - (segOf bs p n).length))
noncomputable def hexDig (d : Nat) : Nat := if d < 10 then 48 + d else 87 + d
noncomputable def hexGo (n k : Nat) : List Nat := if n = 0 ∧ k = 0 then [] else hexGo (n / 16) (k - 1) ++ [hexDig (n % 16)]
termination_by n + k
decreasing_by omega

theorem hex_item_nat : ∀ j : Fin 16, Txt.item (Str.ofString "0123456789abcdef") ((j : Nat) : Int) = ⟨#[hexDig j]⟩ := by decide +kernel
theorem hex_item {x : Int} (h : 0 ≤ x) : Txt.item (Str.ofString "0123456789abcdef") (x.fmod 16) = ⟨#[hexDig (x.toNat % 16)]⟩ := by
  have e : x.fmod 16 = (((⟨x.toNat % 16, Nat.mod_lt _ (by decide)⟩ : Fin 16) : Nat) : Int) := by
    rw [Int.fmod_eq_emod_of_nonneg _ (by decide)]
    show x % 16 = ((x.toNat % 16 : Nat) : Int)
    omega
  rw [e, hex_item_nat]

noncomputable def HexInv (n k number : Int) (found : Str) : Prop := hexGo n.toNat k.toNat = hexGo number.toNat (k.toNat - found.length) ++ found.cps.toList ∧ number.toNat * 16 ^ found.length ≤ n.toNat
theorem hex_start {n k : Int} (hn : 0 ≤ n) : (Str.ofString "").length ≤ 85 ∧ 0 ≤ n ∧ HexInv n k n (Str.ofString "") := by
  have e : Str.ofString "" = Str.mk #[] := by decide +kernel
  rw [e]
  refine ⟨by show 0 ≤ 85; omega, hn, ?_, ?_⟩
  · show _ = hexGo n.toNat (k.toNat - 0) ++ []
    simp
  · show n.toNat * 16 ^ 0 ≤ n.toNat
    simp
theorem hex_len {x : Int} (h : 0 ≤ x) (f : Str) : (Txt.item (Str.ofString "0123456789abcdef") (x.fmod 16) ++ f).length = f.length + 1 := by
  rw [hex_item h, Str.length_append]
  show 1 + f.length = f.length + 1
  omega
theorem hex_step {n k x : Int} {f : Str} (hb : n < 2 ^ 300) (hk : k < 10) (h1 : f.length ≤ 85) (h2 : 0 ≤ x) (h3 : HexInv n k x f) (hx : 0 < x ∨ (f.length : Int) < k) :
    (Txt.item (Str.ofString "0123456789abcdef") (x.fmod 16) ++ f).length ≤ 85 ∧ 0 ≤ x.fdiv 16 ∧ HexInv n k (x.fdiv 16) (Txt.item (Str.ofString "0123456789abcdef") (x.fmod 16) ++ f) := by
  have hd : x.fdiv 16 = x / 16 := Int.fdiv_eq_ediv_of_nonneg _ (by decide)
  have hdn : (x.fdiv 16).toNat = x.toNat / 16 := by rw [hd]; omega
  obtain ⟨h3, h4⟩ := h3
  have hlen := hex_len h2 f
  have hL : f.length < 85 := by
    rcases hx with hx | hx
    · have h5 : 16 ^ f.length ≤ x.toNat * 16 ^ f.length := Nat.le_mul_of_pos_left _ (by omega)
      have h6 : n.toNat < 16 ^ 75 := by
        have : (2 : Int) ^ 300 = ((16 ^ 75 : Nat) : Int) := by decide +kernel
        rw [this] at hb
        omega
      have h7 : 16 ^ f.length < 16 ^ 75 := Nat.lt_of_le_of_lt (Nat.le_trans h5 h4) h6
      have h8 := (Nat.pow_lt_pow_iff_right (a := 16) (by decide)).mp h7
      omega
    · omega
  refine ⟨by rw [hlen]; omega, by rw [hd]; omega, ?_, ?_⟩
  · rw [hlen, hdn, h3, hex_item h2, Str.cps_append]
    have e : hexGo x.toNat (k.toNat - f.length) = hexGo (x.toNat / 16) (k.toNat - f.length - 1) ++ [hexDig (x.toNat % 16)] := by
      rw [hexGo, if_neg (by omega)]
    rw [e]
    simp [Nat.sub_sub]
  · rw [hlen, hdn, Nat.pow_succ]
    refine Nat.le_trans ?_ h4
    rw [Nat.mul_comm (16 ^ f.length) 16, ← Nat.mul_assoc]
    exact Nat.mul_le_mul_right _ (Nat.div_mul_le_self _ _)
theorem hex_end {n k x : Int} {f : Str} (h2 : 0 ≤ x) (h3 : HexInv n k x f) (h4 : ¬ 0 < x) (h5 : ¬ (f.length : Int) < k) : f = ⟨(hexGo n.toNat k.toNat).toArray⟩ := by
  have e : x.toNat = 0 := by omega
  have e2 : k.toNat - f.length = 0 := by omega
  have h := h3.1
  have h0 : hexGo 0 0 = [] := by rw [hexGo, if_pos ⟨rfl, rfl⟩]
  rw [e, e2, h0, List.nil_append] at h
  rw [h]
theorem hex_meas {k x : Int} {f : Str} (h2 : 0 ≤ x) (hx : 0 < x ∨ (f.length : Int) < k) :
    (x.fdiv 16).toNat + (k.toNat - (Txt.item (Str.ofString "0123456789abcdef") (x.fmod 16) ++ f).length) < x.toNat + (k.toNat - f.length) := by
  rw [hex_len h2, Int.fdiv_eq_ediv_of_nonneg _ (by decide)]
  omega
end Mine

end P1_
theorem Mine.rst_P2 : True := by
  w_top off
  first | (walk1; done) | trivial
section P2_
open PySem PySem.W PyProof.Rows PySem.Spec PySem.Calls
namespace Mine
noncomputable def parse (p : Int) : List Int → List (Int × Int × List Int)
  | [] => []
  | n :: r => (p, n, r.take (ownZ n).toNat) :: parse (p + 1 + ownZ n) (r.drop (ownZ n).toNat)
termination_by l => l.length
decreasing_by simp [List.length_drop]; omega

theorem parse_nil (p : Int) : parse p [] = [] := by unfold parse; rfl
theorem parse_cons (p n : Int) (r : List Int) : parse p (n :: r) = (p, n, r.take (ownZ n).toNat) :: parse (p + 1 + ownZ n) (r.drop (ownZ n).toNat) := by
  rw [parse]
theorem drop_at {bs : List Int} {p : Int} (h0 : 0 ≤ p) (h1 : p < bs.length) : bs.drop p.toNat = bs.getD p.toNat 0 :: bs.drop (p + 1).toNat := by
  have h : p.toNat < bs.length := by omega
  rw [List.drop_eq_getElem_cons h, List.getD_eq_getElem?_getD, List.getElem?_eq_getElem h, Option.getD_some, show (p + 1).toNat = p.toNat + 1 by omega]
theorem parse_at {bs : List Int} {p : Int} (h0 : 0 ≤ p) (h1 : p < bs.length) :
    parse p (bs.drop p.toNat) = (p, bs.getD p.toNat 0, segOf bs p (ownZ (bs.getD p.toNat 0))) :: parse (p + 1 + ownZ (bs.getD p.toNat 0)) (bs.drop (p + 1 + ownZ (bs.getD p.toNat 0)).toNat) := by
  have h := ownZ_lo (bs.getD p.toNat 0)
  rw [drop_at h0 h1, parse_cons, List.drop_drop, show (p + 1).toNat + (ownZ (bs.getD p.toNat 0)).toNat = (p + 1 + ownZ (bs.getD p.toNat 0)).toNat by omega]
  rfl
theorem parse_end {bs : List Int} {p : Int} (h1 : bs.length ≤ p) : parse p (bs.drop p.toNat) = [] := by
  rw [List.drop_eq_nil_of_le (by omega), parse_nil]

noncomputable def jumpsOf (rows : List (Int × Int × List Int)) : List Int := (rows.filter fun r => decide (r.2.1 = 91)).map (·.1)
theorem jumpsOf_nil : jumpsOf [] = [] := rfl
theorem jumpsOf_yes {r : Int × Int × List Int} {rows} (h : r.2.1 = 91) : jumpsOf (r :: rows) = r.1 :: jumpsOf rows := by
  unfold jumpsOf; rw [List.filter_cons_of_pos (by simpa using h), List.map_cons]
theorem jumpsOf_no {r : Int × Int × List Int} {rows} (h : ¬ r.2.1 = 91) : jumpsOf (r :: rows) = jumpsOf rows := by
  unfold jumpsOf; rw [List.filter_cons_of_neg (by simpa using h)]
theorem parse_ge : ∀ (n : Nat) (bs : List Int) (p : Int), bs.length ≤ n → ∀ r ∈ parse p bs, p ≤ r.1
  | _, [], p, _, r, hr => by rw [parse_nil] at hr; cases hr
  | 0, _ :: _, _, h, _, _ => by simp at h
  | n + 1, m :: l, p, h, r, hr => by
    rw [parse_cons] at hr
    rcases List.mem_cons.mp hr with rfl | hr
    · exact Int.le_refl _
    · have := parse_ge n _ _ (by simp at h ⊢; omega) r hr
      have := ownZ_lo m
      omega
theorem jumps_inc : ∀ (n : Nat) (bs : List Int) (p : Int), bs.length ≤ n → (jumpsOf (parse p bs)).Pairwise (· < ·)
  | _, [], p, _ => by rw [parse_nil]; exact .nil
  | 0, _ :: _, _, h => by simp at h
  | n + 1, m :: l, p, h => by
    rw [parse_cons]
    have ih := jumps_inc n (l.drop (ownZ m).toNat) (p + 1 + ownZ m) (by simp at h ⊢; omega)
    by_cases hm : m = 91
    · rw [jumpsOf_yes hm]
      refine List.pairwise_cons.mpr ⟨fun k hk => ?_, ih⟩
      unfold jumpsOf at hk
      obtain ⟨r, hr, rfl⟩ := List.mem_map.mp hk
      have := parse_ge _ _ _ (Nat.le_refl _) r (List.mem_filter.mp hr).1
      have := ownZ_lo m
      show p < r.1
      omega
    · rw [jumpsOf_no hm]
      exact ih

/-- the dict that jump_places fills -/
noncomputable def trues (ks : List Int) : List (Int × Value) := ks.map fun k => (k, Value.bool true)
theorem trues_none {ks : List Int} {p : Int} (h : ∀ k ∈ ks, k < p) : valueAt (trues ks) p = none := by
  unfold valueAt trues
  rw [Option.map_eq_none_iff, List.find?_eq_none]
  intro x hx
  obtain ⟨k, hk, rfl⟩ := List.mem_map.mp hx
  have := h k hk
  simp
  omega
theorem trues_put {ks : List Int} {p : Int} (h : ∀ k ∈ ks, k < p) : stored (trues ks) p (Value.bool true) = trues (ks ++ [p]) := by
  rw [stored_absent (trues_none h)]
  unfold trues
  rw [List.map_append]
  rfl
end Mine

end P2_
theorem Mine.rst_BASE2 : True := by
  w_top off
  first | (walk1; done) | trivial
section BASE2_
open PySem PySem.W PyProof.Rows PySem.Spec PySem.Calls
namespace Mine

noncomputable def ForEnd {σ : Type} (h₀ : Heap) (L : Addr) (s : Shared) (I : Addr) (oI : Obj) (Ld : σ → Led) (ps : σ → List (Str × Value)) (st : List Str) (m₀ : Str → Option Value) (P : σ → Prop) (s' : Shared) : Prop :=
  ∃ (c : σ) (h' : Heap) (tk' : Nat) (m' : Str → Option Value), s' = { s with heap := h', toks := tk' } ∧ Fr h₀ L h' m' ∧ News h₀ L h' (Ld c) ∧ h'.get? I = some oI ∧ (∀ p ∈ Ld c, p.1 ≠ I) ∧
    (∀ p ∈ ps c, m' p.1 = some p.2) ∧ (∀ z, (∀ p ∈ ps c, z ≠ p.1) → st.contains z = false → m' z = m₀ z) ∧ P c
noncomputable def ForPost {σ : Type} (h₀ : Heap) (L : Addr) (s : Shared) (I : Addr) (oI : Obj) (Ld : σ → Led) (ps : σ → List (Str × Value)) (st : List Str) (m₀ : Str → Option Value) (P : σ → Prop) (Q : Flow → Shared → Prop) (fl : Flow) (s' : Shared) : Prop :=
  match fl with
  | .ret v => Q (.ret v) s'
  | .brk => Q .next s'
  | _ => ForEnd h₀ L s I oI Ld ps st m₀ P s'
theorem for_end {σ : Type} {h₀ : Heap} {L : Addr} {s : Shared} {I : Addr} {oI : Obj} {Ld : σ → Led} {ps : σ → List (Str × Value)} {st : List Str} {m₀ m' : Str → Option Value} {P : σ → Prop} {h' : Heap} {tk' : Nat} {nx : Led} (c : σ)
    (F : Fr h₀ L h' m') (N : News h₀ L h' nx) (hI : (I, oI) ∈ nx) (hn : ∀ p ∈ Ld c, p ∈ nx) (ho : ∀ p ∈ Ld c, p.1 ≠ I) (hk : ∀ p ∈ ps c, m' p.1 = some p.2) (hr : ∀ z, (∀ p ∈ ps c, z ≠ p.1) → st.contains z = false → m' z = m₀ z) (hp : P c) :
    ForEnd h₀ L s I oI Ld ps st m₀ P { s with heap := h', toks := tk' } := ⟨c, h', tk', m', rfl, F, fun p hp => N p (hn p hp), (N _ hI).1, ho, hk, hr, hp⟩

theorem kst_map {h₀ h : Heap} {L : Addr} {ps : List (Str × Value)} {st : List Str} {m₀ m₁ : Str → Option Value} (h1 : ∀ p ∈ ps, m₁ p.1 = some p.2) (h2 : ∀ z, (∀ p ∈ ps, z ≠ p.1) → st.contains z = false → m₁ z = m₀ z)
    (F : Fr h₀ L h m₁) : Fr h₀ L h (kstB (fun z => if st.contains z then m₁ z else m₀ z) ps) := ksw_fr h1 h2 F

theorem fr_extBut {h₀ h h' : Heap} {L I : Addr} {m : Str → Option Value} (F : Fr h₀ L h m) (hb : ∀ b o, b ≠ I → h.get? b = some o → h'.get? b = some o) (hI : h₀.get? I = none) (hL : L ≠ I) : Fr h₀ L h' m := by
  obtain ⟨oL, a1, a2, hL', a3⟩ := F.ns
  exact ⟨⟨oL, a1, a2, hb _ _ hL hL', a3⟩, fun b o e => hb b o (fun q => by rw [q, hI] at e; cases e) (F.keep b o e), F.above⟩
theorem news_extBut {h₀ h h' : Heap} {L I : Addr} {nx : Led} (N : News h₀ L h nx) (hb : ∀ b o, b ≠ I → h.get? b = some o → h'.get? b = some o) (ho : ∀ p ∈ nx, p.1 ≠ I) : News h₀ L h' nx :=
  fun p hp => ⟨hb _ _ (ho p hp) (N p hp).1, (N p hp).2⟩

section
variable {prog : Program} {w : World} {A : Around} {Q : Flow → Shared → Prop} {s : Shared} {env : Env} {h₀ : Heap}

theorem for_list {σ : Type} {target : PySem.Expr} {body : List Stmt} {l : Addr} {vs : List Value} {m₀ : Str → Option Value} {news : Led} (Ld : σ → Led) (ps : σ → List (Str × Value)) (st : List Str) (P : Nat → σ → Prop) (c₀ : σ)
    (hh : A.handled = none) (F : Fr h₀ env.locals s.heap m₀) (N : News h₀ env.locals s.heap news) (hn : ∀ p ∈ Ld c₀, p ∈ news) (hk : ∀ p ∈ ps c₀, m₀ p.1 = some p.2) (hp : P 0 c₀)
    (hsrc : ∀ i c h, P i c → (∀ b o, h₀.get? b = some o → h.get? b = some o) → News h₀ env.locals h (Ld c) → h.IsList l vs.toArray)
    (turn : ∀ i v c (u : Str → Option Value) h tk I oI, vs[i]? = some v → P i c → Fr h₀ env.locals h (kstB (fun z => if st.contains z then u z else m₀ z) (ps c)) → News h₀ env.locals h ((I, oI) :: Ld c) → (∀ p ∈ Ld c, p.1 ≠ I) →
      wpAny (model prog w) A (assign target env v) (fun _ s₂ => wpAny (model prog w) A (execs body env) (ForPost h₀ env.locals s I oI Ld ps st m₀ (P (i + 1)) Q) (fun _ _ => False) s₂) (fun _ _ => False) { s with heap := h, toks := tk })
    (done : ∀ c (u : Str → Option Value) h tk, P vs.length c → Fr h₀ env.locals h (kstB (fun z => if st.contains z then u z else m₀ z) (ps c)) → News h₀ env.locals h (Ld c) → Q .next { s with heap := h, toks := tk }) :
    wpAny (model prog w) A (pyIter (.ref l)) (fun it s₂ => codeAny (model prog w) A (.forLoop target it body [] env) (fun r s' => match r with | .ok f => Q f s' | .error e => cameBackBy (model prog w) A env (fun _ _ => False) e s') s₂) (fun _ _ => False) s := by
  have hls : s.heap.IsList l vs.toArray := hsrc 0 c₀ _ hp F.keep fun p hp => N p (hn p hp)
  refine wpAny_pyIter_list hls ?_
  have hL : env.locals ≠ s.heap.objs.size := Nat.ne_of_lt F.ns.lt
  have hI0 : h₀.get? s.heap.objs.size = none := next_is_new F
  generalize hI : s.heap.objs.size = I at *
  refine codeAny_forLoop_any (fun k s' => ∃ (i : Nat) (c : σ) (h : Heap) (tk : Nat) (m₁ : Str → Option Value), s' = { s with heap := h, toks := tk } ∧ k = vs.length + 1 - i ∧ i ≤ vs.length ∧ h.IsListIter I l i ∧ Fr h₀ env.locals h m₁ ∧ News h₀ env.locals h (Ld c) ∧ (∀ p ∈ Ld c, p.1 ≠ I) ∧
      (∀ p ∈ ps c, m₁ p.1 = some p.2) ∧ (∀ z, (∀ p ∈ ps c, z ≠ p.1) → st.contains z = false → m₁ z = m₀ z) ∧ P i c) ?_ (vs.length + 1)
    ⟨0, c₀, _, s.toks, m₀, rfl, rfl, Nat.zero_le _, ⟨_, hI ▸ Heap.get?_push_size _ rfl, rfl, rfl⟩, F.push _, (fun p hp => ⟨Heap.get?_push_of_some _ (N p (hn p hp)).1, (N p (hn p hp)).2⟩), (fun p hp => hI ▸ Nat.ne_of_lt (Heap.lt_size (N p (hn p hp)).1)), hk, fun _ _ _ => rfl, hp⟩
  rintro k s' ⟨i, c, h, tk, m₁, rfl, rfl, hi, hit, F₁, N₁, ho, h1, h2, hP⟩
  have hl := hsrc i c h hP F₁.keep N₁
  cases hv : vs[i]? with
  | none =>
    have hsz : i = vs.length := Nat.le_antisymm hi (by simpa using hv)
    refine wpAny_pyNext_list_end hh hit hl (by simpa using hv) fun h' hb => wpAny_execs_nil ?_
    exact done c m₁ h' tk (hsz ▸ hP) (kst_map h1 h2 (fr_extBut F₁ hb hI0 hL)) (news_extBut N₁ hb ho)
  | some v =>
    refine wpAny_pyNext_list_item hit hl (x := v) (by simpa using hv) fun h' hit' hs => ?_
    obtain ⟨oI, hoI, hcI, hdI⟩ := id hit'
    have F₂ := fr_extBut F₁ hs.extBut hI0 hL
    have N₂ := news_extBut N₁ hs.extBut ho
    have N₃ : News h₀ env.locals h' ((I, oI) :: Ld c) := fun p hp => by
      rcases List.mem_cons.mp hp with rfl | hp
      · exact ⟨hoI, Ne.symm hL, hI0⟩
      · exact N₂ p hp
    have hgo : ∀ (QQ : Unit → Shared → Prop) (EE : Value → Shared → Prop), QQ () { s with heap := h', toks := tk } → wpAny (model prog w) A (letOwnedTupleGo target (.ref I) v) QQ EE { s with heap := h', toks := tk } := by
      intro QQ EE hq
      have gen : ∀ (a : Addr), wpAny (model prog w) A (do
          let o ← load I
          match o.cls, o.data with
          | .type n, .fields vs =>
            if ["enumerate", "zip", "dict_itemiterator", "dict_reverseitemiterator", "odict_iterator", "itertools.zip_longest", "itertools.pairwise"].contains n && vs[0]? == some (rawInt a) then
              rule "for.unpacks-the-owned-tuple"
              updateField I 0 .none
          | _, _ => pure ()) QQ EE { s with heap := h', toks := tk } := by
        intro a
        refine wpAny_bind (wpAny_load hoI ?_)
        obtain ⟨cl, dd, dat, sl⟩ := oI
        dsimp only at hcI hdI ⊢
        subst hcI hdI
        exact wpAny_pure hq
      cases target <;> cases v <;> first | exact wpAny_pure hq | exact gen _
    refine hgo _ _ ?_
    refine wpAny_mono (turn i v c m₁ h' tk I oI hv hP (kst_map h1 h2 F₂) N₃ ho) (fun _ s₂ hb => wpAny_mono hb (fun fl s₃ hq => ?_) fun _ _ e => e.elim) fun _ _ e => e.elim
    have fin : ForEnd h₀ env.locals s I oI Ld ps st m₀ (P (i + 1)) s₃ → ∃ m, m < vs.length + 1 - i ∧ ∃ (i : Nat) (c : σ) (h : Heap) (tk : Nat) (m₁ : Str → Option Value), s₃ = { s with heap := h, toks := tk } ∧ m = vs.length + 1 - i ∧ i ≤ vs.length ∧ h.IsListIter I l i ∧ Fr h₀ env.locals h m₁ ∧ News h₀ env.locals h (Ld c) ∧ (∀ p ∈ Ld c, p.1 ≠ I) ∧
      (∀ p ∈ ps c, m₁ p.1 = some p.2) ∧ (∀ z, (∀ p ∈ ps c, z ≠ p.1) → st.contains z = false → m₁ z = m₀ z) ∧ P i c := by
      rintro ⟨c', h₃, tk₃, m₃, rfl, F₃, N₃', hg, ho₃, hk₃, hr₃, hP₃⟩
      have hlt : i < vs.length := (List.getElem?_eq_some_iff.mp hv).1
      exact ⟨vs.length + 1 - (i + 1), by omega, i + 1, c', h₃, tk₃, m₃, rfl, rfl, hlt, ⟨oI, hg, hcI, hdI⟩, F₃, N₃', ho₃, hk₃, hr₃, hP₃⟩
    cases fl with
    | ret v => exact hq
    | brk => exact hq
    | next => exact fin hq
    | cont => exact fin hq
end
end Mine

end BASE2_
theorem Mine.rst_W1 : True := by
  w_top off
  first | (walk1; done) | trivial
section W1_
open PySem PySem.W PyProof.Rows PySem.Spec PySem.Calls
namespace Mine


theorem push_size_tells (w : World) (mean : ExcName → Option Value) (mg mb : Str → Option Value) (n : Int) (t : Tok) :
    Tells w mean mg mb 61 1 [] (fun _ => True) [.int n t] (fun r tl _ => tl = [] ∧ ∃ t', r = .int (ownZ n) t') := by
  (have hf := fillme; revert hf; k_fill; intro hf; clear hf)
  refine' tells_intro (binds := [(Str.ofString "number", .int n t)]) ?k6 ?k7 ?kD ?kB0 ?kB (fun _ _ _ h => h) ?_ ?c2 ?c3 ?c4 ?c5
  ((case k6 => k_dflt k_is); (case k7 => k_dflt k_is); (case kB0 => exact rfl); (case kB => exact locs rfl); (case c5 => decide); (case c2 => exact rfl); (case c3 => exact rfl); (case c4 => exact rfl); (case kD => decide))
  intro dp un gd outer A₀ base g L h₁ s B F N X T hpre hk hd hu
  (try dsimp only); k_fold; k_steps
  all_goals ((try dsimp only); (refine BodyPost.ret0 [] (by k_asm) (by k_asm) (fun _ h => nomatch h) ⟨rfl, ktn_int ?_⟩); unfold ownZ; split <;> omega)

theorem law_own_tells (w : World) (mean : ExcName → Option Value) (mg mb : Str → Option Value) (n : Int) (t : Tok) :
    Tells w mean mg mb 112 1 [] (fun _ => True) [.int n t] (fun r tl _ => tl = [] ∧ ∃ t', r = .int (ownZ n) t') := by
  (have hf := fillme; revert hf; k_fill; intro hf; clear hf)
  refine' tells_intro (binds := [(Str.ofString "number", .int n t)]) ?k6 ?k7 ?kD ?kB0 ?kB (fun _ _ _ h => h) ?_ ?c2 ?c3 ?c4 ?c5
  ((case k6 => k_dflt k_is); (case k7 => k_dflt k_is); (case kB0 => exact rfl); (case kB => exact locs rfl); (case c5 => decide); (case c2 => exact rfl); (case c3 => exact rfl); (case c4 => exact rfl); (case kD => decide))
  intro dp un gd outer A₀ base g L h₁ s B F N X T hpre hk hd hu
  (try dsimp only); k_fold; k_steps
  all_goals ((try dsimp only); (refine BodyPost.ret0 [] (by k_asm) (by k_asm) (fun _ h => nomatch h) ⟨rfl, ktn_int ?_⟩); unfold ownZ; split <;> omega)
end Mine

end W1_
theorem Mine.rst_W2 : True := by
  w_top off
  first | (walk1; done) | trivial
section W2_
open PySem PySem.W PyProof.Rows PySem.Spec PySem.Calls
namespace Mine

/-- the tray: a dict with two str keys -/
noncomputable def TrayAt (w : World) (o : Obj) (l : Addr) (k : Int) : Prop := ∃ t, o.IsDictOf (PySem.strKind PySem.Challenge.rw_pq0392_01.row.prog w) [(Str.ofString "cells", .ref l), (Str.ofString "turn", .int k t)]

noncomputable def pipZ (cells : List Int) (k many : Int) : Int := if k < cells.length then (cells.getD k.toNat 0) % many else (3 * k + k / 2 + 2) % many

theorem pip_tells (w : World) (mean : ExcName → Option Value) (mg mb : Str → Option Value) (ta l : Addr) (o : Obj) (vs : List Value) (cells : List Int) (k many : Int) (t : Tok)
    (hc : cells.length ≤ 63) (hi : IntsAre vs cells) (ho : TrayAt w o l k) (hk : 0 ≤ k) (hk2 : k < 1000) (hm : 0 < many) (hm2 : many < 1000) (hne : l ≠ ta) :
    Tells w mean mg mb 105 1 [(ta, o)] (fun h => h.IsList l vs.toArray) [.ref ta, .int many t] (fun r tl mu' => tl = [] ∧ (∃ o', mu' = [(ta, o')] ∧ TrayAt w o' l (k + 1)) ∧ ∃ t', r = .int (pipZ cells k many) t') := by
  (have hf := fillme; revert hf; k_fill; intro hf; clear hf)
  refine' tells_intro (binds := [(Str.ofString "tray", .ref ta), (Str.ofString "many", .int many t)]) ?k6 ?k7 ?kD ?kB0 ?kB ?kP ?_ ?c2 ?c3 ?c4 ?c5
  ((case k6 => k_dflt k_is); (case k7 => k_dflt k_is); (case kB0 => exact rfl); (case kB => exact locs rfl); (case c5 => decide); (case c2 => exact rfl); (case c3 => exact rfl); (case c4 => exact rfl); (case kD => decide))
  case kP => exact fun h g kk x => x.at fun o e => kk _ o e (fun p hp => by rw [List.mem_singleton.mp hp]; exact fun e => hne e.symm)
  intro dp un gd outer A₀ base g L h₁ s B F N X T hpre hk hd hu
  obtain ⟨t₀, ho⟩ := ho
  (try dsimp only); k_fold; k_steps
  all_goals (try dsimp only)
  all_goals (refine' BodyPost.ret [] [(ta, _)] ?F ?N (fun _ h => nomatch h) ?hm ?ha (fun _ h => nomatch h) ⟨rfl, ⟨_, rfl, _, ?d⟩, ktn_int ?_⟩; (case F => k_asm); (case N => k_asm); (case d => k_asm); (case hm => exact fun _ h => h); (case ha => rfl))
  · rw [pipZ, if_pos (by assumption), Int.fmod_eq_emod_of_nonneg _ (by omega)]
  · rw [pipZ, if_neg (by assumption), Int.fmod_eq_emod_of_nonneg _ (by omega), Int.fdiv_eq_ediv_of_nonneg _ (by omega)]
end Mine

end W2_
theorem Mine.rst_W3 : True := by
  w_top off
  first | (walk1; done) | trivial
local macro_rules | `(tactic| passes_own) => `(tactic| (k_whole; exact fun _ _ h => False.elim h))
local macro_rules | `(tactic| omega) => `(tactic| first | with_reducible (first | assumption | decide | exact Mine.dl9 (by assumption) rfl | exact Nat.le_trans (by assumption) (by decide) | exact Nat.ne_of_gt (by assumption) | exact Nat.ne_of_lt (by assumption) | exact Ne.symm (by assumption)) | omega +splitDisjunctions)
section W3_
open PySem PySem.W PyProof.Rows PySem.Spec PySem.Calls
namespace Mine

theorem hex_tells (w : World) (mean : ExcName → Option Value) (mg mb : Str → Option Value) (n k : Int) (t t2 : Tok) (hn : 0 ≤ n) (hn2 : n < 2 ^ 300) (hk : 0 ≤ k) (hk2 : k < 10) :
    Tells w mean mg mb 82 1 [] (fun _ => True) [.int n t, .int k t2] (fun r tl _ => tl = [] ∧ ∃ t', r = .str ⟨(hexGo n.toNat k.toNat).toArray⟩ t') := by
  (have hf := fillme; revert hf; k_fill; intro hf; clear hf)
  refine' tells_intro (binds := [(Str.ofString "number", .int n t), (Str.ofString "figures", .int k t2)]) ?k6 ?k7 ?kD ?kB0 ?kB (fun _ _ _ h => h) ?_ ?c2 ?c3 ?c4 ?c5
  ((case k6 => k_dflt k_is); (case k7 => k_dflt k_is); (case kB0 => exact rfl); (case kB => exact locs rfl); (case c5 => decide); (case c2 => exact rfl); (case c3 => exact rfl); (case c4 => exact rfl); (case kD => decide))
  intro dp un gd outer A₀ base g L h₁ s B F N X T hpre hk hd hu
  (try dsimp only); k_fold
  (k_with "state" => first | exact hex_start hn | exact hex_step hn2 hk2 (by assumption) (by assumption) (by assumption) (by first | exact Or.inl (by assumption) | exact Or.inr (by assumption)))
  (k_with "measure" => exact hex_meas (by assumption) (by first | exact Or.inl (by assumption) | exact Or.inr (by assumption)))
  (k_with "exec While BoolOp cons nil" => k_while (fun _ number found => found.length ≤ 85 ∧ 0 ≤ number ∧ HexInv n k number found) (fun _ number found => number.toNat + (k.toNat - found.length)) "number" "found")
  k_steps
  all_goals (try dsimp only)
  all_goals (refine' BodyPost.ret0 [] ?F ?N (fun _ h => nomatch h) ⟨rfl, _, ?e⟩; (case F => k_asm); (case N => k_asm); (case e => exact congrArg (Value.str · _) (hex_end (by assumption) (by assumption) (by assumption) (by assumption))))
end Mine

end W3_
theorem Mine.rst_W4 : True := by
  w_top off
  first | (walk1; done) | trivial
section W4_
open PySem PySem.W PyProof.Rows PySem.Spec PySem.Calls
namespace Mine

theorem big_tree (b : Array UInt8) (t u : Tok) : Builtin.«int.from_bytes» ⟨[.type "int", .bytes b t, .str (PySem.Str.ofString "big") u], []⟩ =
    (mkIntGrown (b.toList.foldl (fun (acc : Int) (b : UInt8) => acc * 256 + (b.toNat : Int)) ((0 : Nat) : Int)) >>= fun v => ret v) := by
  kernel_rfl

theorem big_any {M : Model} {A : Around} {E : Value → Shared → Prop} {s : Shared} {b : Array UInt8} {t u : Tok} {P : Fin → Shared → Prop} (hl : b.size ≤ 32) (h : P (.done (.ret (.int (KFB.value (KBw.bInts b)) s.toks))) { s with toks := s.toks + 1 }) :
    wpAny M A (Builtin.«int.from_bytes» ⟨[.type "int", .bytes b t, .str (PySem.Str.ofString "big") u], []⟩) P E s := by
  rw [big_tree, KFB.foldI_eq]
  have hn : b.toList.foldl (fun (acc : Nat) (b : UInt8) => acc * 256 + b.toNat) 0 < 2 ^ 256 := by
    have h1 := KFB.fold_lt b.toList 0
    rw [Nat.zero_add, Nat.one_mul, Array.length_toList] at h1
    have h2 : 256 ^ b.size ≤ 256 ^ 32 := Nat.pow_le_pow_right (by decide) hl
    have h3 : (256 : Nat) ^ 32 = 2 ^ 256 := by decide +kernel
    omega
  have hv : ((b.toList.foldl (fun (acc : Nat) (b : UInt8) => acc * 256 + b.toNat) 0 : Nat) : Int) = KFB.value (KBw.bInts b) := KFB.fold_cast b.toList 0
  generalize b.toList.foldl (fun (acc : Nat) (b : UInt8) => acc * 256 + b.toNat) 0 = z at hn hv
  refine wpAny_bind ?_
  unfold mkIntGrown
  have hz : ¬ ((z : Int).natAbs.log2 ≥ bitsLine) := by
    rw [Int.natAbs_natCast]
    have hb : bitsLine = 134217728 := by decide
    by_cases h0 : z = 0
    · subst h0; rw [hb]; decide
    · have := (Nat.log2_lt h0).mpr hn
      omega
  rw [if_neg hz, hv]
  exact wpAny_mkInt (wpAny_pure h)

theorem call_big32 {prog : Program} {w : World} {A : Around} {E : Value → Shared → Prop} {s : Shared} {h₀ : Heap} {L : Addr} {news : List (Addr × Obj)} {x : Addr} {b : Array UInt8} {t u : Tok} {ks : List Int} {Q : Value → Shared → Prop} (N : News h₀ L s.heap news) (hm : (x, KFB.bound) ∈ news) (hb : KBw.bInts b = ks) (hl : ks.length ≤ 32)
    (h : ∀ t' k, Q (.int (KFB.value ks) t') { s with toks := k }) : wpAny (model prog w) A (call (.ref x) [.bytes b t, .str (PySem.Str.ofString "big") u]) Q E s := by
  subst hb
  exact KFB.call_of (KFB.at_of N hm) (fun z => big_any (by rw [← KBw.ints_length]; exact hl) z) (h _ _)

theorem seg_eq {bs : List Int} {p n : Int} (hp : 0 ≤ p) (hp2 : p < bs.length) (hn : 0 < n) : (bs.drop (clipAt bs.length (p + 1))).take (clipAt bs.length (p + 1 + n) - clipAt bs.length (p + 1)) = segOf bs p n := by
  have e1 : clipAt bs.length (p + 1) = (p + 1).toNat := by
    have := clipAt_cast bs.length (p + 1)
    rw [if_neg (by omega)] at this
    omega
  unfold segOf
  rw [e1]
  have e2 := clipAt_cast bs.length (p + 1 + n)
  rw [if_neg (by omega)] at e2
  by_cases h : p + 1 + n ≤ bs.length
  · rw [show clipAt bs.length (p + 1 + n) - (p + 1).toNat = n.toNat by omega]
  · rw [List.take_of_length_le (by rw [List.length_drop]; omega), List.take_of_length_le (by rw [List.length_drop]; omega)]
theorem seg_len_le {bs : List Int} {p n : Int} (hn : n < 33) : (segOf bs p n).length ≤ 32 := by
  unfold segOf; rw [List.length_take]; omega
theorem value_lt : ∀ (ks : List Int), (∀ k ∈ ks, 0 ≤ k ∧ k < 256) → 0 ≤ KFB.value ks ∧ KFB.value ks < 256 ^ ks.length := by
  have key : ∀ (ks : List Int) (a : Int), 0 ≤ a → (∀ k ∈ ks, 0 ≤ k ∧ k < 256) → 0 ≤ ks.foldl (fun a k => a * 256 + k) a ∧ ks.foldl (fun a k => a * 256 + k) a < (a + 1) * 256 ^ ks.length := by
    intro ks
    induction ks with
    | nil => intro a ha _; simp; omega
    | cons k r ih =>
      intro a ha hk
      have hk0 := hk k (.head _)
      have := ih (a * 256 + k) (by omega) fun x hx => hk x (.tail _ hx)
      refine ⟨this.1, Int.lt_of_lt_of_le this.2 ?_⟩
      rw [List.length_cons, Int.pow_succ]
      have h2 : (a * 256 + k + 1) * 256 ^ r.length ≤ ((a + 1) * 256) * 256 ^ r.length := Int.mul_le_mul_of_nonneg_right (by omega) (Int.pow_nonneg (by decide))
      rw [Int.mul_comm (256 ^ r.length) 256, ← Int.mul_assoc]
      exact h2
  intro ks hk
  have := key ks 0 (by decide) hk
  simpa [KFB.value] using this
theorem shl_seg {prog : Program} {w : World} {A : Around} {E : Value → Shared → Prop} {s : Shared} {Q : Value → Shared → Prop} {b : Array UInt8} {bs : List Int} {p n c : Int} {t u : Tok} (hbs : KBw.bInts b = bs) (hn : 0 < n) (hn2 : n < 33)
    (hc : c = 8 * (n - (segOf bs p n).length)) (h : ∀ t' k, Q (.int (pushedZ bs p n) t') { s with toks := k }) :
    wpAny (model prog w) A (binaryOp .LShift (.int (KFB.value (segOf bs p n)) t) (.int c u)) Q E s := by
  have hl : (segOf bs p n).length ≤ n.toNat := by unfold segOf; rw [List.length_take]; omega
  have hv := value_lt (segOf bs p n) fun k hk => KBw.ints_in (b := b) (by rw [hbs]; exact List.mem_of_mem_drop (List.mem_of_mem_take hk))
  have hb : (KFB.value (segOf bs p n)) < 2 ^ 256 := by
    refine Int.lt_of_lt_of_le hv.2 ?_
    have e : ((256 : Int) ^ (segOf bs p n).length) = ((256 ^ (segOf bs p n).length : Nat) : Int) := by push_cast; rfl
    have e2 : ((2 : Int) ^ 256) = ((256 ^ 32 : Nat) : Int) := by decide +kernel
    rw [e, e2]
    exact Int.ofNat_le.mpr (Nat.pow_le_pow_right (by decide) (by omega))
  have hi : Builtin.Int.intBits (KFB.value (segOf bs p n)) ≤ 257 := by
    unfold Builtin.Int.intBits
    split
    · omega
    · rename_i h0
      have h1 : (KFB.value (segOf bs p n)).natAbs ≠ 0 := by
        intro e
        exact h0 (beq_iff_eq.mpr (Int.natAbs_eq_zero.mp e))
      have h2 : (KFB.value (segOf bs p n)).natAbs < 2 ^ 256 := by
        have e2 : ((2 : Int) ^ 256) = ((2 ^ 256 : Nat) : Int) := by decide +kernel
        rw [e2] at hb
        have := hv.1
        omega
      have := (Nat.log2_lt h1).mpr h2
      omega
  subst hc
  refine lshift_int (by omega) (by have : (2 : Int) ^ 27 = 134217728 := by decide
                                   omega) ?_
  have e : (8 * (n - ((segOf bs p n).length : Int))).toNat = 8 * (n.toNat - (segOf bs p n).length) := by omega
  rw [e]
  exact h _ _
local macro_rules
  | `(tactic| walk_at "binaryOp LShift int int") => `(tactic| (k_here; refine shl_seg (by assumption) (by assumption) (by assumption) ?_ ?_))
  | `(tactic| walk_at "call ref") => `(tactic| (k_here; (with_reducible show wpAny _ _ (call (Value.ref _) [Value.bytes _ _, Value.str _ _]) _ _ _); k_dflt (refine call_big32 (by k_asm) (by k_mem) (Eq.trans (by k_asm) (seg_eq (by assumption) (by assumption) (by assumption))) (seg_len_le (by assumption)) ?_); intro _ _))
theorem pushed_tells (w : World) (mean : ExcName → Option Value) (mg mb : Str → Option Value) (b : Array UInt8) (bs : List Int) (p n : Int) (t t2 t3 : Tok) (hbs : KBw.bInts b = bs) (hb : bs.length ≤ 100000) (hp : 0 ≤ p) (hp2 : p < bs.length) (hn : 0 < n) (hn2 : n < 33) :
    Tells w mean mg mb 75 1 [] (fun _ => True) [.bytes b t, .int p t2, .int n t3] (fun r tl _ => tl = [] ∧ ∃ t', r = .int (pushedZ bs p n) t') := by
  (have hf := fillme; revert hf; k_fill; intro hf; clear hf)
  refine' tells_intro (binds := [(Str.ofString "code", .bytes b t), (Str.ofString "place", .int p t2), (Str.ofString "size", .int n t3)]) ?k6 ?k7 ?kD ?kB0 ?kB (fun _ _ _ h => h) ?_ ?c2 ?c3 ?c4 ?c5
  ((case k6 => k_dflt k_is); (case k7 => k_dflt k_is); (case kB0 => exact rfl); (case kB => exact locs rfl); (case c5 => decide); (case c2 => exact rfl); (case c3 => exact rfl); (case c4 => exact rfl); (case kD => decide))
  intro dp un gd outer A₀ base g L h₁ s B F N X T hpre hk hd hu
  (try dsimp only); k_fold; k_steps
  all_goals (try dsimp only)
  · rw [← seg_eq hp hp2 hn, List.length_take, List.length_drop]
  · refine' BodyPost.ret0 [] ?F ?N (fun _ h => nomatch h) ⟨rfl, ktn_int rfl⟩
    (case F => k_asm)
    (case N => k_asm)
end Mine

end W4_
theorem Mine.rst_W5 : True := by
  w_top off
  first | (walk1; done) | trivial
local macro_rules | `(tactic| walk_at "mine:v") => `(tactic| (intro r9 h9 tk9 F9 N9 P9 k9; clear k9; obtain ⟨t9, e9⟩ := P9; subst e9; (try dsimp only); (try k_fold)))
section W5_
open PySem PySem.W PyProof.Rows PySem.Spec PySem.Calls
namespace Mine
local macro_rules | `(tactic| walk_at "call ref") => `(tactic| (k_here; k_dflt (refine' tells_useQ (push_size_tells _ _ _ _ _ _) ?_; k_whole); walk_at "mine:v"))
structure JSt where
  p : Int
  t : Tok
  o : Obj
  ks : List Int
noncomputable def JInv (bs : List Int) (c : JSt) : Prop := 0 ≤ c.p ∧ (∀ k ∈ c.ks, k < c.p) ∧ c.ks.length ≤ c.p.toNat ∧ c.p ≤ bs.length + 32 ∧ c.ks ++ jumpsOf (parse c.p (bs.drop c.p.toNat)) = jumpsOf (parse 0 bs)

local macro_rules
  | `(tactic| walk_at "setItem ref int") => `(tactic| (k_here; k_dflt (refine' kda_set (knd := PySem.intKind _ _) (by k_asm) (by k_asm) (by exact UpdF.head (fun _ h => nomatch h)) (by k_asm) (intKind_is _ _ _ _) (by rw [sizeLine_eq]; unfold trues; rw [List.length_map]; omega) ?_); intro h' o' F' N' hd'; (try dsimp only at N')))
  | `(tactic| walk_at "exec While Compare cons nil") => `(tactic| (refine Stop.of ?_))
theorem jump_no {bs : List Int} {p : Int} {ks : List Int} (h0 : 0 ≤ p) (h1 : p < bs.length) (hn : ¬ bs.getD p.toNat 0 = 91) (hks : ∀ k ∈ ks, k < p) (hkl : ks.length ≤ p.toNat) (hj : ks ++ jumpsOf (parse p (bs.drop p.toNat)) = jumpsOf (parse 0 bs)) {t : Tok} {o : Obj} :
    JInv bs ⟨p + (1 + ownZ (bs.getD p.toNat 0)), t, o, ks⟩ := by
  have h2 := ownZ_lo (bs.getD p.toNat 0)
  have h3 := ownZ_hi (bs.getD p.toNat 0)
  rw [parse_at h0 h1, jumpsOf_no hn] at hj
  refine ⟨by show 0 ≤ p + _; omega, fun k hk => ?_, ?_, ?_, ?_⟩
  · have := hks k hk
    show k < p + _
    omega
  · show ks.length ≤ (p + _).toNat
    omega
  · show p + _ ≤ _
    omega
  · show ks ++ jumpsOf (parse (p + _) (bs.drop (p + _).toNat)) = _
    rw [← Int.add_assoc]
    exact hj
theorem jump_yes {bs : List Int} {p : Int} {ks : List Int} (h0 : 0 ≤ p) (h1 : p < bs.length) (hn : bs.getD p.toNat 0 = 91) (hks : ∀ k ∈ ks, k < p) (hkl : ks.length ≤ p.toNat) (hj : ks ++ jumpsOf (parse p (bs.drop p.toNat)) = jumpsOf (parse 0 bs)) {t : Tok} {o : Obj} :
    JInv bs ⟨p + (1 + ownZ (bs.getD p.toNat 0)), t, o, ks ++ [p]⟩ := by
  have h2 := ownZ_lo (bs.getD p.toNat 0)
  have h3 := ownZ_hi (bs.getD p.toNat 0)
  rw [parse_at h0 h1, jumpsOf_yes hn] at hj
  refine ⟨by show 0 ≤ p + _; omega, fun k hk => ?_, ?_, ?_, ?_⟩
  · show k < p + _
    rcases List.mem_append.mp hk with hk | hk
    · have := hks k hk
      omega
    · rw [List.mem_singleton.mp hk]
      omega
  · show (ks ++ [p]).length ≤ (p + _).toNat
    rw [List.length_append, List.length_singleton]
    omega
  · show p + _ ≤ _
    omega
  · show (ks ++ [p]) ++ jumpsOf (parse (p + _) (bs.drop (p + _).toNat)) = _
    rw [← Int.add_assoc, List.append_assoc]
    exact hj

theorem jump_tells (w : World) (mean : ExcName → Option Value) (mg mb : Str → Option Value) (b : Array UInt8) (bs : List Int) (t : Tok) (hbs : KBw.bInts b = bs) (hb : bs.length ≤ 100000) :
    Tells w mean mg mb 68 2 [] (fun _ => True) [.bytes b t] (fun r tl _ => ∃ d o, tl = [(d, o)] ∧ r = .ref d ∧ (d == sysModules) = false ∧ o.IsDictOf (PySem.intKind PySem.Challenge.rw_pq0392_01.row.prog w) (trues (jumpsOf (parse 0 bs)))) := by
  (have hf := fillme; revert hf; k_fill; intro hf; clear hf)
  refine' tells_intro (binds := [(Str.ofString "code", .bytes b t)]) ?k6 ?k7 ?kD ?kB0 ?kB (fun _ _ _ h => h) ?_ ?c2 ?c3 ?c4 ?c5
  ((case k6 => k_dflt k_is); (case k7 => k_dflt k_is); (case kB0 => exact rfl); (case kB => exact locs rfl); (case c5 => decide); (case c2 => exact rfl); (case c3 => exact rfl); (case c4 => exact rfl); (case kD => decide))
  intro dp un gd outer A₀ base g L h₁ s B F N X T hpre hk hd hu
  (try dsimp only); k_fold; 
  k_steps
  rename_i d h' o lo hs fs hi fi _ D _ _ _ _ h1 F1 N1
  clear hs fs fi
  refine Stop.out ?_
  refine' ksw_while (fun c : JSt => [(d, c.o)]) (fun c => [(Str.ofString "place", .int c.p c.t)]) (fun c => c.o.IsDictOf (PySem.intKind PySem.Challenge.rw_pq0392_01.row.prog w) (trues c.ks)) [] (JInv bs) (fun c => (bs.length - c.p).toNat) ⟨0, _, o, []⟩ F1 ?kn ?kf ?kk ?kp ?_
  case kn => exact fun p hp => N1 p (by rw [List.mem_singleton.mp hp]; exact .tail _ (.head _))
  case kf => exact hi
  case kk => kst_all
  case kp => exact ⟨Int.le_refl _, (fun _ h => nomatch h), Nat.le_refl _, by show (0 : Int) ≤ _; omega, rfl⟩
  intro c u h2 tk2 hc hP F2 N2
  obtain ⟨p, tp, o2, ks⟩ := c
  obtain ⟨hp0, hks, hkl, hpl, hj⟩ := hP
  dsimp only [kstB] at hc F2 N2 hp0 hks hkl hpl hj
  clear N1 F1
  (try dsimp only); k_fold; 
  k_steps
  all_goals (try dsimp only)
  · refine' ksw_end ⟨p + (1 + ownZ (bs.getD p.toNat 0)), _, _, ks ++ [p]⟩ ?zF ?zN ?zn ?zf ?zk ?zr ?zp ?zm
    (case zF => k_asm)
    (case zN => k_asm)
    (case zf => dsimp only; rw [← trues_put hks]; assumption)
    (case zn => exact fun _ h => h)
    (case zk => kst_all)
    (case zr => ksw_same)
    (case zp => exact jump_yes hp0 (by assumption) (by assumption) hks hkl hj)
    (case zm => dsimp only; have := ownZ_lo (bs.getD p.toNat 0); omega)
  · refine' ksw_end ⟨p + (1 + ownZ (bs.getD p.toNat 0)), _, _, ks⟩ ?zF ?zN ?zn ?zf ?zk ?zr ?zp ?zm
    (case zF => k_asm)
    (case zN => k_asm)
    (case zf => dsimp only; assumption)
    (case zn => exact fun _ h => h)
    (case zk => kst_all)
    (case zr => ksw_same)
    (case zp => exact jump_no hp0 (by assumption) (by assumption) hks hkl hj)
    (case zm => dsimp only; have := ownZ_lo (bs.getD p.toNat 0); omega)
  · have hj' : ks = jumpsOf (parse 0 bs) := by
      rw [parse_end (by omega)] at hj
      rw [jumpsOf_nil, List.append_nil] at hj
      exact hj
    subst hj'
    refine' BodyPost.ret0 [(d, o2)] ?zF ?zN (fun _ h => h) ⟨d, o2, rfl, rfl, by assumption, hc⟩
    (case zF => k_asm)
    (case zN => k_asm)
end Mine

end W5_
theorem Mine.rst_BASE3 : True := by
  w_top off
  first | (walk1; done) | trivial
section BASE3_
open PySem PySem.W PyProof.Rows PySem.Spec PySem.Calls
namespace Mine
noncomputable def KEnd {σ : Type} (h₀ : Heap) (L : Addr) (s : Shared) (its : Led) (ws : List Addr) (Ld : σ → Led) (ps : σ → List (Str × Value)) (st : List Str) (m₀ : Str → Option Value) (P : σ → Prop) (s' : Shared) : Prop :=
  ∃ (c : σ) (h' : Heap) (tk' : Nat) (m' : Str → Option Value), s' = { s with heap := h', toks := tk' } ∧ Fr h₀ L h' m' ∧ News h₀ L h' (Ld c) ∧ (∀ p ∈ its, h'.get? p.1 = some p.2) ∧ (∀ p ∈ Ld c, p.1 ∉ ws) ∧
    (∀ p ∈ ps c, m' p.1 = some p.2) ∧ (∀ z, (∀ p ∈ ps c, z ≠ p.1) → st.contains z = false → m' z = m₀ z) ∧ P c
noncomputable def KPost {σ : Type} (h₀ : Heap) (L : Addr) (s : Shared) (its : Led) (ws : List Addr) (Ld : σ → Led) (ps : σ → List (Str × Value)) (st : List Str) (m₀ : Str → Option Value) (P : σ → Prop) (Q : Flow → Shared → Prop) (fl : Flow) (s' : Shared) : Prop :=
  match fl with
  | .ret v => Q (.ret v) s'
  | .brk => Q .next s'
  | _ => KEnd h₀ L s its ws Ld ps st m₀ P s'
theorem k_done {σ : Type} {h₀ : Heap} {L : Addr} {s : Shared} {its : Led} {ws : List Addr} {Ld : σ → Led} {ps : σ → List (Str × Value)} {st : List Str} {m₀ m' : Str → Option Value} {P : σ → Prop} {h' : Heap} {tk' : Nat} {nx : Led} (c : σ)
    (F : Fr h₀ L h' m') (N : News h₀ L h' nx) (hI : ∀ p ∈ its, p ∈ nx) (hn : ∀ p ∈ Ld c, p ∈ nx) (ho : ∀ p ∈ Ld c, p.1 ∉ ws) (hk : ∀ p ∈ ps c, m' p.1 = some p.2) (hr : ∀ z, (∀ p ∈ ps c, z ≠ p.1) → st.contains z = false → m' z = m₀ z) (hp : P c) :
    KEnd h₀ L s its ws Ld ps st m₀ P { s with heap := h', toks := tk' } := ⟨c, h', tk', m', rfl, F, fun p hp => N p (hn p hp), fun p hp => (N p (hI p hp)).1, ho, hk, hr, hp⟩
section
variable {prog : Program} {w : World} {A : Around} {Q : Flow → Shared → Prop} {s : Shared} {env : Env} {h₀ : Heap}
theorem for_k {σ : Type} {target : PySem.Expr} {body : List Stmt} {I : Addr} {fp wr : List Addr} {n : Nat} {Pv Md : Nat → Value → Heap → Prop} {St : Nat → Heap → Prop} {ws : List (Addr × String)} {m₀ : Str → Option Value} {hp : Heap} {tk0 : Nat}
    (W : KTurns prog w A target I fp wr n Pv Md St) (Ld : σ → Led) (ps : σ → List (Str × Value)) (st : List Str) (P : Nat → σ → Prop) (c₀ : σ)
    (hobj : ∀ i h, St i h → ∃ its, Objs ws its ∧ ∀ p ∈ its, h.get? p.1 = some p.2)
    (hw1 : ∀ b ∈ wr, b ∈ ws.map (·.1)) (hw0 : ∀ b ∈ ws.map (·.1), h₀.get? b = none ∧ b ≠ env.locals)
    (hSt : ∀ i c h h' its, i ≤ n → St i h → Objs ws its → (∀ p ∈ its, h.get? p.1 = some p.2) → (∀ p ∈ its, h'.get? p.1 = some p.2) → P i c → (∀ b o, h₀.get? b = some o → h'.get? b = some o) → News h₀ env.locals h' (Ld c) → St i h')
    (F : Fr h₀ env.locals hp m₀) (N : News h₀ env.locals hp (Ld c₀)) (hoff : ∀ p ∈ Ld c₀, p.1 ∉ ws.map (·.1)) (st0 : St 0 hp) (hk : ∀ p ∈ ps c₀, m₀ p.1 = some p.2) (hp0 : P 0 c₀)
    (turn : ∀ i v c (u : Str → Option Value) h tk its, i < n → Pv i v h → P i c → Objs ws its → Fr h₀ env.locals h (kstB (fun z => if st.contains z then u z else m₀ z) (ps c)) → News h₀ env.locals h (its ++ Ld c) → (∀ p ∈ Ld c, p.1 ∉ ws.map (·.1)) →
      wpAny (model prog w) A (assign target env v) (fun _ s₂ => wpAny (model prog w) A (execs body env) (KPost h₀ env.locals s its (ws.map (·.1)) Ld ps st m₀ (P (i + 1)) Q) (fun _ _ => False) s₂) (fun _ _ => False) { s with heap := h, toks := tk })
    (done : ∀ c (u : Str → Option Value) h tk, P n c → Fr h₀ env.locals h (kstB (fun z => if st.contains z then u z else m₀ z) (ps c)) → News h₀ env.locals h (Ld c) → Q .next { s with heap := h, toks := tk }) :
    codeAny (model prog w) A (.forLoop target (.ref I) body [] env) (fun r s' => match r with | .ok f => Q f s' | .error e => cameBackBy (model prog w) A env (fun _ _ => False) e s') { s with heap := hp, toks := tk0 } := by
  have keep1 : ∀ (h h' : Heap) (m : Str → Option Value) (c : σ), (∀ b o, b ∉ wr → h.get? b = some o → h'.get? b = some o) → Fr h₀ env.locals h m → News h₀ env.locals h (Ld c) → (∀ p ∈ Ld c, p.1 ∉ ws.map (·.1)) → Fr h₀ env.locals h' m ∧ News h₀ env.locals h' (Ld c) := by
    intro h h' m c hkk F N ho
    obtain ⟨oL, a1, a2, hL', a3⟩ := F.ns
    refine ⟨⟨⟨oL, a1, a2, hkk _ _ (fun hx => (hw0 _ (hw1 _ hx)).2 rfl) hL', a3⟩, fun b o e => hkk b o (fun hx => ?_) (F.keep b o e), F.above⟩, fun p hp => ⟨hkk _ _ (fun hx => ho p hp (hw1 _ hx)) (N p hp).1, (N p hp).2⟩⟩
    rw [(hw0 _ (hw1 _ hx)).1] at e
    cases e
  refine codeAny_forLoop_any (fun k s' => ∃ (i : Nat) (c : σ) (h : Heap) (tk : Nat) (m₁ : Str → Option Value), s' = { s with heap := h, toks := tk } ∧ k = n + 1 - i ∧ i ≤ n ∧ St i h ∧ Fr h₀ env.locals h m₁ ∧ News h₀ env.locals h (Ld c) ∧ (∀ p ∈ Ld c, p.1 ∉ ws.map (·.1)) ∧
      (∀ p ∈ ps c, m₁ p.1 = some p.2) ∧ (∀ z, (∀ p ∈ ps c, z ≠ p.1) → st.contains z = false → m₁ z = m₀ z) ∧ P i c) ?_ (n + 1)
    ⟨0, c₀, hp, tk0, m₀, rfl, rfl, Nat.zero_le _, st0, F, N, hoff, hk, fun _ _ _ => rfl, hp0⟩
  rintro k s' ⟨i, c, h, tk, m₁, rfl, rfl, hi, hst, F₁, N₁, ho, h1, h2, hP⟩
  by_cases hlt : i < n
  · refine W.item i _ _ _ hlt hst fun v h₁ tk₁ hMd hk₁ => ?_
    refine W.go i v _ _ _ hMd fun h₂ hPv hst₂ hk₂ => ?_
    obtain ⟨F₂, N₂⟩ := keep1 h h₂ m₁ c (fun b o hb x => hk₂ b o hb (hk₁ b o hb x)) F₁ N₁ ho
    obtain ⟨its, hits, hval⟩ := hobj (i + 1) h₂ hst₂
    have hmap := hits.map
    have N₃ : News h₀ env.locals h₂ (its ++ Ld c) := fun p hp => by
      rcases List.mem_append.mp hp with hp | hp
      · have hm : p.1 ∈ ws.map (·.1) := by rw [← hmap]; exact List.mem_map.mpr ⟨p, hp, rfl⟩
        exact ⟨hval p hp, (hw0 _ hm).2, (hw0 _ hm).1⟩
      · exact N₂ p hp
    refine wpAny_mono (turn i v c m₁ h₂ tk₁ its hlt hPv hP hits (kst_map h1 h2 F₂) N₃ ho) (fun _ s₂ hb => wpAny_mono hb (fun fl s₃ hq => ?_) fun _ _ e => e.elim) fun _ _ e => e.elim
    have fin : KEnd h₀ env.locals s its (ws.map (·.1)) Ld ps st m₀ (P (i + 1)) s₃ → ∃ m, m < n + 1 - i ∧ ∃ (i : Nat) (c : σ) (h : Heap) (tk : Nat) (m₁ : Str → Option Value), s₃ = { s with heap := h, toks := tk } ∧ m = n + 1 - i ∧ i ≤ n ∧ St i h ∧ Fr h₀ env.locals h m₁ ∧ News h₀ env.locals h (Ld c) ∧ (∀ p ∈ Ld c, p.1 ∉ ws.map (·.1)) ∧
        (∀ p ∈ ps c, m₁ p.1 = some p.2) ∧ (∀ z, (∀ p ∈ ps c, z ≠ p.1) → st.contains z = false → m₁ z = m₀ z) ∧ P i c := by
      rintro ⟨c', h₃, tk₃, m₃, rfl, F₃, N₃', hg, ho₃, hk₃, hr₃, hP₃⟩
      exact ⟨n + 1 - (i + 1), by omega, i + 1, c', h₃, tk₃, m₃, rfl, rfl, hlt, hSt _ _ _ _ its hlt hst₂ hits hval hg hP₃ F₃.keep N₃', F₃, N₃', ho₃, hk₃, hr₃, hP₃⟩
    cases fl with
    | ret v => exact hq
    | brk => exact hq
    | next => exact fin hq
    | cont => exact fin hq
  · have hin : i = n := by omega
    subst hin
    refine W.done _ _ _ hst fun h₁ tk₁ hk₁ => wpAny_execs_nil ?_
    obtain ⟨F₂, N₂⟩ := keep1 h h₁ m₁ c hk₁ F₁ N₁ ho
    exact done c m₁ h₁ tk₁ hP (kst_map h1 h2 F₂) N₂

theorem off_one {I : Addr} {ty : String} {l : Led} (h : ∀ p ∈ l, p.1 ≠ I) : ∀ p ∈ l, p.1 ∉ ([(I, ty)] : List (Addr × String)).map (·.1) := fun p hp hm => h p hp (List.mem_singleton.mp hm)
theorem objs_one {I : Addr} {ty : String} : ∀ {its : Led}, Objs [(I, ty)] its → ∃ oI : Obj, oI.cls = .type ty ∧ its = [(I, oI)]
  | [], h => (show False from h).elim
  | [(a, o)], h => by
    have e : a = I := h.1.1
    subst e
    exact ⟨o, h.1.2, rfl⟩
  | _ :: _ :: _, h => (show False from h.2).elim
theorem objs_two {I J : Addr} {ty tz : String} : ∀ {its : Led}, Objs [(I, ty), (J, tz)] its → ∃ oI oJ : Obj, oI.cls = .type ty ∧ oJ.cls = .type tz ∧ its = [(I, oI), (J, oJ)]
  | [], h => (show False from h).elim
  | [_], h => (show False from h.2).elim
  | [(a, o), (b, p)], h => by
    have e : a = I := h.1.1
    have e2 : b = J := h.2.1.1
    subst e e2
    exact ⟨o, p, h.1.2, h.2.1.2, rfl⟩
  | _ :: _ :: _ :: _, h => (show False from h.2.2).elim

/-- for x in range(..), by ones -/
theorem for_range {σ : Type} {target : PySem.Expr} {body : List Stmt} {r : Addr} {a b : Int} {t₀ u₀ v₀ : Tok} {n : Nat} {m₀ : Str → Option Value} {news : Led} (Ld : σ → Led) (ps : σ → List (Str × Value)) (st : List Str) (P : Nat → σ → Prop) (c₀ : σ)
    (hh : A.handled = none) (hr : IsRange s.heap r a b 1 t₀ u₀ v₀) (hsmall : Builtin.Range.small a b 1 = true) (hn : Builtin.Range.rangeSize a b 1 = ((n : Nat) : Int)) (F : Fr h₀ env.locals s.heap m₀) (N : News h₀ env.locals s.heap news) (hn0 : ∀ p ∈ Ld c₀, p ∈ news) (hk : ∀ p ∈ ps c₀, m₀ p.1 = some p.2) (hp : P 0 c₀)
    (turn : ∀ i t c (u : Str → Option Value) h tk I oI, i < n → P i c → Fr h₀ env.locals h (kstB (fun z => if st.contains z then u z else m₀ z) (ps c)) → News h₀ env.locals h ((I, oI) :: Ld c) → (∀ p ∈ Ld c, p.1 ≠ I) →
      wpAny (model prog w) A (assign target env (.int (a + (i : Int)) t)) (fun _ s₂ => wpAny (model prog w) A (execs body env) (KPost h₀ env.locals s [(I, oI)] [I] Ld ps st m₀ (P (i + 1)) Q) (fun _ _ => False) s₂) (fun _ _ => False) { s with heap := h, toks := tk })
    (done : ∀ c (u : Str → Option Value) h tk, P n c → Fr h₀ env.locals h (kstB (fun z => if st.contains z then u z else m₀ z) (ps c)) → News h₀ env.locals h (Ld c) → Q .next { s with heap := h, toks := tk }) :
    wpAny (model prog w) A (pyIter (.ref r)) (fun it s₂ => codeAny (model prog w) A (.forLoop target it body [] env) (fun r s' => match r with | .ok f => Q f s' | .error e => cameBackBy (model prog w) A env (fun _ _ => False) e s') s₂) (fun _ _ => False) s := by
  refine wpAny_pyIter_range hr hsmall ?_
  refine for_k (tk0 := s.toks) (ws := [(s.heap.objs.size, "range_iterator")]) (KTurns.ofWalks (LCg.range_walks hh a n) fun i v s Q E hst q => ?_) Ld ps st P c₀ ?_ (fun b hb => by simpa using hb) ?_ ?_ (F.push _) (fun p hp => ⟨Heap.get?_push_of_some _ (N p (hn0 p hp)).1, (N p (hn0 p hp)).2⟩) (off_one fun p hp => Nat.ne_of_lt (Heap.lt_size (N p (hn0 p hp)).1)) ?_ hk hp ?_ done
  · have gen : ∀ I : Addr, (∃ x l, IsRangeIter s.heap I x l 1) → wpAny (model prog w) A (letOwnedTupleGo target (.ref I) v) Q E s := by
      rintro I ⟨x, l, hI⟩
      have gen2 : ∀ (a : Addr), wpAny (model prog w) A (do
          let o ← load I
          match o.cls, o.data with
          | .type n, .fields vs =>
            if ["enumerate", "zip", "dict_itemiterator", "dict_reverseitemiterator", "odict_iterator", "itertools.zip_longest", "itertools.pairwise"].contains n && vs[0]? == some (rawInt a) then
              rule "for.unpacks-the-owned-tuple"
              updateField I 0 .none
          | _, _ => pure ()) Q E s := by
        intro a
        refine wpAny_bind (wpAny_load hI ?_)
        exact wpAny_pure q
      cases target <;> cases v <;> first | exact wpAny_pure q | exact gen2 _
    exact gen _ ⟨_, _, hst⟩
  · intro i h hst
    have e : ∃ oI : Obj, h.get? s.heap.objs.size = some oI ∧ oI.cls = .type "range_iterator" := ⟨_, hst, rfl⟩
    obtain ⟨oI, e1, e2⟩ := e
    exact ⟨[(s.heap.objs.size, oI)], ⟨⟨rfl, e2⟩, trivial⟩, fun p hp => by rw [List.mem_singleton.mp hp]; exact e1⟩
  · intro b hb
    rw [List.mem_singleton.mp hb]
    exact ⟨next_is_new F, Ne.symm (Nat.ne_of_lt F.ns.lt)⟩
  · intro i c h h' its hi hst hits hv hv' _ _ _
    obtain ⟨oI, _, rfl⟩ := objs_one hits
    have z1 : h.get? s.heap.objs.size = some oI := hv _ (.head _)
    have z2 : h'.get? s.heap.objs.size = some oI := hv' _ (.head _)
    have z3 : h.get? s.heap.objs.size = some _ := hst
    show h'.get? s.heap.objs.size = some _
    rw [z2, ← z1]
    exact z3
  · show IsRangeIter _ _ _ _ _
    rw [hn]
    simpa using Heap.get?_push_size _ rfl
  · rintro i v c u h tk its hi ⟨t, rfl⟩ hP hits F₁ N₁ ho
    obtain ⟨oI, _, rfl⟩ := objs_one hits
    exact turn i t c u h tk _ oI hi hP F₁ N₁ fun p hp e => ho p hp (List.mem_singleton.mpr e)

/-- for i, x in enumerate(list) -/
theorem for_enum {σ : Type} {elts : List PySem.Expr} {kk : Nat} {pos : Pos} {body : List Stmt} {l : Addr} {vs : List Value} {m₀ : Str → Option Value} {news : Led} (Ld : σ → Led) (ps : σ → List (Str × Value)) (st : List Str) (P : Nat → σ → Prop) (c₀ : σ)
    (hh : A.handled = none) (F : Fr h₀ env.locals s.heap m₀) (N : News h₀ env.locals s.heap news) (hn : ∀ p ∈ Ld c₀, p ∈ news) (hk : ∀ p ∈ ps c₀, m₀ p.1 = some p.2) (hp : P 0 c₀)
    (hsrc : ∀ i c h, P i c → (∀ b o, h₀.get? b = some o → h.get? b = some o) → News h₀ env.locals h (Ld c) → h.IsList l vs.toArray)
    (turn : ∀ i v t T c (u : Str → Option Value) h tk I oI J oJ, vs[i]? = some v → P i c → IsTup h T #[.int (i : Int) t, v] → Fr h₀ env.locals h (kstB (fun z => if st.contains z then u z else m₀ z) (ps c)) → News h₀ env.locals h ((I, oI) :: (J, oJ) :: Ld c) → (∀ p ∈ Ld c, p.1 ≠ I ∧ p.1 ≠ J) →
      wpAny (model prog w) A (assign (.Tuple elts kk pos) env (.ref T)) (fun _ s₂ => wpAny (model prog w) A (execs body env) (KPost h₀ env.locals s [(I, oI), (J, oJ)] [I, J] Ld ps st m₀ (P (i + 1)) Q) (fun _ _ => False) s₂) (fun _ _ => False) { s with heap := h, toks := tk })
    (done : ∀ c (u : Str → Option Value) h tk, P vs.length c → Fr h₀ env.locals h (kstB (fun z => if st.contains z then u z else m₀ z) (ps c)) → News h₀ env.locals h (Ld c) → Q .next { s with heap := h, toks := tk }) :
    wpAny (model prog w) A (call (.type "enumerate") [.ref l]) (fun xv s₁ => wpAny (model prog w) A (pyIter xv) (fun it s₂ => codeAny (model prog w) A (.forLoop (.Tuple elts kk pos) it body [] env) (fun r s' => match r with | .ok f => Q f s' | .error e => cameBackBy (model prog w) A env (fun _ _ => False) e s') s₂) (fun _ _ => False) s₁) (fun _ _ => False) s := by
  have hl : s.heap.IsList l vs.toArray := hsrc 0 c₀ _ hp F.keep fun p hp => N p (hn p hp)
  have hlt : l < s.heap.objs.size := by obtain ⟨_, e, _⟩ := hl; exact Heap.lt_size e
  have hLs : env.locals < s.heap.objs.size := F.ns.lt
  refine call_enumerate_list hl fun h' hE hI hsz hkp => ?_
  refine wpAny_pyIter_enum hE ?_
  have hlen : vs.toArray.size = vs.length := by simp
  refine for_k (tk0 := s.toks) (n := vs.length) (ws := [(s.heap.objs.size + 1, "enumerate"), (s.heap.objs.size, "list_iterator")]) (hlen ▸ KTurns.ofWalksU (WalksT.enumerate hh (s.heap.objs.size + 1) s.heap.objs.size l (Nat.succ_ne_self _) (ktu_ne 1 hlt) (Nat.ne_of_lt hlt) vs.toArray).toU) Ld ps st P c₀ ?_ (fun b hb => by simpa using hb) ?_ ?_ (F.keeps hkp) (fun p hp => News.grown N hkp p (hn p hp)) ?_ ?_ hk hp ?_ done
  · rintro i h ⟨⟨old, he⟩, ⟨oi, hoi, hic, _⟩, _⟩
    have he' : ∃ oe : Obj, h.get? (s.heap.objs.size + 1) = some oe ∧ oe.cls = .type "enumerate" := ⟨_, he, rfl⟩
    obtain ⟨oe, h1, h2⟩ := he'
    refine ⟨[(s.heap.objs.size + 1, oe), (s.heap.objs.size, oi)], ⟨⟨rfl, h2⟩, ⟨rfl, hic⟩, trivial⟩, fun p hp => ?_⟩
    rcases List.mem_cons.mp hp with rfl | hp
    · exact h1
    · rw [List.mem_singleton.mp hp]; exact hoi
  · intro b hb
    have hb' : b = s.heap.objs.size + 1 ∨ b = s.heap.objs.size := by simpa using hb
    rcases hb' with rfl | rfl
    · exact ⟨ktu_new F (Nat.le_add_right _ _), Ne.symm (Nat.ne_of_lt (Nat.lt_succ_of_lt hLs))⟩
    · exact ⟨ktu_new F (Nat.le_refl _), Ne.symm (Nat.ne_of_lt hLs)⟩
  · rintro i c h h' its hi ⟨⟨old, he⟩, ⟨oi, hoi, hic⟩, hl'⟩ hits hv hv' hP hkk hN
    obtain ⟨oE, oI, _, _, rfl⟩ := objs_two hits
    have z1 : h.get? (s.heap.objs.size + 1) = some oE := hv _ (.head _)
    have z2 : h'.get? (s.heap.objs.size + 1) = some oE := hv' _ (.head _)
    have z3 : h.get? s.heap.objs.size = some oI := hv _ (.tail _ (.head _))
    have z4 : h'.get? s.heap.objs.size = some oI := hv' _ (.tail _ (.head _))
    refine ⟨⟨old, ?_⟩, ⟨oi, ?_, hic⟩, hsrc i c h' hP hkk hN⟩
    · have z5 : h.get? (s.heap.objs.size + 1) = some _ := he
      show h'.get? (s.heap.objs.size + 1) = some _
      rw [z2, ← z1]; exact z5
    · rw [z4, ← z3]; exact hoi
  · intro p hp hm
    have hlp := Heap.lt_size (N p (hn p hp)).1
    have hb' : p.1 = s.heap.objs.size + 1 ∨ p.1 = s.heap.objs.size := by simpa using hm
    rcases hb' with e | e
    · exact ktu_ne 1 hlp e
    · exact Nat.ne_of_lt hlp e
  · exact ⟨⟨.none, hE⟩, hI, hl.at fun o e => hkp l o e⟩
  · rintro i v c u h tk its hi ⟨T, vals, rfl, ⟨t, x, hx, rfl⟩, hT⟩ hP hits F₁ N₁ ho
    obtain ⟨oE, oI, _, _, rfl⟩ := objs_two hits
    exact turn i x t T c u h tk _ oE _ oI (by simpa using hx) hP hT F₁ N₁ fun p hp => ⟨fun e => ho p hp (by simp [e]), fun e => ho p hp (by simp [e])⟩
end
end Mine

end BASE3_
theorem Mine.rst_INV : True := by
  w_top off
  first | (walk1; done) | trivial
section INV_
open PySem PySem.W PyProof.Rows PySem.Spec PySem.Calls
namespace Mine
section
variable {l : Led} {v : Value} {C : Value → Prop}
theorem dall_at {vs : List Value} {ds : List Dat} {i : Nat} {v : Value} {d : Dat} (h : DatAll l vs ds) (hv : vs[i]? = some v) (hd : ds[i]? = some d) : DatIn l v d :=
  match List.getElem?_eq_some_iff.mp hd with | ⟨hi, e⟩ => match h.get (k := i) hi with | ⟨_, e1, e2⟩ => e ▸ (Option.some.inj (hv.symm.trans e1)) ▸ e2
theorem int_inv {n : Int} (h : DatIn l v (.int n)) : ∃ t, v = .int n t := by cases h with | int _ t => exact ⟨t, rfl⟩
theorem str_inv {x : Str} (h : DatIn l v (.str x)) : ∃ t, v = .str x t := by cases h with | str _ t => exact ⟨t, rfl⟩
theorem none_inv (h : DatIn l v .none) : v = .none := by cases h; rfl
theorem list_inv {ds : List Dat} (h : DatIn l v (.list ds)) : ∃ a vs n, v = .ref a ∧ (a, listOf vs.toArray n) ∈ l ∧ DatAll l vs ds := by
  cases h with | list h1 h2 => exact ⟨_, _, _, rfl, h1, h2⟩
theorem tuple_inv {ds : List Dat} (h : DatIn l v (.tuple ds)) : ∃ a vs n, v = .ref a ∧ (a, ({ cls := .type "tuple", data := .seq vs.toArray n } : Obj)) ∈ l ∧ DatAll l vs ds := by
  cases h with | tuple h1 h2 => exact ⟨_, _, _, rfl, h1, h2⟩
theorem cons_inv {d : Dat} {ds : List Dat} {vs : List Value} (h : DatAll l vs (d :: ds)) : ∃ v r, vs = v :: r ∧ DatIn l v d ∧ DatAll l r ds := by
  cases h with | cons h1 h2 => exact ⟨_, _, rfl, h1, h2⟩
theorem nil_inv {vs : List Value} (h : DatAll l vs []) : vs = [] := by cases h; rfl
@[elab_as_elim] theorem list_elim {ds : List Dat} (h : DatIn l v (.list ds)) (k : ∀ a vs n, (a, listOf vs.toArray n) ∈ l → DatAll l vs ds → C (.ref a)) : C v :=
  match list_inv h with | ⟨a, vs, n, e, h1, h2⟩ => e ▸ k a vs n h1 h2
theorem tuple_elim {ds : List Dat} (h : DatIn l v (.tuple ds)) (k : ∀ a vs n, DatAll l vs ds → (a, ({ cls := .type "tuple", data := .seq vs.toArray n } : Obj)) ∈ l → C (.ref a)) : C v :=
  match tuple_inv h with | ⟨a, vs, n, e, h1, h2⟩ => e ▸ k a vs n h2 h1
section
variable {P : List Value → Prop} {vs : List Value} {ds : List Dat}
theorem cons_elim {d : Dat} (h : DatAll l vs (d :: ds)) (k : ∀ v r, DatIn l v d → DatAll l r ds → P (v :: r)) : P vs :=
  match cons_inv h with | ⟨v, r, e, h1, h2⟩ => e ▸ k v r h1 h2
theorem icons_elim {n : Int} (h : DatAll l vs (.int n :: ds)) (k : ∀ t r, DatAll l r ds → P (.int n t :: r)) : P vs :=
  cons_elim h fun _ r q h2 => match int_inv q with | ⟨t, e⟩ => e ▸ k t r h2
theorem scons_elim {x : Str} (h : DatAll l vs (.str x :: ds)) (k : ∀ t r, DatAll l r ds → P (.str x t :: r)) : P vs :=
  cons_elim h fun _ r q h2 => match str_inv q with | ⟨t, e⟩ => e ▸ k t r h2
theorem nil_elim (h : DatAll l vs []) (k : P []) : P vs := nil_inv h ▸ k
end
@[elab_as_elim] theorem tup3_elim {p : Int} {x : Str} {d : Dat} (h : DatIn l v (.tuple [.int p, .str x, d])) (k : ∀ a n t1 t2 q, (a, ({ cls := .type "tuple", data := .seq [Value.int p t1, .str x t2, q].toArray n } : Obj)) ∈ l → DatIn l q d → C (.ref a)) : C v :=
  tuple_elim h fun a _ n h2 h1 => icons_elim (P := fun r => (a, ({ cls := .type "tuple", data := .seq r.toArray n } : Obj)) ∈ l → C (.ref a)) h2 (fun t1 _ h2 => scons_elim (P := fun r => (a, ({ cls := .type "tuple", data := .seq (Value.int p t1 :: r).toArray n } : Obj)) ∈ l → C (.ref a)) h2
    fun t2 _ h2 => cons_elim (P := fun r => (a, ({ cls := .type "tuple", data := .seq (Value.int p t1 :: .str x t2 :: r).toArray n } : Obj)) ∈ l → C (.ref a)) h2 fun q _ hq h2 => nil_elim (P := fun r => (a, ({ cls := .type "tuple", data := .seq (Value.int p t1 :: .str x t2 :: q :: r).toArray n } : Obj)) ∈ l → C (.ref a)) h2 fun h1 => k a n t1 t2 q h1 hq) h1
@[elab_as_elim] theorem tup2_elim {p : Int} {ds : List Dat} (h : DatIn l v (.tuple [.int p, .list ds])) (k : ∀ a n t1 o ovs on, (a, ({ cls := .type "tuple", data := .seq [Value.int p t1, .ref o].toArray n } : Obj)) ∈ l → (o, listOf ovs.toArray on) ∈ l → DatAll l ovs ds → C (.ref a)) : C v :=
  tuple_elim h fun a _ n h2 h1 => icons_elim (P := fun r => (a, ({ cls := .type "tuple", data := .seq r.toArray n } : Obj)) ∈ l → C (.ref a)) h2 (fun t1 _ h2 => cons_elim (P := fun r => (a, ({ cls := .type "tuple", data := .seq (Value.int p t1 :: r).toArray n } : Obj)) ∈ l → C (.ref a)) h2
    fun q _ hq h2 => nil_elim (P := fun r => (a, ({ cls := .type "tuple", data := .seq (Value.int p t1 :: q :: r).toArray n } : Obj)) ∈ l → C (.ref a)) h2 (list_elim (C := fun q => (a, ({ cls := .type "tuple", data := .seq [Value.int p t1, q].toArray n } : Obj)) ∈ l → C (.ref a)) hq fun o ovs on h3 h4 h1 => k a n t1 o ovs on h1 h3 h4)) h1
@[elab_as_elim] theorem tup5_elim {z1 z2 z3 z4 : Int} {z5 : Str} (h : DatIn l v (.tuple [.int z1, .int z2, .int z3, .int z4, .str z5])) (k : ∀ a n t1 t2 t3 t4 t5, (a, ({ cls := .type "tuple", data := .seq [Value.int z1 t1, .int z2 t2, .int z3 t3, .int z4 t4, .str z5 t5].toArray n } : Obj)) ∈ l → C (.ref a)) : C v :=
  tuple_elim h fun a _ n h2 h1 => icons_elim (P := fun r => (a, ({ cls := .type "tuple", data := .seq r.toArray n } : Obj)) ∈ l → C (.ref a)) h2 (fun t1 _ h2 => icons_elim (P := fun r => (a, ({ cls := .type "tuple", data := .seq (Value.int z1 t1 :: r).toArray n } : Obj)) ∈ l → C (.ref a)) h2
    fun t2 _ h2 => icons_elim (P := fun r => (a, ({ cls := .type "tuple", data := .seq (Value.int z1 t1 :: .int z2 t2 :: r).toArray n } : Obj)) ∈ l → C (.ref a)) h2 fun t3 _ h2 => icons_elim (P := fun r => (a, ({ cls := .type "tuple", data := .seq (Value.int z1 t1 :: .int z2 t2 :: .int z3 t3 :: r).toArray n } : Obj)) ∈ l → C (.ref a)) h2
      fun t4 _ h2 => scons_elim (P := fun r => (a, ({ cls := .type "tuple", data := .seq (Value.int z1 t1 :: .int z2 t2 :: .int z3 t3 :: .int z4 t4 :: r).toArray n } : Obj)) ∈ l → C (.ref a)) h2 fun t5 _ h2 => nil_elim (P := fun r => (a, ({ cls := .type "tuple", data := .seq (Value.int z1 t1 :: .int z2 t2 :: .int z3 t3 :: .int z4 t4 :: .str z5 t5 :: r).toArray n } : Obj)) ∈ l → C (.ref a)) h2
        fun h1 => k a n t1 t2 t3 t4 t5 h1) h1
end
section
variable {α : Type} {a : α} {l m k : List α}
theorem mem_hd : a ∈ a :: l := .head _
theorem mem_tl {b : α} (h : a ∈ l) : a ∈ b :: l := .tail _ h
theorem sub_nil : ∀ p ∈ ([] : List α), p ∈ m := fun _ h => nomatch h
theorem sub_refl : ∀ p ∈ m, p ∈ m := fun _ h => h
theorem sub_left : ∀ p ∈ l, p ∈ l ++ m := fun _ h => List.mem_append.mpr (.inl h)
theorem sub_right : ∀ p ∈ m, p ∈ l ++ m := fun _ h => List.mem_append.mpr (.inr h)
theorem sub_app (h1 : ∀ p ∈ l, p ∈ m) (h2 : ∀ p ∈ k, p ∈ m) : ∀ p ∈ l ++ k, p ∈ m := fun p h => (List.mem_append.mp h).elim (h1 p) (h2 p)
theorem sub_head (h : a ∈ m) (t : ∀ p ∈ l, p ∈ m) : ∀ p ∈ a :: l, p ∈ m := fun p hp => (List.mem_cons.mp hp).elim (fun e => e ▸ h) (t p)
theorem sub_skip (t : ∀ p ∈ l, p ∈ m) : ∀ p ∈ l, p ∈ a :: m := fun p hp => .tail _ (t p hp)
theorem sub_ap {p : α} (hp : p ∈ l) (h : ∀ q ∈ l, q ∈ m) : p ∈ m := h p hp
end
end Mine

end INV_
theorem Mine.rst_W6a : True := by
  w_top off
  first | (walk1; done) | trivial
section W6a_
open PySem PySem.W PyProof.Rows PySem.Spec PySem.Calls
namespace Mine
theorem allLt_ne {d : Addr} : ∀ {l : Led}, AllLt d l → ∀ p ∈ l, p.1 ≠ d
  | [], _ => fun _ h => nomatch h
  | q :: r, h => fun p hp => by
    rcases List.mem_cons.mp hp with rfl | hp
    · exact Nat.ne_of_lt h.1
    · exact allLt_ne h.2 p hp
theorem allLt_lt {d : Addr} : ∀ {l : Led}, AllLt d l → ∀ p ∈ l, p.1 < d
  | [], _ => fun _ h => nomatch h
  | q :: r, h => fun p hp => by
    rcases List.mem_cons.mp hp with rfl | hp
    · exact h.1
    · exact allLt_lt h.2 p hp
theorem ltAll_ne {d : Addr} {l : Led} (h : ∀ p ∈ l, p.1 < d) : ∀ p ∈ l, p.1 ≠ d := fun p hp => Nat.ne_of_lt (h p hp)
local macro_rules | `(tactic| k_room) => `(tactic| ((try simp only [depth_under_make, depth_under_kw, depth_in1, depth_deeper, depth_caller]); (try dsimp only [ktrTop]); omega))
local macro_rules | `(tactic| k_all) => `(tactic| first | exact ltAll_ne (by assumption) | exact allLt_ne (by assumption))
noncomputable def OpAt (es : List DictEntry) (x : Str) : Prop := ∃ t, getL (Str.ofString "name") es = some (some (.str x t))
theorem op_use {w : World} {mean : ExcName → Option Value} {mg mb : Str → Option Value} {dp un : Nat} {gd : Option (List Code)} {cn : Str} {cs : Scope} {a9 : Addr} {ccd : Value} {cl : List (Str × Addr)} {outer : List Env} {A₀ : Around} {base h₀ : Heap} {L : Addr} {m : Str → Option Value} {s : Shared}
    {Q E : Value → Shared → Prop} {news : Led} {x : Str} {t : Tok} {a b c : Int} {ta tb tc : Tok}
    (B : Below A₀ base outer h₀) (F : Fr h₀ L s.heap m) (X : (Mine.hp39 w.params).In h₀) (N : News h₀ L s.heap news) (T : Top Mine.vw39 (looseW Mine.vw39 []) mean mg mb h₀) (hcs : cs.kind = .function) (hd : dp + 2 < recursionLimit)
    (ret : ∀ x' d' es h' tk', OpAt es x → Fr h₀ L h' m → News h₀ L h' ((x', instObj 31 d') :: (d', dictOf es 4) :: news) → (∀ p ∈ news, p.1 < d') → d' < x' → Q (.ref x') { s with heap := h', toks := tk' }) :
    wpAny (model PySem.Challenge.rw_pq0392_01.row.prog w) (ktrTop dp un gd cn cs L a9 ccd cl outer) (call (.ref 31) [.str x t, .int a ta, .int b tb, .int c tc]) Q E s := by
  (have hf := fillme; revert hf; k_fill; intro hf; clear hf)
  (refine' call_cls ?k1 ?k2 ?k3 ?k4 ?k5 ?k6 ?_; (case k1 => k_asm); (case k2 => k_asm); (case k3 => k_asm); (case k4 => k_dflt k_is); (case k5 => k_dflt k_is); (case k6 => k_dflt k_is); k_whole; intro x' d' h' F' N' l1 l2; (try k_lt l1); (try k_lt2 l2); (try k_sweep))
  (refine' code_def ?k1 ?k2 ?k3 ?k4 ?k5 ?kA ?kF ?kK ?k6 ?k7 ?k8 ?k9 ?kB ?_ ?c2 ?c3 ?c4 ?c5; (case kA => exact rfl); (case kF => exact rfl); (case kK => exact hcs); (case k1 => k_asm); (case k2 => k_asm); (case k3 => k_asm); (case k4 => k_asm); (case k5 => k_asm); (case k6 => k_dflt k_is); (case k7 => k_dflt k_is); (case k8 => k_room); (case k9 => exact BindsTo.of_eq rfl); (case c5 => decide); (case kB => exact locs rfl); (case c2 => exact rfl); (case c3 => exact rfl); (case c4 => exact rfl); k_whole; intro g' L' h' FG' F' N' B' X' T'; (try dsimp only); (try k_lift B'); (try k_fold))
  k_steps
  all_goals (exact ret _ _ _ _ _ ⟨_, rfl⟩ (by k_asm) (by k_asm) (by assumption) (by assumption))
end Mine

end W6a_
theorem Mine.rst_W6b : True := by
  w_top off
  first | (walk1; done) | trivial
section W6b_
open PySem PySem.W PyProof.Rows PySem.Spec PySem.Calls
namespace Mine
noncomputable def groups : List (Int × Int × Int × Int × Str) := [(0, 0, 0, 0, Str.ofString "STOP"),
  (1, 2, 1, 3, Str.ofString "ADD"),
  (2, 2, 1, 5, Str.ofString "MUL"),
  (3, 2, 1, 3, Str.ofString "SUB"),
  (4, 2, 1, 5, Str.ofString "DIV SDIV MOD SMOD"),
  (8, 3, 1, 8, Str.ofString "ADDMOD MULMOD"),
  (10, 2, 1, 10, Str.ofString "EXP"),
  (11, 2, 1, 5, Str.ofString "SIGNEXTEND"),
  (16, 2, 1, 3, Str.ofString "LT GT SLT SGT EQ"),
  (21, 1, 1, 3, Str.ofString "ISZERO"),
  (22, 2, 1, 3, Str.ofString "AND OR XOR"),
  (25, 1, 1, 3, Str.ofString "NOT"),
  (26, 2, 1, 3, Str.ofString "BYTE SHL SHR SAR"),
  (32, 2, 1, 30, Str.ofString "KECCAK256"),
  (48, 0, 1, 2, Str.ofString "ADDRESS"),
  (49, 1, 1, 0, Str.ofString "BALANCE"),
  (50, 0, 1, 2, Str.ofString "ORIGIN CALLER CALLVALUE"),
  (53, 1, 1, 3, Str.ofString "CALLDATALOAD"),
  (54, 0, 1, 2, Str.ofString "CALLDATASIZE"),
  (55, 3, 0, 3, Str.ofString "CALLDATACOPY"),
  (56, 0, 1, 2, Str.ofString "CODESIZE"),
  (57, 3, 0, 3, Str.ofString "CODECOPY"),
  (58, 0, 1, 2, Str.ofString "GASPRICE"),
  (59, 1, 1, 0, Str.ofString "EXTCODESIZE"),
  (60, 4, 0, 0, Str.ofString "EXTCODECOPY"),
  (61, 0, 1, 2, Str.ofString "RETURNDATASIZE"),
  (62, 3, 0, 3, Str.ofString "RETURNDATACOPY"),
  (63, 1, 1, 0, Str.ofString "EXTCODEHASH"),
  (64, 1, 1, 20, Str.ofString "BLOCKHASH"),
  (65, 0, 1, 2, Str.ofString "COINBASE TIMESTAMP NUMBER PREVRANDAO GASLIMIT CHAINID"),
  (71, 0, 1, 5, Str.ofString "SELFBALANCE"),
  (72, 0, 1, 2, Str.ofString "BASEFEE"),
  (80, 1, 0, 2, Str.ofString "POP"),
  (81, 1, 1, 3, Str.ofString "MLOAD"),
  (82, 2, 0, 3, Str.ofString "MSTORE MSTORE8"),
  (84, 1, 1, 0, Str.ofString "SLOAD"),
  (85, 2, 0, 0, Str.ofString "SSTORE"),
  (86, 1, 0, 8, Str.ofString "JUMP"),
  (87, 2, 0, 10, Str.ofString "JUMPI"),
  (88, 0, 1, 2, Str.ofString "PC MSIZE GAS"),
  (91, 0, 0, 1, Str.ofString "JUMPDEST"),
  (95, 0, 1, 2, Str.ofString "PUSH0"),
  (240, 3, 1, 32000, Str.ofString "CREATE"),
  (241, 7, 1, 0, Str.ofString "CALL CALLCODE"),
  (243, 2, 0, 0, Str.ofString "RETURN"),
  (244, 6, 1, 0, Str.ofString "DELEGATECALL"),
  (245, 4, 1, 32000, Str.ofString "CREATE2"),
  (250, 6, 1, 0, Str.ofString "STATICCALL"),
  (253, 2, 0, 0, Str.ofString "REVERT"),
  (254, 0, 0, 0, Str.ofString "INVALID"),
  (255, 1, 0, 5000, Str.ofString "SELFDESTRUCT")]
noncomputable def groupD (g : Int × Int × Int × Int × Str) : Dat := .tuple [.int g.1, .int g.2.1, .int g.2.2.1, .int g.2.2.2.1, .str g.2.2.2.2]
inductive TupX : List PySem.Expr → List (Int × Int × Int × Int × Str) → Prop
  | nil : TupX [] []
  | cons {a b c d : Int} {x : Str} {k1 k2 k3 k4 k5 : Nat} {p1 p2 p3 p4 p5 : Pos} {kk : Nat} {tp : Pos} {es : List PySem.Expr} {gs : List (Int × Int × Int × Int × Str)} : TupX es gs →
    TupX (.Tuple [.Constant (.int a) k1 p1, .Constant (.int b) k2 p2, .Constant (.int c) k3 p3, .Constant (.int d) k4 p4, .Constant (.str x) k5 p5] kk tp :: es) ((a, b, c, d, x) :: gs)
theorem tuples_eval {M : Model} {A : Around} {E : Value → Shared → Prop} {env : Env} {h₀ : Heap} {L : Addr} {m : Str → Option Value} {elts : List PySem.Expr} {gs : List (Int × Int × Int × Int × Str)} (hx : TupX elts gs) :
    ∀ {pos : Pos} {s : Shared} {nx : Led} {Q : List Value → Shared → Prop}, Fr h₀ L s.heap m → News h₀ L s.heap nx →
      (∀ vs h' tk' nx', Fr h₀ L h' m → News h₀ L h' nx' → (∀ p ∈ nx, p ∈ nx') → DatAll nx' vs (gs.map groupD) → Q vs { s with heap := h', toks := tk' }) → wpAny M A (spliced (backTo pos (starEach elts env))) Q E s := by
  induction hx with
  | nil => exact fun F N ret => wpAny_items_nil (ret [] _ _ _ F N (fun _ h => h) .nil)
  | cons _ ih =>
    intro pos s nx Q F N ret
    refine wpAny_items_cons (wpAny_Tuple ?_)
    refine wpAny_items_cons (wpAny_Constant_int (wpAny_items_cons (wpAny_Constant_int (wpAny_items_cons (wpAny_Constant_int (wpAny_items_cons (wpAny_Constant_int (wpAny_items_cons (wpAny_Constant_str (wpAny_items_nil ⟨?_, ?_⟩)))))))))) 
    · rw [sizeLine_eq]; exact Nat.le_of_ble_eq_true rfl
    · exact ih (F.push _) (News.push F N _) fun vs h' tk' nx' F' N' hs hd => ret _ h' tk' nx' F' N' (fun p hp => hs p (.tail _ hp)) (.cons (.tuple (hs _ (.head _)) (.cons (.int _ _) (.cons (.int _ _) (.cons (.int _ _) (.cons (.int _ _) (.cons (.str _ _) .nil)))))) hd)
local macro_rules | `(tactic| walk_at "eval List") => `(tactic| (refine Stop.of ?_))
theorem groups_tells (w : World) (mean : ExcName → Option Value) (mg mb : Str → Option Value) :
    Tells w mean mg mb 42 1 [] (fun _ => True) [] (fun r tl _ => DatIn tl r (.list (groups.map groupD))) := by
  (have hf := fillme; revert hf; k_fill; intro hf; clear hf)
  refine' tells_intro (binds := []) ?k6 ?k7 ?kD ?kB0 ?kB (fun _ _ _ h => h) ?_ ?c2 ?c3 ?c4 ?c5
  ((case k6 => k_dflt k_is); (case k7 => k_dflt k_is); (case kB0 => exact rfl); (case kB => exact locs rfl); (case c5 => decide); (case c2 => exact rfl); (case c3 => exact rfl); (case c4 => exact rfl); (case kD => decide))
  intro dp un gd outer A₀ base g L h₁ s B F N X T hpre hk hd hu
  (try dsimp only); k_fold; k_steps
  refine Stop.out ?_
  refine wpAny_List ?_
  refine' tuples_eval (gs := groups) ?hx ?hF ?hN ?_
  case hF => exact F
  case hN => exact N
  case hx =>
    unfold groups
    repeat (first | exact TupX.nil | refine TupX.cons ?_)
  intro vs h' tk' nx' F' N' _ hd
  have F2 := F'.push { cls := .type "list", data := .seq vs.toArray }
  have N2 := News.push F' N' { cls := .type "list", data := .seq vs.toArray }
  have hlen := hd.length
  rw [List.length_map] at hlen
  refine ⟨by rw [hlen, sizeLine_eq]; exact Nat.le_of_ble_eq_true rfl, ?_⟩
  refine' BodyPost.ret0 _ F2 N2 (fun _ h => h) ?d
  exact DatIn.list (.head _) (hd.mono fun p hp => .tail _ hp)
end Mine

end W6b_
theorem Mine.rst_P3 : True := by
  w_top off
  first | (walk1; done) | trivial
section P3_
open PySem PySem.W PyProof.Rows PySem.Spec PySem.Calls
namespace Mine
abbrev Tab := List (Int × Str)
noncomputable def putTab (tab : Tab) (k : Int) (x : Str) : Tab := if tab.any (fun kv => kv.1 = k) then tab.map (fun kv => if kv.1 = k then (kv.1, x) else kv) else tab ++ [(k, x)]
theorem putTab_len (tab : Tab) (k : Int) (x : Str) : (putTab tab k x).length ≤ tab.length + 1 := by unfold putTab; split <;> simp
inductive OpsIn (tl : Led) : List (Int × Value) → Tab → Prop
  | nil : OpsIn tl [] []
  | cons {k : Int} {x : Str} {a d : Addr} {e : List DictEntry} {es : List (Int × Value)} {tab : Tab} : (a, instObj 31 d) ∈ tl → (d, dictOf e 4) ∈ tl → OpAt e x → OpsIn tl es tab → OpsIn tl ((k, .ref a) :: es) ((k, x) :: tab)
theorem OpsIn.mono {tl tl' : Led} (hs : ∀ p ∈ tl, p ∈ tl') {es : List (Int × Value)} {tab : Tab} (h : OpsIn tl es tab) : OpsIn tl' es tab := by
  induction h with
  | nil => exact .nil
  | cons h1 h2 h3 _ ih => exact .cons (hs _ h1) (hs _ h2) h3 ih
theorem OpsIn.len {tl : Led} {es : List (Int × Value)} {tab : Tab} (h : OpsIn tl es tab) : es.length = tab.length := by
  induction h with
  | nil => rfl
  | cons _ _ _ _ ih => simp [ih]
theorem OpsIn.any {tl : Led} {es : List (Int × Value)} {tab : Tab} (k : Int) (h : OpsIn tl es tab) : es.any (fun kv => kv.1 = k) = tab.any (fun kv => kv.1 = k) := by
  induction h with
  | nil => rfl
  | cons _ _ _ _ ih => simp only [List.any_cons, ih]
theorem OpsIn.put {tl : Led} {k : Int} {x : Str} {a d : Addr} {e : List DictEntry} {es : List (Int × Value)} {tab : Tab} (h1 : (a, instObj 31 d) ∈ tl) (h2 : (d, dictOf e 4) ∈ tl) (h3 : OpAt e x) (h : OpsIn tl es tab) :
    OpsIn tl (stored es k (.ref a)) (putTab tab k x) := by
  have m1 : OpsIn tl (es.map fun kv => if kv.1 = k then (kv.1, Value.ref a) else kv) (tab.map fun kv => if kv.1 = k then (kv.1, x) else kv) := by
    induction h with
    | nil => exact .nil
    | @cons k' x' a' d' e' es' tab' g1 g2 g3 _ ih =>
      simp only [List.map_cons]
      by_cases hk : k' = k
      · simp only [hk, if_true]; exact .cons h1 h2 h3 ih
      · simp only [hk, if_false]; exact .cons g1 g2 g3 ih
  have m2 : OpsIn tl (es ++ [(k, Value.ref a)]) (tab ++ [(k, x)]) := by
    clear m1
    induction h with
    | nil => exact .cons h1 h2 h3 .nil
    | cons g1 g2 g3 _ ih => exact .cons g1 g2 g3 ih
  unfold stored putTab
  rw [h.any k]
  split
  · exact m1
  · exact m2

noncomputable def tabW (tab : Tab) (first : Int) (ws : List Str) : Nat → Tab
  | 0 => tab
  | j + 1 => putTab (tabW tab first ws j) (first + j) (ws.getD j Str.empty)
theorem tabW_len (tab : Tab) (first : Int) (ws : List Str) : ∀ j, (tabW tab first ws j).length ≤ tab.length + j
  | 0 => Nat.le_refl _
  | j + 1 => Nat.le_trans (putTab_len _ _ _) (by have := tabW_len tab first ws j; omega)
noncomputable def wordsOf (x : Str) : List Str := Txt.split x (Str.ofString " ")
noncomputable def grp (i : Nat) : Int × Int × Int × Int × Str := groups.getD i (0, 0, 0, 0, Str.empty)
noncomputable def tabG : Nat → Tab
  | 0 => []
  | i + 1 => tabW (tabG i) (grp i).1 (wordsOf (grp i).2.2.2.2) (wordsOf (grp i).2.2.2.2).length
noncomputable def intText (k : Int) : Str := Str.ofString (toString k)
noncomputable def tabP (tab : Tab) : Nat → Tab
  | 0 => tab
  | j + 1 => putTab (tabP tab j) (95 + (1 + (j : Int))) (Str.ofString "PUSH" ++ intText (1 + (j : Int)))
noncomputable def tabD (tab : Tab) : Nat → Tab
  | 0 => tab
  | j + 1 => putTab (putTab (tabD tab j) (127 + (1 + (j : Int))) (Str.ofString "DUP" ++ intText (1 + (j : Int)))) (143 + (1 + (j : Int))) (Str.ofString "SWAP" ++ intText (1 + (j : Int)))
noncomputable def tabL (tab : Tab) : Nat → Tab
  | 0 => tab
  | j + 1 => putTab (tabL tab j) (160 + (0 + (j : Int))) (Str.ofString "LOG" ++ intText (0 + (j : Int)))
noncomputable def tabOps : Tab := tabL (tabD (tabP (tabG 51) 32) 16) 5
/-- the same table, laid out -/
noncomputable def tabLit : Tab := [(0, ⟨#[83,84,79,80]⟩), (1, ⟨#[65,68,68]⟩), (2, ⟨#[77,85,76]⟩), (3, ⟨#[83,85,66]⟩), (4, ⟨#[68,73,86]⟩), (5, ⟨#[83,68,73,86]⟩), (6, ⟨#[77,79,68]⟩), (7, ⟨#[83,77,79,68]⟩), (8, ⟨#[65,68,68,77,79,68]⟩), (9, ⟨#[77,85,76,77,79,68]⟩),
  (10, ⟨#[69,88,80]⟩), (11, ⟨#[83,73,71,78,69,88,84,69,78,68]⟩), (16, ⟨#[76,84]⟩), (17, ⟨#[71,84]⟩), (18, ⟨#[83,76,84]⟩), (19, ⟨#[83,71,84]⟩), (20, ⟨#[69,81]⟩), (21, ⟨#[73,83,90,69,82,79]⟩), (22, ⟨#[65,78,68]⟩), (23, ⟨#[79,82]⟩),
  (24, ⟨#[88,79,82]⟩), (25, ⟨#[78,79,84]⟩), (26, ⟨#[66,89,84,69]⟩), (27, ⟨#[83,72,76]⟩), (28, ⟨#[83,72,82]⟩), (29, ⟨#[83,65,82]⟩), (32, ⟨#[75,69,67,67,65,75,50,53,54]⟩), (48, ⟨#[65,68,68,82,69,83,83]⟩), (49, ⟨#[66,65,76,65,78,67,69]⟩),
  (50, ⟨#[79,82,73,71,73,78]⟩), (51, ⟨#[67,65,76,76,69,82]⟩), (52, ⟨#[67,65,76,76,86,65,76,85,69]⟩), (53, ⟨#[67,65,76,76,68,65,84,65,76,79,65,68]⟩), (54, ⟨#[67,65,76,76,68,65,84,65,83,73,90,69]⟩),
  (55, ⟨#[67,65,76,76,68,65,84,65,67,79,80,89]⟩), (56, ⟨#[67,79,68,69,83,73,90,69]⟩), (57, ⟨#[67,79,68,69,67,79,80,89]⟩), (58, ⟨#[71,65,83,80,82,73,67,69]⟩), (59, ⟨#[69,88,84,67,79,68,69,83,73,90,69]⟩),
  (60, ⟨#[69,88,84,67,79,68,69,67,79,80,89]⟩), (61, ⟨#[82,69,84,85,82,78,68,65,84,65,83,73,90,69]⟩), (62, ⟨#[82,69,84,85,82,78,68,65,84,65,67,79,80,89]⟩), (63, ⟨#[69,88,84,67,79,68,69,72,65,83,72]⟩), (64, ⟨#[66,76,79,67,75,72,65,83,72]⟩),
  (65, ⟨#[67,79,73,78,66,65,83,69]⟩), (66, ⟨#[84,73,77,69,83,84,65,77,80]⟩), (67, ⟨#[78,85,77,66,69,82]⟩), (68, ⟨#[80,82,69,86,82,65,78,68,65,79]⟩), (69, ⟨#[71,65,83,76,73,77,73,84]⟩), (70, ⟨#[67,72,65,73,78,73,68]⟩),
  (71, ⟨#[83,69,76,70,66,65,76,65,78,67,69]⟩), (72, ⟨#[66,65,83,69,70,69,69]⟩), (80, ⟨#[80,79,80]⟩), (81, ⟨#[77,76,79,65,68]⟩), (82, ⟨#[77,83,84,79,82,69]⟩), (83, ⟨#[77,83,84,79,82,69,56]⟩), (84, ⟨#[83,76,79,65,68]⟩),
  (85, ⟨#[83,83,84,79,82,69]⟩), (86, ⟨#[74,85,77,80]⟩), (87, ⟨#[74,85,77,80,73]⟩), (88, ⟨#[80,67]⟩), (89, ⟨#[77,83,73,90,69]⟩), (90, ⟨#[71,65,83]⟩), (91, ⟨#[74,85,77,80,68,69,83,84]⟩), (95, ⟨#[80,85,83,72,48]⟩),
  (240, ⟨#[67,82,69,65,84,69]⟩), (241, ⟨#[67,65,76,76]⟩), (242, ⟨#[67,65,76,76,67,79,68,69]⟩), (243, ⟨#[82,69,84,85,82,78]⟩), (244, ⟨#[68,69,76,69,71,65,84,69,67,65,76,76]⟩), (245, ⟨#[67,82,69,65,84,69,50]⟩),
  (250, ⟨#[83,84,65,84,73,67,67,65,76,76]⟩), (253, ⟨#[82,69,86,69,82,84]⟩), (254, ⟨#[73,78,86,65,76,73,68]⟩), (255, ⟨#[83,69,76,70,68,69,83,84,82,85,67,84]⟩), (96, ⟨#[80,85,83,72,49]⟩), (97, ⟨#[80,85,83,72,50]⟩), (98, ⟨#[80,85,83,72,51]⟩),
  (99, ⟨#[80,85,83,72,52]⟩), (100, ⟨#[80,85,83,72,53]⟩), (101, ⟨#[80,85,83,72,54]⟩), (102, ⟨#[80,85,83,72,55]⟩), (103, ⟨#[80,85,83,72,56]⟩), (104, ⟨#[80,85,83,72,57]⟩), (105, ⟨#[80,85,83,72,49,48]⟩), (106, ⟨#[80,85,83,72,49,49]⟩),
  (107, ⟨#[80,85,83,72,49,50]⟩), (108, ⟨#[80,85,83,72,49,51]⟩), (109, ⟨#[80,85,83,72,49,52]⟩), (110, ⟨#[80,85,83,72,49,53]⟩), (111, ⟨#[80,85,83,72,49,54]⟩), (112, ⟨#[80,85,83,72,49,55]⟩), (113, ⟨#[80,85,83,72,49,56]⟩),
  (114, ⟨#[80,85,83,72,49,57]⟩), (115, ⟨#[80,85,83,72,50,48]⟩), (116, ⟨#[80,85,83,72,50,49]⟩), (117, ⟨#[80,85,83,72,50,50]⟩), (118, ⟨#[80,85,83,72,50,51]⟩), (119, ⟨#[80,85,83,72,50,52]⟩), (120, ⟨#[80,85,83,72,50,53]⟩),
  (121, ⟨#[80,85,83,72,50,54]⟩), (122, ⟨#[80,85,83,72,50,55]⟩), (123, ⟨#[80,85,83,72,50,56]⟩), (124, ⟨#[80,85,83,72,50,57]⟩), (125, ⟨#[80,85,83,72,51,48]⟩), (126, ⟨#[80,85,83,72,51,49]⟩), (127, ⟨#[80,85,83,72,51,50]⟩),
  (128, ⟨#[68,85,80,49]⟩), (144, ⟨#[83,87,65,80,49]⟩), (129, ⟨#[68,85,80,50]⟩), (145, ⟨#[83,87,65,80,50]⟩), (130, ⟨#[68,85,80,51]⟩), (146, ⟨#[83,87,65,80,51]⟩), (131, ⟨#[68,85,80,52]⟩), (147, ⟨#[83,87,65,80,52]⟩), (132, ⟨#[68,85,80,53]⟩),
  (148, ⟨#[83,87,65,80,53]⟩), (133, ⟨#[68,85,80,54]⟩), (149, ⟨#[83,87,65,80,54]⟩), (134, ⟨#[68,85,80,55]⟩), (150, ⟨#[83,87,65,80,55]⟩), (135, ⟨#[68,85,80,56]⟩), (151, ⟨#[83,87,65,80,56]⟩), (136, ⟨#[68,85,80,57]⟩), (152, ⟨#[83,87,65,80,57]⟩),
  (137, ⟨#[68,85,80,49,48]⟩), (153, ⟨#[83,87,65,80,49,48]⟩), (138, ⟨#[68,85,80,49,49]⟩), (154, ⟨#[83,87,65,80,49,49]⟩), (139, ⟨#[68,85,80,49,50]⟩), (155, ⟨#[83,87,65,80,49,50]⟩), (140, ⟨#[68,85,80,49,51]⟩), (156, ⟨#[83,87,65,80,49,51]⟩),
  (141, ⟨#[68,85,80,49,52]⟩), (157, ⟨#[83,87,65,80,49,52]⟩), (142, ⟨#[68,85,80,49,53]⟩), (158, ⟨#[83,87,65,80,49,53]⟩), (143, ⟨#[68,85,80,49,54]⟩), (159, ⟨#[83,87,65,80,49,54]⟩), (160, ⟨#[76,79,71,48]⟩), (161, ⟨#[76,79,71,49]⟩),
  (162, ⟨#[76,79,71,50]⟩), (163, ⟨#[76,79,71,51]⟩), (164, ⟨#[76,79,71,52]⟩)]
theorem tabOps_lit : tabOps = tabLit := by decide +kernel
theorem groups_len : groups.length = 51 := rfl
theorem groups_ok : ∀ g ∈ groups, g.2.2.2.2.length ≤ 100 ∧ (wordsOf g.2.2.2.2).length ≤ 16 := by decide +kernel
theorem grp_ok (i : Nat) (h : i < 51) : groups[i]? = some (grp i) ∧ (grp i).2.2.2.2.length ≤ 100 ∧ (wordsOf (grp i).2.2.2.2).length ≤ 16 := by
  have e : groups[i]? = some (grp i) := by
    unfold grp
    rw [List.getD_eq_getElem?_getD, List.getElem?_eq_getElem (by rw [groups_len]; exact h), Option.getD_some]
  exact ⟨e, groups_ok _ (List.mem_of_getElem? e)⟩
theorem tabG_len : ∀ i, i ≤ 51 → (tabG i).length ≤ 16 * i
  | 0, _ => Nat.le_refl _
  | i + 1, h => by
    have h1 := tabG_len i (by omega)
    have h2 := tabW_len (tabG i) (grp i).1 (wordsOf (grp i).2.2.2.2) (wordsOf (grp i).2.2.2.2).length
    have h3 := (grp_ok i (by omega)).2.2
    show (tabW _ _ _ _).length ≤ _
    omega
theorem tabP_len (tab : Tab) : ∀ j, (tabP tab j).length ≤ tab.length + j
  | 0 => Nat.le_refl _
  | j + 1 => Nat.le_trans (putTab_len _ _ _) (by have := tabP_len tab j; omega)
theorem tabD_len (tab : Tab) : ∀ j, (tabD tab j).length ≤ tab.length + 2 * j
  | 0 => Nat.le_refl _
  | j + 1 => Nat.le_trans (putTab_len _ _ _) (Nat.le_trans (Nat.succ_le_succ (putTab_len _ _ _)) (by have := tabD_len tab j; omega))
theorem tabL_len (tab : Tab) : ∀ j, (tabL tab j).length ≤ tab.length + j
  | 0 => Nat.le_refl _
  | j + 1 => Nat.le_trans (putTab_len _ _ _) (by have := tabL_len tab j; omega)
end Mine

end P3_
theorem Mine.rst_W6c : True := by
  w_top off
  first | (walk1; done) | trivial
local macro_rules | `(tactic| k_all) => `(tactic| first | with_reducible assumption | exact Mine.ltAll_ne (by assumption) | exact Mine.allLt_ne (by assumption))
local macro_rules | `(tactic| walk_at "mine:v0") => `(tactic| (intro r9 h9 tk9 tlg F9 N9 _ o9 P9 k9; clear k9; (try dsimp only); (try k_fold)))
section W6c_
open PySem PySem.W PyProof.Rows PySem.Spec PySem.Calls
namespace Mine
local macro_rules
  | `(tactic| walk_at $s) => if ["exec For Name Call cons nil", "pyIter ref", "call type:enumerate"].contains s.getString then `(tactic| (refine Stop.of ?_)) else Lean.Macro.throwUnsupported
local macro_rules
  | `(tactic| walk_at "call ref") => `(tactic| first
  | (k_here; k_dflt (refine' tells_useQ0 (groups_tells _ _ _ _) ?_; k_whole); walk_at "mine:v0")
  | (k_here; k_dflt (refine' op_use (by k_asm) (by k_asm) (by k_asm) (by k_asm) (by k_asm) (by k_asm) (by omega) ?_; k_whole); intro x' d' es' h' tk' hes' F' N' l1 l2; (try k_lt l1); (try k_lt2 l2); (try dsimp only); (try k_fold)))
  | `(tactic| walk_at "exec For Tuple Call cons nil") => `(tactic| (k_here; refine wpAny_For ?_))
  | `(tactic| walk_at "call builtin:str.split") => `(tactic| (k_here; refine KSpl.split1 (by k_asm) (by k_asm) (by decide) ?_ (by rw [sizeLine_eq]; omega); k_whole; intro D' l' h' k' e' a' F' N' l1; (try dsimp only)))
  | `(tactic| walk_at "setItem ref int ref") => `(tactic| (k_here; k_dflt (refine' kda_set (knd := PySem.intKind _ _) (by k_asm) (by k_asm) (by k_updF) (by k_asm) (intKind_is _ _ _ _) (by rw [sizeLine_eq]; omega) ?_); intro h' o' F' N' hd'; (try dsimp only at N')))
structure OSt where
  od : Obj
  tl : Led
  es : List (Int × Value)
  tab : Tab
noncomputable def OInv (w : World) (tab : Tab) (d : Addr) (c : OSt) : Prop := c.od.IsDictOf (PySem.intKind PySem.Challenge.rw_pq0392_01.row.prog w) c.es ∧ OpsIn c.tl c.es c.tab ∧ (∀ p ∈ c.tl, p.1 ≠ d) ∧ c.tab = tab

theorem op_step {w : World} {d x' d' : Addr} {o4 : Obj} {tl : Led} {es : List (Int × Value)} {tab T : Tab} {k : Int} {y : Str} {es2 : List DictEntry} (hd4 : o4.IsDictOf (PySem.intKind PySem.Challenge.rw_pq0392_01.row.prog w) (stored es k (.ref x')))
    (h2 : OpsIn tl es tab) (h3 : ∀ p ∈ tl, p.1 ≠ d) (h4 : tab = T) (hes : OpAt es2 y) (l1 : d < d') (l2 : d' < x') :
    OInv w (putTab T k y) d ⟨o4, (x', instObj 31 d') :: (d', dictOf es2 4) :: tl, stored es k (.ref x'), putTab tab k y⟩ := by
  refine ⟨hd4, OpsIn.put (.head _) (.tail _ (.head _)) hes (h2.mono fun p hp => .tail _ (.tail _ hp)), ?_, by rw [h4]⟩
  intro p hp
  rcases List.mem_cons.mp hp with rfl | hp
  · exact Ne.symm (Nat.ne_of_lt (Nat.lt_trans l1 l2))
  rcases List.mem_cons.mp hp with rfl | hp
  · exact Ne.symm (Nat.ne_of_lt l1)
  · exact h3 p hp
theorem off_put {I d x' d' : Addr} {od o4 X D : Obj} {tlg tl : Led} (ho : ∀ p ∈ (d, od) :: (tlg ++ tl), p.1 ≠ I) (h1 : I < d') (h2 : d' < x') : ∀ p ∈ (d, o4) :: (tlg ++ ((x', X) :: (d', D) :: tl)), p.1 ≠ I := by
  intro p hp
  rcases List.mem_cons.mp hp with rfl | hp
  · exact ho (d, od) (.head _)
  rcases List.mem_append.mp hp with hp | hp
  · exact ho p (.tail _ (List.mem_append.mpr (.inl hp)))
  rcases List.mem_cons.mp hp with rfl | hp
  · exact Ne.symm (Nat.ne_of_lt (Nat.lt_trans h1 h2))
  rcases List.mem_cons.mp hp with rfl | hp
  · exact Ne.symm (Nat.ne_of_lt h1)
  · exact ho p (.tail _ (List.mem_append.mpr (.inr hp)))
theorem off2_put {I K J d x' d' D' : Addr} {oI od o4 X D OD : Obj} {tlg tl : Led} (ho : ∀ p ∈ (D', OD) :: (I, oI) :: (d, od) :: (tlg ++ tl), p.1 ≠ K ∧ p.1 ≠ J) (k1 : K < d') (j1 : J < d') (h2 : d' < x') :
    ∀ p ∈ (D', OD) :: (I, oI) :: (d, o4) :: (tlg ++ ((x', X) :: (d', D) :: tl)), p.1 ∉ [K, J] := by
  have key : ∀ p ∈ (D', OD) :: (I, oI) :: (d, o4) :: (tlg ++ ((x', X) :: (d', D) :: tl)), p.1 ≠ K ∧ p.1 ≠ J := by
    intro p hp
    rcases List.mem_cons.mp hp with rfl | hp
    · exact ho (D', OD) (.head _)
    rcases List.mem_cons.mp hp with rfl | hp
    · exact ho (I, oI) (.tail _ (.head _))
    rcases List.mem_cons.mp hp with rfl | hp
    · exact ho (d, od) (.tail _ (.tail _ (.head _)))
    rcases List.mem_append.mp hp with hp | hp
    · exact ho p (.tail _ (.tail _ (.tail _ (List.mem_append.mpr (.inl hp)))))
    rcases List.mem_cons.mp hp with rfl | hp
    · exact ⟨Ne.symm (Nat.ne_of_lt (Nat.lt_trans k1 h2)), Ne.symm (Nat.ne_of_lt (Nat.lt_trans j1 h2))⟩
    rcases List.mem_cons.mp hp with rfl | hp
    · exact ⟨Ne.symm (Nat.ne_of_lt k1), Ne.symm (Nat.ne_of_lt j1)⟩
    · exact ho p (.tail _ (.tail _ (.tail _ (List.mem_append.mpr (.inr hp)))))
  intro p hp hm
  rcases List.mem_cons.mp hm with e | hm
  · exact (key p hp).1 e
  · exact (key p hp).2 (List.mem_singleton.mp hm)
theorem off_single {I : Addr} {l : Led} (h : ∀ p ∈ l, p.1 ≠ I) : ∀ p ∈ l, p.1 ∉ [I] := fun p hp hm => h p hp (List.mem_singleton.mp hm)

theorem ops_tells (w : World) (mean : ExcName → Option Value) (mg mb : Str → Option Value) :
    Tells w mean mg mb 49 4 [] (fun _ => True) [] (fun r tl _ => ∃ d od es tl', r = .ref d ∧ tl = (d, od) :: tl' ∧ (d == sysModules) = false ∧ od.IsDictOf (PySem.intKind PySem.Challenge.rw_pq0392_01.row.prog w) es ∧ OpsIn tl' es tabOps) := by
  (have hf := fillme; revert hf; k_fill; intro hf; clear hf)
  refine' tells_intro (binds := []) ?k6 ?k7 ?kD ?kB0 ?kB (fun _ _ _ h => h) ?_ ?c2 ?c3 ?c4 ?c5
  ((case k6 => k_dflt k_is); (case k7 => k_dflt k_is); (case kB0 => exact rfl); (case kB => exact locs rfl); (case c5 => decide); (case c2 => exact rfl); (case c3 => exact rfl); (case c4 => exact rfl); (case kD => decide))
  intro dp un gd outer A₀ base g L h₁ s B F N X T hpre hk hd hu
  (try dsimp only); k_fold; 
  k_steps
  rename_i d h' o lo hs fs hi fi l1 h2 F2 N2 r9 h9 tk9 tlg F9 N9 fr9 o9 P9
  refine list_elim P9 ?_
  intro l gvs n9 hl hall
  clear P9
  have hlen : gvs.length = 51 := by rw [hall.length, List.length_map, groups_len]
  have hod : ∀ p ∈ tlg, p.1 ≠ d := fun p hp => o9 p hp (d, o) (List.mem_singleton.mpr rfl)
  clear hs fs fi l1
  refine Stop.out ?_
  refine' for_list (fun c : OSt => (d, c.od) :: (tlg ++ c.tl)) (fun _ => []) [Str.ofString "first", Str.ofString "takes", Str.ofString "gives", Str.ofString "cost", Str.ofString "words", Str.ofString "at", Str.ofString "name"] (fun i c => i ≤ 51 ∧ OInv w (tabG i) d c) ⟨o, [], [], []⟩ rfl F9 N9 ?hn ?hk ?hp ?hsrc ?turn ?done
  case hn => exact fun p hp => by simpa using hp
  case hk => exact fun _ h => nomatch h
  case hp => exact ⟨by omega, hi, .nil, (fun _ h => nomatch h), rfl⟩
  case hsrc => exact fun i c h hP hkk hN => hN.isList (.tail _ (List.mem_append.mpr (.inl hl)))
  case turn =>
    intro i v c u h tk I oI hv hP FF NN ho
    obtain ⟨od, tl, es, tab⟩ := c
    obtain ⟨hi51, hP1, hP2, hP3, hP4⟩ := hP
    dsimp only [kstB] at hP1 hP2 hP3 hP4 FF NN ho
    have hvi : i < 51 := hlen ▸ (List.getElem?_eq_some_iff.mp hv).1
    obtain ⟨hg1, hg2, hg3⟩ := grp_ok i hvi
    have hd' : DatIn tlg v (groupD (grp i)) := dall_at hall hv (by rw [List.getElem?_map, hg1]; rfl)
    clear hv hall hg1
    refine tup5_elim hd' ?_
    intro a n t1 t2 t3 t4 t5 hm
    have hT : IsTup h a #[_, _, _, _, _] := NN.isTup (.tail _ (.tail _ (List.mem_append.mpr (.inl hm))))
    clear hm hd'
    generalize hgrp : grp i = g at *
    obtain ⟨z1, z2, z3, z4, z5⟩ := g
    dsimp only at hg2 hg3 hT
    have hl1 := tabG_len i hi51
    have hl2 := hP2.len
    rw [hP4] at hl2
    clear N9 F9 F2 N2 hlen
    (try dsimp only); (try k_fold); 
    k_steps
    rename_i D' ws' h' kk' e' a' F' N' l1
    have hlw : (strValues ws').length = (wordsOf z5).length := by rw [a'.length, e']; rfl
    generalize hws : strValues ws' = wvs at *
    rw [e'] at a'
    replace a' : StrsAre wvs (wordsOf z5) := a'
    have hnI : I ≠ d := Ne.symm (ho (d, od) (.head _))
    have hnD : D' ≠ d := Ne.symm (Nat.ne_of_lt (l1 (d, od) (.tail _ (.head _))))
    refine Stop.out ?_
    refine' for_enum (fun c : OSt => (D', listOf wvs.toArray 0) :: (I, oI) :: (d, c.od) :: (tlg ++ c.tl)) (fun _ => []) [Str.ofString "at", Str.ofString "name"] (fun j c => j ≤ (wordsOf z5).length ∧ OInv w (tabW (tabG i) z1 (wordsOf z5) j) d c ∧ ∀ p ∈ c.tl, p.1 ≠ I ∧ p.1 ≠ D') ⟨od, tl, es, tab⟩ rfl F' N' ?hn ?hk ?hp ?hsrc ?turn2 ?done2
    case hn => exact fun _ h => h
    case hk => exact fun _ h => nomatch h
    case hp => exact ⟨Nat.zero_le _, ⟨hP1, hP2, hP3, hP4⟩, fun p hp => ⟨ho p (.tail _ (List.mem_append.mpr (.inr hp))), Nat.ne_of_lt (l1 p (.tail _ (.tail _ (List.mem_append.mpr (.inr hp)))))⟩⟩
    case hsrc => exact fun j c h hP hkk hN => hN.isList (.head _)
    case turn2 =>
      intro j v t T c u h tk K oK J oJ hv hP hT FF NN hoo
      obtain ⟨od, tl, es, tab⟩ := c
      obtain ⟨hj, ⟨hQ1, hQ2, hQ3, hQ4⟩, hQ5⟩ := hP
      dsimp only [kstB] at hQ1 hQ2 hQ3 hQ4 hQ5 FF NN hoo
      obtain ⟨y, ty, rfl, hy⟩ := a'.item _ _ hv
      have hjl : j < (wordsOf z5).length := (List.getElem?_eq_some_iff.mp hy).1
      have hl3 := tabW_len (tabG i) z1 (wordsOf z5) j
      have hl4 := hQ2.len
      rw [hQ4] at hl4
      have hnK : K ≠ d := Ne.symm (hoo (d, od) (.tail _ (.tail _ (.head _)))).1
      have hnJ : J ≠ d := Ne.symm (hoo (d, od) (.tail _ (.tail _ (.head _)))).2
      have hnA : ∀ p ∈ tlg ++ tl, p.1 ≠ d := fun p hp => (List.mem_append.mp hp).elim (hod p) (hQ3 p)
      (try dsimp only); (try k_fold); 
      k_steps
      rename_i x' d' es2 h3 tk3 hes F3 N3 l1' l2' h4 o4 F4 N4 hd4
      refine' k_done ⟨o4, (x', instObj 31 d') :: (d', dictOf es2 4) :: tl, stored es (z1 + (j : Int)) (.ref x'), putTab tab (z1 + (j : Int)) y⟩ ?zF ?zN ?zI ?zn ?zo ?zk ?zr ?zp
      (case zF => k_asm)
      (case zN => k_asm)
      (case zI => exact sub_head (by k_mem) (sub_head (by k_mem) sub_nil))
      (case zn => exact (sub_head (by k_mem) (sub_head (by k_mem) (sub_head (by k_mem) (sub_app (sub_skip (sub_skip (sub_skip (sub_skip (sub_skip (sub_skip (sub_skip sub_left))))))) (sub_head (by k_mem) (sub_head (by k_mem) (sub_skip (sub_skip (sub_skip (sub_skip (sub_skip (sub_skip (sub_skip sub_right))))))))))))))
      (case zo => exact off2_put hoo l1'.1 l1'.2.1 l2')
      (case zk => exact fun _ h => nomatch h)
      (case zr => ksw_same)
      (case zp =>
        refine ⟨hjl, ⟨hd4, ?_, ?_, ?_⟩, ?_⟩
        · exact OpsIn.put (.head _) (.tail _ (.head _)) hes (hQ2.mono fun p hp => .tail _ (.tail _ hp))
        · intro p hp
          rcases List.mem_cons.mp hp with rfl | hp
          · exact Ne.symm (Nat.ne_of_lt (Nat.lt_trans l1'.2.2.2.2.1 l2'))
          rcases List.mem_cons.mp hp with rfl | hp
          · exact Ne.symm (Nat.ne_of_lt l1'.2.2.2.2.1)
          · exact hQ3 p hp
        · show putTab tab _ y = putTab _ _ _
          rw [hQ4, List.getD_eq_getElem?_getD, hy, Option.getD_some]
        · intro p hp
          rcases List.mem_cons.mp hp with rfl | hp
          · exact ⟨Ne.symm (Nat.ne_of_lt (Nat.lt_trans l1'.2.2.2.1 l2')), Ne.symm (Nat.ne_of_lt (Nat.lt_trans l1'.2.2.1 l2'))⟩
          rcases List.mem_cons.mp hp with rfl | hp
          · exact ⟨Ne.symm (Nat.ne_of_lt l1'.2.2.2.1), Ne.symm (Nat.ne_of_lt l1'.2.2.1)⟩
          · exact hQ5 p hp)
    case done2 =>
      intro c u h tk hP FF NN
      obtain ⟨od, tl, es, tab⟩ := c
      obtain ⟨hj, ⟨hQ1, hQ2, hQ3, hQ4⟩, hQ5⟩ := hP
      dsimp only [kstB] at hQ1 hQ2 hQ3 hQ4 hQ5 FF NN
      (try dsimp only); (try k_fold); 
      k_steps
      refine' for_end ⟨od, tl, es, tab⟩ ?yF ?yN ?yI ?yn ?yo ?yk ?yr ?yp
      (case yF => k_asm)
      (case yN => k_asm)
      (case yI => exact .tail _ (.head _))
      (case yn => exact fun p hp => .tail _ (.tail _ hp))
      (case yo =>
        intro p hp
        rcases List.mem_cons.mp hp with rfl | hp
        · exact Ne.symm hnI
        rcases List.mem_append.mp hp with hp | hp
        · exact ho p (.tail _ (List.mem_append.mpr (.inl hp)))
        · exact (hQ5 p hp).1)
      (case yk => exact fun _ h => nomatch h)
      (case yr => ksw_same)
      (case yp =>
        refine ⟨hvi, hQ1, hQ2, hQ3, ?_⟩
        show tab = tabW (tabG i) (grp i).1 (wordsOf (grp i).2.2.2.2) (wordsOf (grp i).2.2.2.2).length
        rw [hgrp, hQ4, hlw])
  case done =>
    intro c u h tk hP FF NN
    obtain ⟨od, tl, es, tab⟩ := c
    obtain ⟨hi51, hP1, hP2, hP3, hP4⟩ := hP
    dsimp only [kstB] at hP1 hP2 hP3 hP4 FF NN
    rw [hlen] at hP4
    clear N9 F9 F2 N2 hall hl
    (try dsimp only); (try k_fold); 
    k_steps
    refine Stop.out ?_
    refine wpAny_For ?_
    k_steps
    rename_i h1 tk1 t1 u1 v1 hR F1 N1 k1
    refine Stop.out ?_
    refine' for_range (n := 32) (fun c : OSt => (d, c.od) :: (tlg ++ c.tl)) (fun _ => []) [Str.ofString "size"] (fun i c => i ≤ 32 ∧ OInv w (tabP (tabG 51) i) d c) ⟨od, tl, es, tab⟩ rfl hR (by decide) (by decide) F1 N1 ?hn32 ?hk32 ?hp32 ?turn32 ?done32
    case hn32 => exact fun p hp => by simpa using hp
    case hk32 => exact fun _ h => nomatch h
    case hp32 => exact ⟨Nat.zero_le _, hP1, hP2, hP3, hP4⟩
    case turn32 =>
      clear F1 N1 k1 hR hP1 hP2 hP3 hP4
      intro i t c u h tk I oI hi32 hP FF NN ho
      obtain ⟨od, tl, es, tab⟩ := c
      obtain ⟨hj, hQ1, hQ2, hQ3, hQ4⟩ := hP
      dsimp only [kstB] at hQ1 hQ2 hQ3 hQ4 FF NN ho
      have hl3 := tabP_len (tabG 51) i
      have hl4 := hQ2.len
      have hl5 := tabG_len 51 (Nat.le_refl _)
      have hl6 := stored_length_le es (0 + (1 + (i : Int))) .none
      rw [hQ4] at hl4
      have hnI : I ≠ d := Ne.symm (ho (d, od) (.head _))
      have hnA : ∀ p ∈ tlg ++ tl, p.1 ≠ d := fun p hp => (List.mem_append.mp hp).elim (hod p) (hQ3 p)
      (try dsimp only); (try k_fold); 
      k_steps
      rename_i x' d' es2 h3 tk3 hes F3 N3 l1' l2' h4 o4 F4 N4 hd4
      refine' k_done ⟨o4, (x', instObj 31 d') :: (d', dictOf es2 4) :: tl, stored es (95 + (1 + (i : Int))) (.ref x'), putTab tab (95 + (1 + (i : Int))) (Str.ofString "PUSH" ++ intText (1 + (i : Int)))⟩ ?zF ?zN ?zI ?zn ?zo ?zk ?zr ?zp
      (case zF => k_asm)
      (case zN => k_asm)
      (case zI => exact sub_head (by k_mem) sub_nil)
      (case zn => exact (sub_head (by k_mem) (sub_app (sub_skip (sub_skip (sub_skip (sub_skip sub_left)))) (sub_head (by k_mem) (sub_head (by k_mem) (sub_skip (sub_skip (sub_skip (sub_skip sub_right)))))))))
      (case zo => exact off_single (off_put ho l1'.1 l2'))
      (case zk => exact fun _ h => nomatch h)
      (case zr => ksw_same)
      (case zp => exact ⟨hi32, op_step hd4 hQ2 hQ3 hQ4 hes l1'.2.1 l2'⟩)
    case done32 =>
      clear F1 N1 k1 hR hP1 hP2 hP3 hP4
      intro c u h tk hP FF NN
      obtain ⟨od, tl, es, tab⟩ := c
      obtain ⟨hi51, hP1, hP2, hP3, hP4⟩ := hP
      dsimp only [kstB] at hP1 hP2 hP3 hP4 FF NN
      (try dsimp only); (try k_fold); 
      k_steps
      refine Stop.out ?_
      refine wpAny_For ?_
      k_steps
      rename_i h1 tk1 t1 u1 v1 hR F1 N1 k1
      refine Stop.out ?_
      refine' for_range (n := 16) (fun c : OSt => (d, c.od) :: (tlg ++ c.tl)) (fun _ => []) [Str.ofString "depth"] (fun i c => i ≤ 16 ∧ OInv w (tabD (tabP (tabG 51) 32) i) d c) ⟨od, tl, es, tab⟩ rfl hR (by decide) (by decide) F1 N1 ?hn16 ?hk16 ?hp16 ?turn16 ?done16
      case hn16 => exact fun p hp => by simpa using hp
      case hk16 => exact fun _ h => nomatch h
      case hp16 => exact ⟨Nat.zero_le _, hP1, hP2, hP3, hP4⟩
      case turn16 =>
        clear F1 N1 k1 hR hP1 hP2 hP3 hP4
        intro i t c u h tk I oI hi32 hP FF NN ho
        obtain ⟨od, tl, es, tab⟩ := c
        obtain ⟨hj, hQ1, hQ2, hQ3, hQ4⟩ := hP
        dsimp only [kstB] at hQ1 hQ2 hQ3 hQ4 FF NN ho
        have hl3 := tabD_len (tabP (tabG 51) 32) i
        have hl4 := hQ2.len
        have hl5 := Nat.le_trans (tabP_len (tabG 51) 32) (Nat.add_le_add_right (tabG_len 51 (Nat.le_refl _)) 32)
        have hl6 := stored_length_le es (127 + (1 + (i : Int))) .none
        rw [hQ4] at hl4
        have hnI : I ≠ d := Ne.symm (ho (d, od) (.head _))
        have hnA : ∀ p ∈ tlg ++ tl, p.1 ≠ d := fun p hp => (List.mem_append.mp hp).elim (hod p) (hQ3 p)
        (try dsimp only); (try k_fold); 
        k_steps
        rename_i x1 d1 es1 h3 tk3 hes1 F3 N3 l1a l2a h4 o4 F4 N4 hd4 t4 k4 a4 x2 d2 es2 h5 tk5 hes2 F5 N5 l1b l2b
        have hl7 := stored_length_le es (127 + (1 + (i : Int))) (.ref x1)
        clear F3 N3 F4 N4
        k_steps
        rename_i h6 o6 F6 N6 hd6
        refine' k_done ⟨o6, (x2, instObj 31 d2) :: (d2, dictOf es2 4) :: (x1, instObj 31 d1) :: (d1, dictOf es1 4) :: tl, stored (stored es (127 + (1 + (i : Int))) (.ref x1)) (143 + (1 + (i : Int))) (.ref x2), putTab (putTab tab (127 + (1 + (i : Int))) (Str.ofString "DUP" ++ intText (1 + (i : Int)))) (143 + (1 + (i : Int))) (Str.ofString "SWAP" ++ intText (1 + (i : Int)))⟩ ?zF ?zN ?zI ?zn ?zo ?zk ?zr ?zp
        (case zF => k_asm)
        (case zN => k_asm)
        (case zI => exact sub_head (by k_mem) sub_nil)
        (case zn => exact (sub_head (by k_mem) (sub_app (sub_skip (sub_skip (sub_skip (sub_skip (sub_skip (sub_skip sub_left)))))) (sub_head (by k_mem) (sub_head (by k_mem) (sub_head (by k_mem) (sub_head (by k_mem) (sub_skip (sub_skip (sub_skip (sub_skip (sub_skip (sub_skip sub_right)))))))))))))
        (case zo => exact off_single (off_put (off_put ho l1a.1 l2a (o4 := o4)) l1b.2.2.1 l2b))
        (case zk => exact fun _ h => nomatch h)
        (case zr => ksw_same)
        (case zp =>
          have hst := op_step hd4 hQ2 hQ3 hQ4 hes1 l1a.2.1 l2a
          exact ⟨hi32, op_step hd6 hst.2.1 hst.2.2.1 hst.2.2.2 hes2 l1b.2.2.2.1 l2b⟩)
      case done16 =>
        clear F1 N1 k1 hR hP1 hP2 hP3 hP4
        intro c u h tk hP FF NN
        obtain ⟨od, tl, es, tab⟩ := c
        obtain ⟨hi51, hP1, hP2, hP3, hP4⟩ := hP
        dsimp only [kstB] at hP1 hP2 hP3 hP4 FF NN
        (try dsimp only); (try k_fold); 
        k_steps
        refine Stop.out ?_
        refine wpAny_For ?_
        k_steps
        rename_i h1 tk1 t1 u1 v1 hR F1 N1 k1
        refine Stop.out ?_
        refine' for_range (n := 5) (fun c : OSt => (d, c.od) :: (tlg ++ c.tl)) (fun _ => []) [Str.ofString "many"] (fun i c => i ≤ 5 ∧ OInv w (tabL (tabD (tabP (tabG 51) 32) 16) i) d c) ⟨od, tl, es, tab⟩ rfl hR (by decide) (by decide) F1 N1 ?hn5 ?hk5 ?hp5 ?turn5 ?done5
        case hn5 => exact fun p hp => by simpa using hp
        case hk5 => exact fun _ h => nomatch h
        case hp5 => exact ⟨Nat.zero_le _, hP1, hP2, hP3, hP4⟩
        case turn5 =>
          clear F1 N1 k1 hR hP1 hP2 hP3 hP4
          intro i t c u h tk I oI hi32 hP FF NN ho
          obtain ⟨od, tl, es, tab⟩ := c
          obtain ⟨hj, hQ1, hQ2, hQ3, hQ4⟩ := hP
          dsimp only [kstB] at hQ1 hQ2 hQ3 hQ4 FF NN ho
          have hl3 := tabL_len (tabD (tabP (tabG 51) 32) 16) i
          have hl4 := hQ2.len
          have hl5 := Nat.le_trans (tabD_len (tabP (tabG 51) 32) 16) (Nat.add_le_add_right (Nat.le_trans (tabP_len (tabG 51) 32) (Nat.add_le_add_right (tabG_len 51 (Nat.le_refl _)) 32)) 32)
          have hl6 := stored_length_le es (0 + (0 + (i : Int))) .none
          rw [hQ4] at hl4
          have hnI : I ≠ d := Ne.symm (ho (d, od) (.head _))
          have hnA : ∀ p ∈ tlg ++ tl, p.1 ≠ d := fun p hp => (List.mem_append.mp hp).elim (hod p) (hQ3 p)
          (try dsimp only); (try k_fold); 
          k_steps
          rename_i x' d' es2 h3 tk3 hes F3 N3 l1' l2' h4 o4 F4 N4 hd4
          refine' k_done ⟨o4, (x', instObj 31 d') :: (d', dictOf es2 4) :: tl, stored es (160 + (0 + (i : Int))) (.ref x'), putTab tab (160 + (0 + (i : Int))) (Str.ofString "LOG" ++ intText (0 + (i : Int)))⟩ ?zF ?zN ?zI ?zn ?zo ?zk ?zr ?zp
          (case zF => k_asm)
          (case zN => k_asm)
          (case zI => exact sub_head (by k_mem) sub_nil)
          (case zn => exact (sub_head (by k_mem) (sub_app (sub_skip (sub_skip (sub_skip (sub_skip sub_left)))) (sub_head (by k_mem) (sub_head (by k_mem) (sub_skip (sub_skip (sub_skip (sub_skip sub_right)))))))))
          (case zo => exact off_single (off_put ho l1'.1 l2'))
          (case zk => exact fun _ h => nomatch h)
          (case zr => ksw_same)
          (case zp => exact ⟨hi32, op_step hd4 hQ2 hQ3 hQ4 hes l1'.2.1 l2'⟩)
        case done5 =>
          clear F1 N1 k1 hR hP1 hP2 hP3 hP4
          intro c u h tk hP FF NN
          obtain ⟨od, tl, es, tab⟩ := c
          obtain ⟨hi51, hP1, hP2, hP3, hP4⟩ := hP
          dsimp only [kstB] at hP1 hP2 hP3 hP4 FF NN
          (try dsimp only); (try k_fold); 
          k_steps
          (try dsimp only)
          refine' BodyPost.ret0 ((d, od) :: (tlg ++ tl)) ?xF ?xN (fun _ h => h) ⟨d, od, es, tlg ++ tl, rfl, rfl, lo, hP1, ?_⟩
          (case xF => k_asm)
          (case xN => k_asm)
          rw [show tabOps = tab from hP4.symm]
          exact hP2.mono fun p hp => List.mem_append.mpr (.inr hp)
end Mine

end W6c_
theorem Mine.rst_BASE4 : True := by
  w_top off
  first | (walk1; done) | trivial
section BASE4_
open PySem PySem.W PyProof.Rows PySem.Spec PySem.Calls PyProof.Rows.LCg
namespace Mine
section
variable {prog : Program} {w : World} {A : Around} {s : Shared} {h₀ : Heap} {L : Addr} {m : Str → Option Value} {env : Env}
theorem comp_end_mono {I : Addr} {oI : Obj} {C : Addr} {oC : Obj} {D : Addr} {oD : Obj} {S : Led → Prop} {r1 r2 : Value → Led → Prop} {y : Value} {s₁ s₂ : Shared} (hr : ∀ y nx, r1 y nx → r2 y nx)
    (h : CompEnd h₀ L m s₁ I oI C oC D oD S r1 y s₂) : CompEnd h₀ L m s₁ I oI C oC D oD S r2 y s₂ :=
  let ⟨h', tk, nx, a, b, c, d, e, f⟩ := h; ⟨h', tk, nx, a, b, c, d, e, hr _ _ f⟩
theorem kcp_rest {α : Type} {f : α → (Tok → Value) × Value} {elt : PySem.Expr} {a b : Str} {scope : Scope} {cl : List (Str × Addr)} {S : Led → Prop} {Fin : List Value → Led → Prop} (J : List α → List Value → Led → Prop)
    (done : ∀ ys nx, J [] ys nx → Fin ys nx)
    (turn : ∀ p r ys nx, J (p :: r) ys nx → ∀ (t : Tok) I oI C oC D m₂ h tk (E' : Value → Shared → Prop), NsObj oC m₂ → m₂ a = some ((f p).1 t) → m₂ b = some (f p).2 → Fr h₀ L h m → News h₀ L h ((I, oI) :: (C, oC) :: (D, lst ys) :: nx) → Off3 I C D nx → ((@Ne Nat I C) ∧ (@Ne Nat I D) ∧ (@Ne Nat C D)) →
      wpAny (model prog w) A (eval elt (compEnvC scope cl C env)) (CompEnd h₀ L m { s with heap := h, toks := tk } I oI C oC D (lst ys) S (fun y nx' => J r (ys ++ [y]) nx')) E' { s with heap := h, toks := tk }) :
    ∀ (l : List α) ys nx, J l ys nx → KcpRest prog w A h₀ L m env elt a b scope cl s S Fin (l.map f) ys nx
  | [], ys, nx, hj => done ys nx hj
  | p :: r, ys, nx, hj => fun t I oI C oC D m₂ h tk E' z1 z2 z3 z4 z5 z6 z7 =>
    wpAny_mono (turn p r ys nx hj t I oI C oC D m₂ h tk E' z1 z2 z3 z4 z5 z6 z7) (fun _ _ he => comp_end_mono (fun _ _ q => kcp_rest J done turn r _ _ q) he) fun _ _ e => e
theorem comp_rest {elt : PySem.Expr} {x : Str} {scope : Scope} {cl : List (Str × Addr)} {S : Led → Prop} {P : Nat → Value → Prop} {Fin : List Value → Led → Prop} (n : Nat) (J : Nat → List Value → Led → Prop)
    (done : ∀ ys nx, J n ys nx → Fin ys nx)
    (turn : ∀ i ys nx, i < n → J i ys nx → ∀ v I oI C oC D m₂ h tk (E' : Value → Shared → Prop), P i v → NsObj oC m₂ → m₂ x = some v → Fr h₀ L h m → News h₀ L h ((I, oI) :: (C, oC) :: (D, lst ys) :: nx) → Off3 I C D nx → ((@Ne Nat I C) ∧ (@Ne Nat I D) ∧ (@Ne Nat C D)) →
      wpAny (model prog w) A (eval elt (compEnvC scope cl C env)) (CompEnd h₀ L m { s with heap := h, toks := tk } I oI C oC D (lst ys) S (fun y nx' => J (i + 1) (ys ++ [y]) nx')) E' { s with heap := h, toks := tk }) :
    ∀ (k i : Nat) ys nx, i + k = n → J i ys nx → CompRest prog w A h₀ L m env elt x scope cl s S P Fin k i ys nx
  | 0, i, ys, nx, hi, hj => done ys nx (by rw [← hi]; exact hj)
  | k + 1, i, ys, nx, hi, hj => fun v I oI C oC D m₂ h tk E' z0 z1 z2 z4 z5 z6 z7 =>
    wpAny_mono (turn i ys nx (by omega) hj v I oI C oC D m₂ h tk E' z0 z1 z2 z4 z5 z6 z7) (fun _ _ he => comp_end_mono (fun _ _ q => comp_rest n J done turn k (i + 1) _ _ (by omega) q) he) fun _ _ e => e
theorem off3_of {I C D : Addr} {l : Led} (h : ∀ p ∈ l, p.1 ≠ I ∧ p.1 ≠ C ∧ p.1 ≠ D) : Off3 I C D l := Off3.of h
end
end Mine

end BASE4_
theorem Mine.rst_D1 : True := by
  w_top off
  first | (walk1; done) | trivial
section D1_
open PySem PySem.W PyProof.Rows PySem.Spec PySem.Calls PyProof.Rows.LCg
namespace Mine
theorem list_no_keys : typeLookup (.type "list") (Str.ofString "keys") = pure none := am_miss_of_fast (by decide +kernel)
theorem keys_miss {prog : Program} {w : World} {A : Around} {E : Value → Shared → Prop} {s : Shared} {a : Addr} {o : Obj} {xs : Array Value} {k : Nat} {Q : Option Value → Shared → Prop}
    (hx : s.heap.get? a = some o) (hc : o.cls = .type "list") (hdat : o.data = .seq xs k) (hd : o.dict = none) (hA : A.handled = none)
    (h : ∀ h' tk, (∀ b ob, s.heap.get? b = some ob → h'.get? b = some ob) → Q none { s with heap := h', toks := tk }) :
    wpAny (model prog w) A (getAttr? (.ref a) (Str.ofString "keys")) Q E s := by
  obtain ⟨c, dct, dat, sl⟩ := o
  simp only at hc hdat hd
  subst hc hdat hd
  obtain ⟨hp, g, d, tk, os⟩ := s
  have hT : ∀ tk', (⟨hp, g, d, tk', os⟩ : Shared).TypeIs (.ref a) "list" := fun _ => ⟨_, hx, rfl⟩
  have f1 := sub_AttributeError
  have f3 := F.slot_list_getattribute.lookup
  have f4 := F.slot_list_getattribute.bind (.ref a)
  have f5 := am_list_getattr_none
  unfold getAttr? getAttrBy? getAttrBy
  repeat (any_goals (first | assumption | exact hT _ | ((with_reducible show wpAny _ _ (call (Value.builtin "list.__getattribute__") _ _) _ _ _); refine call_meets F.slot_list_getattribute (hT _) am_entry_list_getattribute (F.args_list_getattribute_2 _ _) (meets_getattribute_miss_list a xs k sl _ _ list_no_keys (by decide)) ⟨hx, hA, fun h' tk' e hx' => ?_⟩) | wp_step))
  obtain ⟨t', u', he⟩ := hx'.there
  show wpAny _ _ (getattributeRaised _ _ _ _ _ _ _) _ _ _
  unfold getattributeRaised
  repeat (any_goals (first | assumption | wp_step))
  refine h _ _ ?_
  exact hx'.keeps
theorem entry_dict_update_loop : entryFor table "dict.update.loop" = some Builtin.«dict.update.loop» := entryFor_of_fast (by kernel_rfl)
theorem plain_dict_update_loop : plainId "dict.update.loop" = true := by decide +kernel
section
variable {prog : Program} {w : World} {A : Around} {R : Result → Shared → Prop} {K : Type} [DecidableEq K] {knd : KeyKind prog w K}
theorem dict_loop {s : Shared} {I l d : Addr} {vs : List Value} {ks : List (K × Value)} (hA : A.in1.handled = none) (hdI : d ≠ I) (hld : l ≠ d) (hlI : l ≠ I) (hlen : vs.length = ks.length) (hsz : ks.length ≤ sizeLine) :
    ∀ (n i : Nat) (h : Heap) (tk : Nat) (acc : List (K × Value)), vs.length - i = n → i ≤ vs.length → h.IsListIter I l i → h.IsList l vs.toArray → h.DictOf knd d acc → acc.length ≤ i →
      (∀ (j : Nat) (p : K × Value), ks[j]? = some p → ∃ (T : Addr) (key : Value), vs[j]? = some (.ref T) ∧ IsTup h T #[key, p.2] ∧ knd.is p.1 key = true ∧ T ≠ d ∧ T ≠ I) →
      (∀ h' tk', (∀ b o, b ≠ d → b ≠ I → h.get? b = some o → h'.get? b = some o) → h'.DictOf knd d ((ks.drop i).foldl (fun a p => stored a p.1 p.2) acc) → R (.ok (.ret .none)) { s with heap := h', toks := tk' }) →
      codeAny (model prog w) A (.builtin "dict.update.loop" ⟨[.ref d, .ref I, rawInt (i : Int), .none], []⟩) R { s with heap := h, toks := tk } := by
  intro n
  induction n with
  | zero =>
    intro i h tk acc hn hi hit hl hd hal hks hR
    have hin : i = vs.length := by omega
    subst hin
    refine codeAny_builtin entry_dict_update_loop ?_
    rw [Around.under_plainId plain_dict_update_loop _]
    show wpAny _ A.in1 (pyNext (.ref I) >>= _) _ _ _
    refine wpAny_bind (wpAny_pyNext_list_end hA hit hl (by simp) fun h' hb => ?_)
    have hdr : ks.drop vs.length = [] := by rw [hlen, List.drop_length]
    rw [hdr] at hR
    show wpAny _ _ (Builtin.Dict.addKeywords d [] >>= _) _ _ _
    refine wpAny_bind (wpAny_pure (wpAny_pure ?_))
    exact hR h' tk (fun b o _ hbI e => hb b o hbI e) (hd.extBut hb hdI)
  | succ n ih =>
    intro i h tk acc hn hi hit hl hd hal hks hR
    have hlt : i < vs.length := by omega
    have hlt' : i < ks.length := by omega
    obtain ⟨p, hp⟩ : ∃ p, ks[i]? = some p := ⟨_, List.getElem?_eq_getElem hlt'⟩
    obtain ⟨T, key, hv, hT, hkey, hTd, hTI⟩ := hks i p hp
    refine codeAny_builtin entry_dict_update_loop ?_
    rw [Around.under_plainId plain_dict_update_loop _]
    show wpAny _ A.in1 (pyNext (.ref I) >>= _) _ _ _
    refine wpAny_bind (wpAny_pyNext_list_item hit hl (x := .ref T) (by simpa using hv) fun h' hit' hs => ?_)
    show wpAny _ A.in1 (holding [Value.ref T] _ >>= _) _ _ _
    have hk1 : ∀ b o, b ≠ I → h.get? b = some o → h'.get? b = some o := fun b o hb e => hs.extBut b o hb e
    obtain ⟨oT, hoT, hcT, nT, hdT⟩ := id hT
    have hoT' := hk1 T oT hTI hoT
    have hd' : h'.DictOf knd d acc := hd.extBut hs.extBut hdI
    refine wpAny_bind (wpAny_holding ?_)
    refine wpAny_bind (m := tryCatch _ _) (wpAny_tryCatch ?_)
    unfold Builtin.Dict.pairItems
    refine wpAny_bind (wpAny_typeOf (T := "tuple") ⟨oT, hoT', hcT⟩ ?_)
    show wpAny _ _ (seqItems? (.ref T) >>= _) _ _ _
    refine wpAny_bind (wpAny_seqItems hoT' hdT (wpAny_pure ?_))
    show wpAny _ _ (holding [key, p.2] (dictSet d key p.2)) _ _ _
    refine wpAny_holding (wpAny_dictSet_pairs (hsz := by omega) hkey hd' fun h2 hd2 hs2 => ?_)
    refine wpAny_pure ?_
    have hk2 : ∀ b o, b ≠ d → b ≠ I → h.get? b = some o → h2.get? b = some o := fun b o hb hbI e => hs2.extBut b o hb (hk1 b o hbI e)
    obtain ⟨oI, hoI, hcI, hdI2⟩ := id hit'
    obtain ⟨ol, hol, hcl, nl, hdl⟩ := id hl
    have hsl := stored_length_le acc p.1 p.2
    refine ⟨plainId_quiet plain_dict_update_loop _, ?_⟩
    refine ih (i + 1) h2 _ (stored acc p.1 p.2) (by omega) hlt ⟨oI, hs2.extBut I oI (Ne.symm hdI) hoI, hcI, hdI2⟩ ⟨ol, hk2 l ol hld hlI hol, hcl, nl, hdl⟩ hd2 (by omega) (fun j q hq => ?_) fun h3 tk3 hk3 hd3 => ?_
    · obtain ⟨T', key', a1, ⟨o1, a2, a3⟩, a4, a5, a6⟩ := hks j q hq
      exact ⟨T', key', a1, ⟨o1, hk2 T' o1 a5 a6 a2, a3⟩, a4, a5, a6⟩
    · refine hR h3 tk3 (fun b o hb hbI e => hk3 b o hb hbI (hk2 b o hb hbI e)) ?_
      have hdr : ks.drop i = p :: ks.drop (i + 1) := by
        rw [List.drop_eq_getElem_cons hlt']
        congr 1
        exact Option.some.inj ((List.getElem?_eq_getElem hlt').symm.trans hp)
      rw [hdr]
      exact hd3
end
end Mine

end D1_
theorem Mine.rst_D2 : True := by
  w_top off
  first | (walk1; done) | trivial
section D2_
open PySem PySem.W PyProof.Rows PySem.Spec PySem.Calls PyProof.Rows.LCg
namespace Mine
section
variable {prog : Program} {w : World} {A : Around} {E : Value → Shared → Prop} {s : Shared} {K : Type} [DecidableEq K] {knd : KeyKind prog w K}
theorem call_dict_pairs {l : Addr} {vs : List Value} {n : Nat} {ks : List (K × Value)} {Q : Value → Shared → Prop} (hA : A.handled = none) (hl : s.heap.get? l = some (listOf vs.toArray n)) (hlen : vs.length = ks.length) (hsz : ks.length ≤ sizeLine)
    (hks : ∀ (j : Nat) (p : K × Value), ks[j]? = some p → ∃ (T : Addr) (key : Value), vs[j]? = some (.ref T) ∧ IsTup s.heap T #[key, p.2] ∧ knd.is p.1 key = true)
    (h : ∀ h' tk', (∀ b o, s.heap.get? b = some o → h'.get? b = some o) → h'.DictOf knd s.heap.objs.size (ks.foldl (fun a p => stored a p.1 p.2) []) → Q (.ref s.heap.objs.size) { s with heap := h', toks := tk' }) :
    wpAny (model prog w) A (call (.type "dict") [.ref l]) Q E s := by
  refine callType_codes (Q₁ := fun obj s₁ => obj = .ref s.heap.objs.size ∧ s₁ = { s with heap := s.heap.push { cls := .type "dict", data := .dict #[] } }) F.kt_called_dict (F.kt_typeCall_dict_1 _) F.entry_dict_init (kt_code_dict_new _ ⟨rfl, rfl⟩) ?_
  rintro obj s₁ ⟨rfl, rfl⟩
  have hnew : (s.heap.push { cls := .type "dict", data := .dict #[] }).DictOf knd s.heap.objs.size [] := Heap.DictOf.new s.heap
  have hl' : (s.heap.push { cls := .type "dict", data := .dict #[] }).get? l = some (listOf vs.toArray n) := Heap.get?_push_of_some _ hl
  have hlt := Heap.lt_size hl
  have hsd : (s.heap.push { cls := .type "dict", data := .dict #[] }).objs.size = s.heap.objs.size + 1 := Heap.size_push _ _
  refine ⟨hnew.typeIs, F.args_dict_init_2 _ _, ?_⟩
  unfold Builtin.«dict.__init__»
  refine wpAny_bind ?_
  unfold Builtin.Dict.selfAndRest
  refine wpAny_bind (wpAny_notOrdered_dict hnew.typeIs ?_)
  show wpAny _ _ (pure (s.heap.objs.size, [Value.ref l])) _ _ _
  refine wpAny_pure ?_
  show wpAny _ _ (Builtin.Dict.updateFrom "dict.__init__" s.heap.objs.size (.ref l) [] .none) _ _ _
  unfold Builtin.Dict.updateFrom
  refine wpAny_bind (wpAny_typeOf (T := "list") ⟨_, hl', rfl⟩ ?_)
  rw [if_pos (by decide)]
  refine wpAny_bind (keys_miss (A := A.in1.in1) hl' rfl rfl rfl hA fun h1 tk1 k1 => ?_)
  rw [if_pos (show (Option.none : Option Value).isNone = true from rfl)]
  refine wpAny_bind (wpAny_rule ?_)
  have hls : h1.IsList l vs.toArray := ⟨_, k1 _ _ hl', rfl, _, rfl⟩
  refine wpAny_bind (wpAny_pyIter_list hls ?_)
  refine wpAny_pure ⟨plainId_quiet plain_dict_update_loop _, ?_⟩
  have hlt1 : s.heap.objs.size < h1.objs.size := by
    have : (s.heap.push { cls := .type "dict", data := .dict #[] }).get? s.heap.objs.size = some _ := Heap.get?_push_size _ rfl
    exact Heap.lt_size (k1 _ _ this)
  have hll1 : l < h1.objs.size := Heap.lt_size (k1 _ _ hl')
  have up : ∀ b o, s.heap.get? b = some o → h1.get? b = some o := fun b o e => k1 _ _ (Heap.get?_push_of_some _ e)
  refine dict_loop (A := A.in1) (s := s) (knd := knd) (ks := ks) hA (Nat.ne_of_lt hlt1) (Nat.ne_of_lt hlt) (Nat.ne_of_lt hll1) hlen hsz vs.length 0 _ _ [] rfl (Nat.zero_le _) ?_ ?_ ?_ (Nat.le_refl _) (fun j p hp => ?_) fun h' tk' hk hd => ?_
  · exact ⟨_, Heap.get?_push_size _ rfl, rfl, rfl⟩
  · obtain ⟨o, e, r⟩ := hls
    exact ⟨o, Heap.get?_push_of_some _ e, r⟩
  · obtain ⟨o, es, ep, e, r⟩ := hnew
    exact ⟨o, es, ep, Heap.get?_push_of_some _ (k1 _ _ e), r⟩
  · obtain ⟨T, key, a1, ⟨o, a2, a3⟩, a4⟩ := hks j p hp
    have hTl := Heap.lt_size a2
    exact ⟨T, key, a1, ⟨o, Heap.get?_push_of_some _ (up _ _ a2), a3⟩, a4, Nat.ne_of_lt hTl, Nat.ne_of_lt (Nat.lt_trans hTl hlt1)⟩
  · refine ⟨rfl, h h' tk' (fun b o e => ?_) (by rw [List.drop_zero] at hd; exact hd)⟩
    have hb := Heap.lt_size e
    exact hk b o (Nat.ne_of_lt hb) (Nat.ne_of_lt (Nat.lt_trans hb hlt1)) (Heap.get?_push_of_some _ (up _ _ e))
end
end Mine

end D2_
theorem Mine.rst_W7 : True := by
  w_top off
  first | (walk1; done) | trivial
section W7_
open PySem PySem.W PyProof.Rows PySem.Spec PySem.Calls PyProof.Rows.LCg
namespace Mine
local macro_rules
  | `(tactic| walk_at "call ref") => `(tactic| (k_here; k_dflt (refine' tells_useQ0 (ops_tells _ _ _ _) ?_; k_whole); walk_at "mine:v0"))
  | `(tactic| walk_at "eval ListComp") => `(tactic| (refine Stop.of ?_))
  | `(tactic| walk_at "getAttr ref") => `(tactic| (k_here; k_dflt (refine' get_own (by k_asm) (by k_asm) (by exact InstAt.of_news (by k_asm) (.tail _ (.tail _ (.tail _ (by assumption)))) (.tail _ (.tail _ (.tail _ (by assumption))))) (by k_is) (by k_is) (by k_is) (by k_is) (by assumption) (by k_handed) ?_; k_whole)))
theorem tabOps_len : tabOps.length ≤ 2000 := by rw [tabOps_lit]; decide +kernel
noncomputable def entD (e : Int × Str) : Dat := .tuple [.int e.1, .str e.2]
inductive StrTab : List (Int × Value) → Tab → Prop
  | nil : StrTab [] []
  | cons {k : Int} {x : Str} {t : Tok} {es : List (Int × Value)} {tab : Tab} : StrTab es tab → StrTab ((k, .str x t) :: es) ((k, x) :: tab)
theorem StrTab.len {es : List (Int × Value)} {tab : Tab} (h : StrTab es tab) : es.length = tab.length := by
  induction h with
  | nil => rfl
  | cons _ ih => simp [ih]
theorem StrTab.keys {es : List (Int × Value)} {tab : Tab} (h : StrTab es tab) : es.map (·.1) = tab.map (·.1) := by
  induction h with
  | nil => rfl
  | cons _ ih => simp [ih]
theorem OpsIn.keys {tl : Led} {es : List (Int × Value)} {tab : Tab} (h : OpsIn tl es tab) : es.map (·.1) = tab.map (·.1) := by
  induction h with
  | nil => rfl
  | cons _ _ _ _ ih => simp [ih]
theorem strTab_of {nx : Led} : ∀ {tab : Tab} {ys : List Value}, DatAll nx ys (tab.map entD) → ∃ ks : List (Int × Value), StrTab ks tab ∧ ys.length = ks.length ∧
    ∀ (j : Nat) (p : Int × Value), ks[j]? = some p → ∃ (T : Addr) (t : Tok) (n : Nat), ys[j]? = some (.ref T) ∧ (T, ({ cls := .type "tuple", data := .seq #[.int p.1 t, p.2] n } : Obj)) ∈ nx
  | [], ys, h => by
    cases h
    exact ⟨[], .nil, rfl, fun j p hp => by simp at hp⟩
  | (k, x) :: tab, ys, h => by
    cases h with | @cons v vs _ _ h1 h2 =>
    unfold entD at h1
    cases h1 with | @tuple a ws n _ hm hws =>
    cases hws with | cons q1 hws =>
    cases hws with | cons q2 hws =>
    cases hws
    cases q1 with | int _ t1 =>
    cases q2 with | str _ t2 =>
    obtain ⟨ks, e1, e2, e3⟩ := strTab_of h2
    refine ⟨(k, .str x t2) :: ks, .cons e1, by simp [e2], fun j p hp => ?_⟩
    cases j with
    | zero =>
      have e : p = (k, .str x t2) := by simpa using hp.symm
      subst e
      exact ⟨a, t1, n, rfl, hm⟩
    | succ j => exact e3 j p (by simpa using hp)
theorem foldl_stored {ks : List (Int × Value)} (hn : (ks.map (·.1)).Nodup) : ks.foldl (fun a p => stored a p.1 p.2) [] = ks := merged_nil_of_nodup ks hn
theorem tabOps_nodup : (tabOps.map (·.1)).Nodup := by rw [tabOps_lit]; decide +kernel
theorem names_tells (w : World) (mean : ExcName → Option Value) (mg mb : Str → Option Value) :
    Tells w mean mg mb 54 6 [] (fun _ => True) [] (fun r tl _ => ∃ d od es, r = .ref d ∧ (d, od) ∈ tl ∧ (d == sysModules) = false ∧ od.IsDictOf (PySem.intKind PySem.Challenge.rw_pq0392_01.row.prog w) es ∧ StrTab es tabOps) := by
  (have hf := fillme; revert hf; k_fill; intro hf; clear hf)
  refine' tells_intro (binds := []) ?k6 ?k7 ?kD ?kB0 ?kB (fun _ _ _ h => h) ?_ ?c2 ?c3 ?c4 ?c5
  ((case k6 => k_dflt k_is); (case k7 => k_dflt k_is); (case kB0 => exact rfl); (case kB => exact locs rfl); (case c5 => decide); (case c2 => exact rfl); (case c3 => exact rfl); (case c4 => exact rfl); (case kD => decide))
  intro dp un gd outer A₀ base g L h₁ s B F N X T hpre hk hd hu
  (try dsimp only); k_fold; 
  k_steps
  refine Stop.out ?_
  k_dflt (refine kcp_ListComp (PySem.intKind _ _) F (by rfl) (by decide) (by rfl) (by decide) (by rfl) (by rfl) (by first | decide | decide +kernel) ?_)
  with_unfolding_all (refine MethodCall_ ?_)
  k_steps
  rename_i r9 h9 tk9 tlg F9 N9 fr9 o9 P9
  obtain ⟨d, od, es, tl', rfl, rfl, lo, hdo, hops⟩ := P9
  have hlen : es.length ≤ 2000 := by rw [hops.len]; exact tabOps_len
  (refine kdl_method (knd := PySem.intKind _ _) PySem.F.slot_dict_items PySem.F.type_dict_items N9 (.head _) hdo ?_)
  (refine callWith_method0 ?_)
  (refine kta_callItems (knd := PySem.intKind _ _) F9 N9 (.head _) hdo lo ?_)
  intro h3 hv3 F3 N3
  refine KcpSrc.intro (enc := PyData.int) (xs := es.map fun p => (kyVal (.int p.1), p.2)) (by rfl) F3 N3 hv3 (.head _) hdo (by rw [sizeLine_eq]; omega) (fun _ _ h => Value.isInt_shape h) rfl ?_
  intro g9
  refine' kcp_rest (f := fun p : Int × Value => (kyVal (.int p.1), p.2)) (fun es' ys nx => ∃ tab0 tab' : Tab, tabOps = tab0 ++ tab' ∧ OpsIn tl' es' tab' ∧ (d, od) ∈ nx ∧ (∀ p ∈ tl', p ∈ nx) ∧ DatAll nx ys (tab0.map entD)) ?done ?turn es [] _ ⟨[], tabOps, rfl, hops, .head _, fun p hp => .tail _ hp, .nil⟩
  case turn =>
    clear F3 N3 F9 N9 hv3 hdo hops fr9 o9 N F
    rintro p r ys nx ⟨tab0, tab', e1, h1, h2, h3, h4⟩ t I oI C oC D m₂ h tk E' z1 z2 z3 F4 N4 off ne
    cases h1 with | @cons k x a d2 e es2 tab2 q1 q2 q3 q4 =>
    have q1' := h3 _ q1
    have q2' := h3 _ q2
    dsimp only [kyVal] at z2 z3
    obtain ⟨tx, q3⟩ := q3
    k_steps
    rename_i T hT FT NT lT
    refine CompEnd.intro FT NT ((T, { cls := .type "tuple", data := .seq #[Value.int k t, Value.str x tx] }) :: nx) ?_ ⟨⟨Ne.symm (Nat.ne_of_lt lT.1), Ne.symm (Nat.ne_of_lt lT.2.1), Ne.symm (Nat.ne_of_lt lT.2.2.1)⟩, off⟩ (.inr ⟨od, .tail _ h2, rfl, 0, rfl⟩) ⟨tab0 ++ [(k, x)], tab2, by simp [e1], q4, .tail _ h2, fun p hp => .tail _ (h3 p hp), ?_⟩
    · exact (sub_head (by k_mem) (sub_head (by k_mem) (sub_head (by k_mem) (sub_head (by k_mem) (sub_skip (sub_skip (sub_skip (sub_skip sub_refl))))))))
    · rw [List.map_append]
      exact (h4.mono fun p hp => .tail _ hp).append (.one (.tuple (vs := [Value.int k t, Value.str x tx]) (.head _) (.cons (.int _ _) (.cons (.str _ _) .nil))))
  case done =>
    clear F3 N3 F9 N9 hv3 hdo hops fr9 o9 N F
    rintro ys nx ⟨tab0, tab', e1, h1, h2, h3, h4⟩
    cases h1
    rw [List.append_nil] at e1
    subst e1
    intro D h tk F N off
    k_steps
    obtain ⟨ks, hst, hkl, hki⟩ := strTab_of h4
    have hl : h.get? D = some (listOf ys.toArray ys.toArray.size) := (N (D, lst ys) (.head _)).1
    have hup : ks.length ≤ sizeLine := by rw [hst.len, sizeLine_eq]; exact Nat.le_trans tabOps_len (Nat.le_of_ble_eq_true rfl)
    refine call_dict_pairs (knd := PySem.intKind _ _) (vs := ys) (ks := ks) rfl hl hkl hup (fun j p hp => ?_) fun h' tk' hk hd => ?_
    · obtain ⟨T, t, n, a1, a2⟩ := hki j p hp
      exact ⟨T, .int p.1 t, a1, N.isTup (.tail _ a2), intKind_is _ _ _ _⟩
    · obtain ⟨o', ho', hd'⟩ := Heap.dictOf_iff.mp hd
      have hn0 : (ks.map (·.1)).Nodup := by rw [hst.keys]; exact tabOps_nodup
      rw [foldl_stored hn0] at hd'
      refine' BodyPost.ret0 [(h.objs.size, o')] (F.keeps hk) (nx := [(h.objs.size, o')]) (fun p hp => ?_) (fun _ h => h) ⟨_, o', ks, rfl, .head _, F.notModules (modules_low (Top.nolimit T)), hd', hst⟩
      rw [List.mem_singleton.mp hp]
      exact ⟨ho', Ne.symm (Nat.ne_of_lt F.ns.lt), next_is_new F⟩
end Mine

end W7_
theorem Mine.rst_P4 : True := by
  w_top off
  first | (walk1; done) | trivial
section P4_
open PySem PySem.W PyProof.Rows PySem.Spec PySem.Calls
namespace Mine
/-- the name that rows_of gives an octet -/
noncomputable def tabName : Tab → Int → Option Str
  | [], _ => none
  | (k, x) :: r, n => if k = n then some x else tabName r n
noncomputable def hexStr (n k : Nat) : Str := ⟨(hexGo n k).toArray⟩
noncomputable def nameZ (n : Int) : Str := (tabName tabOps n).getD (Str.ofString "UNKNOWN_" ++ hexStr n.toNat 2)
noncomputable def padZ (n : Int) (seg : List Int) : Int := KFB.value seg * 2 ^ (8 * ((ownZ n).toNat - seg.length))
noncomputable def laidO (n : Int) (seg : List Int) : Option Int := if (nameZ n == Str.ofString "PUSH0") = true then some 0 else if 0 < ownZ n then some (padZ n seg) else none
noncomputable def optD : Option Int → Dat
  | none => .none
  | some i => .int i
noncomputable def laidD (n : Int) (seg : List Int) : Dat := optD (laidO n seg)
noncomputable def rowD (r : Int × Int × List Int) : Dat := .tuple [.int r.1, .str (nameZ r.2.1), laidD r.2.1 r.2.2]
theorem strTab_some {es : List (Int × Value)} {tab : Tab} (h : StrTab es tab) {n : Int} {v : Value} (hv : valueAt es n = some v) : ∃ x t, v = .str x t ∧ tabName tab n = some x := by
  induction h with
  | nil => cases hv
  | @cons k x t es tab _ ih =>
    unfold tabName
    by_cases hk : k = n
    · rw [if_pos hk]
      subst hk
      have e : valueAt ((k, Value.str x t) :: es) k = some (.str x t) := by simp [valueAt]
      rw [e] at hv
      injection hv with hv
      exact ⟨x, t, hv.symm, rfl⟩
    · rw [if_neg hk]
      refine ih ?_
      rw [← hv]
      simp [valueAt, hk]
theorem strTab_none {es : List (Int × Value)} {tab : Tab} (h : StrTab es tab) {n : Int} (hv : valueAt es n = none) : tabName tab n = none := by
  induction h with
  | nil => rfl
  | @cons k x t es tab _ ih =>
    unfold tabName
    by_cases hk : k = n
    · subst hk
      have e : valueAt ((k, Value.str x t) :: es) k = Option.some (.str x t) := by simp [valueAt]
      rw [e] at hv
      cases hv
    · rw [if_neg hk]
      refine ih ?_
      rw [← hv]
      simp [valueAt, hk]
end Mine

end P4_
theorem Mine.rst_P5 : True := by
  w_top off
  first | (walk1; done) | trivial
section P5_
open PySem PySem.W PyProof.Rows PySem.Spec PySem.Calls
namespace Mine
theorem lt300 {n : Int} (h : n < 1000000) : n < 2 ^ 300 := Int.lt_trans h (by decide +kernel)
theorem hexGo_len : ∀ (m n k : Nat), n < 16 ^ m → k ≤ m → (hexGo n k).length ≤ m
  | 0, n, k, h1, h2 => by
    have e1 : n = 0 := by omega
    have e2 : k = 0 := by omega
    subst e1 e2
    rw [hexGo, if_pos ⟨rfl, rfl⟩]
    exact Nat.le_refl _
  | m + 1, n, k, h1, h2 => by
    rw [hexGo]
    split
    · exact Nat.zero_le _
    · rw [List.length_append, List.length_singleton]
      have := hexGo_len m (n / 16) (k - 1) (by rw [Nat.pow_succ] at h1; omega) (by omega)
      omega
theorem hexStr_len {n k : Int} (hn : 0 ≤ n) (hn2 : n < 2 ^ 300) (hk : k < 10) : (hexStr n.toNat k.toNat).length ≤ 85 := by
  have h : n.toNat < 16 ^ 85 := by
    have e : (2 : Int) ^ 300 = ((16 ^ 75 : Nat) : Int) := by decide +kernel
    have e2 : (16 : Nat) ^ 75 ≤ 16 ^ 85 := Nat.pow_le_pow_right (by decide) (by decide)
    rw [e] at hn2
    omega
  have := hexGo_len 85 n.toNat k.toNat h (by omega)
  show (hexGo n.toNat k.toNat).toArray.size ≤ 85
  rw [List.size_toArray]
  exact this
theorem Tells.post {w : World} {mean : ExcName → Option Value} {mg mb : Str → Option Value} {f : Addr} {dep : Nat} {mu : Led} {Pre : Heap → Prop} {vs : List Value} {P1 P2 : Value → Led → Led → Prop} (C : Tells w mean mg mb f dep mu Pre vs P1) (h : ∀ r tl mu', P1 r tl mu' → P2 r tl mu') : Tells w mean mg mb f dep mu Pre vs P2 :=
  fun dp un gd cn cs a ccd cl outer A₀ base h₀ L m s Q E B F X N T hcs hpre hd hu hret => C dp un gd cn cs a ccd cl outer A₀ base h₀ L m s Q E B F X N T hcs hpre hd hu fun r h' tk' tl mu' a1 a2 a3 a4 a5 a6 => hret r h' tk' tl mu' a1 a2 a3 a4 a5 (h _ _ _ a6)
theorem hex_tells2 (w : World) (mean : ExcName → Option Value) (mg mb : Str → Option Value) (n k : Int) (t t2 : Tok) (hn : 0 ≤ n) (hn2 : n < 2 ^ 300) (hk : 0 ≤ k) (hk2 : k < 10) :
    Tells w mean mg mb 82 1 [] (fun _ => True) [.int n t, .int k t2] (fun r tl _ => tl = [] ∧ ∃ t', r = .str (hexStr n.toNat k.toNat) t' ∧ (hexStr n.toNat k.toNat).length ≤ 85) :=
  (hex_tells w mean mg mb n k t t2 hn hn2 hk hk2).post fun _ _ _ ⟨h1, t', h2⟩ => ⟨h1, t', h2, hexStr_len hn hn2 hk2⟩
end Mine

end P5_
theorem Mine.rst_W8 : True := by
  w_top off
  first | (walk1; done) | trivial
section W8_
open PySem PySem.W PyProof.Rows PySem.Spec PySem.Calls
namespace Mine
theorem int_two : Int.toNat 2 = 2 := rfl
local macro_rules
  | `(tactic| walk_at "call ref") => `(tactic| first
  | (k_here; k_dflt (refine' tells_useQ0 (names_tells _ _ _ _) ?_; k_whole); walk_at "mine:v0")
  | (k_here; k_dflt (refine' tells_useQ (push_size_tells _ _ _ _ _ _) ?_; k_whole); walk_at "mine:v")
  | (k_here; k_dflt (refine' tells_useQ (hex_tells2 _ _ _ _ _ _ _ _ (by omega) (by exact lt300 (by omega)) (by decide) (by decide)) ?_; k_whole); intro r9 h9 tk9 F9 N9 P9 k9; clear k9; obtain ⟨t9, e9, hl9⟩ := P9; subst e9; (try simp only [int_two] at hl9 ⊢); (try dsimp only); (try k_fold))
  | (k_here; k_dflt (refine' tells_useQ (pushed_tells _ _ _ _ _ _ _ _ _ _ _ (by assumption) (by omega) (by omega) (by omega) (by omega) (by omega)) ?_; k_whole); walk_at "mine:v"))
  | `(tactic| walk_at "exec While Compare cons nil") => `(tactic| (refine Stop.of ?_))
  | `(tactic| walk_at "compareOp In") => `(tactic| (k_here; (rename valueAt _ _ = _ => hv9); k_dflt (first
  | refine' kda_in (knd := PySem.intKind _ _) (by k_asm) (by k_mem) (by assumption) (by assumption) (intKind_is _ _ _ _) true (by rw [hv9]; rfl) ?_
  | refine' kda_in (knd := PySem.intKind _ _) (by k_asm) (by k_mem) (by assumption) (by assumption) (intKind_is _ _ _ _) false (by rw [hv9]; rfl) ?_); (try dsimp only)))
  | `(tactic| walk_at "subscriptTail") => `(tactic| (k_here; (rename valueAt _ _ = _ => hv9); k_dflt (refine' kda_item (knd := PySem.intKind _ _) (by k_asm) (by k_mem) (by assumption) (intKind_is _ _ _ _) hv9 ?_); (try dsimp only)))
structure RSt where
  p : Int
  t : Tok
  vs : List Value
  n : Nat
  tl : Led
  done : List (Int × Int × List Int)
noncomputable def RInv (bs : List Int) (c : RSt) : Prop := 0 ≤ c.p ∧ c.vs.length ≤ c.p.toNat ∧ c.p ≤ bs.length + 32 ∧ c.done ++ parse c.p (bs.drop c.p.toNat) = parse 0 bs

noncomputable def RFacts (l' : Addr) (c : RSt) : Prop := DatAll c.tl c.vs (c.done.map rowD) ∧ ∀ p ∈ c.tl, p.1 ≠ l'
theorem row_close {g : Heap} {L : Addr} {s : Shared} {st : List Str} {m₀ m' : Str → Option Value} {bs : List Int} {p : Int} {tp t1 t2 : Tok} {t3 : Tok} {vs : List Value} {n : Nat} {tl : Led} {dn : List (Int × Int × List Int)} {l' d T : Addr} {od : Obj} {h' : Heap} {tk' : Nat} {nx : Led} {v : Value} {x : Str}
    (F : Fr g L h' m') (N : News g L h' nx) (hT : (T, ({ cls := .type "tuple", data := .seq #[.int p t1, .str x t2, v] } : Obj)) ∈ nx) (hl : (l', listOf (vs.toArray.push (.ref T)) (n + 1)) ∈ nx) (hd : (d, od) ∈ nx) (ht : ∀ q ∈ tl, q ∈ nx) (hne : l' < T)
    (hx : nameZ (bs.getD p.toNat 0) = x) (hv : DatIn [] v (laidD (bs.getD p.toNat 0) (segOf bs p (ownZ (bs.getD p.toNat 0)))))
    (hf : RFacts l' ⟨p, tp, vs, n, tl, dn⟩) (hp0 : 0 ≤ p) (hp1 : p < bs.length) (hvl : vs.length ≤ p.toNat) (hj : dn ++ parse p (bs.drop p.toNat) = parse 0 bs)
    (hk : m' (Str.ofString "place") = some (.int (p + (1 + ownZ (bs.getD p.toNat 0))) t3)) (hr : ∀ z, (∀ q ∈ [(Str.ofString "place", Value.int (p + (1 + ownZ (bs.getD p.toNat 0))) t3)], z ≠ q.1) → st.contains z = false → m' z = m₀ z) :
    KswEnd g L s (fun c : RSt => (l', listOf c.vs.toArray c.n) :: (d, od) :: c.tl) (fun c => [(Str.ofString "place", .int c.p c.t)]) (RFacts l') st m₀ (RInv bs) (fun c => (bs.length - c.p).toNat) ⟨p, tp, vs, n, tl, dn⟩ { s with heap := h', toks := tk' } := by
  have h2 := ownZ_lo (bs.getD p.toNat 0)
  have h3 := ownZ_hi (bs.getD p.toNat 0)
  refine ksw_end (news' := nx) ⟨p + (1 + ownZ (bs.getD p.toNat 0)), t3, vs ++ [.ref T], n + 1, (T, { cls := .type "tuple", data := .seq #[.int p t1, .str x t2, v] }) :: tl, dn ++ [(p, bs.getD p.toNat 0, segOf bs p (ownZ (bs.getD p.toNat 0)))]⟩ F N ?_ ⟨?_, ?_⟩ ?_ hr ⟨?_, ?_, ?_, ?_⟩ ?_
  · intro q hq
    rcases List.mem_cons.mp hq with rfl | hq
    · rw [List.push_toArray] at hl; exact hl
    rcases List.mem_cons.mp hq with rfl | hq
    · exact hd
    rcases List.mem_cons.mp hq with rfl | hq
    · exact hT
    · exact ht q hq
  · rw [List.map_append]
    refine (hf.1.mono fun q hq => .tail _ hq).append (.one ?_)
    refine .tuple (vs := [.int p t1, .str x t2, v]) (.head _) (.cons (.int _ _) (.cons ?_ (.cons (hv.mono fun _ h => by cases h) .nil)))
    show DatIn _ _ (.str (nameZ (bs.getD p.toNat 0)))
    rw [hx]
    exact .str _ _
  · intro q hq
    rcases List.mem_cons.mp hq with rfl | hq
    · exact Ne.symm (Nat.ne_of_lt hne)
    · exact hf.2 q hq
  · intro q hq
    rw [List.mem_singleton.mp hq]
    exact hk
  · show 0 ≤ p + _; omega
  · show (vs ++ [Value.ref T]).length ≤ (p + _).toNat
    rw [List.length_append, List.length_singleton]
    omega
  · show p + _ ≤ _; omega
  · show (dn ++ [_]) ++ parse (p + _) (bs.drop (p + _).toNat) = _
    rw [parse_at hp0 hp1] at hj
    rw [← Int.add_assoc, List.append_assoc]
    exact hj
  · show (bs.length - (p + _)).toNat < (bs.length - p).toNat
    omega
theorem octet_range {b : Array UInt8} {bs : List Int} (hbs : KBw.bInts b = bs) (j : Nat) : 0 ≤ bs.getD j 0 ∧ bs.getD j 0 < 256 := by
  rw [List.getD_eq_getElem?_getD]
  cases h : bs[j]? with
  | none => exact ⟨by decide, by decide⟩
  | some k => exact KBw.ints_in (hbs ▸ List.mem_of_getElem? h)
theorem laid_zero {n : Int} {seg : List Int} {x : Str} (hx : nameZ n = x) (h : (x == Str.ofString "PUSH0") = true) (t : Tok) : DatIn [] (.int 0 t) (laidD n seg) := by
  unfold laidD laidO; rw [hx, if_pos h]; exact .int _ _
theorem laid_num {n p : Int} {bs : List Int} {x : Str} (hx : nameZ n = x) (h : (x == Str.ofString "PUSH0") = false) (h2 : 0 < ownZ n) (t : Tok) : DatIn [] (.int (pushedZ bs p (ownZ n)) t) (laidD n (segOf bs p (ownZ n))) := by
  unfold laidD laidO; rw [hx, if_neg (by rw [h]; exact Bool.false_ne_true), if_pos h2]; exact .int _ _
theorem laid_none {n : Int} {seg : List Int} {x : Str} (hx : nameZ n = x) (h : (x == Str.ofString "PUSH0") = false) (h2 : ¬ 0 < ownZ n) : DatIn [] .none (laidD n seg) := by
  unfold laidD laidO; rw [hx, if_neg (by rw [h]; exact Bool.false_ne_true), if_neg h2]; exact .none
theorem rows_tells (w : World) (mean : ExcName → Option Value) (mg mb : Str → Option Value) (b : Array UInt8) (bs : List Int) (t : Tok) (hbs : KBw.bInts b = bs) (hb : bs.length ≤ 100000) :
    Tells w mean mg mb 89 8 [] (fun _ => True) [.bytes b t] (fun r tl _ => DatIn tl r (.list ((parse 0 bs).map rowD))) := by
  (have hf := fillme; revert hf; k_fill; intro hf; clear hf)
  refine' tells_intro (binds := [(Str.ofString "code", .bytes b t)]) ?k6 ?k7 ?kD ?kB0 ?kB (fun _ _ _ h => h) ?_ ?c2 ?c3 ?c4 ?c5
  ((case k6 => k_dflt k_is); (case k7 => k_dflt k_is); (case kB0 => exact rfl); (case kB => exact locs rfl); (case c5 => decide); (case c2 => exact rfl); (case c3 => exact rfl); (case c4 => exact rfl); (case kD => decide))
  intro dp un gd outer A₀ base g L h₁ s B F N X T hpre hk hd hu
  (try dsimp only); k_fold; 
  k_steps
  rename_i l' h3 l1 r9 h9 tk9 tlg fr9 o9 P9 D' h4 l2 h5 h6 h7 h8 F2 N2
  obtain ⟨d, od, es, rfl, hmd, lo, hdo, hst⟩ := P9
  have hdl : d ≠ l' := o9 _ hmd _ (.head _)
  clear fr9 o9 l1 l2
  refine Stop.out ?_
  refine' ksw_while (fun c : RSt => (l', listOf c.vs.toArray c.n) :: (d, od) :: c.tl) (fun c => [(Str.ofString "place", .int c.p c.t)]) (RFacts l') [Str.ofString "number", Str.ofString "size", Str.ofString "name", Str.ofString "laid"] (RInv bs) (fun c => (bs.length - c.p).toNat) ⟨0, _, [], 0, [], []⟩ F2 ?kn ?kf ?kk ?kp ?_
  case kn =>
    intro p hp
    refine N2 p ?_
    rcases List.mem_cons.mp hp with rfl | hp
    · simp
    · rw [List.mem_singleton.mp hp]; simp [hmd]
  case kf => exact ⟨.nil, (fun _ h => nomatch h)⟩
  case kk => kst_all
  case kp => exact ⟨Int.le_refl _, Nat.le_refl _, by show (0 : Int) ≤ _; omega, rfl⟩
  clear N2 hmd
  intro c u h2 tk2 hc hP F3 N3
  obtain ⟨p, tp, vs, n, tl, dn⟩ := c
  obtain ⟨hp0, hvl, hpl, hj⟩ := hP
  have htl := hc.2
  dsimp only [kstB] at htl F3 N3 hp0 hvl hpl hj
  have hz0 := ownZ_lo (bs.getD p.toNat 0)
  have hz1 := ownZ_hi (bs.getD p.toNat 0)
  cases hv : valueAt es (bs.getD p.toNat 0) with
  | some v =>
    obtain ⟨x, tx, rfl, hx⟩ := strTab_some hst hv
    (try dsimp only)
    (try k_fold)
    k_steps
    rotate_right
    · (try dsimp only)
      have hj' : dn = parse 0 bs := by
        rw [parse_end (by omega), List.append_nil] at hj
        exact hj
      subst hj'
      refine' BodyPost.ret0 ((l', listOf vs.toArray n) :: (d, od) :: tl) ?zF ?zN (fun _ h => h) ?zp
      (case zF => k_asm)
      (case zN => k_asm)
      (case zp => exact .list (.head _) (hc.1.mono fun q hq => .tail _ (.tail _ hq)))
    all_goals (have hxn : nameZ (bs.getD p.toNat 0) = x := by unfold nameZ; rw [hx]; rfl)
    · refine' row_close (v := .int 0 _) ?zF ?zN ?zT ?zl ?zd ?zt ?zne hxn ?zv hc hp0 (by assumption) hvl hj ?zk ?zr
      (case zF => k_asm)
      (case zN => k_asm)
      (case zT => exact .head _)
      (case zl => k_mem)
      (case zd => k_mem)
      (case zt => intro q hq; simp [hq])
      (case zne => (rename _ ∧ _ => hz9; exact hz9.2.1))
      (case zv => exact laid_zero hxn (by assumption) _)
      (case zk => rfl)
      (case zr => ksw_same)
    · refine' row_close (v := .int (pushedZ _ _ _) _) ?zF ?zN ?zT ?zl ?zd ?zt ?zne hxn ?zv hc hp0 (by assumption) hvl hj ?zk ?zr
      (case zF => k_asm)
      (case zN => k_asm)
      (case zT => exact .head _)
      (case zl => k_mem)
      (case zd => k_mem)
      (case zt => intro q hq; simp [hq])
      (case zne => (rename _ ∧ _ => hz9; exact hz9.2.1))
      (case zv => exact laid_num hxn (by assumption) (by assumption) _)
      (case zk => rfl)
      (case zr => ksw_same)
    · refine' row_close (v := .none) ?zF ?zN ?zT ?zl ?zd ?zt ?zne hxn ?zv hc hp0 (by assumption) hvl hj ?zk ?zr
      (case zF => k_asm)
      (case zN => k_asm)
      (case zT => exact .head _)
      (case zl => k_mem)
      (case zd => k_mem)
      (case zt => intro q hq; simp [hq])
      (case zne => (rename _ ∧ _ => hz9; exact hz9.2.1))
      (case zv => exact laid_none hxn (by assumption) (by assumption))
      (case zk => rfl)
      (case zr => ksw_same)
  | none =>
    have hx := strTab_none hst hv
    have hn9 := octet_range hbs p.toNat
    (try dsimp only); (try k_fold)
    k_steps
    rotate_right
    · (try dsimp only)
      have hj' : dn = parse 0 bs := by
        rw [parse_end (by omega), List.append_nil] at hj
        exact hj
      subst hj'
      refine' BodyPost.ret0 ((l', listOf vs.toArray n) :: (d, od) :: tl) ?zF ?zN (fun _ h => h) ?zp
      (case zF => k_asm)
      (case zN => k_asm)
      (case zp => exact .list (.head _) (hc.1.mono fun q hq => .tail _ (.tail _ hq)))
    all_goals (have hxn : nameZ (bs.getD p.toNat 0) = Str.ofString "UNKNOWN_" ++ hexStr (bs.getD p.toNat 0).toNat 2 := by unfold nameZ; rw [hx]; rfl)
    · refine' row_close (v := .int 0 _) ?zF ?zN ?zT ?zl ?zd ?zt ?zne hxn ?zv hc hp0 (by assumption) hvl hj ?zk ?zr
      (case zF => k_asm)
      (case zN => k_asm)
      (case zT => exact .head _)
      (case zl => k_mem)
      (case zd => k_mem)
      (case zt => intro q hq; simp [hq])
      (case zne => (rename _ ∧ _ => hz9; exact hz9.2.1))
      (case zv => exact laid_zero hxn (by assumption) _)
      (case zk => rfl)
      (case zr => ksw_same)
    · refine' row_close (v := .int (pushedZ _ _ _) _) ?zF ?zN ?zT ?zl ?zd ?zt ?zne hxn ?zv hc hp0 (by assumption) hvl hj ?zk ?zr
      (case zF => k_asm)
      (case zN => k_asm)
      (case zT => exact .head _)
      (case zl => k_mem)
      (case zd => k_mem)
      (case zt => intro q hq; simp [hq])
      (case zne => (rename _ ∧ _ => hz9; exact hz9.2.1))
      (case zv => exact laid_num hxn (by assumption) (by assumption) _)
      (case zk => rfl)
      (case zr => ksw_same)
    · refine' row_close (v := .none) ?zF ?zN ?zT ?zl ?zd ?zt ?zne hxn ?zv hc hp0 (by assumption) hvl hj ?zk ?zr
      (case zF => k_asm)
      (case zN => k_asm)
      (case zT => exact .head _)
      (case zl => k_mem)
      (case zd => k_mem)
      (case zt => intro q hq; simp [hq])
      (case zne => (rename _ ∧ _ => hz9; exact hz9.2.1))
      (case zv => exact laid_none hxn (by assumption) (by assumption))
      (case zk => rfl)
      (case zr => ksw_same)
end Mine

end W8_
theorem Mine.rst_P6 : True := by
  w_top off
  first | (walk1; done) | trivial
section P6_
open PySem PySem.W PyProof.Rows PySem.Spec PySem.Calls
namespace Mine
theorem parse_mem : ∀ (n : Nat) (bs : List Int) (p : Int), bs.length ≤ n → (∀ k ∈ bs, 0 ≤ k ∧ k < 256) → ∀ r ∈ parse p bs, p ≤ r.1 ∧ r.1 < p + bs.length ∧ (0 ≤ r.2.1 ∧ r.2.1 < 256) ∧ (r.2.2.length : Int) ≤ ownZ r.2.1 ∧ ∀ k ∈ r.2.2, 0 ≤ k ∧ k < 256
  | _, [], p, _, _, r, hr => by rw [parse_nil] at hr; cases hr
  | 0, _ :: _, _, h, _, _, _ => by simp at h
  | n + 1, m :: l, p, h, hk, r, hr => by
    rw [parse_cons] at hr
    have h1 := ownZ_lo m
    rcases List.mem_cons.mp hr with rfl | hr
    · refine ⟨Int.le_refl _, ?_, hk m (.head _), ?_, fun k hm => hk k (.tail _ (List.mem_of_mem_take hm))⟩
      · show p < p + ((m :: l).length : Int)
        rw [List.length_cons]; omega
      · show ((l.take (ownZ m).toNat).length : Int) ≤ ownZ m
        rw [List.length_take]; omega
    · have h2 := parse_mem n (l.drop (ownZ m).toNat) _ (by simp at h ⊢; omega) (fun k hm => hk k (.tail _ (List.mem_of_mem_drop hm))) r hr
      refine ⟨by omega, ?_, h2.2.2⟩
      have h3 := h2.2.1
      rw [List.length_drop] at h3
      rw [List.length_cons]
      by_cases h4 : (ownZ m).toNat ≤ l.length
      · omega
      · rw [show l.length - (ownZ m).toNat = 0 by omega] at h3
        have h5 := h2.1
        omega
theorem padZ_lt {n : Int} {seg : List Int} (hs : (seg.length : Int) ≤ ownZ n) (hk : ∀ k ∈ seg, 0 ≤ k ∧ k < 256) : 0 ≤ padZ n seg ∧ padZ n seg < 2 ^ 300 := by
  have h1 := ownZ_hi n
  have hv := value_lt seg hk
  unfold padZ
  refine ⟨Int.mul_nonneg hv.1 (Int.pow_nonneg (by decide)), ?_⟩
  have e1 : (256 : Int) ^ seg.length = 2 ^ (8 * seg.length) := by
    rw [Int.pow_mul]; rfl
  rw [e1] at hv
  have e2 : (2 : Int) ^ (8 * seg.length) * 2 ^ (8 * ((ownZ n).toNat - seg.length)) = 2 ^ (8 * (ownZ n).toNat) := by
    rw [← Int.pow_add]; congr 1; omega
  have e3 : KFB.value seg * 2 ^ (8 * ((ownZ n).toNat - seg.length)) < 2 ^ (8 * (ownZ n).toNat) := by
    rw [← e2]
    exact Int.mul_lt_mul_of_pos_right hv.2 (Int.pow_pos (by decide))
  refine Int.lt_of_lt_of_le e3 ?_
  have e4 : ((2 : Int) ^ (8 * (ownZ n).toNat)) = ((2 ^ (8 * (ownZ n).toNat) : Nat) : Int) := by push_cast; rfl
  have e5 : ((2 : Int) ^ 300) = ((2 ^ 300 : Nat) : Int) := by decide +kernel
  rw [e4, e5]
  exact Int.ofNat_le.mpr (Nat.pow_le_pow_right (by decide) (by omega))
theorem laidO_lt {n i : Int} {seg : List Int} (hs : (seg.length : Int) ≤ ownZ n) (hk : ∀ k ∈ seg, 0 ≤ k ∧ k < 256) (h : laidO n seg = some i) : 0 ≤ i ∧ i < 2 ^ 300 := by
  unfold laidO at h
  split at h
  · injection h with h
    subst h
    exact ⟨Int.le_refl _, by decide +kernel⟩
  · split at h
    · injection h with h
      subst h
      exact padZ_lt hs hk
    · cases h
theorem tabOps_names : ∀ e ∈ tabOps, e.2.length ≤ 20 := by rw [tabOps_lit]; decide +kernel
theorem tabName_mem : ∀ {tab : Tab} {n : Int} {x : Str}, tabName tab n = some x → (n, x) ∈ tab
  | [], _, _, h => by cases h
  | (k, y) :: r, n, x, h => by
    unfold tabName at h
    split at h
    · rename_i e
      injection h with h
      subst e h
      exact .head _
    · exact .tail _ (tabName_mem h)
theorem nameZ_len {n : Int} (h0 : 0 ≤ n) (h1 : n < 256) : (nameZ n).length ≤ 100 := by
  unfold nameZ
  cases h : tabName tabOps n with
  | some x => exact Nat.le_trans (tabOps_names _ (tabName_mem h)) (by decide)
  | none =>
    show (Str.ofString "UNKNOWN_" ++ hexStr n.toNat 2).length ≤ 100
    have := hexStr_len (n := n) (k := 2) h0 (Int.lt_trans h1 (by decide +kernel)) (by decide)
    rw [show (2 : Int).toNat = 2 from rfl] at this
    rw [Str.length_append, show (Str.ofString "UNKNOWN_").length = 8 from by decide +kernel]
    omega
noncomputable def lineB (A : Str) : Option Int → Str
  | none => A
  | some i => A ++ (Str.ofString " 0x" ++ hexStr i.toNat 1)
noncomputable def lineZ (r : Int × Int × List Int) : Str := lineB (hexStr r.1.toNat 4 ++ Str.ofString " " ++ nameZ r.2.1) (laidO r.2.1 r.2.2)
theorem lineB_none (A : Str) : lineB A none = A := rfl
theorem lineB_some (A : Str) (i : Int) : lineB A (some i) = A ++ (Str.ofString " 0x" ++ hexStr i.toNat 1) := rfl
theorem lineB_len {A : Str} {o : Option Int} (a : A.length ≤ 200) (b : ∀ i, o = some i → 0 ≤ i ∧ i < 2 ^ 300) : (lineB A o).length ≤ 300 := by
  cases o with
  | none => exact Nat.le_trans a (by decide)
  | some i =>
    obtain ⟨b1, b2⟩ := b i rfl
    have a5 := hexStr_len (n := i) (k := 1) b1 b2 (by decide)
    have a4 : (Str.ofString " 0x").length = 3 := by decide +kernel
    rw [show (1 : Int).toNat = 1 from rfl] at a5
    rw [lineB_some, Str.length_append, Str.length_append, a4]; omega
theorem lineZ_none {p m : Int} {seg : List Int} (h : laidO m seg = none) : lineZ (p, m, seg) = hexStr p.toNat 4 ++ Str.ofString " " ++ nameZ m := (congrArg (lineB _) h).trans (lineB_none _)
theorem lineZ_some {p m j : Int} {seg : List Int} (h : laidO m seg = some j) : lineZ (p, m, seg) = hexStr p.toNat 4 ++ Str.ofString " " ++ nameZ m ++ (Str.ofString " 0x" ++ hexStr j.toNat 1) := (congrArg (lineB _) h).trans (lineB_some _ _)
theorem lineZ_len {p m : Int} {seg : List Int} (h0 : 0 ≤ p) (h1 : p < 1000000) (h2 : 0 ≤ m) (h3 : m < 256) (h4 : (seg.length : Int) ≤ ownZ m) (h5 : ∀ k ∈ seg, 0 ≤ k ∧ k < 256) : (lineZ (p, m, seg)).length ≤ 300 := by
  have a1 := hexStr_len (n := p) (k := 4) h0 (Int.lt_trans h1 (by decide +kernel)) (by decide)
  have a2 := nameZ_len h2 h3
  have a3 : (Str.ofString " ").length = 1 := by decide +kernel
  rw [show (4 : Int).toNat = 4 from rfl] at a1
  refine lineB_len ?_ fun i hi => laidO_lt h4 h5 hi
  rw [Str.length_append, Str.length_append, a3]; dsimp only; omega
noncomputable def textZ (rows : List (Int × Int × List Int)) : Str := Txt.join (Str.ofString "\n") (rows.map lineZ)
theorem sum_le {ys : List Str} {c : Nat} (h : ∀ y ∈ ys, y.length ≤ c) : (ys.map (·.length)).sum ≤ c * ys.length := by
  induction ys with
  | nil => exact Nat.zero_le _
  | cons y r ih =>
    have h1 := ih fun z hz => h z (.tail _ hz)
    have h2 := h y (.head _)
    rw [List.map_cons, List.sum_cons, List.length_cons, Nat.mul_succ]
    omega
theorem parse_length : ∀ (n : Nat) (bs : List Int) (p : Int), bs.length ≤ n → (parse p bs).length ≤ bs.length
  | _, [], p, _ => by rw [parse_nil]; exact Nat.le_refl _
  | 0, _ :: _, _, h => by simp at h
  | n + 1, m :: l, p, h => by
    rw [parse_cons, List.length_cons, List.length_cons]
    have := parse_length n (l.drop (ownZ m).toNat) (p + 1 + ownZ m) (by simp at h ⊢; omega)
    rw [List.length_drop] at this
    omega
end Mine

end P6_
theorem Mine.rst_W9 : True := by
  w_top off
  first | (walk1; done) | trivial
section W9_
open PySem PySem.W PyProof.Rows PySem.Spec PySem.Calls
namespace Mine
local macro_rules
  | `(tactic| walk_at $s) => if ["pyIter ref", "call builtin:str.join"].contains s.getString then `(tactic| (refine Stop.of ?_)) else Lean.Macro.throwUnsupported
local macro_rules | `(tactic| walk_at "exec For Tuple Call cons nil") => `(tactic| (k_here; refine wpAny_For ?_))
theorem int_one : Int.toNat 1 = 1 := rfl
theorem int_four : Int.toNat 4 = 4 := rfl
local macro_rules | `(tactic| walk_at "call ref") => `(tactic| first
  | (k_here; k_dflt (refine' tells_useQ0 (rows_tells _ _ _ _ _ _ _ (by assumption) (by omega)) ?_; k_whole); walk_at "mine:v0")
  | (k_here; k_dflt (refine' tells_useQ (hex_tells2 _ _ _ _ _ _ _ _ (by first | assumption | omega) (by first | assumption | exact lt300 (by omega)) (by decide) (by decide)) ?_; k_whole); intro r9 h9 tk9 F9 N9 P9 k9; clear k9; obtain ⟨t9, e9, hl9⟩ := P9; subst e9; (try simp only [int_one, int_four] at hl9 ⊢); (try dsimp only); (try k_fold)))
structure LSt where
  vs : List Value
  n : Nat
theorem listing_tells (w : World) (mean : ExcName → Option Value) (mg mb : Str → Option Value) (b : Array UInt8) (bs : List Int) (t : Tok) (hbs : KBw.bInts b = bs) (hb : bs.length ≤ 1000) :
    Tells w mean mg mb 96 10 [] (fun _ => True) [.bytes b t] (fun r tl _ => tl = [] ∧ ∃ t', r = .str (textZ (parse 0 bs)) t') := by
  (have hf := fillme; revert hf; k_fill; intro hf; clear hf)
  refine' tells_intro (binds := [(Str.ofString "code", .bytes b t)]) ?k6 ?k7 ?kD ?kB0 ?kB (fun _ _ _ h => h) ?_ ?c2 ?c3 ?c4 ?c5
  ((case k6 => k_dflt k_is); (case k7 => k_dflt k_is); (case kB0 => exact rfl); (case kB => exact locs rfl); (case c5 => decide); (case c2 => exact rfl); (case c3 => exact rfl); (case c4 => exact rfl); (case kD => decide))
  intro dp un gd outer A₀ base g L h₁ s B F N X T hpre hk hd hu
  (try dsimp only); k_fold; 
  k_steps
  rename_i l' h3 l1 h4 F2 N2 r9 h9 tk9 tlg F9 N9 fr9 o9 P9
  generalize hrows : parse 0 bs = rows at *
  have hmem : ∀ r ∈ rows, 0 ≤ r.1 ∧ r.1 < 0 + bs.length ∧ (0 ≤ r.2.1 ∧ r.2.1 < 256) ∧ (r.2.2.length : Int) ≤ ownZ r.2.1 ∧ ∀ k ∈ r.2.2, 0 ≤ k ∧ k < 256 := by
    rw [← hrows]; exact parse_mem _ bs 0 (Nat.le_refl _) fun k hk => KBw.ints_in (hbs ▸ hk)
  have hrl : rows.length ≤ 1000 := by rw [← hrows]; exact Nat.le_trans (parse_length _ bs 0 (Nat.le_refl _)) hb
  refine list_elim P9 ?_
  intro l gvs n9 hl hall
  clear P9
  have hlen : gvs.length = rows.length := by rw [hall.length, List.length_map]
  have hod : ∀ p ∈ tlg, p.1 ≠ l' := fun p hp => o9 p hp _ (List.mem_singleton.mpr rfl)
  clear l1 fr9 o9
  refine Stop.out ?_
  refine' for_list (fun c : LSt => (l', listOf c.vs.toArray c.n) :: tlg) (fun _ => []) [Str.ofString "place", Str.ofString "name", Str.ofString "laid", Str.ofString "row"] (fun i c => i ≤ rows.length ∧ StrsAre c.vs ((rows.take i).map lineZ)) ⟨[], 0⟩ rfl F9 N9 ?hn ?hk ?hp ?hsrc ?turn ?done
  case hn => exact fun p hp => by simpa using hp
  case hk => exact fun _ h => nomatch h
  case hp => exact ⟨Nat.zero_le _, .nil⟩
  case hsrc => exact fun i c h hP hkk hN => hN.isList (.tail _ hl)
  case turn =>
    intro i v c u h tk I oI hv hP FF NN ho
    obtain ⟨vs, n⟩ := c
    obtain ⟨_, hst⟩ := hP
    dsimp only [kstB] at hst FF NN ho
    have hvi : i < rows.length := hlen ▸ (List.getElem?_eq_some_iff.mp hv).1
    have hd' := dall_at hall hv (d := rowD rows[i]) (by rw [List.getElem?_map, List.getElem?_eq_getElem hvi]; rfl)
    clear hv hall
    obtain ⟨hr1, hr2, hr3, hr4, hr5⟩ := hmem rows[i] (List.getElem_mem _)
    have htk : rows.take (i + 1) = rows.take i ++ [rows[i]] := by rw [List.take_add_one, List.getElem?_eq_getElem hvi]; rfl
    generalize rows[i] = r at *
    obtain ⟨p, m, seg⟩ := r
    dsimp only at hr1 hr2 hr3 hr4 hr5
    have hsl := hst.length
    rw [List.length_map, List.length_take] at hsl
    have hvs : vs.length ≤ 1000 := by omega
    have hnI : I ≠ l' := Ne.symm (ho (l', listOf vs.toArray n) (.head _))
    have hnl := nameZ_len hr3.1 hr3.2
    refine tup3_elim hd' ?_
    intro a nn t1 t2 v3 hm q3
    clear hd'
    dsimp only at hm q3
    unfold laidD at q3
    cases ho9 : laidO m seg with
    | none =>
      rw [ho9] at q3
      obtain rfl := none_inv q3
      clear q3
      have hT : IsTup h a #[_, _, _] := NN.isTup (.tail _ (.tail _ hm))
      (try dsimp only at hT)
      (try dsimp only); (try k_fold)
      k_steps
      rename_i tz kz az hz1 tkz hz2 Fz Nz
      rw [List.push_toArray] at Nz
      refine' for_end ⟨vs ++ [.str (hexStr p.toNat 4 ++ Str.ofString " " ++ nameZ m) tz], n + 1⟩ Fz Nz (.head _) ?yn ?yo ?yk ?yr ?yp
      (case yn => exact fun q hq => .tail _ hq)
      (case yo =>
        intro q hq
        rcases List.mem_cons.mp hq with rfl | hq
        · exact Ne.symm hnI
        · exact ho q (.tail _ hq))
      (case yk => exact fun _ h => nomatch h)
      (case yr => ksw_same)
      (case yp =>
        refine ⟨hvi, ?_⟩
        rw [htk, List.map_append]
        refine hst.append' ?_
        have e : lineZ (p, m, seg) = hexStr p.toNat 4 ++ Str.ofString " " ++ nameZ m := lineZ_none ho9
        show StrsAre _ [lineZ (p, m, seg)]
        rw [e]
        exact .cons _ _ .nil)
    | some j =>
      rw [ho9] at q3
      obtain ⟨t3, rfl⟩ := int_inv q3
      clear q3
      obtain ⟨hj1, hj2⟩ := laidO_lt hr4 hr5 ho9
      have hT : IsTup h a #[_, _, _] := NN.isTup (.tail _ (.tail _ hm))
      (try dsimp only at hT)
      (try dsimp only); (try k_fold)
      k_steps
      rename_i tz kz az hz1 tkz hz2 Fz Nz
      rw [List.push_toArray] at Nz
      refine' for_end ⟨vs ++ [.str (hexStr p.toNat 4 ++ Str.ofString " " ++ nameZ m ++ (Str.ofString " 0x" ++ hexStr j.toNat 1)) tz], n + 1⟩ Fz Nz (.head _) ?yn ?yo ?yk ?yr ?yp
      (case yn => exact fun q hq => .tail _ hq)
      (case yo =>
        intro q hq
        rcases List.mem_cons.mp hq with rfl | hq
        · exact Ne.symm hnI
        · exact ho q (.tail _ hq))
      (case yk => exact fun _ h => nomatch h)
      (case yr => ksw_same)
      (case yp =>
        refine ⟨hvi, ?_⟩
        rw [htk, List.map_append]
        refine hst.append' ?_
        have e : lineZ (p, m, seg) = hexStr p.toNat 4 ++ Str.ofString " " ++ nameZ m ++ (Str.ofString " 0x" ++ hexStr j.toNat 1) := lineZ_some ho9
        show StrsAre _ [lineZ (p, m, seg)]
        rw [e]
        exact .cons _ _ .nil)
  case done =>
    intro c u h tk hP FF NN
    obtain ⟨vs, n⟩ := c
    obtain ⟨_, hst⟩ := hP
    dsimp only [kstB] at hst FF NN
    (try dsimp only); (try k_fold); 
    k_steps
    rw [hlen, List.take_length] at hst
    refine Stop.out ?_
    refine join_listW (NN.isList (.head _)) hst (by decide +kernel) ?_ fun tz kz => ?_
    · have hsum := sum_le (ys := rows.map lineZ) (c := 300) fun y hy => by
        obtain ⟨r, hr, rfl⟩ := List.mem_map.mp hy
        obtain ⟨hr1, hr2, hr3, hr4, hr5⟩ := hmem r hr
        exact lineZ_len (by omega) (by omega) hr3.1 hr3.2 hr4 hr5
      rw [List.length_map] at hsum ⊢
      omega
    · (try dsimp only)
      refine' BodyPost.ret0 [] (nx := []) ?zF ?zN (fun _ h => h) ⟨rfl, tz, by rw [hrows]; rfl⟩
      (case zF => k_asm)
      (case zN => exact fun _ h => nomatch h)
end Mine

end W9_
theorem Mine.rst_X1 : True := by
  w_top off
  first | (walk1; done) | trivial
section X1_
open PySem PySem.W PyProof.Rows PySem.Spec PySem.Calls
namespace Mine
open Builtin Builtin.Str
theorem digitChar_dig : ∀ d : Fin 16, (Nat.digitChar d.1).toNat = hexDig d.1 := by decide +kernel
theorem hexGo_eq {n k : Nat} (h : ¬ (n = 0 ∧ k = 0)) : hexGo n k = hexGo (n / 16) (k - 1) ++ [hexDig (n % 16)] := by rw [hexGo, if_neg h]
theorem hexGo_zero : hexGo 0 0 = [] := by rw [hexGo, if_pos ⟨rfl, rfl⟩]
theorem core_hex : ∀ (fuel m : Nat) (ds : List Char), m < fuel → (Nat.toDigitsCore 16 fuel m ds).map Char.toNat = hexGo m 1 ++ ds.map Char.toNat
  | 0, m, ds, h => absurd h (Nat.not_lt_zero _)
  | fuel + 1, m, ds, h => by
    unfold Nat.toDigitsCore
    have e : (Nat.digitChar (m % 16)).toNat = hexDig (m % 16) := digitChar_dig ⟨m % 16, Nat.mod_lt _ (by decide)⟩
    dsimp only
    split
    · rename_i h0
      rw [hexGo_eq (by omega), show m / 16 = 0 from h0, hexGo_zero, List.map_cons, e]
      rfl
    · rename_i h0
      rw [core_hex fuel (m / 16) _ (by omega), List.map_cons, e, hexGo_eq (n := m) (by omega), show (1 - 1 : Nat) = 0 from rfl]
      have e2 : hexGo (m / 16) 1 = hexGo (m / 16) 0 := by rw [hexGo_eq (n := m / 16) (k := 1) (by omega), hexGo_eq (n := m / 16) (k := 0) (by omega)]
      rw [e2, List.append_assoc]
      rfl
theorem digits_hex (m : Nat) : (Nat.toDigits 16 m).map Char.toNat = hexGo m 1 := by
  unfold Nat.toDigits
  rw [core_hex _ _ _ (Nat.lt_succ_self m)]
  simp
theorem hexGo_pad : ∀ (k m : Nat), hexGo m (k + 1) = List.replicate (k + 1 - (hexGo m 1).length) 48 ++ hexGo m 1
  | 0, m => by
    have h : 1 ≤ (hexGo m 1).length := by rw [hexGo_eq (by omega), List.length_append, List.length_singleton]; omega
    rw [show 0 + 1 - (hexGo m 1).length = 0 by omega]
    rfl
  | k + 1, m => by
    rw [hexGo_eq (n := m) (k := k + 1 + 1) (by omega), show k + 1 + 1 - 1 = k + 1 from rfl, hexGo_pad k (m / 16)]
    by_cases h0 : m / 16 = 0
    · rw [h0]
      have e1 : hexGo m 1 = [hexDig (m % 16)] := by rw [hexGo_eq (by omega), h0, hexGo_zero]; rfl
      have e0 : hexGo 0 1 = [48] := by rw [hexGo_eq (by omega), hexGo_zero]; rfl
      rw [e0, e1, List.length_singleton, List.length_singleton, show k + 1 - 1 = k from rfl, show k + 1 + 1 - 1 = k + 1 from rfl, List.replicate_succ']
    · have e1 : hexGo m 1 = hexGo (m / 16) 1 ++ [hexDig (m % 16)] := by
        rw [hexGo_eq (n := m) (k := 1) (by omega), show (1 - 1 : Nat) = 0 from rfl]
        congr 1
        rw [hexGo_eq (n := m / 16) (k := 1) (by omega), hexGo_eq (n := m / 16) (k := 0) (by omega)]
      rw [e1, List.length_append, List.length_singleton, ← List.append_assoc, show k + 1 + 1 - ((hexGo (m / 16) 1).length + 1) = k + 1 - (hexGo (m / 16) 1).length by omega]
theorem hexDig_ok (d : Nat) (h : d < 16) : hexDig d ≠ 45 ∧ hexDig d ≠ 43 := by
  unfold hexDig; split <;> omega
theorem hexGo_ok : ∀ (N m k : Nat), m + k ≤ N → ∀ c ∈ hexGo m k, c ≠ 45 ∧ c ≠ 43
  | N, m, k, h, c, hc => by
    by_cases h0 : m = 0 ∧ k = 0
    · obtain ⟨rfl, rfl⟩ := h0
      rw [hexGo_zero] at hc
      cases hc
    · rw [hexGo_eq h0] at hc
      rcases List.mem_append.mp hc with hc | hc
      · cases N with
        | zero => omega
        | succ N => exact hexGo_ok N _ _ (by omega) c hc
      · rw [List.mem_singleton.mp hc]
        exact hexDig_ok _ (Nat.mod_lt _ (by decide))
theorem hex_int {f : Percent} (h1 : f.alt = false) (h2 : f.type = 120) (h3 : f.prec = none) {n : Int} (hn : 0 ≤ n) : percentInt f (decide (n < 0)) ((Nat.toDigits 16 n.natAbs).map Char.toNat) = hexGo n.toNat 1 := by
  have hneg : decide (n < 0) = false := decide_eq_false (by omega)
  have e : n.natAbs = n.toNat := by omega
  rw [digits_hex, e]
  unfold percentInt
  simp [h1, h2, h3, hneg]
theorem hex_field {f : Percent} (h1 : f.alt = false) (h2 : f.type = 120) (h3 : f.prec = none) (h4 : f.sign = false) (h5 : f.blank = false) (h6 : f.ljust = false) (h7 : f.width = none ∨ f.zero = true ∧ ∃ k, f.width = some (k + 1)) {m : Nat} :
    (percentField f true (hexGo m 1) = none ∧ hexGo m (f.width.getD 1) = hexGo m 1) ∨ percentField f true (hexGo m 1) = some (hexGo m (f.width.getD 1)) := by
  rcases h7 with h7 | ⟨h8, k, h7⟩
  · left
    refine ⟨?_, by rw [h7]; rfl⟩
    unfold percentField
    simp [h3, h4, h5, h7]
  · by_cases hk : k + 1 ≤ (hexGo m 1).length
    · left
      refine ⟨?_, ?_⟩
      · unfold percentField
        simp [h3, h4, h5, h7, hk]
      · rw [h7]
        show hexGo m (k + 1) = _
        rw [hexGo_pad, show k + 1 - (hexGo m 1).length = 0 by omega]
        rfl
    · right
      have hc : (f.width.all (· ≤ (hexGo m 1).length) && f.prec.all (· ≥ (hexGo m 1).length) && !f.sign && !f.blank) = false := by
        simp [h3, h4, h5, h7, hk]
      unfold percentField
      rw [hc]
      have hne : hexGo m 1 = hexGo (m / 16) 0 ++ [hexDig (m % 16)] := hexGo_eq (by omega)
      have hok := hexGo_ok _ m 1 (Nat.le_refl _)
      rw [h7, show (some (k + 1)).getD 1 = k + 1 from rfl, hexGo_pad k m]
      generalize hexGo m 1 = text at *
      cases text with
      | nil => simp at hne
      | cons c r =>
        obtain ⟨c1, c2⟩ := hok c (.head _)
        simp only [h1, h2, h6, h8, Bool.not_true, Bool.false_eq_true, if_false, if_true, Bool.false_and, Bool.and_self]
        simp [h4, h5]
        split
        · rename_i r' e; injection e with e; exact absurd e c1
        · rename_i r' e; injection e with e; exact absurd e c2
        · simp
end Mine

end X1_
theorem Mine.rst_X2 : True := by
  w_top off
  first | (walk1; done) | trivial
section X2_
open PySem PySem.W PyProof.Rows PySem.Spec PySem.Calls
namespace Mine
open Builtin Builtin.Str
theorem hexm1 {n : Int} (hn : 0 ≤ n) (hn2 : n < 2 ^ 300) (t u : Tok) :
    Meets («str.__mod__» ⟨[.str ⟨#[85, 78, 75, 78, 79, 87, 78, 95, 37, 48, 50, 120]⟩ t, .int n u], []⟩) (fun _ R s => ∀ t' k, R (.ok (.ret (.str (PySem.Str.ofString "UNKNOWN_" ++ hexStr n.toNat 2) t'))) { s with toks := k }) := by
  have hlen : (hexStr n.toNat 2).length ≤ 85 := hexStr_len (k := 2) hn hn2 (by decide)
  apply KPc.meets_of
  intro _ _ _ _ _ _ _
  rw [KPc.entry_is]
  unfold Builtin.Str.percentFormat
  refine wpAny_bind (wpAny_isInstance (typeIs_int _ _ _) F.sub_int_tuple ?_)
  refine wpAny_bind (wpAny_of_eq (a := none) rfl ?_)
  refine wpAny_bind (wpAny_of_eq (KPc.fills _ _) ?_)
  kpc_if
  refine wpAny_bind (wpAny_pure ?_)
  refine wpAny_bind ?_
  rw [KPc.range_list]
  have g0 := KPc.good0
  generalize hf : (fun (_ : Nat) (_ : List Value × Writer × List Nat) => _) = f
  have e1 : f 0 ([.int n u], ({} : Writer), [85, 78, 75, 78, 79, 87, 78, 95, 37, 48, 50, 120]) = pure (.yield ([.int n u], (({} : Writer)).add ⟨#[85, 78, 75, 78, 79, 87, 78, 95]⟩ none, [37, 48, 50, 120])) := by rw [← hf]; kernel_rfl
  refine KPc.turn (wpAny_of_eq e1 ?_)
  have g1 := KPc.good_add (x := ⟨#[85, 78, 75, 78, 79, 87, 78, 95]⟩) g0 (KPc.obj_none rfl)
  rw [KPc.empty_app] at g1
  have e2 : f 1 ([.int n u], ((({} : Writer)).add ⟨#[85, 78, 75, 78, 79, 87, 78, 95]⟩ none), [37, 48, 50, 120]) = (match percentField { ljust := false, sign := false, blank := false, alt := false, zero := true, width := some 2, type := 120 } true (percentInt { ljust := false, sign := false, blank := false, alt := false, zero := true, width := some 2, type := 120 } (decide (n < 0)) ((Nat.toDigits 16 n.natAbs).map Char.toNat)) with
      | none => pure (.yield ([], (((({} : Writer)).add ⟨#[85, 78, 75, 78, 79, 87, 78, 95]⟩ none)).add ⟨(percentInt { ljust := false, sign := false, blank := false, alt := false, zero := true, width := some 2, type := 120 } (decide (n < 0)) ((Nat.toDigits 16 n.natAbs).map Char.toNat)).toArray⟩ none, []))
      | some laid => pure (.yield ([], (((({} : Writer)).add ⟨#[85, 78, 75, 78, 79, 87, 78, 95]⟩ none)).add ⟨laid.toArray⟩ none, []))) := by rw [← hf]; kernel_rfl
  rw [hex_int rfl rfl rfl hn] at e2
  have e3 : f 1 ([.int n u], ((({} : Writer)).add ⟨#[85, 78, 75, 78, 79, 87, 78, 95]⟩ none), [37, 48, 50, 120]) = pure (.yield ([], (((({} : Writer)).add ⟨#[85, 78, 75, 78, 79, 87, 78, 95]⟩ none)).add ⟨(hexStr n.toNat 2).cps.toList.toArray⟩ none, [])) := by
    rw [e2]
    rcases hex_field (f := { ljust := false, sign := false, blank := false, alt := false, zero := true, width := some 2, type := 120 }) rfl rfl rfl rfl rfl rfl (.inr ⟨rfl, 1, rfl⟩) (m := n.toNat) with ⟨z1, z2⟩ | z1
    · rw [z1, ← z2]; rfl
    · rw [z1]; rfl
  refine KPc.turn (wpAny_of_eq e3 ?_)
  have g2 := KPc.good_mono (KPc.good_add (x := hexStr n.toNat 2) (o := none) g1 (KPc.obj_none rfl)) (Nat.add_le_add_left hlen _)
  change KPc.Good ((((({} : Writer)).add ⟨#[85, 78, 75, 78, 79, 87, 78, 95]⟩ none)).add ⟨(hexStr n.toNat 2).cps.toList.toArray⟩ none) _ _ at g2
  generalize (((({} : Writer)).add ⟨#[85, 78, 75, 78, 79, 87, 78, 95]⟩ none)).add ⟨(hexStr n.toNat 2).cps.toList.toArray⟩ none = w2 at g2
  have e5 : f 2 ([], w2, []) = pure (.done ([], w2, [])) := by
    rw [← hf]
    show (if tooLong w2.total = true then _ else _) = _
    rw [if_neg (KPc.short_good g2 (by decide +kernel))]
    rfl
  refine KPc.turn (wpAny_of_eq e5 ?_)
  clear hf
  kpc_if
  exact KPc.finish_ok (T' := PySem.Str.ofString "UNKNOWN_" ++ hexStr n.toNat 2) g2 (by decide +kernel) (congrArg (· ++ hexStr n.toNat 2) (by decide +kernel)) (by assumption)
theorem hexm2 {n : Int} (hn : 0 ≤ n) (hn2 : n < 2 ^ 300) (t u : Tok) :
    Meets («str.__mod__» ⟨[.str ⟨#[37, 48, 52, 120, 32]⟩ t, .int n u], []⟩) (fun _ R s => ∀ t' k, R (.ok (.ret (.str (hexStr n.toNat 4 ++ PySem.Str.ofString " ") t'))) { s with toks := k }) := by
  have hlen : (hexStr n.toNat 4).length ≤ 85 := hexStr_len (k := 4) hn hn2 (by decide)
  apply KPc.meets_of
  intro _ _ _ _ _ _ _
  rw [KPc.entry_is]
  unfold Builtin.Str.percentFormat
  refine wpAny_bind (wpAny_isInstance (typeIs_int _ _ _) F.sub_int_tuple ?_)
  refine wpAny_bind (wpAny_of_eq (a := none) rfl ?_)
  refine wpAny_bind (wpAny_of_eq (KPc.fills _ _) ?_)
  kpc_if
  refine wpAny_bind (wpAny_pure ?_)
  refine wpAny_bind ?_
  rw [KPc.range_list]
  have g0 := KPc.good0
  generalize hf : (fun (_ : Nat) (_ : List Value × Writer × List Nat) => _) = f
  have e2 : f 0 ([.int n u], ({} : Writer), [37, 48, 52, 120, 32]) = (match percentField { ljust := false, sign := false, blank := false, alt := false, zero := true, width := some 4, type := 120 } true (percentInt { ljust := false, sign := false, blank := false, alt := false, zero := true, width := some 4, type := 120 } (decide (n < 0)) ((Nat.toDigits 16 n.natAbs).map Char.toNat)) with
      | none => pure (.yield ([], (({} : Writer)).add ⟨(percentInt { ljust := false, sign := false, blank := false, alt := false, zero := true, width := some 4, type := 120 } (decide (n < 0)) ((Nat.toDigits 16 n.natAbs).map Char.toNat)).toArray⟩ none, [32]))
      | some laid => pure (.yield ([], (({} : Writer)).add ⟨laid.toArray⟩ none, [32]))) := by rw [← hf]; kernel_rfl
  rw [hex_int rfl rfl rfl hn] at e2
  have e3 : f 0 ([.int n u], ({} : Writer), [37, 48, 52, 120, 32]) = pure (.yield ([], (({} : Writer)).add ⟨(hexStr n.toNat 4).cps.toList.toArray⟩ none, [32])) := by
    rw [e2]
    rcases hex_field (f := { ljust := false, sign := false, blank := false, alt := false, zero := true, width := some 4, type := 120 }) rfl rfl rfl rfl rfl rfl (.inr ⟨rfl, 3, rfl⟩) (m := n.toNat) with ⟨z1, z2⟩ | z1
    · rw [z1, ← z2]; rfl
    · rw [z1]; rfl
  refine KPc.turn (wpAny_of_eq e3 ?_)
  have g2 := KPc.good_mono (KPc.good_add (x := hexStr n.toNat 4) (o := none) g0 (KPc.obj_none rfl)) (Nat.add_le_add_left hlen _)
  rw [KPc.empty_app] at g2
  change KPc.Good ((({} : Writer)).add ⟨(hexStr n.toNat 4).cps.toList.toArray⟩ none) _ _ at g2
  generalize (({} : Writer)).add ⟨(hexStr n.toNat 4).cps.toList.toArray⟩ none = w2 at g2
  have e4 : f 1 ([], w2, [32]) = pure (.yield ([], w2.add ⟨#[32]⟩ none, [])) := by
    rw [← hf]
    show (if tooLong w2.total = true then _ else _) = _
    rw [if_neg (KPc.short_good g2 (by decide +kernel))]
    kernel_rfl
  refine KPc.turn (wpAny_of_eq e4 ?_)
  have g3 := KPc.good_add (x := ⟨#[32]⟩) g2 (KPc.obj_none rfl)
  generalize w2.add ⟨#[32]⟩ none = w3 at g3
  have e5 : f 2 ([], w3, []) = pure (.done ([], w3, [])) := by
    rw [← hf]
    show (if tooLong w3.total = true then _ else _) = _
    rw [if_neg (KPc.short_good g3 (by decide +kernel))]
    rfl
  refine KPc.turn (wpAny_of_eq e5 ?_)
  clear hf
  kpc_if
  exact KPc.finish_ok (T' := hexStr n.toNat 4 ++ PySem.Str.ofString " ") g3 (by decide +kernel) (congrArg (hexStr n.toNat 4 ++ ·) (by decide +kernel)) (by assumption)
theorem hexm3 {n : Int} (hn : 0 ≤ n) (hn2 : n < 2 ^ 300) (t u : Tok) :
    Meets («str.__mod__» ⟨[.str ⟨#[32, 48, 120, 37, 120]⟩ t, .int n u], []⟩) (fun _ R s => ∀ t' k, R (.ok (.ret (.str (PySem.Str.ofString " 0x" ++ hexStr n.toNat 1) t'))) { s with toks := k }) := by
  have hlen : (hexStr n.toNat 1).length ≤ 85 := hexStr_len (k := 1) hn hn2 (by decide)
  apply KPc.meets_of
  intro _ _ _ _ _ _ _
  rw [KPc.entry_is]
  unfold Builtin.Str.percentFormat
  refine wpAny_bind (wpAny_isInstance (typeIs_int _ _ _) F.sub_int_tuple ?_)
  refine wpAny_bind (wpAny_of_eq (a := none) rfl ?_)
  refine wpAny_bind (wpAny_of_eq (KPc.fills _ _) ?_)
  kpc_if
  refine wpAny_bind (wpAny_pure ?_)
  refine wpAny_bind ?_
  rw [KPc.range_list]
  have g0 := KPc.good0
  generalize hf : (fun (_ : Nat) (_ : List Value × Writer × List Nat) => _) = f
  have e1 : f 0 ([.int n u], ({} : Writer), [32, 48, 120, 37, 120]) = pure (.yield ([.int n u], (({} : Writer)).add ⟨#[32, 48, 120]⟩ none, [37, 120])) := by rw [← hf]; kernel_rfl
  refine KPc.turn (wpAny_of_eq e1 ?_)
  have g1 := KPc.good_add (x := ⟨#[32, 48, 120]⟩) g0 (KPc.obj_none rfl)
  rw [KPc.empty_app] at g1
  have e2 : f 1 ([.int n u], ((({} : Writer)).add ⟨#[32, 48, 120]⟩ none), [37, 120]) = (match percentField { ljust := false, sign := false, blank := false, alt := false, zero := false, width := none, type := 120 } true (percentInt { ljust := false, sign := false, blank := false, alt := false, zero := false, width := none, type := 120 } (decide (n < 0)) ((Nat.toDigits 16 n.natAbs).map Char.toNat)) with
      | none => pure (.yield ([], (((({} : Writer)).add ⟨#[32, 48, 120]⟩ none)).add ⟨(percentInt { ljust := false, sign := false, blank := false, alt := false, zero := false, width := none, type := 120 } (decide (n < 0)) ((Nat.toDigits 16 n.natAbs).map Char.toNat)).toArray⟩ none, []))
      | some laid => pure (.yield ([], (((({} : Writer)).add ⟨#[32, 48, 120]⟩ none)).add ⟨laid.toArray⟩ none, []))) := by rw [← hf]; kernel_rfl
  rw [hex_int rfl rfl rfl hn] at e2
  have e3 : f 1 ([.int n u], ((({} : Writer)).add ⟨#[32, 48, 120]⟩ none), [37, 120]) = pure (.yield ([], (((({} : Writer)).add ⟨#[32, 48, 120]⟩ none)).add ⟨(hexStr n.toNat 1).cps.toList.toArray⟩ none, [])) := by
    rw [e2]
    rcases hex_field (f := { ljust := false, sign := false, blank := false, alt := false, zero := false, width := none, type := 120 }) rfl rfl rfl rfl rfl rfl (.inl rfl) (m := n.toNat) with ⟨z1, z2⟩ | z1
    · rw [z1, ← z2]; rfl
    · rw [z1]; rfl
  refine KPc.turn (wpAny_of_eq e3 ?_)
  have g2 := KPc.good_mono (KPc.good_add (x := hexStr n.toNat 1) (o := none) g1 (KPc.obj_none rfl)) (Nat.add_le_add_left hlen _)
  change KPc.Good ((((({} : Writer)).add ⟨#[32, 48, 120]⟩ none)).add ⟨(hexStr n.toNat 1).cps.toList.toArray⟩ none) _ _ at g2
  generalize (((({} : Writer)).add ⟨#[32, 48, 120]⟩ none)).add ⟨(hexStr n.toNat 1).cps.toList.toArray⟩ none = w2 at g2
  have e5 : f 2 ([], w2, []) = pure (.done ([], w2, [])) := by
    rw [← hf]
    show (if tooLong w2.total = true then _ else _) = _
    rw [if_neg (KPc.short_good g2 (by decide +kernel))]
    rfl
  refine KPc.turn (wpAny_of_eq e5 ?_)
  clear hf
  kpc_if
  exact KPc.finish_ok (T' := PySem.Str.ofString " 0x" ++ hexStr n.toNat 1) g2 (by decide +kernel) (congrArg (· ++ hexStr n.toNat 1) (by decide +kernel)) (by assumption)
section
variable {prog : Program} {w : World} {A : Around} {E : Value → Shared → Prop} {s : Shared} {n : Int} {t u : Tok} {Q : Value → Shared → Prop}
theorem log_ok (hn : 0 ≤ n) (hn2 : n < 2 ^ 300) : n.natAbs.log2 < 1920 := by
  by_cases h0 : n.natAbs = 0
  · rw [h0]; decide
  · have e : (2 : Int) ^ 300 = ((2 ^ 300 : Nat) : Int) := by decide +kernel
    rw [e] at hn2
    have := (Nat.log2_lt h0).mpr (show n.natAbs < 2 ^ 300 by omega)
    omega
theorem fmt1 (hn : 0 ≤ n) (hn2 : n < 2 ^ 300) (h : ∀ t' k, Q (.str (PySem.Str.ofString "UNKNOWN_" ++ hexStr n.toNat 2) t') { s with toks := k }) : wpAny (model prog w) A (binaryOp .Mod (.str (PySem.Str.ofString "UNKNOWN_%02x") t) (.int n u)) Q E s :=
  KPc.mod_lit (by decide +kernel) (log_ok hn hn2) (fun _ _ => hexm1 hn hn2 t u) h
theorem fmt2 (hn : 0 ≤ n) (hn2 : n < 2 ^ 300) (h : ∀ t' k, Q (.str (hexStr n.toNat 4 ++ PySem.Str.ofString " ") t') { s with toks := k }) : wpAny (model prog w) A (binaryOp .Mod (.str (PySem.Str.ofString "%04x ") t) (.int n u)) Q E s :=
  KPc.mod_lit (by decide +kernel) (log_ok hn hn2) (fun _ _ => hexm2 hn hn2 t u) h
theorem fmt3 (hn : 0 ≤ n) (hn2 : n < 2 ^ 300) (h : ∀ t' k, Q (.str (PySem.Str.ofString " 0x" ++ hexStr n.toNat 1) t') { s with toks := k }) : wpAny (model prog w) A (binaryOp .Mod (.str (PySem.Str.ofString " 0x%x") t) (.int n u)) Q E s :=
  KPc.mod_lit (by decide +kernel) (log_ok hn hn2) (fun _ _ => hexm3 hn hn2 t u) h
end
end Mine

end X2_
theorem Mine.rst_X4 : True := by
  w_top off
  first | (walk1; done) | trivial
section X4_
open PySem PySem.W PyProof.Rows PySem.Spec PySem.Calls
namespace Mine
noncomputable def lawWords : List Str := [Str.ofString "STOP ADD MUL SUB DIV SDIV MOD SMOD ADDMOD MULMOD EXP SIGNEXTEND", Str.ofString "LT GT SLT SGT EQ ISZERO AND OR XOR NOT BYTE SHL SHR SAR", Str.ofString "KECCAK256",
  Str.ofString "ADDRESS BALANCE ORIGIN CALLER CALLVALUE CALLDATALOAD CALLDATASIZE CALLDATACOPY CODESIZE CODECOPY GASPRICE EXTCODESIZE EXTCODECOPY RETURNDATASIZE RETURNDATACOPY EXTCODEHASH",
  Str.ofString "BLOCKHASH COINBASE TIMESTAMP NUMBER PREVRANDAO GASLIMIT CHAINID SELFBALANCE BASEFEE", Str.ofString "POP MLOAD MSTORE MSTORE8 SLOAD SSTORE JUMP JUMPI PC MSIZE GAS JUMPDEST ? ? ? PUSH0",
  Str.ofString "CREATE CALL CALLCODE RETURN DELEGATECALL CREATE2 ? ? ? ? STATICCALL ? ? REVERT INVALID SELFDESTRUCT"]
theorem lawWords_ok : ∀ x ∈ lawWords, x.length ≤ 300 := by decide +kernel
theorem words0 : wordsOf (Str.ofString "STOP ADD MUL SUB DIV SDIV MOD SMOD ADDMOD MULMOD EXP SIGNEXTEND") = [⟨#[83,84,79,80]⟩, ⟨#[65,68,68]⟩, ⟨#[77,85,76]⟩, ⟨#[83,85,66]⟩, ⟨#[68,73,86]⟩, ⟨#[83,68,73,86]⟩, ⟨#[77,79,68]⟩, ⟨#[83,77,79,68]⟩, ⟨#[65,68,68,77,79,68]⟩, ⟨#[77,85,76,77,79,68]⟩, ⟨#[69,88,80]⟩, ⟨#[83,73,71,78,69,88,84,69,78,68]⟩] := by decide +kernel
theorem words1 : wordsOf (Str.ofString "LT GT SLT SGT EQ ISZERO AND OR XOR NOT BYTE SHL SHR SAR") = [⟨#[76,84]⟩, ⟨#[71,84]⟩, ⟨#[83,76,84]⟩, ⟨#[83,71,84]⟩, ⟨#[69,81]⟩, ⟨#[73,83,90,69,82,79]⟩, ⟨#[65,78,68]⟩, ⟨#[79,82]⟩, ⟨#[88,79,82]⟩, ⟨#[78,79,84]⟩, ⟨#[66,89,84,69]⟩, ⟨#[83,72,76]⟩, ⟨#[83,72,82]⟩, ⟨#[83,65,82]⟩] := by decide +kernel
theorem words2 : wordsOf (Str.ofString "KECCAK256") = [⟨#[75,69,67,67,65,75,50,53,54]⟩] := by decide +kernel
theorem words3 : wordsOf (Str.ofString "ADDRESS BALANCE ORIGIN CALLER CALLVALUE CALLDATALOAD CALLDATASIZE CALLDATACOPY CODESIZE CODECOPY GASPRICE EXTCODESIZE EXTCODECOPY RETURNDATASIZE RETURNDATACOPY EXTCODEHASH") = [⟨#[65,68,68,82,69,83,83]⟩, ⟨#[66,65,76,65,78,67,69]⟩, ⟨#[79,82,73,71,73,78]⟩, ⟨#[67,65,76,76,69,82]⟩, ⟨#[67,65,76,76,86,65,76,85,69]⟩, ⟨#[67,65,76,76,68,65,84,65,76,79,65,68]⟩, ⟨#[67,65,76,76,68,65,84,65,83,73,90,69]⟩, ⟨#[67,65,76,76,68,65,84,65,67,79,80,89]⟩, ⟨#[67,79,68,69,83,73,90,69]⟩, ⟨#[67,79,68,69,67,79,80,89]⟩, ⟨#[71,65,83,80,82,73,67,69]⟩, ⟨#[69,88,84,67,79,68,69,83,73,90,69]⟩, ⟨#[69,88,84,67,79,68,69,67,79,80,89]⟩, ⟨#[82,69,84,85,82,78,68,65,84,65,83,73,90,69]⟩, ⟨#[82,69,84,85,82,78,68,65,84,65,67,79,80,89]⟩, ⟨#[69,88,84,67,79,68,69,72,65,83,72]⟩] := by decide +kernel
theorem words4 : wordsOf (Str.ofString "BLOCKHASH COINBASE TIMESTAMP NUMBER PREVRANDAO GASLIMIT CHAINID SELFBALANCE BASEFEE") = [⟨#[66,76,79,67,75,72,65,83,72]⟩, ⟨#[67,79,73,78,66,65,83,69]⟩, ⟨#[84,73,77,69,83,84,65,77,80]⟩, ⟨#[78,85,77,66,69,82]⟩, ⟨#[80,82,69,86,82,65,78,68,65,79]⟩, ⟨#[71,65,83,76,73,77,73,84]⟩, ⟨#[67,72,65,73,78,73,68]⟩, ⟨#[83,69,76,70,66,65,76,65,78,67,69]⟩, ⟨#[66,65,83,69,70,69,69]⟩] := by decide +kernel
theorem words5 : wordsOf (Str.ofString "POP MLOAD MSTORE MSTORE8 SLOAD SSTORE JUMP JUMPI PC MSIZE GAS JUMPDEST ? ? ? PUSH0") = [⟨#[80,79,80]⟩, ⟨#[77,76,79,65,68]⟩, ⟨#[77,83,84,79,82,69]⟩, ⟨#[77,83,84,79,82,69,56]⟩, ⟨#[83,76,79,65,68]⟩, ⟨#[83,83,84,79,82,69]⟩, ⟨#[74,85,77,80]⟩, ⟨#[74,85,77,80,73]⟩, ⟨#[80,67]⟩, ⟨#[77,83,73,90,69]⟩, ⟨#[71,65,83]⟩, ⟨#[74,85,77,80,68,69,83,84]⟩, ⟨#[63]⟩, ⟨#[63]⟩, ⟨#[63]⟩, ⟨#[80,85,83,72,48]⟩] := by decide +kernel
theorem words6 : wordsOf (Str.ofString "CREATE CALL CALLCODE RETURN DELEGATECALL CREATE2 ? ? ? ? STATICCALL ? ? REVERT INVALID SELFDESTRUCT") = [⟨#[67,82,69,65,84,69]⟩, ⟨#[67,65,76,76]⟩, ⟨#[67,65,76,76,67,79,68,69]⟩, ⟨#[82,69,84,85,82,78]⟩, ⟨#[68,69,76,69,71,65,84,69,67,65,76,76]⟩, ⟨#[67,82,69,65,84,69,50]⟩, ⟨#[63]⟩, ⟨#[63]⟩, ⟨#[63]⟩, ⟨#[63]⟩, ⟨#[83,84,65,84,73,67,67,65,76,76]⟩, ⟨#[63]⟩, ⟨#[63]⟩, ⟨#[82,69,86,69,82,84]⟩, ⟨#[73,78,86,65,76,73,68]⟩, ⟨#[83,69,76,70,68,69,83,84,82,85,67,84]⟩] := by decide +kernel
noncomputable def wordsLit : List (List Str) := [[⟨#[83,84,79,80]⟩, ⟨#[65,68,68]⟩, ⟨#[77,85,76]⟩, ⟨#[83,85,66]⟩, ⟨#[68,73,86]⟩, ⟨#[83,68,73,86]⟩, ⟨#[77,79,68]⟩, ⟨#[83,77,79,68]⟩, ⟨#[65,68,68,77,79,68]⟩, ⟨#[77,85,76,77,79,68]⟩, ⟨#[69,88,80]⟩, ⟨#[83,73,71,78,69,88,84,69,78,68]⟩],
  [⟨#[76,84]⟩, ⟨#[71,84]⟩, ⟨#[83,76,84]⟩, ⟨#[83,71,84]⟩, ⟨#[69,81]⟩, ⟨#[73,83,90,69,82,79]⟩, ⟨#[65,78,68]⟩, ⟨#[79,82]⟩, ⟨#[88,79,82]⟩, ⟨#[78,79,84]⟩, ⟨#[66,89,84,69]⟩, ⟨#[83,72,76]⟩, ⟨#[83,72,82]⟩, ⟨#[83,65,82]⟩],
  [⟨#[75,69,67,67,65,75,50,53,54]⟩],
  [⟨#[65,68,68,82,69,83,83]⟩, ⟨#[66,65,76,65,78,67,69]⟩, ⟨#[79,82,73,71,73,78]⟩, ⟨#[67,65,76,76,69,82]⟩, ⟨#[67,65,76,76,86,65,76,85,69]⟩, ⟨#[67,65,76,76,68,65,84,65,76,79,65,68]⟩, ⟨#[67,65,76,76,68,65,84,65,83,73,90,69]⟩, ⟨#[67,65,76,76,68,65,84,65,67,79,80,89]⟩, ⟨#[67,79,68,69,83,73,90,69]⟩, ⟨#[67,79,68,69,67,79,80,89]⟩, ⟨#[71,65,83,80,82,73,67,69]⟩, ⟨#[69,88,84,67,79,68,69,83,73,90,69]⟩, ⟨#[69,88,84,67,79,68,69,67,79,80,89]⟩, ⟨#[82,69,84,85,82,78,68,65,84,65,83,73,90,69]⟩, ⟨#[82,69,84,85,82,78,68,65,84,65,67,79,80,89]⟩, ⟨#[69,88,84,67,79,68,69,72,65,83,72]⟩],
  [⟨#[66,76,79,67,75,72,65,83,72]⟩, ⟨#[67,79,73,78,66,65,83,69]⟩, ⟨#[84,73,77,69,83,84,65,77,80]⟩, ⟨#[78,85,77,66,69,82]⟩, ⟨#[80,82,69,86,82,65,78,68,65,79]⟩, ⟨#[71,65,83,76,73,77,73,84]⟩, ⟨#[67,72,65,73,78,73,68]⟩, ⟨#[83,69,76,70,66,65,76,65,78,67,69]⟩, ⟨#[66,65,83,69,70,69,69]⟩],
  [⟨#[80,79,80]⟩, ⟨#[77,76,79,65,68]⟩, ⟨#[77,83,84,79,82,69]⟩, ⟨#[77,83,84,79,82,69,56]⟩, ⟨#[83,76,79,65,68]⟩, ⟨#[83,83,84,79,82,69]⟩, ⟨#[74,85,77,80]⟩, ⟨#[74,85,77,80,73]⟩, ⟨#[80,67]⟩, ⟨#[77,83,73,90,69]⟩, ⟨#[71,65,83]⟩, ⟨#[74,85,77,80,68,69,83,84]⟩, ⟨#[63]⟩, ⟨#[63]⟩, ⟨#[63]⟩, ⟨#[80,85,83,72,48]⟩],
  [⟨#[67,82,69,65,84,69]⟩, ⟨#[67,65,76,76]⟩, ⟨#[67,65,76,76,67,79,68,69]⟩, ⟨#[82,69,84,85,82,78]⟩, ⟨#[68,69,76,69,71,65,84,69,67,65,76,76]⟩, ⟨#[67,82,69,65,84,69,50]⟩, ⟨#[63]⟩, ⟨#[63]⟩, ⟨#[63]⟩, ⟨#[63]⟩, ⟨#[83,84,65,84,73,67,67,65,76,76]⟩, ⟨#[63]⟩, ⟨#[63]⟩, ⟨#[82,69,86,69,82,84]⟩, ⟨#[73,78,86,65,76,73,68]⟩, ⟨#[83,69,76,70,68,69,83,84,82,85,67,84]⟩]]
theorem words_lit : lawWords.map wordsOf = wordsLit := by unfold lawWords wordsLit; simp only [List.map_cons, List.map_nil, words0, words1, words2, words3, words4, words5, words6]
theorem lawSplit_len : ∀ x ∈ lawWords, (Txt.split x (Str.ofString " ")).length ≤ 100 := fun x hx => by
  have h : ∀ ys ∈ wordsLit, ys.length ≤ 100 := by decide +kernel
  exact h (wordsOf x) (words_lit ▸ List.mem_map_of_mem hx)
theorem named1 : ∀ i : Fin 32, tabName tabOps (96 + (i.1 : Int)) = some (Str.ofString "PUSH" ++ Str.ofString (toString (96 + (i.1 : Int) - 95))) := by rw [tabOps_lit]; decide +kernel
theorem named2 : ∀ i : Fin 16, tabName tabOps (128 + (i.1 : Int)) = some (Str.ofString "DUP" ++ Str.ofString (toString ((i.1 : Int) + 1))) := by rw [tabOps_lit]; decide +kernel
theorem named3 : ∀ i : Fin 16, tabName tabOps (144 + (i.1 : Int)) = some (Str.ofString "SWAP" ++ Str.ofString (toString ((i.1 : Int) + 1))) := by rw [tabOps_lit]; decide +kernel
theorem named4 : ∀ i : Fin 5, tabName tabOps (160 + (i.1 : Int)) = some (Str.ofString "LOG" ++ Str.ofString (toString (i.1 : Int))) := by rw [tabOps_lit]; decide +kernel
/-- the word of the place, if it is one -/
noncomputable def wordAt (x : Str) (low : Nat) : Option Str := match (Txt.split x (Str.ofString " "))[low]? with
  | some y => if y = Str.ofString "?" then none else some y
  | none => none
noncomputable def wordIn (ys : List Str) (low : Nat) : Option Str := match ys[low]? with
  | some y => if y = Str.ofString "?" then none else some y
  | none => none
theorem word_lit (h : Nat) (hh : h < 7) (low : Nat) : wordAt (lawWords.getD h Str.empty) low = wordIn (wordsLit.getD h []) low := by
  have e : wordsLit.getD h [] = wordsOf (lawWords.getD h Str.empty) := by
    rw [← words_lit, List.getD_eq_getElem?_getD, List.getD_eq_getElem?_getD, List.getElem?_map]
    have : lawWords[h]? = some lawWords[h] := List.getElem?_eq_getElem hh
    rw [this]; rfl
  rw [e]; rfl
theorem named5 : ∀ h : Fin 6, ∀ i : Fin 16, tabName tabOps (16 * (h.1 : Int) + (i.1 : Int)) = wordAt (lawWords.getD h.1 Str.empty) i.1 := by
  have k : ∀ h : Fin 6, ∀ i : Fin 16, tabName tabLit (16 * (h.1 : Int) + (i.1 : Int)) = wordIn (wordsLit.getD h.1 []) i.1 := by decide +kernel
  intro h i; rw [tabOps_lit, word_lit _ (by omega)]; exact k h i
theorem named6 : ∀ i : Fin 16, tabName tabOps (240 + (i.1 : Int)) = wordAt (lawWords.getD 6 Str.empty) i.1 := by
  have k : ∀ i : Fin 16, tabName tabLit (240 + (i.1 : Int)) = wordIn (wordsLit.getD 6 []) i.1 := by decide +kernel
  intro i; rw [tabOps_lit, word_lit _ (by omega)]; exact k i
theorem named7 : ∀ i : Fin 80, i.1 < 5 ∨ tabName tabOps (160 + (i.1 : Int)) = none := by rw [tabOps_lit]; decide +kernel
section
variable {n : Int} {x : Str}
theorem split16 (h0 : 0 ≤ n) : n = 16 * n.fdiv 16 + n.fmod 16 ∧ 0 ≤ n.fmod 16 ∧ n.fmod 16 < 16 ∧ 0 ≤ n.fdiv 16 := by
  rw [Int.fdiv_eq_ediv_of_nonneg _ (by decide), Int.fmod_eq_emod_of_nonneg _ (by decide)]
  omega
theorem name_some {y : Str} (h : tabName tabOps n = some y) : y = nameZ n := by unfold nameZ; rw [h]; rfl
theorem nm_unk (h : tabName tabOps n = none) : Str.ofString "UNKNOWN_" ++ hexStr n.toNat 2 = nameZ n := by unfold nameZ; rw [h]; rfl
theorem nm_push (h0 : 0 ≤ n) (h : n.fdiv 16 = 6 ∨ n.fdiv 16 = 7) : Str.ofString "PUSH" ++ Str.ofString (toString (n - 95)) = nameZ n := by
  obtain ⟨e, a, b, _⟩ := split16 h0
  have := named1 ⟨(n - 96).toNat, by omega⟩
  have e2 : 96 + (((n - 96).toNat : Nat) : Int) = n := by omega
  dsimp only at this
  rw [e2] at this
  exact name_some this
theorem nm_dup (h0 : 0 ≤ n) (h : n.fdiv 16 = 8) : Str.ofString "DUP" ++ Str.ofString (toString (n.fmod 16 + 1)) = nameZ n := by
  obtain ⟨e, a, b, _⟩ := split16 h0
  have := named2 ⟨(n.fmod 16).toNat, by omega⟩
  have e2 : (((n.fmod 16).toNat : Nat) : Int) = n.fmod 16 := by omega
  have e3 : 128 + n.fmod 16 = n := by omega
  dsimp only at this
  rw [e2, e3] at this
  exact name_some this
theorem nm_swap (h0 : 0 ≤ n) (h : n.fdiv 16 = 9) : Str.ofString "SWAP" ++ Str.ofString (toString (n.fmod 16 + 1)) = nameZ n := by
  obtain ⟨e, a, b, _⟩ := split16 h0
  have := named3 ⟨(n.fmod 16).toNat, by omega⟩
  have e2 : (((n.fmod 16).toNat : Nat) : Int) = n.fmod 16 := by omega
  have e3 : 144 + n.fmod 16 = n := by omega
  dsimp only at this
  rw [e2, e3] at this
  exact name_some this
theorem nm_log (h0 : 0 ≤ n) (h : n.fdiv 16 = 10) (hl : n.fmod 16 < 5) : Str.ofString "LOG" ++ Str.ofString (toString (n.fmod 16)) = nameZ n := by
  obtain ⟨e, a, b, _⟩ := split16 h0
  have := named4 ⟨(n.fmod 16).toNat, by omega⟩
  have e2 : (((n.fmod 16).toNat : Nat) : Int) = n.fmod 16 := by omega
  have e3 : 160 + n.fmod 16 = n := by omega
  dsimp only at this
  rw [e2, e3] at this
  exact name_some this
theorem nm_tab (h0 : 0 ≤ n) (hx : lawWords[(n.fdiv 16).toNat]? = some x) (h : n.fdiv 16 < 6) : tabName tabOps n = wordAt x (n.fmod 16).toNat := by
  obtain ⟨e, a, b, c⟩ := split16 h0
  have := named5 ⟨(n.fdiv 16).toNat, by omega⟩ ⟨(n.fmod 16).toNat, by omega⟩
  dsimp only at this
  have e2 : 16 * (((n.fdiv 16).toNat : Nat) : Int) + (((n.fmod 16).toNat : Nat) : Int) = n := by omega
  rw [e2, List.getD_eq_getElem?_getD, hx] at this
  exact this
theorem nm_tab15 (h0 : 0 ≤ n) (hx : lawWords[Int.toNat 6]? = some x) (h : n.fdiv 16 = 15) : tabName tabOps n = wordAt x (n.fmod 16).toNat := by
  obtain ⟨e, a, b, c⟩ := split16 h0
  have := named6 ⟨(n.fmod 16).toNat, by omega⟩
  dsimp only at this
  have e2 : 240 + (((n.fmod 16).toNat : Nat) : Int) = n := by omega
  rw [e2, List.getD_eq_getElem?_getD, show lawWords[6]? = some x from hx] at this
  exact this
theorem nm_yes (h0 : 0 ≤ n) (ht : tabName tabOps n = wordAt x (n.fmod 16).toNat) (hl : n.fmod 16 < ((Txt.split x (Str.ofString " ")).length : Int)) (hq : ((Txt.split x (Str.ofString " ")).getD (n.fmod 16).toNat Str.empty != Str.ofString "?") = true) :
    (Txt.split x (Str.ofString " ")).getD (n.fmod 16).toNat Str.empty = nameZ n := by
  obtain ⟨e, a, b, c⟩ := split16 h0
  have hl' : (n.fmod 16).toNat < (Txt.split x (Str.ofString " ")).length := by omega
  unfold wordAt at ht
  rw [List.getElem?_eq_getElem hl'] at ht
  rw [List.getD_eq_getElem?_getD, List.getElem?_eq_getElem hl', Option.getD_some] at hq ⊢
  dsimp only at ht
  rw [if_neg (by intro e; rw [e] at hq; revert hq; decide +kernel)] at ht
  exact name_some ht
theorem nm_no1 (h0 : 0 ≤ n) (ht : tabName tabOps n = wordAt x (n.fmod 16).toNat) (hl : n.fmod 16 < ((Txt.split x (Str.ofString " ")).length : Int)) (hq : ((Txt.split x (Str.ofString " ")).getD (n.fmod 16).toNat Str.empty != Str.ofString "?") = false) :
    Str.ofString "UNKNOWN_" ++ hexStr n.toNat 2 = nameZ n := by
  obtain ⟨e, a, b, c⟩ := split16 h0
  have hl' : (n.fmod 16).toNat < (Txt.split x (Str.ofString " ")).length := by omega
  unfold wordAt at ht
  rw [List.getElem?_eq_getElem hl'] at ht
  rw [List.getD_eq_getElem?_getD, List.getElem?_eq_getElem hl', Option.getD_some] at hq
  dsimp only at ht
  rw [if_pos (by simpa [bne] using hq)] at ht
  exact nm_unk ht
theorem nm_no2 (h0 : 0 ≤ n) (ht : tabName tabOps n = wordAt x (n.fmod 16).toNat) (hl : ¬ n.fmod 16 < ((Txt.split x (Str.ofString " ")).length : Int)) : Str.ofString "UNKNOWN_" ++ hexStr n.toNat 2 = nameZ n := by
  obtain ⟨e, a, b, c⟩ := split16 h0
  unfold wordAt at ht
  rw [List.getElem?_eq_none (by omega)] at ht
  exact nm_unk ht
theorem nm_rest (h0 : 0 ≤ n) (h1 : n < 256) (a : 10 ≤ n.fdiv 16) (b : n.fdiv 16 = 10 → ¬ n.fmod 16 < 5) (c : n.fdiv 16 ≠ 15) : Str.ofString "UNKNOWN_" ++ hexStr n.toNat 2 = nameZ n := by
  obtain ⟨e, a2, b2, c2⟩ := split16 h0
  have := named7 ⟨(n - 160).toNat, by omega⟩
  have e2 : 160 + (((n - 160).toNat : Nat) : Int) = n := by omega
  dsimp only at this
  rw [e2] at this
  rcases this with h | h
  · exfalso
    have : n.fdiv 16 = 10 := by omega
    have := b this
    omega
  · exact nm_unk h
theorem str_post {X Y : Str} {t : Tok} (e : X = Y) : ∃ t', Value.str X t = Value.str Y t' := ⟨t, by rw [e]⟩
end
end Mine

end X4_
theorem Mine.rst_W10 : True := by
  w_top off
  first | (walk1; done) | trivial
section W10_
open PySem PySem.W PyProof.Rows PySem.Spec PySem.Calls
namespace Mine
noncomputable def WordsAt (g : Heap) : Prop := ∃ items : List Value, IsTup g 97 items.toArray ∧ StrsAre items lawWords
theorem words_at {w : World} {g : Heap} (X : (Mine.hp39 w.params).In g) : WordsAt g := by
  refine ⟨[Value.str _ 320, Value.str _ 321, Value.str _ 322, Value.str _ 323, Value.str _ 324, Value.str _ 325, Value.str _ 326], ⟨_, X 97 _ rfl, rfl, _, rfl⟩, ?_⟩
  exact .cons _ _ (.cons _ _ (.cons _ _ (.cons _ _ (.cons _ _ (.cons _ _ (.cons _ _ .nil))))))
section
variable {prog : Program} {w : World} {A : Around} {E : Value → Shared → Prop} {s : Shared}
theorem words_sub {value slice : PySem.Expr} {k : Int} {u : Tok} {Q : Value → Shared → Prop} {g : Heap} {L : Addr} {m : Str → Option Value} (hW : WordsAt g) (F : Fr g L s.heap m) (h0 : 0 ≤ k) (h1 : k < 7)
    (h : ∀ x tx, lawWords[k.toNat]? = some x → x.length ≤ 300 → Q (.str x tx) s)
    (hs : subscripted slice false (.ref 97) (.int k u) = operate [.ref 97, .int k u] (getItem (.ref 97) (.int k u)) := by with_unfolding_all rfl) (hg : ∀ r, letTemporaryGo value (.ref 97) r = pure () := by intro _; with_unfolding_all rfl) :
    wpAny (model prog w) A (subscriptTail value slice (.ref 97) (.int k u)) Q E s := by
  obtain ⟨items, hT, hS⟩ := hW
  have hl : k.toNat < lawWords.length := by show k.toNat < 7; omega
  obtain ⟨tx, hx⟩ := hS.get k.toNat lawWords[k.toNat] (List.getElem?_eq_getElem hl)
  have e := hS.length
  have e7 : lawWords.length = 7 := rfl
  exact item_tupleL (hT.keeps F.keep) (by omega) (by omega) (seqIndex_of h0 (by rw [e, e7]; exact h1)) hx (h _ tx (List.getElem?_eq_getElem hl) (lawWords_ok _ (List.getElem_mem _))) hs hg
theorem strs_sub {value slice : PySem.Expr} {D : Addr} {vs : List Value} {c : Nat} {ys : List Str} {k : Int} {u : Tok} {Q : Value → Shared → Prop} {g : Heap} {L : Addr} {nx : Led} (hS : StrsAre vs ys) (N : News g L s.heap nx) (hm : (D, listOf vs.toArray c) ∈ nx)
    (h0 : 0 ≤ k) (h2 : k < 1000) (h1 : k < (ys.length : Int)) (h : ∀ y ty, ys[k.toNat]? = some y → Q (.str y ty) s)
    (hs : subscripted slice false (.ref D) (.int k u) = operate [.ref D, .int k u] (getItem (.ref D) (.int k u)) := by with_unfolding_all rfl) :
    wpAny (model prog w) A (subscriptTail value slice (.ref D) (.int k u)) Q E s := by
  have e := hS.length
  have hl : k.toNat < ys.length := by omega
  obtain ⟨ty, hy⟩ := hS.get k.toNat ys[k.toNat] (List.getElem?_eq_getElem hl)
  exact item_listR (N.isList hm) h0 (by omega) (by simpa using hy) (h _ ty (List.getElem?_eq_getElem hl)) hs
theorem strs_len {D : Addr} {vs : List Value} {c : Nat} {ys : List Str} {Q : Value → Shared → Prop} {g : Heap} {L : Addr} {nx : Led} (N : News g L s.heap nx) (hm : (D, listOf vs.toArray c) ∈ nx) (hS : StrsAre vs ys) (hl : ys.length ≤ 1000)
    (h : ∀ t' k, Q (.int (ys.length : Int) t') { s with toks := k }) : wpAny (model prog w) A (call (.builtin "len") [.ref D]) Q E s := by
  have e := hS.length
  have e2 : vs.toArray.size = ys.length := by rw [List.size_toArray]; exact e
  refine call_len_list (N.isList hm) (by rw [e2]; omega) ?_
  rw [e2]
  exact h _ _
end
local macro_rules
  | `(tactic| walk_at "call builtin:len") => `(tactic| (k_here; k_dflt (refine' strs_len (by k_asm) (by k_mem) (by assumption) (by first | omega | exact Nat.le_of_ble_eq_true rfl) ?_); intro _ _))
  | `(tactic| walk_at "subscriptTail") => `(tactic| (k_here; first
  | (refine words_sub (by assumption) (by k_asm) (by first | assumption | omega) (by omega) ?_; k_whole; intro x9 tx9 hx9 hl9; have hs9 := lawSplit_len _ (List.mem_of_getElem? hx9))
  | (refine' strs_sub (by assumption) (by k_asm) (by k_mem) (by assumption) (by omega) (by assumption) ?_; k_whole; intro y9 ty9 hy9)))
  | `(tactic| walk_at "call builtin:str.split") => `(tactic| (k_here; refine KSpl.split1 (by k_asm) (by k_asm) (by decide) ?_ (by rw [sizeLine_eq]; omega); k_whole; intro D' l' h' k' e' a' F' N' l1; rw [e'] at a'; clear e'; (try dsimp only)))
  | `(tactic| walk_at "binaryOp Mod str int") => `(tactic| (k_here; refine fmt1 (by assumption) (lt300 (by omega)) ?_; intro _ _))
theorem named_tells (w : World) (mean : ExcName → Option Value) (mg mb : Str → Option Value) (n : Int) (t : Tok) (h0 : 0 ≤ n) (h1 : n < 256) :
    Tells w mean mg mb 119 3 [] (fun _ => True) [.int n t] (fun r tl _ => tl = [] ∧ ∃ t', r = .str (nameZ n) t') := by
  (have hf := fillme; revert hf; k_fill; intro hf; clear hf)
  refine' tells_intro (binds := [(Str.ofString "number", .int n t)]) ?k6 ?k7 ?kD ?kB0 ?kB (fun _ _ _ h => h) ?_ ?c2 ?c3 ?c4 ?c5
  ((case k6 => k_dflt k_is); (case k7 => k_dflt k_is); (case kB0 => exact rfl); (case kB => exact locs rfl); (case c5 => decide); (case c2 => exact rfl); (case c3 => exact rfl); (case c4 => exact rfl); (case kD => decide))
  intro dp un gd outer A₀ base g L h₁ s B F N X T hpre hk hd hu
  (try dsimp only); k_fold
  have hW := words_at X
  have hnil : StrsAre [] [] := .nil
  have hh0 : 0 ≤ n.fdiv 16 := by rw [Int.fdiv_eq_ediv_of_nonneg _ (by decide)]; omega
  have hh1 : n.fdiv 16 < 16 := by rw [Int.fdiv_eq_ediv_of_nonneg _ (by decide)]; omega
  have hl0 : 0 ≤ n.fmod 16 := by rw [Int.fmod_eq_emod_of_nonneg _ (by decide)]; omega
  have hl1 : n.fmod 16 < 16 := by rw [Int.fmod_eq_emod_of_nonneg _ (by decide)]; omega
  k_steps
  all_goals (try dsimp only)
  all_goals first
    | (exfalso; omega)
    | (exfalso; rename _ < ((List.length _ : Nat) : Int) => hz9; simp only [List.length_nil] at hz9; omega)
    | (refine' BodyPost.ret0 [] (nx := []) ?zF ?zN (fun _ h => h) ⟨rfl, str_post ?ze⟩; (case zF => k_asm); (case zN => exact fun _ h => nomatch h);
       (case ze => first
        | exact nm_push h0 (.inl (by assumption))
        | exact nm_push h0 (.inr (by assumption))
        | exact nm_dup h0 (by assumption)
        | exact nm_swap h0 (by assumption)
        | exact nm_log h0 (by assumption) (by assumption)
        | exact nm_yes h0 (nm_tab h0 (by assumption) (by assumption)) (by assumption) (by assumption)
        | exact nm_yes h0 (nm_tab15 h0 (by assumption) (by assumption)) (by assumption) (by assumption)
        | exact nm_no1 h0 (nm_tab h0 (by assumption) (by assumption)) (by assumption) (by assumption)
        | exact nm_no1 h0 (nm_tab15 h0 (by assumption) (by assumption)) (by assumption) (by assumption)
        | exact nm_no2 h0 (nm_tab h0 (by assumption) (by assumption)) (by assumption)
        | exact nm_no2 h0 (nm_tab15 h0 (by assumption) (by assumption)) (by assumption)
        | exact nm_rest h0 h1 (by omega) (by omega) (by assumption)))
end Mine

end W10_
theorem Mine.rst_P7 : True := by
  w_top off
  first | (walk1; done) | trivial
section P7_
open PySem PySem.W PyProof.Rows PySem.Spec PySem.Calls
namespace Mine
abbrev Step := Int × List Int
noncomputable def stepD (q : Step) : Dat := .tuple [.int q.1, .list (q.2.map .int)]
noncomputable def rowO (r : Int × Int × Option Int) : Dat := .tuple [.int r.1, .str (nameZ r.2.1), optD r.2.2]
/-- the number that the law lays, of the first j octets -/
noncomputable def laidGo (p many : Int) (os : List Int) : Nat → Int
  | 0 => 0
  | j + 1 => 256 * laidGo p many os j + (if p + 1 + (j : Int) < many then os.getD j 0 else 0)
noncomputable def lawLaid (p many n : Int) (os : List Int) (j : Nat) : Option Int := if n = 95 ∨ os ≠ [] then some (laidGo p many os j) else none
noncomputable def dueGo (many : Int) : Int → List Step → List (Int × Int × Option Int)
  | _, [] => []
  | p, (n, os) :: r => if p < many then (p, n, lawLaid p many n os os.length) :: dueGo many (p + 1 + os.length) r else dueGo many (p + 1 + os.length) r
noncomputable def goalsGo (many : Int) : Int → List Step → List Int
  | _, [] => []
  | p, (n, os) :: r => if p < many ∧ n = 91 then p :: goalsGo many (p + 1 + os.length) r else goalsGo many (p + 1 + os.length) r
noncomputable def placeGo : Int → List Step → Int
  | p, [] => p
  | p, (_, os) :: r => placeGo (p + 1 + os.length) r
theorem dueGo_cons (many p n : Int) (os : List Int) (r : List Step) : dueGo many p ((n, os) :: r) = if p < many then (p, n, lawLaid p many n os os.length) :: dueGo many (p + 1 + os.length) r else dueGo many (p + 1 + os.length) r := rfl
theorem goalsGo_cons (many p n : Int) (os : List Int) (r : List Step) : goalsGo many p ((n, os) :: r) = if p < many ∧ n = 91 then p :: goalsGo many (p + 1 + os.length) r else goalsGo many (p + 1 + os.length) r := rfl
theorem dueGo_append (many : Int) : ∀ (a b : List Step) (p : Int), dueGo many p (a ++ b) = dueGo many p a ++ dueGo many (placeGo p a) b
  | [], _, _ => rfl
  | (n, os) :: a, b, p => by
    show dueGo many p ((n, os) :: (a ++ b)) = _ ++ dueGo many (placeGo (p + 1 + os.length) a) b
    rw [dueGo_cons, dueGo_cons, dueGo_append many a b]
    split <;> rfl
theorem goalsGo_append (many : Int) : ∀ (a b : List Step) (p : Int), goalsGo many p (a ++ b) = goalsGo many p a ++ goalsGo many (placeGo p a) b
  | [], _, _ => rfl
  | (n, os) :: a, b, p => by
    show goalsGo many p ((n, os) :: (a ++ b)) = _ ++ goalsGo many (placeGo (p + 1 + os.length) a) b
    rw [goalsGo_cons, goalsGo_cons, goalsGo_append many a b]
    split <;> rfl
theorem placeGo_append : ∀ (a b : List Step) (p : Int), placeGo p (a ++ b) = placeGo (placeGo p a) b
  | [], _, _ => rfl
  | (_, _) :: a, b, _ => placeGo_append a b _
noncomputable def StepOk (q : Step) : Prop := (0 ≤ q.1 ∧ q.1 < 256) ∧ (q.2.length : Int) = ownZ q.1 ∧ ∀ k ∈ q.2, 0 ≤ k ∧ k < 256
theorem laidGo_lt (p many : Int) {os : List Int} (h : ∀ k ∈ os, 0 ≤ k ∧ k < 256) : ∀ j, j ≤ os.length → 0 ≤ laidGo p many os j ∧ laidGo p many os j < 256 ^ j
  | 0, _ => ⟨Int.le_refl _, by show (0 : Int) < 256 ^ 0; decide⟩
  | j + 1, hj => by
    have ih := laidGo_lt p many h j (by omega)
    have hk : 0 ≤ os.getD j 0 ∧ os.getD j 0 < 256 := by
      rw [List.getD_eq_getElem?_getD, List.getElem?_eq_getElem (by omega), Option.getD_some]
      exact h _ (List.getElem_mem _)
    unfold laidGo
    rw [Int.pow_succ]
    split <;> omega
theorem pow256_le {j : Nat} (h : j ≤ 32) : (256 : Int) ^ j ≤ 2 ^ 256 := by
  have e1 : (256 : Int) ^ j = ((256 ^ j : Nat) : Int) := by push_cast; rfl
  have e2 : (2 : Int) ^ 256 = ((256 ^ 32 : Nat) : Int) := by decide +kernel
  rw [e1, e2]
  exact Int.ofNat_le.mpr (Nat.pow_le_pow_right (by decide) h)
noncomputable def lineO (r : Int × Int × Option Int) : Str := hexStr r.1.toNat 4 ++ Str.ofString " " ++ nameZ r.2.1 ++ (match r.2.2 with | none => Str.ofString "" | some i => Str.ofString " 0x" ++ hexStr i.toNat 1)
noncomputable def textO (rows : List (Int × Int × Option Int)) : Str := Txt.join (Str.ofString "\n") (rows.map lineO)
noncomputable def RowOk (r : Int × Int × Option Int) : Prop := (0 ≤ r.1 ∧ r.1 < 100000) ∧ (0 ≤ r.2.1 ∧ r.2.1 < 256) ∧ ∀ i, r.2.2 = some i → 0 ≤ i ∧ i < 2 ^ 300
theorem lineO_len {r : Int × Int × Option Int} (h : RowOk r) : (lineO r).length ≤ 300 := by
  obtain ⟨⟨h0, h1⟩, ⟨h2, h3⟩, h4⟩ := h
  obtain ⟨p, n, o⟩ := r
  dsimp only at h0 h1 h2 h3 h4
  have a1 := hexStr_len (n := p) (k := 4) h0 (Int.lt_trans h1 (by decide +kernel)) (by decide)
  have a2 := nameZ_len h2 h3
  have a3 : (Str.ofString " ").length = 1 := by decide +kernel
  have a4 : (Str.ofString " 0x").length = 3 := by decide +kernel
  have a6 : (Str.ofString "").length = 0 := by decide +kernel
  rw [show (4 : Int).toNat = 4 from rfl] at a1
  unfold lineO
  cases o with
  | none => dsimp only; rw [Str.length_append, Str.length_append, Str.length_append, a3, a6]; omega
  | some i =>
    obtain ⟨b1, b2⟩ := h4 i rfl
    have a5 := hexStr_len (n := i) (k := 1) b1 b2 (by decide)
    rw [show (1 : Int).toNat = 1 from rfl] at a5
    dsimp only
    rw [Str.length_append, Str.length_append, Str.length_append, Str.length_append, a3, a4]; omega
end Mine

end P7_
theorem Mine.rst_BASE5 : True := by
  w_top off
  first | (walk1; done) | trivial
section BASE5_
open PySem PySem.W PyProof.Rows PySem.Spec PySem.Calls PyProof.V
namespace Mine
noncomputable def CutQ {α : Type} (g : Heap) (L : Addr) (m : Str → Option Value) (nx : Led) (s : Shared) (P : α → Prop) (v : α) (s' : Shared) : Prop := ∃ h' tk', s' = { s with heap := h', toks := tk' } ∧ Fr g L h' m ∧ News g L h' nx ∧ P v
theorem cut_done {α : Type} {g : Heap} {L : Addr} {m : Str → Option Value} {nx nx' : Led} {s : Shared} {P : α → Prop} {v : α} {h' : Heap} {tk' : Nat} (F : Fr g L h' m) (N : News g L h' nx') (hn : ∀ p ∈ nx, p ∈ nx') (hp : P v) : CutQ g L m nx s P v { s with heap := h', toks := tk' } :=
  ⟨h', tk', rfl, F, fun p hq => N p (hn p hq), hp⟩
theorem cutF {M : Model} {A : Around} {E : Value → Shared → Prop} {s : Shared} {α : Type} {t : Sem α} {Q : α → Shared → Prop} {g : Heap} {L : Addr} {m : Str → Option Value} {nx : Led} (F : Fr g L s.heap m) (N : News g L s.heap nx) (P : α → Prop)
    (h1 : Fr g L s.heap m → News g L s.heap nx → wpAny M A t (CutQ g L m nx s P) E s)
    (h2 : ∀ v h' tk', Fr g L h' m → News g L h' nx → P v → Q v { s with heap := h', toks := tk' }) : wpAny M A t Q E s :=
  wpAny_mono (h1 F N) (fun v s' ⟨h', tk', e, F', N', p⟩ => e ▸ h2 v h' tk' F' N' p) fun _ _ e => e
theorem held_news {h : Heap} {l : Led} (x : Held h l) : News ({} : Heap) h.objs.size h l := fun p hp =>
  ⟨x p hp, Nat.ne_of_lt (Heap.lt_size (x p hp)), rfl⟩
theorem dat_reads {h : Heap} {v : Value} {d : Dat} (n : Nat) (x : DatAt h v d) (hk : kqdOk n d = true) : ∃ as, Reads h v (kqdP d) as :=
  let ⟨_, a, b⟩ := x; kqd_in (held_news a) n b hk
section
variable {prog : Program} {w : World} {A : Around} {E : Value → Shared → Prop} {s : Shared} {Q : Value → Shared → Prop} {a b : Addr} {ds es : List Dat}
open Classical in
theorem dat_ne (D1 : DatAt s.heap (.ref a) (.list ds)) (D2 : DatAt s.heap (.ref b) (.list es)) (ha : ∀ d ∈ ds, kqdOk 8 d = true) (hb : ∀ d ∈ es, kqdOk 8 d = true) (hu : A.units + 64 < cLine)
    (h : ∀ bv : Bool, (bv = true ↔ ds = es) → Q (.bool (!bv)) s) : wpAny (model prog w) A (compareOp .NotEq (.ref a) (.ref b)) Q E s := by
  have ha' : kqdOk 9 (.list ds) = true := by simpa [kqdOk] using ha
  have hb' : kqdOk 9 (.list es) = true := by simpa [kqdOk] using hb
  obtain ⟨as, ra⟩ := dat_reads 9 D1 ha'
  obtain ⟨bs, rb⟩ := dat_reads 9 D2 hb'
  have la := kqd_lay 9 (.list ds) ha'
  have lb := kqd_lay 9 (.list es) hb'
  rw [kqdP] at la lb ra rb
  have e : PyData.eqv (.list (kqdPs ds)) (.list (kqdPs es)) = decide (ds = es) := by
    have q := kqd_eqv 9 (.list ds) (.list es) 9 ha' hb'
    rw [kqdP, kqdP, Dat.list.injEq] at q
    by_cases hq : ds = es
    · rw [decide_eq_true hq]; exact q.mpr hq
    · rw [decide_eq_false hq]; exact Bool.eq_false_iff.mpr fun x => hq (q.mp x)
  refine ne_dataH ra rb ?_ ?_ hu (by rw [e]; exact h _ decide_eq_true_iff)
  · unfold PySem.SeqAt.shaped; rw [la.1, Bool.true_and]; exact decide_eq_true (Nat.le_trans la.2 (by decide))
  · unfold PySem.SeqAt.shaped; rw [lb.1, Bool.true_and]; exact decide_eq_true (Nat.le_trans lb.2 (by decide))
end
end Mine

end BASE5_
theorem Mine.rst_W11 : True := by
  w_top off
  first | (walk1; done) | trivial
section W11_
open PySem PySem.W PyProof.Rows PySem.Spec PySem.Calls
namespace Mine
local macro_rules
  | `(tactic| walk_at $s) => if ["exec For Tuple Name cons nil", "pyIter ref", "call type:enumerate"].contains s.getString then `(tactic| (refine Stop.of ?_)) else Lean.Macro.throwUnsupported
local macro_rules
  | `(tactic| walk_at "exec For Tuple Call cons nil") => `(tactic| (k_here; refine wpAny_For ?_))
  | `(tactic| walk_at "call builtin:len") => `(tactic| (k_here; k_dflt (refine kt_len_nums (by assumption) (Fr.keep (by k_asm)) (by omega) ?_)))
  | `(tactic| walk_at "call ref") => `(tactic| first
  | (k_here; k_dflt (refine' tells_useQ (named_tells _ _ _ _ _ _ (by first | assumption | omega) (by first | assumption | omega)) ?_; k_whole); walk_at "mine:v"))
theorem ok_ints {os : List Int} : ∀ d ∈ os.map Dat.int, kqdOk 8 d = true := by
  intro d hd
  obtain ⟨k, _, rfl⟩ := List.mem_map.mp hd
  rfl
theorem ints_ne {prog : Program} {w : World} {A : Around} {E : Value → Shared → Prop} {s : Shared} {Q : Value → Shared → Prop} {g : Heap} {L : Addr} {m : Str → Option Value} {nx : Led} {o b : Addr} {os : List Int} (F : Fr g L s.heap m) (N : News g L s.heap nx) (hb : (b, listOf #[] 0) ∈ nx) (D : DatAt g (.ref o) (.list (os.map .int))) (hu : A.units + 64 < cLine)
    (h : Q (.bool (decide (os ≠ []))) s) : wpAny (model prog w) A (compareOp .NotEq (.ref o) (.ref b)) Q E s := by
  refine dat_ne (D.keeps F.keep) ⟨nx, fun p hp => (N p hp).1, DatIn.list (vs := []) hb .nil⟩ ok_ints (fun _ h => nomatch h) hu fun bv hbv => ?_
  have e : (!bv) = decide (os ≠ []) := by
    cases os with
    | nil => rw [hbv.mpr rfl]; rfl
    | cons k ks =>
      cases bv with
      | true => exact absurd (hbv.mp rfl) (by simp)
      | false => simp
  rw [e]
  exact h
local macro_rules
  | `(tactic| walk_at "compareOp NotEq ref") => `(tactic| (k_here; refine ints_ne (by k_asm) (by k_asm) (by k_mem) (by assumption) ?hu ?_; (case hu => show _ + 64 < cLine; (try dsimp only [ktrTop]); omega)))
  | `(tactic| walk_at "eval IfExp") => `(tactic| ((with_reducible show wpAny _ _ (eval (PySem.Expr.IfExp (PySem.Expr.BoolOp _ _ _) _ _ _) _) _ _ _); refine Stop.of ?_))
structure DSt where
  p : Int
  tp : Tok
  vs : List Value
  n1 : Nat
  gs : List Value
  n2 : Nat
  tl : Led
noncomputable def DueInv (steps : List Step) (many : Int) (lt lg : Addr) (i : Nat) (c : DSt) : Prop := i ≤ steps.length ∧ c.p = placeGo 0 (steps.take i) ∧ 0 ≤ c.p ∧ c.p ≤ 33 * i ∧ DatAll c.tl c.vs ((dueGo many 0 (steps.take i)).map rowO) ∧ IntsAre c.gs (goalsGo many 0 (steps.take i)) ∧ c.vs.length ≤ i ∧ c.gs.length ≤ i ∧ ∀ p ∈ c.tl, p.1 ≠ lt ∧ p.1 ≠ lg
theorem due_next {steps : List Step} {many : Int} {lt lg : Addr} {i : Nat} {p : Int} {tp tp' : Tok} {vs vs' gs gs' : List Value} {n1 n1' n2 n2' : Nat} {tl tl' : Led} {n : Int} {os : List Int} (h : DueInv steps many lt lg i ⟨p, tp, vs, n1, gs, n2, tl⟩) (hi : i < steps.length) (htk : steps.take (i + 1) = steps.take i ++ [(n, os)]) (hol : os.length ≤ 32)
    (h1 : DatAll tl' vs' ((dueGo many 0 (steps.take i)).map rowO ++ (dueGo many p [(n, os)]).map rowO)) (h2 : IntsAre gs' (goalsGo many 0 (steps.take i) ++ goalsGo many p [(n, os)])) (h3 : vs'.length ≤ vs.length + 1) (h4 : gs'.length ≤ gs.length + 1) (h5 : ∀ p ∈ tl', p.1 ≠ lt ∧ p.1 ≠ lg) :
    DueInv steps many lt lg (i + 1) ⟨p + 1 + os.length, tp', vs', n1', gs', n2', tl'⟩ := by
  obtain ⟨_, e1, e2, e3, _, _, e4, e5, _⟩ := h
  dsimp only at e1 e2 e3 e4 e5
  refine ⟨hi, ?_, by show 0 ≤ p + 1 + _; omega, by show p + 1 + (os.length : Int) ≤ 33 * ((i + 1 : Nat) : Int); omega, ?_, ?_, by show vs'.length ≤ i + 1; omega, by show gs'.length ≤ i + 1; omega, h5⟩
  · rw [htk, placeGo_append, ← e1]; rfl
  · rw [htk, dueGo_append, List.map_append, ← e1]; exact h1
  · rw [htk, goalsGo_append, ← e1]; exact h2
theorem ints_snoc {vs : List Value} {ks : List Int} (h : IntsAre vs ks) (k : Int) (t : Tok) : IntsAre (vs ++ [.int k t]) (ks ++ [k]) := by
  induction h with
  | nil => exact .cons _ _ .nil
  | cons y t' _ ih => exact .cons _ _ ih
theorem ints_dat {l : Led} {vs : List Value} {ks : List Int} (h : IntsAre vs ks) : DatAll l vs (ks.map .int) := by
  induction h with
  | nil => exact .nil
  | cons y t' _ ih => exact .cons (.int _ _) ih
theorem ints_of {l : Led} : ∀ {vs : List Value} {ks : List Int}, DatAll l vs (ks.map .int) → IntsAre vs ks
  | [], [], _ => .nil
  | _ :: _, [], h => by cases h
  | [], _ :: _, h => by cases h
  | _ :: _, k :: ks, h => by
    cases h with | cons h1 h2 =>
    cases h1
    exact .cons _ _ (ints_of h2)
theorem due_tells (w : World) (mean : ExcName → Option Value) (mg mb : Str → Option Value) (v : Value) (many : Int) (t : Tok) (steps : List Step) (hs : ∀ q ∈ steps, StepOk q) (hl : steps.length ≤ 1000) (hm : many ≤ 1000) :
    Tells w mean mg mb 126 10 [] (fun h => DatAt h v (.list (steps.map stepD))) [v, .int many t] (fun r tl _ => DatIn tl r (.tuple [.list ((dueGo many 0 steps).map rowO), .list ((goalsGo many 0 steps).map .int)])) := by
  (have hf := fillme; revert hf; k_fill; intro hf; clear hf)
  refine' tells_intro (binds := [(Str.ofString "steps", v), (Str.ofString "many", .int many t)]) ?k6 ?k7 ?kD ?kB0 ?kB (fun _ _ k h => h.keeps k.nil) ?_ ?c2 ?c3 ?c4 ?c5
  ((case k6 => k_dflt k_is); (case k7 => k_dflt k_is); (case kB0 => exact rfl); (case kB => exact locs rfl); (case c5 => decide); (case c2 => exact rfl); (case c3 => exact rfl); (case c4 => exact rfl); (case kD => decide))
  intro dp un gd outer A₀ base g L h₁ s B F N X T hpre hk hd hu
  (try dsimp only); k_fold; 
  k_steps
  rename_i lt h2 l1 lg h3 l2 D' h4 l3 h5 h6 h7 h8 F2 N2
  refine Stop.out ?_
  refine wpAny_For ?_
  k_steps
  refine Stop.out ?_
  obtain ⟨lp, hheld, hd0⟩ := hpre
  refine list_elim hd0 ?_
  intro a svs sn hla hall
  clear hd0
  have hlen : svs.length = steps.length := by rw [hall.length, List.length_map]
  have hlne : lt ≠ lg := Nat.ne_of_lt l2
  have hlne2 : lg ≠ lt := Ne.symm hlne
  refine' for_list (fun c : DSt => (lt, listOf c.vs.toArray c.n1) :: (lg, listOf c.gs.toArray c.n2) :: c.tl) (fun c => [(Str.ofString "at", .int c.p c.tp)]) [Str.ofString "number", Str.ofString "octets", Str.ofString "laid_now", Str.ofString "spot", Str.ofString "octet"]
    (DueInv steps many lt lg)
    ⟨0, _, [], 0, [], 0, []⟩ rfl F2 N2 ?hn ?hk ?hp ?hsrc ?turn ?done
  case hn =>
    exact (sub_head (by k_mem) (sub_head (by k_mem) sub_nil))
  case hk => kst_all
  case hp => exact ⟨Nat.zero_le _, rfl, Int.le_refl _, Int.le_refl _, .nil, .nil, Nat.le_refl _, Nat.le_refl _, fun _ h => nomatch h⟩
  case hsrc => exact fun i c h hP hkk hN => ⟨_, hkk _ _ (hheld _ hla), rfl, _, rfl⟩
  case turn =>
    clear F2 N2 l1 l2 l3
    intro i v c u h tk I oI hv hP FF NN ho
    obtain ⟨p, tp, vs, n1, gs, n2, tl⟩ := c
    have hinv := hP
    obtain ⟨_, hp1, hp2, hp3, hda, hgi, hvl, hgl, htl⟩ := hP
    dsimp only [kstB] at hp1 hp2 hp3 hda hgi hvl hgl htl FF NN ho
    have hvi : i < steps.length := hlen ▸ (List.getElem?_eq_some_iff.mp hv).1
    have hd' := dall_at hall hv (d := stepD steps[i]) (by rw [List.getElem?_map, List.getElem?_eq_getElem hvi]; rfl)
    clear hv hall
    have htk : steps.take (i + 1) = steps.take i ++ [steps[i]] := by rw [List.take_add_one, List.getElem?_eq_getElem hvi]; rfl
    have hok := hs steps[i] (List.getElem_mem _)
    generalize steps[i] = q at *
    obtain ⟨n, os⟩ := q
    obtain ⟨⟨hn0, hn1⟩, hol, hoc⟩ := hok
    dsimp only at hn0 hn1 hol hoc
    have hz0 := ownZ_hi n
    refine tup2_elim hd' ?_
    intro b nn t1 o ovs on hm hlo hov
    clear hd'
    dsimp only at hm hov
    have hT : IsTup h b #[_, _] := ⟨_, FF.keep _ _ (hheld _ hm), rfl, _, rfl⟩
    (try dsimp only at hT)
    have hI := ints_of hov
    have hW : KTD.Nums g o os := ⟨ovs, ⟨_, hheld _ hlo, rfl, _, rfl⟩, hI⟩
    have htl1 : ∀ p ∈ tl, p.1 ≠ lt := fun p hp => (htl p hp).1
    have htl2 : ∀ p ∈ tl, p.1 ≠ lg := fun p hp => (htl p hp).2
    have hvs : vs.length ≤ 1000 := by omega
    have hgs : gs.length ≤ 1000 := by omega
    have hnI : I ≠ lt := Ne.symm (ho (lt, listOf vs.toArray n1) (.head _))
    have hnJ : I ≠ lg := Ne.symm (ho (lg, listOf gs.toArray n2) (.tail _ (.head _)))
    have hD : DatAt g (.ref o) (.list (os.map .int)) := ⟨lp, hheld, .list hlo hov⟩
    k_steps
    · refine Stop.out ?_
      refine cutF (by k_asm) (by k_asm) (fun v => DatIn [] v (optD (lawLaid p many n os 0))) ?_ ?_
      · intro F5 N5
        with_reducible refine IfExp_ ?_
        k_steps
        all_goals (try dsimp only)
        · refine' cut_done ?xFa ?xNa ?xna ?xpa
          (case xFa => k_asm)
          (case xNa => k_asm)
          (case xna => intro p hp; simp only [List.mem_cons] at hp ⊢; simp [hp])
          (case xpa => unfold lawLaid; rw [if_pos (.inl (by assumption))]; exact .int _ _)
        · refine' cut_done ?xFb ?xNb ?xnb ?xpb
          (case xFb => k_asm)
          (case xNb => k_asm)
          (case xnb => intro p hp; simp only [List.mem_cons] at hp ⊢; simp [hp])
          (case xpb => unfold lawLaid; rw [if_pos (.inr (by first | assumption | (intro h9; simp_all)))]; exact .int _ _)
        · refine' cut_done ?xFc ?xNc ?xnc ?xpc
          (case xFc => k_asm)
          (case xNc => k_asm)
          (case xnc => intro p hp; simp only [List.mem_cons] at hp ⊢; simp [hp])
          (case xpc => unfold lawLaid; rw [if_neg (not_or.mpr ⟨by assumption, by first | assumption | (intro h9; simp_all)⟩)]; exact .none)
      · intro v9 h9 tk9 F5 N5 P5
        k_steps
        rename_i hz Fz Nz
        refine Stop.out ?_
        refine' for_enum (vs := ovs) (fun _ : Value => (I, oI) :: (lt, listOf vs.toArray n1) :: (lg, listOf gs.toArray n2) :: tl) (fun v => [(Str.ofString "laid_now", v)]) [Str.ofString "spot", Str.ofString "octet"] (fun j v => j ≤ os.length ∧ DatIn [] v (optD (lawLaid p many n os j))) v9 rfl Fz Nz ?hn2 ?hk2 ?hp2 ?hsrc2 ?turn2 ?done2
        case hn2 => exact fun _ h => h
        case hk2 => kst_all
        case hp2 => exact ⟨Nat.zero_le _, P5⟩
        case hsrc2 => exact fun j c h hP hkk hN => ⟨_, hkk _ _ (hheld _ hlo), rfl, _, rfl⟩
        case turn2 =>
          clear Fz Nz
          intro j x t' T' c u h tk K oK J oJ hv2 hP hT2 FF2 NN2 hoo
          obtain ⟨hj, hPv⟩ := hP
          dsimp only [kstB] at hPv FF2 NN2 hoo
          have hov' : DatAll lp ovs (os.map .int) := hov
          have hjl : j < os.length := by
            have := (List.getElem?_eq_some_iff.mp hv2).1
            rw [hov'.length, List.length_map] at this
            exact this
          have hgd : os.getD j 0 = os[j] := by rw [List.getD_eq_getElem?_getD, List.getElem?_eq_getElem hjl, Option.getD_some]
          obtain ⟨tx, rfl⟩ := int_inv (dall_at hov' hv2 (d := .int (os.getD j 0)) (by rw [List.getElem?_map, List.getElem?_eq_getElem hjl, hgd]; rfl))
          clear hv2
          have hne : os ≠ [] := by intro e; rw [e] at hjl; exact absurd hjl (Nat.not_lt_zero _)
          have el : ∀ k, lawLaid p many n os k = some (laidGo p many os k) := fun k => by unfold lawLaid; rw [if_pos (.inr hne)]
          rw [el] at hPv
          obtain ⟨tv, rfl⟩ := int_inv hPv
          clear hPv
          obtain ⟨hb0, hb1⟩ := laidGo_lt p many hoc j (by omega)
          have hb2 := pow256_le (j := j) (by omega)
          have hoj := hoc (os.getD j 0) (by rw [hgd]; exact List.getElem_mem _)
          k_steps
          · refine' k_done (.int (256 * laidGo p many os j + os.getD j 0) _) ?Fa1 ?Na1 ?Ia1 ?na1 ?oa1 ?ka1 ?ra1 ?pa1
            (case Fa1 => k_asm)
            (case Na1 => k_asm)
            (case ka1 => intro q hq; rw [List.mem_singleton.mp hq]; rfl)
            (case Ia1 => exact sub_head (by k_mem) (sub_head (by k_mem) sub_nil))
            (case na1 => exact fun q hq => .tail _ (.tail _ hq))
            (case oa1 => intro q hq hm9; have := hoo q hq; simp only [List.mem_cons, List.not_mem_nil, or_false] at hm9; rcases hm9 with e | e; exact this.1 e; exact this.2 e)
            (case ra1 => ksw_same)
            (case pa1 =>
              refine ⟨hjl, ?_⟩
              rw [el]
              have e9 : laidGo p many os (j + 1) = 256 * laidGo p many os j + os.getD j 0 := by
                show 256 * laidGo p many os j + (if p + 1 + (j : Int) < many then os.getD j 0 else 0) = _
                rw [if_pos (by assumption)]
              show DatIn [] _ (.int (laidGo p many os (j + 1)))
              rw [e9]
              exact .int _ _)
          · refine' k_done (.int (256 * laidGo p many os j + 0) _) ?Fa2 ?Na2 ?Ia2 ?na2 ?oa2 ?ka2 ?ra2 ?pa2
            (case Fa2 => k_asm)
            (case Na2 => k_asm)
            (case ka2 => intro q hq; rw [List.mem_singleton.mp hq]; rfl)
            (case Ia2 => exact sub_head (by k_mem) (sub_head (by k_mem) sub_nil))
            (case na2 => exact fun q hq => .tail _ (.tail _ hq))
            (case oa2 => intro q hq hm9; have := hoo q hq; simp only [List.mem_cons, List.not_mem_nil, or_false] at hm9; rcases hm9 with e | e; exact this.1 e; exact this.2 e)
            (case ra2 => ksw_same)
            (case pa2 =>
              refine ⟨hjl, ?_⟩
              rw [el]
              have e9 : laidGo p many os (j + 1) = 256 * laidGo p many os j + 0 := by
                show 256 * laidGo p many os j + (if p + 1 + (j : Int) < many then os.getD j 0 else 0) = _
                rw [if_neg (by assumption)]
              show DatIn [] _ (.int (laidGo p many os (j + 1)))
              rw [e9]
              exact .int _ _)
        case done2 =>
          clear Fz Nz
          intro c u h tk hP FF2 NN2
          obtain ⟨_, hPv⟩ := hP
          dsimp only [kstB] at hPv FF2 NN2
          have hov' : DatAll lp ovs (os.map .int) := hov
          rw [show ovs.length = os.length by rw [hov'.length, List.length_map]] at hPv
          have hch := hPv.handed
          k_steps
          · rename_i h9z tk9z t9z Dz hDz lz hz5 tkz5 az hz6 tkz6 xz hz7 Fz7 Nz7
            rw [List.push_toArray, List.push_toArray] at Nz7
            refine' for_end ⟨p + 1 + os.length, _, vs ++ [.ref Dz], n1 + 1, gs ++ [.int p tp], n2 + 1, (Dz, { cls := .type "tuple", data := .seq #[Value.int p tp, Value.str (nameZ n) t9z, c] }) :: tl⟩ ?Fb1 ?Nb1 ?Ib1 ?nb1 ?ob1 ?kb1 ?rb1 ?pb1
            (case Fb1 => k_asm)
            (case Nb1 => k_asm)
            (case kb1 => intro q hq; rw [List.mem_singleton.mp hq]; rfl)
            (case Ib1 => first | exact .head _ | exact .tail _ (.head _))
            (case nb1 => exact (sub_head (by k_mem) (sub_head (by k_mem) (sub_head (by k_mem) (sub_skip (sub_skip (sub_skip (sub_skip sub_refl))))))))
            (case ob1 => intro q hq; simp only [List.mem_cons] at hq; rcases hq with rfl | rfl | rfl | hq; exact Ne.symm hnI; exact Ne.symm hnJ; exact Ne.symm (Nat.ne_of_lt lz.1); exact ho q (.tail _ (.tail _ hq)))
            (case rb1 => ksw_same)
            (case pb1 => exact due_next hinv hvi htk (by omega) (by rw [dueGo_cons, if_pos (by assumption)]; exact (hda.mono fun q hq => .tail _ hq).append (.one (.tuple (vs := [.int p tp, .str (nameZ n) t9z, c]) (.head _) (.cons (.int _ _) (.cons (.str _ _) (.cons (hPv.mono fun _ h => by cases h) .nil)))))) (by rw [goalsGo_cons, if_pos ⟨by assumption, by assumption⟩]; exact ints_snoc hgi _ _) (by simp) (by simp) (by intro q hq; rcases List.mem_cons.mp hq with rfl | hq; exact ⟨Ne.symm (Nat.ne_of_lt lz.2.1), Ne.symm (Nat.ne_of_lt lz.2.2.1)⟩; exact htl q hq))
          · rename_i h9z tk9z t9z Dz hDz lz hz5 tkz5 az tkz6 hz7 Fz7 Nz7
            rw [List.push_toArray] at Nz7
            refine' for_end ⟨p + 1 + os.length, _, vs ++ [.ref Dz], n1 + 1, gs, n2, (Dz, { cls := .type "tuple", data := .seq #[Value.int p tp, Value.str (nameZ n) t9z, c] }) :: tl⟩ ?Fb2 ?Nb2 ?Ib2 ?nb2 ?ob2 ?kb2 ?rb2 ?pb2
            (case Fb2 => k_asm)
            (case Nb2 => k_asm)
            (case kb2 => intro q hq; rw [List.mem_singleton.mp hq]; rfl)
            (case Ib2 => first | exact .head _ | exact .tail _ (.head _))
            (case nb2 => exact (sub_head (by k_mem) (sub_head (by k_mem) (sub_head (by k_mem) (sub_skip (sub_skip (sub_skip (sub_skip sub_refl))))))))
            (case ob2 => intro q hq; simp only [List.mem_cons] at hq; rcases hq with rfl | rfl | rfl | hq; exact Ne.symm hnI; exact Ne.symm hnJ; exact Ne.symm (Nat.ne_of_lt lz.1); exact ho q (.tail _ (.tail _ hq)))
            (case rb2 => ksw_same)
            (case pb2 => exact due_next hinv hvi htk (by omega) (by rw [dueGo_cons, if_pos (by assumption)]; exact (hda.mono fun q hq => .tail _ hq).append (.one (.tuple (vs := [.int p tp, .str (nameZ n) t9z, c]) (.head _) (.cons (.int _ _) (.cons (.str _ _) (.cons (hPv.mono fun _ h => by cases h) .nil)))))) (by rw [goalsGo_cons, if_neg (fun h9 => absurd h9.2 (by assumption))]; exact (List.append_nil _).symm ▸ hgi) (by simp) (by simp) (by intro q hq; rcases List.mem_cons.mp hq with rfl | hq; exact ⟨Ne.symm (Nat.ne_of_lt lz.2.1), Ne.symm (Nat.ne_of_lt lz.2.2.1)⟩; exact htl q hq))
    · refine' for_end ⟨p + 1 + os.length, _, vs, n1, gs, n2, tl⟩ ?Fb3 ?Nb3 ?Ib3 ?nb3 ?ob3 ?kb3 ?rb3 ?pb3
      (case Fb3 => k_asm)
      (case Nb3 => k_asm)
      (case kb3 => intro q hq; rw [List.mem_singleton.mp hq]; rfl)
      (case Ib3 => first | exact .head _ | exact .tail _ (.head _))
      (case nb3 => exact sub_skip sub_refl)
      (case ob3 => intro q hq; simp only [List.mem_cons] at hq; rcases hq with rfl | rfl | hq; exact Ne.symm hnI; exact Ne.symm hnJ; exact ho q (.tail _ (.tail _ hq)))
      (case rb3 => ksw_same)
      (case pb3 => exact due_next hinv hvi htk (by omega) (by rw [dueGo_cons, if_neg (by assumption)]; exact (List.append_nil _).symm ▸ hda) (by rw [goalsGo_cons, if_neg (fun h9 => absurd h9.1 (by assumption))]; exact (List.append_nil _).symm ▸ hgi) (by simp) (by simp) htl)
  case done =>
    clear F2 N2 l1 l2 l3
    intro c u h tk hP FF NN
    obtain ⟨p, tp, vs, n1, gs, n2, tl⟩ := c
    obtain ⟨_, hp1, hp2, hp3, hda, hgi, hvl, hgl, htl⟩ := hP
    dsimp only [kstB] at hp1 hp2 hp3 hda hgi hvl hgl htl FF NN
    rw [hlen, List.take_length] at hda hgi
    k_steps
    (try dsimp only)
    rename_i Dz hz1 Fz Nz lz
    refine' BodyPost.ret0 _ Fz Nz (fun _ h => h) ?zz
    exact .tuple (vs := [.ref lt, .ref lg]) (.head _) (.cons (.list (.tail _ (.head _)) (hda.mono fun q hq => .tail _ (.tail _ (.tail _ hq)))) (.cons (.list (.tail _ (.tail _ (.head _))) (ints_dat hgi)) .nil))
end Mine

end W11_
theorem Mine.rst_W12 : True := by
  w_top off
  first | (walk1; done) | trivial
section W12_
open PySem PySem.W PyProof.Rows PySem.Spec PySem.Calls
namespace Mine
local macro_rules
  | `(tactic| walk_at $s) => if ["pyIter ref", "call builtin:str.join", "exec For Tuple Name cons nil"].contains s.getString then `(tactic| (refine Stop.of ?_)) else Lean.Macro.throwUnsupported
local macro_rules
  | `(tactic| walk_at "exec For Tuple Call cons nil") => `(tactic| (k_here; refine wpAny_For ?_))
  | `(tactic| walk_at "binaryOp Mod str int") => `(tactic| first
  | (k_here; refine fmt2 (by assumption) (lt300 (by omega)) ?_; intro _ _)
  | (k_here; refine fmt3 (by assumption) (by assumption) ?_; intro _ _))
structure TSt where
  vs : List Value
  n : Nat
theorem text_tells (w : World) (mean : ExcName → Option Value) (mg mb : Str → Option Value) (v : Value) (rows : List (Int × Int × Option Int)) (hok : ∀ r ∈ rows, RowOk r) (hrl : rows.length ≤ 1000) :
    Tells w mean mg mb 138 2 [] (fun h => DatAt h v (.list (rows.map rowO))) [v] (fun r tl _ => tl = [] ∧ ∃ t', r = .str (textO rows) t') := by
  (have hf := fillme; revert hf; k_fill; intro hf; clear hf)
  refine' tells_intro (binds := [(Str.ofString "told_now", v)]) ?k6 ?k7 ?kD ?kB0 ?kB (fun _ _ k h => h.keeps k.nil) ?_ ?c2 ?c3 ?c4 ?c5
  ((case k6 => k_dflt k_is); (case k7 => k_dflt k_is); (case kB0 => exact rfl); (case kB => exact locs rfl); (case c5 => decide); (case c2 => exact rfl); (case c3 => exact rfl); (case c4 => exact rfl); (case kD => decide))
  intro dp un gd outer A₀ base g L h₁ s B F N X T hpre hk hd hu
  (try dsimp only); k_fold; 
  k_steps
  rename_i l' h2 l1 h3 F2 N2
  refine Stop.out ?_
  refine wpAny_For ?_
  k_steps
  refine Stop.out ?_
  obtain ⟨lp, hheld, hd0⟩ := hpre
  refine list_elim hd0 ?_
  intro a gvs sn hla hall
  clear hd0
  have hlen : gvs.length = rows.length := by rw [hall.length, List.length_map]
  refine' for_list (fun c : TSt => [(l', listOf c.vs.toArray c.n)]) (fun _ => []) [Str.ofString "at", Str.ofString "name", Str.ofString "laid_now"] (fun i c => i ≤ rows.length ∧ StrsAre c.vs ((rows.take i).map lineO)) ⟨[], 0⟩ rfl F2 N2 ?hn ?hk ?hp ?hsrc ?turn ?done
  case hn => exact fun _ h => h
  case hk => exact fun _ h => nomatch h
  case hp => exact ⟨Nat.zero_le _, .nil⟩
  case hsrc => exact fun i c h hP hkk hN => ⟨_, hkk _ _ (hheld _ hla), rfl, _, rfl⟩
  case turn =>
    clear F2 N2
    intro i v c u h tk I oI hv hP FF NN ho
    obtain ⟨vs, n⟩ := c
    obtain ⟨_, hst⟩ := hP
    dsimp only [kstB] at hst FF NN ho
    have hvi : i < rows.length := hlen ▸ (List.getElem?_eq_some_iff.mp hv).1
    have hd' := dall_at hall hv (d := rowO rows[i]) (by rw [List.getElem?_map, List.getElem?_eq_getElem hvi]; rfl)
    clear hv hall
    obtain ⟨⟨hr1, hr2⟩, hr3, hr5⟩ := hok rows[i] (List.getElem_mem _)
    have htk : rows.take (i + 1) = rows.take i ++ [rows[i]] := by rw [List.take_add_one, List.getElem?_eq_getElem hvi]; rfl
    generalize rows[i] = r at *
    obtain ⟨p, m, oo⟩ := r
    dsimp only at hr1 hr2 hr3 hr5
    have hsl := hst.length
    rw [List.length_map, List.length_take] at hsl
    have hvs : vs.length ≤ 1000 := by omega
    have hnI : I ≠ l' := Ne.symm (ho (l', listOf vs.toArray n) (.head _))
    have hnl := nameZ_len hr3.1 hr3.2
    have hpl := hexStr_len (k := 4) hr1 (lt300 (by omega)) (by decide)
    rw [show Int.toNat 4 = 4 from rfl] at hpl
    refine tup3_elim hd' ?_
    intro a nn t1 t2 v3 hm q3
    clear hd'
    dsimp only at hm q3
    have hT : IsTup h a #[_, _, _] := ⟨_, FF.keep _ _ (hheld _ hm), rfl, _, rfl⟩
    have hspl : (hexStr p.toNat 4 ++ Str.ofString " ").length ≤ 86 := by
      rw [Str.length_append, show (Str.ofString " ").length = 1 from by decide +kernel]; omega
    cases oo with
    | none =>
      obtain rfl := none_inv q3
      clear q3
      (try dsimp only at hT)
      k_steps
      rename_i tz kz az hz2 Fz Nz
      rw [List.push_toArray] at Nz
      refine' for_end ⟨vs ++ [.str (hexStr p.toNat 4 ++ Str.ofString " " ++ nameZ m ++ Str.ofString "") tz], n + 1⟩ Fz Nz (.head _) ?yn1 ?yo1 ?yk1 ?yr1 ?yp1
      (case yn1 => exact fun q hq => .tail _ hq)
      (case yo1 => intro q hq; rw [List.mem_singleton.mp hq]; exact Ne.symm hnI)
      (case yk1 => exact fun _ h => nomatch h)
      (case yr1 => ksw_same)
      (case yp1 =>
        refine ⟨hvi, ?_⟩
        rw [htk, List.map_append]
        exact hst.append' (.cons _ _ .nil))
    | some j =>
      obtain ⟨t3, rfl⟩ := int_inv q3
      clear q3
      obtain ⟨hj1, hj2⟩ := hr5 j rfl
      have hjl := hexStr_len (k := 1) hj1 hj2 (by decide)
      rw [show Int.toNat 1 = 1 from rfl] at hjl
      have hsj : (Str.ofString " 0x" ++ hexStr j.toNat 1).length ≤ 88 := by
        rw [Str.length_append, show (Str.ofString " 0x").length = 3 from by decide +kernel]; omega
      (try dsimp only at hT)
      k_steps
      rename_i tz kz az hz2 Fz Nz
      rw [List.push_toArray] at Nz
      refine' for_end ⟨vs ++ [.str (hexStr p.toNat 4 ++ Str.ofString " " ++ nameZ m ++ (Str.ofString " 0x" ++ hexStr j.toNat 1)) tz], n + 1⟩ Fz Nz (.head _) ?yn2 ?yo2 ?yk2 ?yr2 ?yp2
      (case yn2 => exact fun q hq => .tail _ hq)
      (case yo2 => intro q hq; rw [List.mem_singleton.mp hq]; exact Ne.symm hnI)
      (case yk2 => exact fun _ h => nomatch h)
      (case yr2 => ksw_same)
      (case yp2 =>
        refine ⟨hvi, ?_⟩
        rw [htk, List.map_append]
        exact hst.append' (.cons _ _ .nil))
  case done =>
    clear F2 N2
    intro c u h tk hP FF NN
    obtain ⟨vs, n⟩ := c
    obtain ⟨_, hst⟩ := hP
    dsimp only [kstB] at hst FF NN
    k_steps
    rw [hlen, List.take_length] at hst
    refine Stop.out ?_
    refine join_listW (NN.isList (.head _)) hst (by decide +kernel) ?_ fun tz kz => ?_
    · have hsum := sum_le (ys := rows.map lineO) (c := 300) fun y hy => by
        obtain ⟨r, hr, rfl⟩ := List.mem_map.mp hy
        exact lineO_len (hok r hr)
      rw [List.length_map] at hsum ⊢
      omega
    · (try dsimp only)
      refine' BodyPost.ret0 [] (nx := []) ?zF ?zN (fun _ h => h) ⟨rfl, tz, rfl⟩
      (case zF => k_asm)
      (case zN => exact fun _ h => nomatch h)
end Mine

end W12_
theorem Mine.rst_BASE6 : True := by
  w_top off
  first | (walk1; done) | trivial
section BASE6_
open PySem PySem.W PyProof.Rows PySem.Spec PySem.Calls PyProof.V
namespace Mine
theorem code_defGC {prog : Program} {w : World} {A₀ A : Around} {s : Shared} {base h₀ : Heap} {L : Addr} {m : Str → Option Value} {news : Led} {K : Frag} {p : Program} {loose : List Str} {mean : ExcName → Option Value} {mg mb : Str → Option Value} {env : Env} {outer : List Env} {R : Result → Shared → Prop} {name qual : Str} {params : Arguments} {body : List Stmt} {scope : Scope} {dV kV doc pm cdv ct oc : Value} {an od : Option Addr} {osl : Array (Option Value)} {f : Addr} {args : Args} {binds : List (Str × Value)}
    (B : Below A₀ base outer h₀) (F : Fr h₀ L s.heap m) (X₀ : K.In h₀) (N : News h₀ L s.heap news) (T : Top p loose mean mg mb h₀) (hA : A.frames = some (env :: outer)) (hf : env.frame = some L) (hke : env.scope.kind = .function)
    (ho : K.lookup f = some ⟨oc, od, .func (fnOf name qual params body scope dV kV doc pm an cdv ct), osl⟩) (hcd : codeIn K cdv qual = true) (hroom : A.depth < recursionLimit)
    (hbind : BindsTo s (fnOf name qual params body scope dV kV doc pm an cdv ct) args binds) (hkind : (binds.all fun y => scope.names.lookup y.1 == some .local || scope.names.lookup y.1 == some .cell) = true)
    (hnd : ((cellsFrom 0 scope.names []).map (·.1)).Nodup)
    (h : ∀ g L' h₁ tk cells, Fr h₀ L g m → Fr g L' h₁ (bindL (envOfC qual scope L' f cdv).kindOf binds fun _ => none) → News g L' h₁ (cells ++ news) →
      CellsAre (bindC (envOfC qual scope L' f cdv).kindOf binds fun _ => none) (cellsFrom (L' + 1) scope.names []) cells → Below A base (env :: outer) g → K.In g → Top p loose mean mg mb g → (∀ p ∈ news, p.1 < L') → GSub s.heap g (news.map (·.1)) →
      wpAny (model prog w) (A.deeper (envOfC qual scope L' f cdv)) (execs body (envOfC qual scope L' f cdv))
        (fun fl s' => LeaveK h₀ L m g R (match fl with | .ret v => v | _ => .none) s')
        (fun e s' => wpAny (model prog w) (A.deeper (envOfC qual scope L' f cdv)) (leaving (envOfC qual scope L' f cdv) e) (fun _ s'' => R (.error e) s'') (fun e' s'' => R (.error e') s'') s')
        { s with heap := h₁, toks := tk })
    (hco : scope.isCoroutine = false) (hgen : scope.isGenerator = false) (hk : scope.kind = .function) : codeAny (model prog w) A (.call (.ref f) args) R s := by
  obtain ⟨FG, BG, st, lv⟩ := groundX (R := R) B F N hA hf hke
  refine codeAny_call_function hroom ((X₀.keeps F.keep) _ _ ho) rfl hco hgen rfl (codeRec_of (X₀.keeps F.keep) hcd) (hbind _ _ _ _ ?_)
  refine wpAny_newFunctionEnv_cells hk (kindsX hkind _) fun env' he s' x => ?_
  subst he
  refine ⟨(T.nolimit.keeps F.keep).keeps x.toInCall.keep, codeAny_func ?_⟩
  obtain ⟨h₁, tk, rfl, _⟩ := x.done
  have hk₁ := x.toInCall.keep
  obtain ⟨cells, NC, Y⟩ := Cl.news (h₀ := s.heap) (Nat.le_refl _) fun n c hm => ⟨x.cell n c (lookup_of_mem_nodup (cellsFrom_names scope.names 0 (s.heap.objs.size + 1) [] [] rfl ▸ hnd) hm), x.above n c hm⟩
  refine wpAny_mono (h _ s.heap.objs.size h₁ tk cells FG ⟨x.toInCall.ns, fun b o e => hk₁ b o (of_hideAll _ e), Nat.le_of_eq (hideAll_size _ _)⟩ (fun p hp => ?_) Y BG (X₀.keeps st) (T.keeps st) (fun p hp => Heap.lt_size (N p hp).1) (fun b o e n => hideAll_get _ e n)) (fun fl s' hl => lv _ _ hl) fun _ _ y => y
  rcases List.mem_append.mp hp with hp | hp
  · refine ⟨(NC p hp).1, (NC p hp).2.1, ?_⟩
    cases q : (hideAll s.heap (news.map (·.1))).get? p.1 with
    | none => rfl
    | some o => have := of_hideAll _ q; rw [(NC p hp).2.2] at this; cases this
  · exact ⟨hk₁ _ _ (N p hp).1, Nat.ne_of_lt (Heap.lt_size (N p hp).1), hideAll_none _ (List.mem_map_of_mem hp)⟩

theorem tells_introC {w : World} {mean : ExcName → Option Value} {mg mb : Str → Option Value} {f : Addr} {dep : Nat} {mu : Led} {Pre : Heap → Prop} {vs : List Value} {Post : Value → Led → Led → Prop}
    {name qual : Str} {params : Arguments} {body : List Stmt} {scope : Scope} {dV kV doc pm cdv ct oc : Value} {an od : Option Addr} {osl : Array (Option Value)} {binds : List (Str × Value)}
    (ho : (Mine.hp39 w.params).lookup f = some ⟨oc, od, .func (fnOf name qual params body scope dV kV doc pm an cdv ct), osl⟩) (hcd : codeIn (Mine.hp39 w.params) cdv qual = true) (hdep : 1 ≤ dep)
    (hbind : bindArgs (fnOf name qual params body scope dV kV doc pm an cdv ct) ⟨vs, []⟩ = pure binds) (hkind : (binds.all fun y => scope.names.lookup y.1 == some .local || scope.names.lookup y.1 == some .cell) = true) (hnd : ((cellsFrom 0 scope.names []).map (·.1)).Nodup)
    (hPre : ∀ (h g : Heap), Kept h g mu → Pre h → Pre g)
    (h : ∀ (dp un : Nat) (gd : Option (List Code)) (outer : List Env) (A₀ : Around) (base g : Heap) (L : Addr) (h₁ : Heap) (tk : Nat) (cells : Led) (s : Shared),
      Below A₀ base outer g → Fr g L h₁ (bindL (envOfC qual scope L f cdv).kindOf binds fun _ => none) → News g L h₁ (cells ++ mu) → CellsAre (bindC (envOfC qual scope L f cdv).kindOf binds fun _ => none) (cellsFrom (L + 1) scope.names []) cells → (Mine.hp39 w.params).In g → Top Mine.vw39 (looseW Mine.vw39 []) mean mg mb g → Pre g → (∀ p ∈ mu, p.1 < L) → scope.kind = .function → dp + dep ≤ recursionLimit → un + 8 * dep < cLine + 5 →
      wpAny (model PySem.Challenge.rw_pq0392_01.row.prog w) (ktrTop dp un gd qual scope L f cdv (cellsFrom (L + 1) scope.names []) outer) (execs body (envOfC qual scope L f cdv)) (BodyPost g L mu Post s) (fun _ _ => False) { s with heap := h₁, toks := tk })
    (hco : scope.isCoroutine = false) (hgen : scope.isGenerator = false) (hk : scope.kind = .function) :
    Tells w mean mg mb f dep mu Pre vs Post := by
  intro dp un gd cn cs a ccd cl outer A₀ base h₀ L m s Q E B F X N T hcs hpre hd hu hret
  refine wpAny_call ?_
  refine code_defGC B F X N T rfl rfl hcs ho hcd (by show dp < recursionLimit; omega) (BindsTo.of_eq hbind) hkind hnd ?_ hco hgen hk
  intro g L' h₁ tk cells FG F' N' Y B' X' T' lt' G'
  have kg : Kept s.heap g mu := fun b o e hb => G' b o e (fun hm => by
    obtain ⟨p, hp, e⟩ := List.mem_map.mp hm
    exact hb p hp e)
  have key := h (dp + 1) (un + 3) gd _ _ base g L' h₁ tk cells s B' F' N' Y X' T' (hPre _ _ kg hpre) lt' hk (by omega) (by omega)
  refine wpAny_mono key (fun fl s' hb => ?_) (fun _ _ e => e.elim)
  obtain ⟨h', tk', m', tl, mu', rfl, F₂, N₂, M₂, ha, ho', hp⟩ := hb
  refine leaveK_ F₂ (news' := []) (fun p hp => nomatch hp) (fun _ _ => ?_)
  refine hret _ h' tk' tl mu' (fun b o e hb => F₂.keep b o (kg b o e hb)) (fun p hp => (N₂ p hp).1) (fun p hp => ?_) (fun p hp => (M₂ p hp).1) ha hp
  cases q : s.heap.get? p.1 with
  | none => rfl
  | some o => have := (N₂ p hp).2.2; rw [kg _ _ q (fun x hx e => ho' p hp x hx e.symm)] at this; cases this
end Mine

end BASE6_
theorem Mine.rst_P8 : True := by
  w_top off
  first | (walk1; done) | trivial
section P8_
open PySem PySem.W PyProof.Rows PySem.Spec PySem.Calls
namespace Mine
noncomputable def padSeg (n : Int) (seg : List Int) : List Int := seg ++ List.replicate ((ownZ n).toNat - seg.length) 0
noncomputable def partS (r : Int × Int × List Int) : Step := (r.2.1, padSeg r.2.1 r.2.2)
/-- octet j of the code, 0 behind its end -/
noncomputable def octAt (bs : List Int) (j : Int) : Int := if j < bs.length then bs.getD j.toNat 0 else 0
noncomputable def octs (bs : List Int) (p : Int) (k : Nat) : List Int := (List.range k).map fun (j : Nat) => octAt bs (p + 1 + (j : Int))
theorem octs_succ (bs : List Int) (p : Int) (k : Nat) : octs bs p (k + 1) = octs bs p k ++ [octAt bs (p + 1 + (k : Int))] := by
  unfold octs; rw [List.range_succ, List.map_append]; rfl
theorem octs_len (bs : List Int) (p : Int) (k : Nat) : (octs bs p k).length = k := by unfold octs; simp
theorem octs_seg (bs : List Int) (p n : Int) (hp : 0 ≤ p) : octs bs p (ownZ n).toNat = padSeg n (segOf bs p (ownZ n)) := by
  generalize hk : (ownZ n).toNat = k
  unfold padSeg
  apply List.ext_getElem?
  intro j
  have hs : (segOf bs p (ownZ n)).length = min k (bs.length - (p + 1).toNat) := by
    unfold segOf; rw [List.length_take, List.length_drop, hk]
  by_cases hj : j < k
  · have e1 : (octs bs p k)[j]? = some (octAt bs (p + 1 + (j : Int))) := by
      unfold octs; rw [List.getElem?_map, List.getElem?_range hj]; rfl
    rw [e1]
    by_cases hj2 : j < (segOf bs p (ownZ n)).length
    · rw [List.getElem?_append_left hj2]
      unfold segOf
      rw [List.getElem?_take, hk, if_pos hj, List.getElem?_drop]
      have hlt : (p + 1).toNat + j < bs.length := by omega
      rw [List.getElem?_eq_getElem hlt]
      unfold octAt
      rw [if_pos (by omega), show (p + 1 + (j : Int)).toNat = (p + 1).toNat + j by omega, List.getD_eq_getElem?_getD, List.getElem?_eq_getElem hlt, Option.getD_some]
    · rw [List.getElem?_append_right (by omega), List.getElem?_replicate, if_pos (by omega)]
      unfold octAt
      rw [if_neg (by omega)]
  · rw [List.getElem?_eq_none (by rw [octs_len]; omega), List.getElem?_eq_none (by rw [List.length_append, List.length_replicate]; omega)]
end Mine

end P8_
theorem Mine.rst_W13 : True := by
  w_top off
  first | (walk1; done) | trivial
section W13_
open PySem PySem.W PyProof.Rows PySem.Spec PySem.Calls
namespace Mine
local macro_rules
  | `(tactic| walk_at "call builtin:len") => `(tactic| (k_here; k_dflt (refine kt_len_nums (by assumption) (Fr.keep (by k_asm)) (by omega) ?_)))
  | `(tactic| walk_at "exec For Tuple Call cons nil") => `(tactic| (k_here; refine wpAny_For ?_))
  | `(tactic| walk_at "call type:enumerate") => `(tactic| (refine Stop.of ?_))
  | `(tactic| walk_at "binaryOp Mult ref int") => `(tactic| (k_here; (refine' kbo_mul (by k_asm) (by k_asm) (by exact News.isList (by k_asm) (by k_mem)) (LSm.BoolsAre.cons _ .nil) (by omega) (by omega) (by simp only [List.length_cons, List.length_nil]; omega) ?_); (intro D' h' F' N' l1 i1 n1 s1 e1 e2 e3 e4); (try k_lt l1)))
noncomputable def rangeObj (a : Int) (t : Tok) (b : Int) (u v : Tok) : Obj := { cls := .type "range", data := .fields #[.int a t, .int b u, .int 1 v] }
theorem range2_news {prog : Program} {w : World} {A : Around} {E : Value → Shared → Prop} {s : Shared} {Q : Value → Shared → Prop} {g : Heap} {L : Addr} {m : Str → Option Value} {nx : Led} {a b : Int} {t u : Tok} (F : Fr g L s.heap m) (N : News g L s.heap nx)
    (h : ∀ r h' v, Fr g L h' m → News g L h' ((r, rangeObj a t b u v) :: nx) → (∀ p ∈ nx, p.1 < r) → Q (.ref r) { s with heap := h', toks := s.toks + 1 }) : wpAny (model prog w) A (call (.type "range") [.int a t, .int b u]) Q E s :=
  call_range_2 (h _ _ _ (F.push _) (News.push F N _) fun p hp => Heap.lt_size (N p hp).1)
local macro_rules
  | `(tactic| walk_at $s) => if ["pyIter ref", "eval ListComp"].contains s.getString then `(tactic| (refine Stop.of ?_)) else Lean.Macro.throwUnsupported
local macro_rules
  | `(tactic| walk_at "call type:range") => `(tactic| (k_here; (refine' range2_news (by k_asm) (by k_asm) ?_); intro r' h' v' F' N' l1; (try k_lt l1)))
  | `(tactic| walk_at "setItem ref int") => `(tactic| (k_here; (with_reducible show wpAny _ _ (setItem (Value.ref _) (Value.int _ _) (Value.bool _)) _ _ _); k_dflt (refine' kbo_set (by k_asm) (by k_asm) (by k_upd) (by with_reducible assumption) (by omega) (by omega) (by omega) ?_; k_whole); intro h' F' N' hb' hl'))
theorem nums_sub {prog : Program} {w : World} {A : Around} {E : Value → Shared → Prop} {s : Shared} {value slice : PySem.Expr} {a : Addr} {bs : List Int} {k : Int} {u : Tok} {Q : Value → Shared → Prop} {g : Heap} {L : Addr} {m : Str → Option Value} (hW : KTD.Nums g a bs) (F : Fr g L s.heap m)
    (h0 : 0 ≤ k) (h1 : k < bs.length) (h2 : bs.length ≤ 100000) (h : ∀ t, Q (.int (bs.getD k.toNat 0) t) s)
    (hs : subscripted slice false (.ref a) (.int k u) = operate [.ref a, .int k u] (getItem (.ref a) (.int k u)) := by with_unfolding_all rfl) :
    wpAny (model prog w) A (subscriptTail value slice (.ref a) (.int k u)) Q E s := by
  obtain ⟨vs, hl, hi⟩ := hW.keep F.keep
  exact item_list_intsR hl hi h0 h1 (by omega) h hs
local macro_rules | `(tactic| walk_at "subscriptTail") => `(tactic| (k_here; (refine' nums_sub (by assumption) (by k_asm) (by omega) (by first | assumption | omega) (by omega) ?_); intro t9))
structure QSt where
  hv : List Value
  hb : List Bool
  hn : Nat
  vs : List Value
  n : Nat
  tl : Led
  e : Int
  done : List (Int × Int × List Int)
structure QInv (bs : List Int) (H S : Addr) (i : Nat) (c : QSt) : Prop where
  le : i ≤ bs.length
  bools : LSm.BoolsAre c.hv c.hb
  len : c.hb.length = bs.length + 33
  lo : (i : Int) ≤ c.e
  hi : c.e ≤ bs.length + 32
  at' : ∀ j : Nat, i ≤ j → j < bs.length + 33 → c.hb.getD j false = decide ((j : Int) < c.e)
  go : c.done ++ parse c.e (bs.drop c.e.toNat) = parse 0 bs
  dat : DatAll c.tl c.vs ((c.done.map partS).map stepD)
  vl : c.vs.length ≤ i
  off : ∀ p ∈ c.tl, p.1 ≠ H ∧ p.1 ≠ S
local macro_rules
  | `(tactic| walk_at "subscriptTail") => `(tactic| (k_here; (with_reducible show wpAny _ _ (subscriptTail _ _ (Value.ref _) (Value.int _ _)) _ _ _); k_dflt (refine' kbo_sub (by k_asm) (by k_mem) (by with_reducible assumption) (by omega) (by omega) (by omega) ?_ (by with_unfolding_all rfl); k_whole)))
  | `(tactic| walk_at "call ref") => `(tactic| (k_here; k_dflt (refine' tells_useQ (law_own_tells _ _ _ _ _ _) ?_; k_whole); walk_at "mine:v"))
  | `(tactic| walk_at "exec If") => `(tactic| (k_here; refine wpAny_If ?_))
  | `(tactic| walk_at "exec For Name Name cons nil") => `(tactic| (refine Stop.of ?_))
theorem parted_tells (w : World) (mean : ExcName → Option Value) (mg mb : Str → Option Value) (v : Value) (bs : List Int) (hb : bs.length ≤ 1000) :
    Tells w mean mg mb 131 3 [] (fun h => DatAt h v (.list (bs.map .int))) [v] (fun r tl _ => DatIn tl r (.list (((parse 0 bs).map partS).map stepD))) := by
  (have hf := fillme; revert hf; k_fill; intro hf; clear hf)
  refine' tells_introC (binds := [(Str.ofString "octets", v)]) ?k6 ?k7 ?kD ?kB0 ?kB ?kN (fun _ _ k h => h.keeps k.nil) ?_ ?c2 ?c3 ?c4
  ((case k6 => k_dflt k_is); (case k7 => k_dflt k_is); (case kB0 => exact rfl); (case kB => exact rfl); (case kN => decide +kernel); (case c2 => exact rfl); (case c3 => exact rfl); (case c4 => exact rfl); (case kD => decide))
  intro dp un gd outer A₀ base g L h₁ tk cells s B F N Y X T hpre hlt hk hd hu
  obtain ⟨oc, hE, hoc⟩ := CellsAre.one Y
  subst hE
  clear Y
  (try simp only [List.cons_append, List.nil_append] at N)
  (try dsimp only); k_fold
  replace F : Fr g L h₁ (fun _ => none) := F
  obtain ⟨lp, hheld, hd0⟩ := hpre
  obtain ⟨a, bvs, bn, rfl, hla, hall⟩ := list_inv hd0
  clear hd0
  have hI := ints_of hall
  have hW : KTD.Nums g a bs := ⟨bvs, ⟨_, hheld _ hla, rfl, _, rfl⟩, hI⟩
  k_steps
  rename_i la h6 l3 H h5 i1 n1 s1 e1 e2 e3 e4 l2 S h4 l1 Dt h3 l0 h2 hh1 hh0 F2 N2
  refine Stop.out ?_
  have hlen0 : (List.replicate ((bs.length : Int) + 33).toNat [false]).flatten.length = bs.length + 33 := by
    have := e3 (by omega)
    rw [List.length_singleton] at this
    omega
  have hS1 : L + 1 ≠ H := Nat.ne_of_lt l2.2
  have hS2 : L + 1 ≠ S := Nat.ne_of_lt l1.2.2
  have hS3 : H ≠ S := Nat.ne_of_lt l1.1
  have hS4 : S ≠ H := Ne.symm hS3
  refine' for_enum (vs := bvs) (fun c : QSt => (H, listOf c.hv.toArray c.hn) :: (S, listOf c.vs.toArray c.n) :: (L + 1, oc) :: c.tl) (fun _ => []) [Str.ofString "at", Str.ofString "number", Str.ofString "span", Str.ofString "spot"] (QInv bs H S)
    ⟨(List.replicate ((bs.length : Int) + 33).toNat [Value.bool false]).flatten, (List.replicate ((bs.length : Int) + 33).toNat [false]).flatten, 0, [], 0, [], 0, []⟩ rfl F2 N2 ?hn ?hk ?hp ?hsrc ?turn ?done
  case hn =>
    intro p hp
    simp only [List.mem_cons, List.not_mem_nil, or_false] at hp
    rcases hp with rfl | rfl | rfl
    · exact .tail _ (.tail _ (.head _))
    · exact .tail _ (.head _)
    · exact .tail _ (.tail _ (.tail _ (.tail _ (.head _))))
  case hk => exact fun _ h => nomatch h
  case hp =>
    refine ⟨Nat.zero_le _, i1, hlen0, Int.le_refl _, by show (0 : Int) ≤ _; omega, fun j _ hj => ?_, rfl, .nil, Nat.le_refl _, fun _ h => nomatch h⟩
    have e9 : ∀ (k j : Nat), (List.replicate k [false]).flatten.getD j false = false := by
      intro k
      induction k with
      | zero => intro j; rfl
      | succ k ih =>
        intro j
        rw [List.replicate_succ, List.flatten_cons]
        cases j with
        | zero => rfl
        | succ j => exact ih j
    rw [e9]
    exact (decide_eq_false (by show ¬ (j : Int) < 0; omega)).symm
  case hsrc => exact fun i c h hP hkk hN => ⟨_, hkk _ _ (hheld _ hla), rfl, _, rfl⟩
  case turn =>
    clear F2 N2 i1 e1 e2 e3 e4 s1 l0 l1 l2 l3 hlen0
    intro i v t' T' c u h tk I oI J oJ hv hP hT FF NN hoo
    obtain ⟨hv9, hb9, hn9, vs, n, tl, e, dn⟩ := c
    obtain ⟨_, hbo, hbl, hlo, hhi, hat, hgo, hda, hvl, hof⟩ := hP
    dsimp only [kstB] at hbo hbl hlo hhi hat hgo hda hvl hof FF NN hoo
    have hil : i < bs.length := by
      have := (List.getElem?_eq_some_iff.mp hv).1
      rw [hall.length, List.length_map] at this
      exact this
    have hgd : bs.getD i 0 = bs[i] := by rw [List.getD_eq_getElem?_getD, List.getElem?_eq_getElem hil, Option.getD_some]
    obtain ⟨tx, rfl⟩ := int_inv (dall_at hall hv (d := .int (bs.getD i 0)) (by rw [List.getElem?_map, List.getElem?_eq_getElem hil, hgd]; rfl))
    clear hv hgd
    have hx0 := ownZ_lo (bs.getD i 0)
    have hx1 := ownZ_hi (bs.getD i 0)
    have hnI : I ≠ H := Ne.symm (hoo (H, listOf hv9.toArray hn9) (.head _)).1
    have hnJ : J ≠ H := Ne.symm (hoo (H, listOf hv9.toArray hn9) (.head _)).2
    have hnI2 : I ≠ S := Ne.symm (hoo (S, listOf vs.toArray n) (.tail _ (.head _))).1
    have hnJ2 : J ≠ S := Ne.symm (hoo (S, listOf vs.toArray n) (.tail _ (.head _))).2
    have hof1 : ∀ p ∈ tl, p.1 ≠ H := fun p hp => (hof p hp).1
    have hof2 : ∀ p ∈ tl, p.1 ≠ S := fun p hp => (hof p hp).2
    have hvs : vs.length ≤ 1000 := by omega
    k_steps
    · rename_i hz az
      have hie : (i : Int) < e := by
        have h9 := hat i (Nat.le_refl _) (by omega)
        rw [Int.toNat_natCast] at az
        rw [az] at h9
        exact of_decide_eq_true h9.symm
      refine' k_done ⟨hv9, hb9, hn9, vs, n, tl, e, dn⟩ ?Fa ?Na ?Ia ?na ?oa ?ka ?ra ?pa
      (case Fa => k_asm)
      (case Na => k_asm)
      (case Ia => exact sub_head (by k_mem) (sub_head (by k_mem) sub_nil))
      (case na => exact fun q hq => .tail _ (.tail _ hq))
      (case oa => intro q hq hm9; have := hoo q hq; simp only [List.mem_cons, List.not_mem_nil, or_false] at hm9; rcases hm9 with e | e; exact this.1 e; exact this.2 e)
      (case ka => exact fun _ h => nomatch h)
      (case ra => ksw_same)
      (case pa => exact ⟨hil, hbo, hbl, by show ((i + 1 : Nat) : Int) ≤ e; omega, hhi, fun j h1 h2 => hat j (by omega) h2, hgo, hda, by show vs.length ≤ i + 1; omega, hof⟩)
    · rename_i az tkr r hz1 vr lr hz2 Fz Nz
      have hie : e = (i : Int) := by
        have h9 := hat i (Nat.le_refl _) (by omega)
        rw [Int.toNat_natCast] at az
        rw [az] at h9
        have := of_decide_eq_false h9.symm
        omega
      subst hie
      refine Stop.out ?_
      refine wpAny_For ?_
      k_steps
      rename_i hz3 Fz Nz tkz
      refine Stop.out ?_
      have hrI : r ≠ H := Ne.symm (Nat.ne_of_lt lr.2.2.1)
      have hrS : r ≠ S := Ne.symm (Nat.ne_of_lt lr.2.2.2.1)
      refine' for_range (n := (ownZ (bs.getD i 0)).toNat) (fun c : List Value × List Bool => (r, rangeObj ((i : Int) + 1) (tkz + 1) ((i : Int) + 1 + ownZ (bs.getD i 0)) tkr vr) :: (I, oI) :: (J, oJ) :: (H, listOf c.1.toArray hn9) :: (S, listOf vs.toArray n) :: (L + 1, oc) :: tl) (fun _ => []) [Str.ofString "spot"]
        (fun k c => k ≤ (ownZ (bs.getD i 0)).toNat ∧ LSm.BoolsAre c.1 c.2 ∧ c.2.length = bs.length + 33 ∧ ∀ j : Nat, c.2.getD j false = (hb9.getD j false || decide (i + 1 ≤ j ∧ j < i + 1 + k))) (hv9, hb9) rfl (Nz _ (.head _)).1 ?hs3 ?hn3 Fz Nz ?hm3 ?hk3 ?hp3 ?turn3 ?done3
      case hm3 => exact fun _ h => h
      case hk3 => exact fun _ h => nomatch h
      case hs3 => exact small_one (by omega) (by omega) (by omega) (by omega)
      case hn3 => rw [rangeSize_nat]; omega
      case hp3 => exact ⟨Nat.zero_le _, hbo, hbl, fun j => by rw [decide_eq_false (by omega), Bool.or_false]⟩
      case turn3 =>
        clear Fz Nz
        intro k t3 c u h tk K oK hk9 hP FF3 NN3 ho3
        obtain ⟨hvc, hbc⟩ := c
        obtain ⟨_, hbo3, hbl3, hat3⟩ := hP
        dsimp only [kstB] at hbo3 hbl3 hat3 FF3 NN3 ho3
        have hnK : K ≠ H := Ne.symm (ho3 (H, listOf hvc.toArray hn9) (.tail _ (.tail _ (.tail _ (.head _)))))
        k_steps
        rename_i tk8 hz8 Fz8 Nz8 hb8 hl8
        have hp8 : ((i : Int) + 1 + (k : Int)).toNat = i + 1 + k := by omega
        refine' k_done (hvc.set ((i : Int) + 1 + (k : Int)).toNat (.bool true), hbc.set ((i : Int) + 1 + (k : Int)).toNat true) ?Fb ?Nb ?Ib ?nb ?ob ?kb ?rb ?pb
        (case Fb => k_asm)
        (case Nb => k_asm)
        (case Ib => intro q hq; rw [List.mem_singleton.mp hq]; exact .head _)
        (case nb => exact fun q hq => .tail _ hq)
        (case ob =>
          refine off_single ?_
          intro q hq
          simp only [List.mem_cons] at hq
          rcases hq with rfl | rfl | rfl | rfl | rfl | rfl | hq
          · exact ho3 _ (.head _)
          · exact ho3 _ (.tail _ (.head _))
          · exact ho3 _ (.tail _ (.tail _ (.head _)))
          · exact Ne.symm hnK
          · exact ho3 (S, listOf vs.toArray n) (.tail _ (.tail _ (.tail _ (.tail _ (.head _)))))
          · exact ho3 (L + 1, oc) (.tail _ (.tail _ (.tail _ (.tail _ (.tail _ (.head _))))))
          · exact ho3 q (.tail _ (.tail _ (.tail _ (.tail _ (.tail _ (.tail _ hq)))))))
        (case kb => exact fun _ h => nomatch h)
        (case rb => ksw_same)
        (case pb =>
          refine ⟨hk9, hb8, hl8.trans hbl3, fun j => ?_⟩
          show (hbc.set _ true).getD j false = _
          rw [hp8, List.getD_eq_getElem?_getD, List.getElem?_set]
          by_cases hj : i + 1 + k = j
          · subst hj
            rw [if_pos rfl, if_pos (by omega), Option.getD_some, decide_eq_true (by omega), Bool.or_true]
          · rw [if_neg hj, ← List.getD_eq_getElem?_getD, hat3]
            congr 1
            by_cases hj2 : i + 1 ≤ j ∧ j < i + 1 + k
            · rw [decide_eq_true hj2, decide_eq_true (by omega)]
            · rw [decide_eq_false hj2, decide_eq_false (by omega)])
      case done3 =>
        clear Fz Nz
        intro c u h tk hP FF3 NN3
        obtain ⟨hvc, hbc⟩ := c
        obtain ⟨_, hbo3, hbl3, hat3⟩ := hP
        dsimp only [kstB] at hbo3 hbl3 hat3 FF3 NN3
        k_steps
        refine Stop.out ?_
        k_dflt (refine LCg.ListComp_U FF3 (by rfl) (by decide) (by rfl) (by decide) (by rfl) ?_)
        k_steps
        refine LCg.CompSrc.range (n := (ownZ (bs.getD i 0)).toNat) rfl FF3 NN3 (NN3 _ (.head _)).1 (small_one (by omega) (by omega) (by omega) (by omega)) (by rw [rangeSize_nat]; omega) (by rw [sizeLine_eq]; omega) ?_
        intro g9
        refine comp_rest (ownZ (bs.getD i 0)).toNat (fun k ys nx => nx = (r, rangeObj ((i : Int) + 1) (tkz + 1) ((i : Int) + 1 + ownZ (bs.getD i 0)) tkr vr) :: (I, oI) :: (J, oJ) :: (H, listOf hvc.toArray hn9) :: (S, listOf vs.toArray n) :: (L + 1, oc) :: tl ∧ IntsAre ys (octs bs (i : Int) k)) ?_ ?_ _ 0 [] _ (Nat.zero_add _) ⟨rfl, .nil⟩
        · rintro ys nx ⟨rfl, hys⟩
          intro D8 h8 tk8 F8 N8 off8
          clear FF3 NN3
          have hD8 : D8 ≠ S := Ne.symm off8.2.2.2.2.1
          have hD8H : D8 ≠ H := Ne.symm off8.2.2.2.1
          k_steps
          rename_i T8 hz9 lT hz8 Fz8 Nz8
          rw [List.push_toArray] at Nz8
          have hdt : DatAll ((T8, { cls := .type "tuple", data := .seq #[Value.int (bs.getD i 0) tx, Value.ref D8] }) :: (D8, LCg.lst ys) :: tl) (vs ++ [.ref T8]) (((dn ++ [((i : Int), bs.getD i 0, segOf bs (i : Int) (ownZ (bs.getD i 0)))]).map partS).map stepD) := by
            rw [List.map_append, List.map_append]
            refine (hda.mono fun q hq => .tail _ (.tail _ hq)).append (.one ?_)
            refine .tuple (vs := [.int (bs.getD i 0) tx, .ref D8]) (.head _) (.cons (.int _ _) (.cons (.list (.tail _ (.head _)) ?_) .nil))
            show DatAll _ ys ((padSeg (bs.getD i 0) (segOf bs (i : Int) (ownZ (bs.getD i 0)))).map .int)
            rw [← octs_seg bs (i : Int) (bs.getD i 0) (by omega)]
            exact ints_dat hys
          refine' k_done ⟨hvc, hbc, hn9, vs ++ [.ref T8], n + 1, (T8, { cls := .type "tuple", data := .seq #[Value.int (bs.getD i 0) tx, Value.ref D8] }) :: (D8, LCg.lst ys) :: tl, (i : Int) + 1 + ownZ (bs.getD i 0), dn ++ [((i : Int), bs.getD i 0, segOf bs (i : Int) (ownZ (bs.getD i 0)))]⟩ ?Fc Nz8 ?Ic ?nc ?oc ?kc ?rc ?pc
          (case Fc => k_asm)
          (case Ic => exact sub_head (by k_mem) (sub_head (by k_mem) sub_nil))
          (case nc => exact (sub_head (by k_mem) (sub_head (by k_mem) (sub_head (by k_mem) (sub_head (by k_mem) (sub_head (by k_mem) (sub_skip (sub_skip (sub_skip (sub_skip (sub_skip (sub_skip (sub_skip (sub_skip sub_refl))))))))))))))
          (case oc =>
            have hDI : D8 ≠ I := Ne.symm off8.2.1
            have hDJ : D8 ≠ J := Ne.symm off8.2.2.1
            intro q hq hm9
            have key : q.1 ≠ I ∧ q.1 ≠ J := by
              simp only [List.mem_cons] at hq
              rcases hq with rfl | rfl | rfl | rfl | rfl | hq
              · exact hoo (H, listOf hv9.toArray hn9) (.head _)
              · exact hoo (S, listOf vs.toArray n) (.tail _ (.head _))
              · exact hoo (L + 1, oc) (.tail _ (.tail _ (.head _)))
              · exact ⟨Ne.symm (Nat.ne_of_lt lT.2.2.1), Ne.symm (Nat.ne_of_lt lT.2.2.2.1)⟩
              · exact ⟨hDI, hDJ⟩
              · exact hoo q (.tail _ (.tail _ (.tail _ hq)))
            simp only [List.mem_cons, List.not_mem_nil, or_false] at hm9
            rcases hm9 with e | e
            · exact key.1 e
            · exact key.2 e)
          (case kc => exact fun _ h => nomatch h)
          (case rc => ksw_same)
          (case pc =>
            refine ⟨hil, hbo3, hbl3, by show ((i + 1 : Nat) : Int) ≤ (i : Int) + 1 + _; omega, by show (i : Int) + 1 + _ ≤ _; omega, fun j h1 h2 => ?_, ?_, hdt, by show (vs ++ [_]).length ≤ i + 1; rw [List.length_append, List.length_singleton]; omega, fun q hq => ?_⟩
            · show hbc.getD j false = decide ((j : Int) < (i : Int) + 1 + ownZ (bs.getD i 0))
              rw [hat3, hat j (by omega) h2, decide_eq_false (by omega), Bool.false_or]
              by_cases hj : (j : Int) < (i : Int) + 1 + ownZ (bs.getD i 0)
              · rw [decide_eq_true hj, decide_eq_true (by omega)]
              · rw [decide_eq_false hj, decide_eq_false (by omega)]
            · have hp := parse_at (bs := bs) (p := (i : Int)) (by omega) (by omega)
              rw [Int.toNat_natCast] at hp hgo
              rw [hp] at hgo
              show (dn ++ [_]) ++ parse _ _ = _
              rw [List.append_assoc]
              exact hgo
            · rcases List.mem_cons.mp hq with rfl | hq
              · exact ⟨Ne.symm (Nat.ne_of_lt lT.2.2.2.2.1), Ne.symm (Nat.ne_of_lt lT.2.2.2.2.2.1)⟩
              rcases List.mem_cons.mp hq with rfl | hq
              · exact ⟨hD8H, hD8⟩
              · exact hof q hq)
        · clear FF3 NN3
          rintro k ys nx hk8 ⟨rfl, hys⟩ v I2 oI2 C oC D m₂ h tk E' ⟨t8, rfl⟩ z1 z2 F4 N4 off ne
          k_steps
          · refine LCg.CompEnd.intro F4 N4 _ (fun _ h => h) off trivial ⟨rfl, ?_⟩
            rw [octs_succ, show octAt bs ((i : Int) + 1 + (k : Int)) = bs.getD ((i : Int) + 1 + (k : Int)).toNat 0 by unfold octAt; rw [if_pos (by assumption)]]
            exact ints_snoc hys _ _
          · refine LCg.CompEnd.intro F4 N4 _ (fun _ h => h) off trivial ⟨rfl, ?_⟩
            rw [octs_succ, show octAt bs ((i : Int) + 1 + (k : Int)) = 0 by unfold octAt; rw [if_neg (by assumption)]]
            exact ints_snoc hys _ _
  case done =>
    clear F2 N2 i1 e1 e2 e3 e4 s1 l0 l1 l2 l3 hlen0
    intro c u h tk hP FF NN
    obtain ⟨hv9, hb9, hn9, vs, n, tl, e, dn⟩ := c
    obtain ⟨_, hbo, hbl, hlo, hhi, hat, hgo, hda, hvl, hof⟩ := hP
    dsimp only [kstB] at hbo hbl hlo hhi hat hgo hda hvl hof FF NN
    have hlen : bvs.length = bs.length := by rw [hall.length, List.length_map]
    rw [hlen] at hlo
    rw [parse_end (by omega), List.append_nil] at hgo
    subst hgo
    k_steps
    (try dsimp only)
    refine' BodyPost.ret0 _ FF NN (fun _ h => h) ?zz
    exact .list (.tail _ (.head _)) (hda.mono fun q hq => .tail _ (.tail _ (.tail _ hq)))
end Mine

end W13_
theorem Mine.rst_BASE7 : True := by
  w_top off
  first | (walk1; done) | trivial
section BASE7_
open PySem PySem.W PyProof.Rows PySem.Spec PySem.Calls PyProof.V
namespace Mine
section
variable {w : World} {mean : ExcName → Option Value} {mg mb : Str → Option Value} {f : Addr} {dep : Nat} {Pre : Heap → Prop} {vs : List Value}
  {dp un : Nat} {gd : Option (List Code)} {cn : Str} {cs : Scope} {a : Addr} {ccd : Value} {cl : List (Str × Addr)} {outer : List Env} {A₀ : Around} {base h₀ : Heap} {L : Addr} {m : Str → Option Value} {s : Shared}
  {Q E : Value → Shared → Prop} {news : Led}
theorem tells_useM {ta : Addr} {o : Obj} {gg : Obj → Led} {P1 : Obj → Prop} {P2 : Value → Led → Prop} (C : Tells w mean mg mb f dep [(ta, o)] Pre vs (fun r tl mu' => (∃ o', mu' = [(ta, o')] ∧ P1 o') ∧ P2 r tl)) (B : Below A₀ base outer h₀) (F : Fr h₀ L s.heap m) (X : (Mine.hp39 w.params).In h₀) (N : News h₀ L s.heap news) (T : Top Mine.vw39 (looseW Mine.vw39 []) mean mg mb h₀) (hk : cs.kind = .function)
    (U : UpdF ta o news gg) (hp : Pre s.heap) (hd : dp + dep < recursionLimit) (hu : un + 8 * dep < cLine)
    (ret : ∀ r h' tk' tl o', Fr h₀ L h' m → News h₀ L h' (gg o' ++ tl) → (∀ p ∈ tl, ∀ q ∈ news, p.1 ≠ q.1) → P1 o' → P2 r tl → Q r { s with heap := h', toks := tk' }) :
    wpAny (model PySem.Challenge.rw_pq0392_01.row.prog w) (ktrTop dp un gd cn cs L a ccd cl outer) (call (.ref f) vs) Q E s := by
  obtain ⟨pre, post, hnw, hg, ha, hb⟩ := U.split
  have hmem : (ta, o) ∈ news := by rw [hnw]; exact List.mem_append_right _ (.head _)
  have hta := N _ hmem
  refine C dp un gd cn cs a ccd cl outer A₀ base h₀ L m s Q E B F X (fun p hp => by rw [List.mem_singleton.mp hp]; exact hta) T hk hp hd hu ?_
  rintro r h' tk' tl mu' K Ht Hf Hm ha' ⟨⟨o', rfl, h1⟩, h2⟩
  have kb : ∀ b ob, b ≠ ta → s.heap.get? b = some ob → h'.get? b = some ob := fun b ob hne e => K b ob e (fun p hp => by rw [List.mem_singleton.mp hp]; exact Ne.symm hne)
  have hg0 : ∀ b ob, h₀.get? b = some ob → b ≠ ta := fun b ob e q => by rw [q, hta.2.2] at e; cases e
  have hF : Fr h₀ L h' m := by
    obtain ⟨oL, a1, a2, hL', a3⟩ := F.ns
    exact ⟨⟨oL, a1, a2, kb _ _ (Ne.symm hta.2.1) hL', a3⟩, fun b ob e => kb b ob (hg0 b ob e) (F.keep b ob e), F.above⟩
  have hdis : ∀ p ∈ tl, ∀ q ∈ news, p.1 ≠ q.1 := fun p hp q hq e => by
    have := Hf p hp; rw [e, (N q hq).1] at this; cases this
  refine ret r h' tk' tl o' hF (fun p hp => ?_) hdis h1 h2
  rw [hg] at hp
  rcases List.mem_append.mp hp with hp | hp
  · rcases List.mem_append.mp hp with hp | hp
    · have z := N p (by rw [hnw]; exact List.mem_append_left _ hp)
      exact ⟨kb _ _ (ha p hp) z.1, z.2⟩
    · rcases List.mem_cons.mp hp with rfl | hp
      · exact ⟨Hm _ (.head _), hta.2⟩
      · have z := N p (by rw [hnw]; exact List.mem_append_right _ (.tail _ hp))
        exact ⟨kb _ _ (hb p hp) z.1, z.2⟩
  · refine ⟨Ht p hp, fun e => ?_, ?_⟩
    · obtain ⟨oL, _, _, hL, _⟩ := F.ns
      have := Hf p hp; rw [e, hL] at this; cases this
    · cases q : h₀.get? p.1 with
      | none => rfl
      | some ob => have := Hf p hp; rw [F.keep _ _ q] at this; cases this
end
theorem pip_any (w : World) (mean : ExcName → Option Value) (mg mb : Str → Option Value) (ta l : Addr) (o : Obj) (vs : List Value) (cells : List Int) (k many : Int) (t : Tok)
    (hc : cells.length ≤ 63) (hi : IntsAre vs cells) (ho : TrayAt w o l k) (hk : 0 ≤ k) (hk2 : k < 1000) (hm : 0 < many) (hm2 : many < 1000) (hne : l ≠ ta) :
    Tells w mean mg mb 105 1 [(ta, o)] (fun h => h.IsList l vs.toArray) [.ref ta, .int many t] (fun r tl mu' => (∃ o', mu' = [(ta, o')] ∧ TrayAt w o' l (k + 1)) ∧ tl = [] ∧ ∃ i t', (0 ≤ i ∧ i < many) ∧ r = .int i t') :=
  (pip_tells w mean mg mb ta l o vs cells k many t hc hi ho hk hk2 hm hm2 hne).post fun _ _ _ ⟨h1, h2, t', h3⟩ => ⟨h2, h1, _, t', (by
    unfold pipZ
    split
    · exact ⟨Int.emod_nonneg _ (by omega), Int.emod_lt_of_pos _ hm⟩
    · exact ⟨Int.emod_nonneg _ (by omega), Int.emod_lt_of_pos _ hm⟩), h3⟩
end Mine

end BASE7_
theorem Mine.rst_W14 : True := by
  w_top off
  first | (walk1; done) | trivial
section W14_
open PySem PySem.W PyProof.Rows PySem.Spec PySem.Calls
namespace Mine
local macro_rules
  | `(tactic| walk_at $s) => if ["eval ListComp", "CompSrc", "exec If", "eval IfExp"].contains s.getString then `(tactic| (refine Stop.of ?_)) else Lean.Macro.throwUnsupported
local macro_rules | `(tactic| walk_at "call ref") => `(tactic| first
  | (k_here; k_dflt (refine' tells_useQ (law_own_tells _ _ _ _ _ _) ?_; k_whole); walk_at "mine:v")
  | (k_here; (rename TrayAt _ _ _ _ => hT9); k_dflt (refine' tells_useM (pip_any _ _ _ _ _ _ _ _ _ _ _ _ (by assumption) (by assumption) hT9 (by omega) (by omega) (by omega) (by omega) (by assumption)) (by k_asm) (by k_asm) (by k_asm) (by k_asm) (by k_asm) (by k_asm) (by k_updF) (by (rename Fr _ _ _ _ => lF9); exact Heap.IsList.at (by assumption) fun _ e => lF9.keep _ _ e) (by omega) (by omega) ?_; k_whole);
     intro r9 h9 tk9 tl9 o9 F9 N9 d9 P9 P8; obtain ⟨e8, i9, t9, b9, e9⟩ := P8; subst e8; subst e9; clear d9 hT9; rw [List.append_nil] at N9; (try dsimp only at N9 ⊢); (try k_fold)))
noncomputable def IfQ (w : World) (l : Addr) (g : Heap) (L : Addr) (m : Str → Option Value) (LC : Addr) (oc : Obj) (ta : Addr) (k : Int) (s : Shared) (fl : Flow) (s' : Shared) : Prop :=
  fl = .next ∧ ∃ h' tk' n t o' k', s' = { s with heap := h', toks := tk' } ∧ Fr g L h' (fun y => if y = Str.ofString "number" then some (.int n t) else m y) ∧ News g L h' [(LC, oc), (ta, o')] ∧ (0 ≤ n ∧ n < 256) ∧ (k ≤ k' ∧ k' ≤ k + 1) ∧ TrayAt w o' l k'
theorem if_done {w : World} {l : Addr} {g : Heap} {L : Addr} {m m' : Str → Option Value} {LC : Addr} {oc : Obj} {ta : Addr} {k : Int} {s : Shared} {h' : Heap} {tk' : Nat} {nx : Led} {o' : Obj} {n k' : Int} {t : Tok} (F : Fr g L h' m') (N : News g L h' nx) (hn : ∀ p ∈ [(LC, oc), (ta, o')], p ∈ nx) (hm : m' (Str.ofString "number") = some (.int n t))
    (hr : ∀ z, (∀ p ∈ [(Str.ofString "number", Value.int n t)], z ≠ p.1) → ([] : List Str).contains z = false → m' z = m z) (h1 : 0 ≤ n ∧ n < 256) (h2 : k ≤ k' ∧ k' ≤ k + 1) (h3 : TrayAt w o' l k') :
    IfQ w l g L m LC oc ta k s .next { s with heap := h', toks := tk' } := by
  have e : (fun y => if y = Str.ofString "number" then some (Value.int n t) else m y) = m' := by
    funext y
    by_cases hy : y = Str.ofString "number"
    · rw [if_pos hy, hy, hm]
    · rw [if_neg hy]; exact (hr y (fun p hp => by rw [List.mem_singleton.mp hp]; exact hy) rfl).symm
  exact ⟨rfl, h', tk', n, t, o', k', rfl, by rw [e]; exact F, fun p hp => N p (hn p hp), h1, h2, h3⟩
theorem cutIf {M : Model} {A : Around} {E : Value → Shared → Prop} {s : Shared} {t : Sem Flow} {Q : Flow → Shared → Prop} {w : World} {l : Addr} {g : Heap} {L : Addr} {m : Str → Option Value} {LC : Addr} {oc o : Obj} {ta : Addr} {k : Int} (F : Fr g L s.heap m) (N : News g L s.heap [(LC, oc), (ta, o)]) (ht : TrayAt w o l k)
    (h1 : Fr g L s.heap m → News g L s.heap [(LC, oc), (ta, o)] → TrayAt w o l k → wpAny M A t (IfQ w l g L m LC oc ta k s) E s)
    (h2 : ∀ h' tk' n t o' k', Fr g L h' (fun y => if y = Str.ofString "number" then some (.int n t) else m y) → News g L h' [(LC, oc), (ta, o')] → (0 ≤ n ∧ n < 256) → (k ≤ k' ∧ k' ≤ k + 1) → TrayAt w o' l k' → Q .next { s with heap := h', toks := tk' }) : wpAny M A t Q E s :=
  wpAny_mono (h1 F N ht) (fun fl s' ⟨e0, h', tk', n, t, o', k', e, F', N', a, b, c⟩ => by subst e0; subst e; exact h2 h' tk' n t o' k' F' N' a b c) fun _ _ e => e
noncomputable def ExQ (w : World) (l : Addr) (g : Heap) (L : Addr) (m : Str → Option Value) (LC : Addr) (oc : Obj) (ta : Addr) (k : Int) (s : Shared) (v : Value) (s' : Shared) : Prop :=
  ∃ h' tk' n t o' k', v = .int n t ∧ s' = { s with heap := h', toks := tk' } ∧ Fr g L h' m ∧ News g L h' [(LC, oc), (ta, o')] ∧ (0 ≤ n ∧ n < 256) ∧ (k ≤ k' ∧ k' ≤ k + 1) ∧ TrayAt w o' l k'
theorem ex_done {w : World} {l : Addr} {g : Heap} {L : Addr} {m : Str → Option Value} {LC : Addr} {oc : Obj} {ta : Addr} {k : Int} {s : Shared} {h' : Heap} {tk' : Nat} {nx : Led} {o' : Obj} {n k' : Int} {t : Tok} (F : Fr g L h' m) (N : News g L h' nx) (hn : ∀ p ∈ [(LC, oc), (ta, o')], p ∈ nx)
    (h1 : 0 ≤ n ∧ n < 256) (h2 : k ≤ k' ∧ k' ≤ k + 1) (h3 : TrayAt w o' l k') : ExQ w l g L m LC oc ta k s (.int n t) { s with heap := h', toks := tk' } :=
  ⟨h', tk', n, t, o', k', rfl, rfl, F, fun p hp => N p (hn p hp), h1, h2, h3⟩
theorem cutEx {M : Model} {A : Around} {E : Value → Shared → Prop} {s : Shared} {t : Sem Value} {Q : Value → Shared → Prop} {w : World} {l : Addr} {g : Heap} {L : Addr} {m : Str → Option Value} {LC : Addr} {oc o : Obj} {ta : Addr} {k : Int} (F : Fr g L s.heap m) (N : News g L s.heap [(LC, oc), (ta, o)]) (ht : TrayAt w o l k)
    (h1 : Fr g L s.heap m → News g L s.heap [(LC, oc), (ta, o)] → TrayAt w o l k → wpAny M A t (ExQ w l g L m LC oc ta k s) E s)
    (h2 : ∀ h' tk' n t o' k', Fr g L h' m → News g L h' [(LC, oc), (ta, o')] → (0 ≤ n ∧ n < 256) → (k ≤ k' ∧ k' ≤ k + 1) → TrayAt w o' l k' → Q (.int n t) { s with heap := h', toks := tk' }) : wpAny M A t Q E s :=
  wpAny_mono (h1 F N ht) (fun v s' ⟨h', tk', n, t, o', k', e0, e, F', N', a, b, c⟩ => by subst e0; subst e; exact h2 h' tk' n t o' k' F' N' a b c) fun _ _ e => e
theorem tupi_sub {prog : Program} {w : World} {A : Around} {E : Value → Shared → Prop} {s : Shared} {value slice : PySem.Expr} {T : Addr} {its : List Value} {ns : List Int} {k : Int} {u : Tok} {Q : Value → Shared → Prop} (hT : IsTup s.heap T its.toArray) (hi : IntsAre its ns) (hl : ns.length ≤ 1000) (hr : ∀ x ∈ ns, 0 ≤ x ∧ x < 256)
    (h0 : 0 ≤ k) (h1 : k < ns.length) (h : ∀ n t, (0 ≤ n ∧ n < 256) → Q (.int n t) s)
    (hs : subscripted slice false (.ref T) (.int k u) = operate [.ref T, .int k u] (getItem (.ref T) (.int k u)) := by with_unfolding_all rfl) :
    wpAny (model prog w) A (subscriptTail value slice (.ref T) (.int k u)) Q E s := by
  have e := hi.length
  have hj : k.toNat < ns.length := by omega
  obtain ⟨t, hx⟩ := hi.get k.toNat ns[k.toNat] (List.getElem?_eq_getElem hj)
  have e2 : its.toArray.size = ns.length := by rw [List.size_toArray]; exact e
  exact subscriptTail_builtinR hT.typeIs slot_tuple_getitem.lookup (getItem_tuple (Q := fun r s' => r = _ ∧ Q r s') hT (by omega) (by omega) (seqIndex_of h0 (by rw [e2]; exact h1)) (by simpa using hx) ⟨rfl, h _ t (hr _ (List.getElem_mem _))⟩) hs
local macro_rules | `(tactic| walk_at "subscriptTail") => `(tactic| (refine Stop.of ?_))
theorem step_tells (w : World) (mean : ExcName → Option Value) (mg mb : Str → Option Value) (ta l : Addr) (o : Obj) (vs : List Value) (cells : List Int) (k : Int)
    (hc : cells.length ≤ 63) (hi : IntsAre vs cells) (ho : TrayAt w o l k) (hk : 0 ≤ k) (hk2 : k < 900) (hne : l ≠ ta) :
    Tells w mean mg mb 155 3 [(ta, o)] (fun h => h.IsList l vs.toArray) [.ref ta] (fun r tl mu' => (∃ o', mu' = [(ta, o')] ∧ ∃ k', (k ≤ k' ∧ k' ≤ k + 3) ∧ TrayAt w o' l k') ∧ ∃ q, StepOk q ∧ DatIn tl r (stepD q)) := by
  (have hf := fillme; revert hf; k_fill; intro hf; clear hf)
  refine' tells_introC (binds := [(Str.ofString "tray", .ref ta)]) ?k6 ?k7 ?kD ?kB0 ?kB ?kN ?kP ?_ ?c2 ?c3 ?c4
  ((case k6 => k_dflt k_is); (case k7 => k_dflt k_is); (case kB0 => exact rfl); (case kB => exact rfl); (case kN => decide +kernel); (case c2 => exact rfl); (case c3 => exact rfl); (case c4 => exact rfl); (case kD => decide))
  case kP => exact fun h g kk x => x.at fun o e => kk _ o e (fun p hp => by rw [List.mem_singleton.mp hp]; exact fun e => hne e.symm)
  intro dp un gd outer A₀ base g L h₁ tk cells' s B F N Y X T hpre hlt hk' hd hu
  obtain ⟨oc, hE, hoc⟩ := CellsAre.one Y
  subst hE
  clear Y
  (try simp only [List.cons_append, List.nil_append] at N)
  (try dsimp only); k_fold
  replace F : Fr g L h₁ (fun y => if y = Str.ofString "tray" then some (.ref ta) else none) := F
  have hLt2 : ta ≠ L + 1 := Nat.ne_of_lt (Nat.lt_succ_of_lt (hlt (ta, o) (.head _)))
  have hLt : L + 1 ≠ ta := Ne.symm hLt2
  replace hoc : oc.data = .cell none := hoc
  k_steps
  rename_i h9 tk9 o9 ht9 i9 t9 b9 hz1 hz2 Fz Nz
  refine Stop.out ?_
  refine cutIf Fz Nz ht9 ?_ ?_
  · clear Fz Nz ht9
    intro Fz Nz ht9
    refine wpAny_If ?_
    k_steps
    · (try dsimp only)
      refine' if_done ?Fa ?Na ?na ?ma ?ra ?ba ?ca ?ta
      (case ta => assumption)
      (case Fa => k_asm)
      (case Na => k_asm)
      (case na => exact (sub_head (by k_mem) (sub_head (by k_mem) sub_nil)))
      (case ma => rfl)
      (case ra => first | exact fun _ _ _ => rfl | ksw_same)
      (case ba => first | assumption | omega)
      (case ca => omega)
    refine Stop.out ?_
    refine wpAny_If ?_
    k_steps
    · refine Stop.out ?_
      rename News _ _ _ _ => Ny
      refine tupi_sub (its := [Value.int 95 _, Value.int 0 _, Value.int 254 _, Value.int 12 _, Value.int 86 _, Value.int 128 _]) (ns := [95, 0, 254, 12, 86, 128]) (Ny.isTup (.head _)) (.cons _ _ (.cons _ _ (.cons _ _ (.cons _ _ (.cons _ _ (.cons _ _ .nil)))))) (by decide) (by decide) (by omega) (by show _ < (6 : Int); omega) ?_
      intro n7 t7 hn7
      k_steps
      (try dsimp only)
      refine' if_done ?Fb ?Nb ?nb ?mb ?rb ?bb ?cb ?tb
      (case tb => assumption)
      (case Fb => k_asm)
      (case Nb => k_asm)
      (case nb => exact (sub_head (by k_mem) (sub_head (by k_mem) sub_nil)))
      (case mb => rfl)
      (case rb => ksw_same)
      (case bb => assumption)
      (case cb => omega)
    refine Stop.out ?_
    refine wpAny_If ?_
    k_steps
    · (try dsimp only)
      refine' if_done ?Fc ?Nc ?nc ?mc ?rc ?bc ?cc ?tc
      (case tc => assumption)
      (case Fc => k_asm)
      (case Nc => k_asm)
      (case nc => exact (sub_head (by k_mem) (sub_head (by k_mem) sub_nil)))
      (case mc => rfl)
      (case rc => first | exact fun _ _ _ => rfl | ksw_same)
      (case bc => first | assumption | omega)
      (case cc => omega)
    refine Stop.out ?_
    refine wpAny_If ?_
    k_steps
    · (try dsimp only)
      refine' if_done ?Fd ?Nd ?nd ?md ?rd ?bd ?cd ?td
      (case td => assumption)
      (case Fd => k_asm)
      (case Nd => k_asm)
      (case nd => exact (sub_head (by k_mem) (sub_head (by k_mem) sub_nil)))
      (case md => rfl)
      (case rd => first | exact fun _ _ _ => rfl | ksw_same)
      (case bd => first | assumption | omega)
      (case cd => omega)
    · (try dsimp only)
      refine' if_done ?Fe ?Ne ?ne ?me ?re ?be ?ce ?te
      (case te => assumption)
      (case Fe => k_asm)
      (case Ne => k_asm)
      (case ne => exact (sub_head (by k_mem) (sub_head (by k_mem) sub_nil)))
      (case me => rfl)
      (case re => first | exact fun _ _ _ => rfl | ksw_same)
      (case be => first | assumption | omega)
      (case ce => omega)
  · clear Fz Nz ht9
    intro h9 tk9 n t o' k' F9 N9 hn hkk ht9
    k_steps
    refine Stop.out ?_
    refine cutEx F9 N9 ht9 ?_ ?_
    · clear F9 N9 ht9
      intro F9 N9 ht9
      with_reducible refine IfExp_ ?_
      k_steps
      · (try dsimp only)
        refine' ex_done ?Fg ?Ng ?ng ?bg ?cg ?tg
        (case tg => assumption)
        (case Fg => k_asm)
        (case Ng => k_asm)
        (case ng => exact (sub_head (by k_mem) (sub_head (by k_mem) sub_nil)))
        (case bg => omega)
        (case cg => exact ⟨by omega, Int.le_refl _⟩)
      · (try dsimp only)
        refine' ex_done ?Fh ?Nh ?nh ?bh ?ch ?th
        (case th => assumption)
        (case Fh => k_asm)
        (case Nh => k_asm)
        (case nh => exact (sub_head (by k_mem) (sub_head (by k_mem) sub_nil)))
        (case bh => exact ⟨by decide, by decide⟩)
        (case ch => exact ⟨Int.le_refl _, by omega⟩)
    · clear F9 N9 ht9
      intro h9 tk9 b t3 o' k2 F9 N9 hbn hkk2 ht9
      k_steps
      rename_i hz3 oc3 Fz Nz dz
      have hx0 := ownZ_lo n
      have hx1 := ownZ_hi n
      refine Stop.out ?_
      k_dflt (refine LCg.ListComp_U Fz (by rfl) (by decide) (by rfl) (by decide) (by rfl) ?_)
      k_steps
      rename_i hz5 tkz5 t1 u1 v1 hR F5 N5 k5
      have hTr : IsTup g 98 [Value.int 91 328, Value.int 96 329, Value.int 127 330, Value.int 0 331, Value.int 145 332].toArray := ⟨_, X 98 _ rfl, rfl, _, rfl⟩
      refine Stop.out ?_
      refine LCg.CompSrc.range (n := (ownZ n).toNat) rfl F5 N5 hR (small_one (by omega) (by omega) (by omega) (by omega)) (by rw [rangeSize_nat]; omega) (by rw [sizeLine_eq]; omega) ?_
      intro g9
      refine comp_rest (ownZ n).toNat (fun j ys nx => nx = [(L + 1, oc3), (ta, o')] ∧ ∃ ks : List Int, IntsAre ys ks ∧ ks.length = j ∧ ∀ x ∈ ks, 0 ≤ x ∧ x < 256) ?_ ?_ _ 0 [] _ (Nat.zero_add _) ⟨rfl, [], .nil, rfl, fun _ h => nomatch h⟩
      · rintro ys nx ⟨rfl, ks, hy1, hy2, hy3⟩
        intro D8 h8 tk8 F8 N8 off8
        clear F5 N5 k5 hR
        k_steps
        rename_i T9 h10 F10 N10 l10
        (try dsimp only)
        refine' BodyPost.ret [(T9, _), (D8, LCg.lst ys)] [(ta, o')] F10 N10 ?zn ?zm rfl ?zo ⟨⟨o', rfl, k2, ⟨by omega, by omega⟩, ht9⟩, (n, ks), ⟨hn, by show (ks.length : Int) = ownZ n; omega, hy3⟩, .tuple (vs := [.int n _, .ref D8]) (.head _) (.cons (.int _ _) (.cons (.list (.tail _ (.head _)) (ints_dat hy1)) .nil))⟩
        · intro p hp
          simp only [List.mem_cons, List.not_mem_nil, or_false] at hp
          rcases hp with rfl | rfl
          · exact .head _
          · exact .tail _ (.head _)
        · intro p hp
          rw [List.mem_singleton.mp hp]
          exact .tail _ (.tail _ (.tail _ (.head _)))
        · intro p hp q hq
          rw [List.mem_singleton.mp hq]
          simp only [List.mem_cons, List.not_mem_nil, or_false] at hp
          rcases hp with rfl | rfl
          · exact Ne.symm (Nat.ne_of_lt l10.2.2)
          · exact Ne.symm off8.2.1
      · clear F5 N5 k5 hR
        rintro j ys nx hj8 ⟨rfl, ks, hy1, hy2, hy3⟩ v I2 oI2 C oC D m₂ h tk E' ⟨t8, rfl⟩ z1 z2 F4 N4 off ne
        k_steps
        refine Stop.out ?_
        refine tupi_sub (its := [Value.int 91 328, Value.int 96 329, Value.int 127 330, Value.int 0 331, Value.int 145 332]) (ns := [91, 96, 127, 0, 145]) (hTr.keeps F4.keep) (.cons _ _ (.cons _ _ (.cons _ _ (.cons _ _ (.cons _ _ .nil))))) (by decide) (by decide) (by rw [Int.fmod_eq_emod_of_nonneg _ (by decide)]; omega) (by rw [Int.fmod_eq_emod_of_nonneg _ (by decide)]; show _ < (5 : Int); omega) ?_
        intro n7 t7 hn7
        refine LCg.CompEnd.intro F4 N4 _ (fun _ h => h) off trivial ⟨rfl, ks ++ [n7], ints_snoc hy1 _ _, by rw [List.length_append, hy2]; rfl, ?_⟩
        intro x hx
        rcases List.mem_append.mp hx with hx | hx
        · exact hy3 x hx
        · rw [List.mem_singleton.mp hx]; exact hn7
end Mine

end W14_
theorem Mine.rst_FL : True := by
  w_top off
  first | (walk1; done) | trivial
section FL_
open PySem PySem.W PyProof.Rows PySem.Spec PySem.Calls PyProof.Rows.LCg
namespace Mine
theorem compTurn_in (elt t1 i1 t2 i2 : PySem.Expr) (scope : Scope) (pos : Pos) (it acc : Value) (env : Env) :
    compTurn (.ListComp elt [⟨t1, i1, [], 0⟩, ⟨t2, i2, [], 0⟩] scope pos) 1 it acc env = (standAt i2.pos >>= fun _ => pyNext it >>= fun r => match r with
      | none => pure (.done .next)
      | some v => letOwnedTupleGo t2 it v >>= fun _ => assign t2 env v >>= fun _ =>
        (eval elt env >>= fun x => call (.builtin "list.append") [acc, x] >>= fun _ => pure ()) >>= fun _ =>
          again (.compLoop (.ListComp elt [⟨t1, i1, [], 0⟩, ⟨t2, i2, [], 0⟩] scope pos) 1 it acc env)) := by rfl
theorem compTurn_out (elt t1 i1 t2 i2 : PySem.Expr) (scope : Scope) (pos : Pos) (it acc : Value) (env : Env) :
    compTurn (.ListComp elt [⟨t1, i1, [], 0⟩, ⟨t2, i2, [], 0⟩] scope pos) 0 it acc env = (standAt i1.pos >>= fun _ => pyNext it >>= fun r => match r with
      | none => pure (.done .next)
      | some v => letOwnedTupleGo t1 it v >>= fun _ => assign t1 env v >>= fun _ =>
        eval i2 env >>= fun x => standAt i2.pos >>= fun _ => foldedSetIterable i2 env x >>= fun x => holding [x] (pyIter x) >>= fun it2 =>
          runOwn (.compStart (.ListComp elt [⟨t1, i1, [], 0⟩, ⟨t2, i2, [], 0⟩] scope pos) 1 it2 acc env) env >>= fun _ =>
          again (.compLoop (.ListComp elt [⟨t1, i1, [], 0⟩, ⟨t2, i2, [], 0⟩] scope pos) 0 it acc env)) := by rfl
section
variable {prog : Program} {w : World} {A : Around} {R : Result → Shared → Prop}
theorem flat_inner {s : Shared} {I D : Addr} {l : Addr} {vs : List Value} {y : Str} {py pe : Pos} {t1 i1 i2 : PySem.Expr} {scope : Scope} {pos : Pos} {ce : Env} (hA : A.handled = none)
    (hkd : ce.scope.kind = .function) (hy : ce.kindOf y = some .local) (hyd : (y == ("__debug__" : Str)) = false) (hps : (ce.scope.kind == .class || (ce.scope.kind == .module && ce.locals != ce.globals)) = false)
    (hID : I ≠ D) (hIC : I ≠ ce.locals) (hDC : D ≠ ce.locals) (hlI : l ≠ I) (hlD : l ≠ D) (hlC : l ≠ ce.locals) :
    ∀ (k j : Nat) (ys : List Value) (h : Heap) (tk : Nat) (mc : Str → Option Value), vs.length - j = k → j ≤ vs.length → h.IsListIter I l j → h.IsList l vs.toArray → h.get? D = some (lst ys) → h.Ns ce.locals mc → ys.length + k ≤ 100000 →
      (∀ h' tk' mc', (∀ b o, b ≠ I → b ≠ D → b ≠ ce.locals → h.get? b = some o → h'.get? b = some o) → h'.get? D = some (lst (ys ++ vs.drop j)) → h'.Ns ce.locals mc' → R (.ok .next) { s with heap := h', toks := tk' }) →
      codeAny (model prog w) A (.compLoop (.ListComp (.Name y pe) [⟨t1, i1, [], 0⟩, ⟨.Name y py, i2, [], 0⟩] scope pos) 1 (.ref I) (.ref D) ce) R { s with heap := h, toks := tk } := by
  intro k
  induction k with
  | zero =>
    intro j ys h tk mc hk hj hit hl hD hC hsz hR
    have hin : j = vs.length := by omega
    subst hin
    refine codeAny_of_tree ?_
    show wpAny _ A ((compTurn _ 1 (.ref I) (.ref D) ce).onRaise (fun x => do noteFrame x ce; theTreesLotGoes x)) _ _ _
    refine wpAny_noted ?_
    rw [compTurn_in]
    refine wpAny_bind (wpAny_standAt (wpAny_bind (wpAny_pyNext_list_end hA hit hl (by simp) fun h' hb => wpAny_pure ?_)))
    rw [List.drop_length, List.append_nil] at hR
    exact hR h' tk mc (fun b o b1 _ _ e => hb b o b1 e) (hb _ _ (Ne.symm hID) hD) (hC.at' fun o e => hb _ o (Ne.symm hIC) e)
  | succ k ih =>
    intro j ys h tk mc hk hj hit hl hD hC hsz hR
    have hlt : j < vs.length := by omega
    refine codeAny_of_tree ?_
    show wpAny _ A ((compTurn _ 1 (.ref I) (.ref D) ce).onRaise (fun x => do noteFrame x ce; theTreesLotGoes x)) _ _ _
    refine wpAny_noted ?_
    rw [compTurn_in]
    refine wpAny_bind (wpAny_standAt (wpAny_bind (wpAny_pyNext_list_item hit hl (x := vs[j]) (by simp [hlt]) fun h1 hit1 hs1 => ?_)))
    have k1 : ∀ b o, b ≠ I → h.get? b = some o → h1.get? b = some o := fun b o hb e => hs1.extBut b o hb e
    refine wpAny_bind (wpAny_of_eq (a := ()) (by first | rfl | (cases vs[j] <;> rfl)) ?_)
    refine wpAny_bind (wpAny_assign_Name (wpAny_storeName_local hy (hC.at' fun o e => k1 _ o (Ne.symm hIC) e) (fun h2 hC2 hs2 => ?_) hps))
    have k2 : ∀ b o, b ≠ I → b ≠ ce.locals → h.get? b = some o → h2.get? b = some o := fun b o hb hc e => hs2.extBut b o hc (k1 b o hb e)
    refine wpAny_bind (wpAny_bind (wpAny_Name (wpAny_loadName_local (v := vs[j]) hkd hy hC2 (if_pos rfl) ?_) hyd))
    refine wpAny_bind (append_at (hsz := by show ys.toArray.size ≤ sizeLine; rw [List.size_toArray, sizeLine_eq]; omega) (k2 D _ (Ne.symm hID) hDC hD) fun h3 hs3 hD3 => wpAny_pure ?_)
    have k3 : ∀ b o, b ≠ I → b ≠ D → b ≠ ce.locals → h.get? b = some o → h3.get? b = some o := fun b o hb hd hc e => hs3.extBut b o hd (k2 b o hb hc e)
    refine wpAny_pure ⟨rfl, ?_⟩
    rw [lst_snoc] at hD3
    obtain ⟨oI, e1, e2, e3⟩ := id hit1
    obtain ⟨ol, f1, f2⟩ := id hl
    refine ih (j + 1) (ys ++ [vs[j]]) h3 _ _ (by omega) hlt ⟨oI, hs3.extBut I oI hID (hs2.extBut I oI hIC e1), e2, e3⟩ ⟨ol, k3 l ol hlI hlD hlC f1, f2⟩ hD3 (hC2.sameBut hs3 (Ne.symm hDC)) (by rw [List.length_append, List.length_singleton]; omega) fun h' tk' mc' hk' hD' hC' => ?_
    refine hR h' tk' mc' (fun b o b1 b2 b3 e => hk' b o b1 b2 b3 (k3 b o b1 b2 b3 e)) ?_ hC'
    rw [hD', List.append_assoc, List.singleton_append, ← List.drop_eq_getElem_cons hlt]
theorem flat_start {elt t1 i1 t2 i2 : PySem.Expr} {scope : Scope} {pos : Pos} {it acc : Value} {env : Env} {s : Shared}
    (h0 : codeAny (model prog w) A (.compLoop (.ListComp elt [⟨t1, i1, [], 0⟩, ⟨t2, i2, [], 0⟩] scope pos) 1 it acc env) R s)
    (h : wpAny (model prog w) A (pyIter it) (fun it' s' => codeAny (model prog w) A (.compLoop (.ListComp elt [⟨t1, i1, [], 0⟩, ⟨t2, i2, [], 0⟩] scope pos) 1 it' acc env) R s')
      (notedBy (model prog w) A env fun x s' => R (.error x) s') s) :
    codeAny (model prog w) A (.compStart (.ListComp elt [⟨t1, i1, [], 0⟩, ⟨t2, i2, [], 0⟩] scope pos) 1 it acc env) R s := by
  refine codeAny_of_tree ?_
  show wpAny _ _ ((compStart (.ListComp elt [⟨t1, i1, [], 0⟩, ⟨t2, i2, [], 0⟩] scope pos) 1 it acc env).onRaise (fun x => do noteFrame x env; standAt theWindowsPlace)) _ _ s
  refine wpAny_notedAt ?_
  unfold compStart
  show wpAny _ _ (ask >>= _) _ _ s
  refine wpAny_bind (wpAny_askSetting (wpAny_ite ?_))
  split
  · first
      | exact wpAny_bind (wpAny_pure (wpAny_pure (And.intro rfl h0)))
      | exact wpAny_pure (And.intro rfl h0)
  · first
      | exact wpAny_bind (wpAny_rule (wpAny_bind (wpAny_standAt (wpAny_bind (wpAny_mono h (fun it' s' h' => wpAny_pure (And.intro rfl h')) fun _ _ x => x)))))
      | (refine wpAny_bind (wpAny_rule ?_); show wpAny _ _ (standAt i2.pos >>= _) _ _ s; exact wpAny_bind (wpAny_standAt (wpAny_bind (wpAny_mono h (fun it' s' h' => wpAny_pure (And.intro rfl h')) fun _ _ x => x))))
noncomputable def flatZ (steps : List Step) : List Int := steps.flatMap fun q => q.1 :: q.2
theorem ints_append {vs ws : List Value} {ks js : List Int} (h : IntsAre vs ks) (h2 : IntsAre ws js) : IntsAre (vs ++ ws) (ks ++ js) := by
  induction h with
  | nil => exact h2
  | cons y t' _ ih => exact .cons _ _ ih
theorem flat_outer {s : Shared} {g : Heap} {I D : Addr} {l : Addr} {svs : List Value} {steps : List Step} {a b y : Str} {py pe pa pb pa2 pb2 tp pl pp : Pos} {kk : Nat} {i1 : PySem.Expr} {scope : Scope} {pos : Pos} {ce : Env} (hA : A.handled = none) (hA' : (A.mark none).handled = none)
    (hkd : ce.scope.kind = .function) (hy : ce.kindOf y = some .local) (hyd : (y == ("__debug__" : Str)) = false) (ha : ce.kindOf a = some .local) (had : (a == ("__debug__" : Str)) = false) (hb : ce.kindOf b = some .local) (hbd : (b == ("__debug__" : Str)) = false) (hab : ¬ a = b)
    (hps : (ce.scope.kind == .class || (ce.scope.kind == .module && ce.locals != ce.globals)) = false)
    (hID : I ≠ D) (hIC : I ≠ ce.locals) (hDC : D ≠ ce.locals) (gI : g.get? I = none) (gD : g.get? D = none) (gC : g.get? ce.locals = none) (hl : g.IsList l svs.toArray) (hlen : svs.length = steps.length)
    (hst : ∀ (i : Nat) (q : Step), steps[i]? = some q → ∃ (T : Addr) (t : Tok) (O : Addr) (ovs : List Value) (on : Nat), svs[i]? = some (.ref T) ∧ g.IsTuple T #[.int q.1 t, .ref O] ∧ g.get? O = some (listOf ovs.toArray on) ∧ IntsAre ovs q.2 ∧ q.2.length ≤ 100) :
    ∀ (k i : Nat) (ys : List Value) (ks : List Int) (h : Heap) (tk : Nat) (mc : Str → Option Value), svs.length - i = k → i ≤ svs.length → h.IsListIter I l i → (∀ c o, g.get? c = some o → h.get? c = some o) → h.get? D = some (lst ys) → IntsAre ys ks → h.Ns ce.locals mc → ys.length + 101 * k ≤ 90000 →
      (∀ h' tk' ys' mc', (∀ c o, c ≠ I → c ≠ D → c ≠ ce.locals → h.get? c = some o → h'.get? c = some o) → h'.get? D = some (lst ys') → IntsAre ys' (ks ++ flatZ (steps.drop i)) → h'.Ns ce.locals mc' → R (.ok .next) { s with heap := h', toks := tk' }) →
      codeAny (model prog w) A (.compLoop (.ListComp (.Name y pe) [⟨.Tuple [.Name a pa, .Name b pb] kk tp, i1, [], 0⟩, ⟨.Name y py, .BinOp (.List [.Name a pa2] pl) .Add (.Name b pb2) pp, [], 0⟩] scope pos) 0 (.ref I) (.ref D) ce) R { s with heap := h, toks := tk } := by
  intro k
  induction k with
  | zero =>
    intro i ys ks h tk mc hk hi hit hg hD hys hC hsz hR
    have hin : i = svs.length := by omega
    subst hin
    have hl' : h.IsList l svs.toArray := let ⟨o, e, r⟩ := hl; ⟨o, hg _ _ e, r⟩
    refine codeAny_of_tree ?_
    show wpAny _ A ((compTurn _ 0 (.ref I) (.ref D) ce).onRaise (fun x => do noteFrame x ce; theTreesLotGoes x)) _ _ _
    refine wpAny_noted ?_
    rw [compTurn_out]
    refine wpAny_bind (wpAny_standAt (wpAny_bind (wpAny_pyNext_list_end hA hit hl' (by simp) fun h' hb => wpAny_pure ?_)))
    refine hR h' tk ys mc (fun b o b1 _ _ e => hb b o b1 e) (hb _ _ (Ne.symm hID) hD) ?_ (hC.at' fun o e => hb _ o (Ne.symm hIC) e)
    rw [hlen, List.drop_length]
    show IntsAre ys (ks ++ [])
    rw [List.append_nil]
    exact hys
  | succ k ih =>
    intro i ys ks h tk mc hk hi hit hg hD hys hC hsz hR
    have hlt : i < svs.length := by omega
    have hlt' : i < steps.length := by omega
    obtain ⟨T, t, O, ovs, on, hv, hT, hO, hoi, hol⟩ := hst i steps[i] (List.getElem?_eq_getElem hlt')
    have hl' : h.IsList l svs.toArray := let ⟨o, e, r⟩ := hl; ⟨o, hg _ _ e, r⟩
    refine codeAny_of_tree ?_
    show wpAny _ A ((compTurn _ 0 (.ref I) (.ref D) ce).onRaise (fun x => do noteFrame x ce; theTreesLotGoes x)) _ _ _
    refine wpAny_noted ?_
    rw [compTurn_out]
    refine wpAny_bind (wpAny_standAt (wpAny_bind (wpAny_pyNext_list_item hit hl' (x := .ref T) (by simpa using hv) fun h1 hit1 hs1 => ?_)))
    have k1 : ∀ c o, c ≠ I → h.get? c = some o → h1.get? c = some o := fun c o hc e => hs1.extBut c o hc e
    have nb : ∀ c o, g.get? c = some o → c ≠ I ∧ c ≠ D ∧ c ≠ ce.locals := fun c o e => ⟨fun q => (by rw [q, gI] at e; cases e), fun q => (by rw [q, gD] at e; cases e), fun q => (by rw [q, gC] at e; cases e)⟩
    obtain ⟨oI, hoI, hcI, hdI⟩ := id hit1
    have hgo : ∀ (QQ : Unit → Shared → Prop) (EE : Value → Shared → Prop) (st : Shared), st.heap = h1 → QQ () st → wpAny (model prog w) A (letOwnedTupleGo (.Tuple [.Name a pa, .Name b pb] kk tp) (.ref I) (.ref T)) QQ EE st := by
      intro QQ EE st hst hq
      have gen : ∀ (a : Addr), wpAny (model prog w) A (do
          let o ← load I
          match o.cls, o.data with
          | .type n, .fields vs =>
            if ["enumerate", "zip", "dict_itemiterator", "dict_reverseitemiterator", "odict_iterator", "itertools.zip_longest", "itertools.pairwise"].contains n && vs[0]? == some (rawInt a) then
              rule "for.unpacks-the-owned-tuple"
              updateField I 0 .none
          | _, _ => pure ()) QQ EE st := by
        intro a
        refine wpAny_bind (wpAny_load (by rw [hst]; exact hoI) ?_)
        obtain ⟨cl, dd, dat, sl⟩ := oI
        dsimp only at hcI hdI ⊢
        subst hcI hdI
        exact wpAny_pure hq
      exact gen _
    refine wpAny_bind (hgo _ _ _ rfl ?_)
    have hT1 : h1.IsTuple T #[.int steps[i].1 t, .ref O] := let ⟨o, e, r⟩ := hT; ⟨o, k1 _ _ (nb _ _ e).1 (hg _ _ e), r⟩
    refine wpAny_bind (kcp_assign hA hT1 ha hb hps (hC.at' fun o e => k1 _ o (Ne.symm hIC) e) fun h2 tk2 hC2 hk2 => ?_)
    have k2 : ∀ c o, c ≠ I → c ≠ ce.locals → h.get? c = some o → h2.get? c = some o := fun c o hc hc2 e => hk2 c o hc2 (k1 c o hc e)
    refine wpAny_bind (wpAny_BinOp (wpAny_List (wpAny_items_cons (wpAny_Name (wpAny_loadName_local (v := .int steps[i].1 t) hkd ha hC2 (by show (if a = b then _ else _) = _; rw [if_neg hab]; exact if_pos rfl) ?_) had))))
    refine wpAny_items_nil ⟨by rw [sizeLine_eq]; exact Nat.le_of_ble_eq_true rfl, ?_⟩
    have up3 : ∀ c o, h2.get? c = some o → (h2.push { cls := .type "list", data := .seq [Value.int steps[i].1 t].toArray }).get? c = some o := fun c o e => Heap.get?_push_of_some _ e
    refine wpAny_Name (wpAny_loadName_local (v := .ref O) hkd hb (hC2.at' fun o e => up3 _ o e) (if_pos rfl) ?_) hbd
    have hO3 : (h2.push { cls := .type "list", data := .seq [Value.int steps[i].1 t].toArray }).get? O = some (listOf ovs.toArray on) := up3 _ _ (k2 _ _ (nb _ _ hO).1 (nb _ _ hO).2.2 (hg _ _ hO))
    have hov := hoi.length
    refine PySem.P.add_list (n := 0) (n2 := on) (Heap.get?_push_size _ rfl) hO3 ?_ (by rw [sizeLine_eq, List.size_toArray, List.size_toArray, List.length_singleton]; omega)
    refine wpAny_bind (wpAny_standAt (wpAny_bind (wpAny_of_eq rfl (wpAny_bind (wpAny_holding ?_)))))
    generalize hH3 : h2.push { cls := .type "list", data := .seq [Value.int steps[i].1 t].toArray } = H3 at hO3 ⊢
    have up3 : ∀ c o, h2.get? c = some o → H3.get? c = some o := by rw [← hH3]; exact up3
    have k3 : ∀ c o, c ≠ I → c ≠ ce.locals → h.get? c = some o → H3.get? c = some o := fun c o hc hc2 e => up3 _ _ (k2 c o hc hc2 e)
    generalize hH4 : H3.push { cls := .type "list", data := .seq ([Value.int steps[i].1 t].toArray ++ ovs.toArray) } = H4
    have up4 : ∀ c o, H3.get? c = some o → H4.get? c = some o := by rw [← hH4]; exact fun c o e => Heap.get?_push_of_some _ e
    have e4 : ([Value.int steps[i].1 t].toArray ++ ovs.toArray) = (Value.int steps[i].1 t :: ovs).toArray := by simp
    have hN : H4.get? H3.objs.size = some ({ cls := .type "list", data := .seq (Value.int steps[i].1 t :: ovs).toArray } : Obj) := by rw [← hH4, e4]; exact Heap.get?_push_size _ rfl
    have hNl : H4.IsList H3.objs.size (Value.int steps[i].1 t :: ovs).toArray := ⟨_, hN, rfl, _, rfl⟩
    have ltI : I < H3.objs.size := by
      have : H3.get? I = some oI := up3 _ _ (hk2 I oI hIC hoI)
      exact Heap.lt_size this
    have ltD : D < H3.objs.size := Heap.lt_size (k3 D _ (Ne.symm hID) hDC hD)
    have ltC : ce.locals < H3.objs.size := by
      obtain ⟨oC, es, ep, hc, _⟩ := hC2
      exact Heap.lt_size (up3 _ _ hc)
    have lt4 : H3.objs.size < H4.objs.size := Heap.lt_size hN
    refine wpAny_pyIter_list hNl ?_
    have up5 : ∀ c o, H4.get? c = some o → (H4.push { cls := .type "list_iterator", data := .fields #[.ref H3.objs.size, .int 0 0] }).get? c = some o := fun c o e => Heap.get?_push_of_some _ e
    have hit5 : (H4.push { cls := .type "list_iterator", data := .fields #[.ref H3.objs.size, .int 0 0] }).IsListIter H4.objs.size H3.objs.size 0 := ⟨_, Heap.get?_push_size _ rfl, rfl, rfl⟩
    have hl5 : (H4.push { cls := .type "list_iterator", data := .fields #[.ref H3.objs.size, .int 0 0] }).IsList H3.objs.size (Value.int steps[i].1 t :: ovs).toArray := ⟨_, up5 _ _ hN, rfl, _, rfl⟩
    have k5 : ∀ c o, c ≠ I → c ≠ ce.locals → h.get? c = some o → (H4.push { cls := .type "list_iterator", data := .fields #[.ref H3.objs.size, .int 0 0] }).get? c = some o := fun c o hc hc2 e => up5 _ _ (up4 _ _ (k3 c o hc hc2 e))
    have hI5 : (H4.push { cls := .type "list_iterator", data := .fields #[.ref H3.objs.size, .int 0 0] }).get? I = some oI := up5 _ _ (up4 _ _ (up3 _ _ (hk2 I oI hIC hoI)))
    have hC5 := hC2.at' fun o e => up5 _ o (up4 _ o (up3 _ o e))
    generalize hH5 : H4.push { cls := .type "list_iterator", data := .fields #[.ref H3.objs.size, .int 0 0] } = H5 at *
    refine wpAny_bind (wpAny_runOwn ?_)
    have key : ∀ st : Shared, (∃ tk', st = { s with heap := H5, toks := tk' }) → codeAny (model prog w) (A.mark none) (.compLoop (.ListComp (.Name y pe) [⟨.Tuple [.Name a pa, .Name b pb] kk tp, i1, [], 0⟩, ⟨.Name y py, .BinOp (.List [.Name a pa2] pl) .Add (.Name b pb2) pp, [], 0⟩] scope pos) 1 (.ref H4.objs.size) (.ref D) ce)
        (fun r s' => match r with
          | .ok _ => wpAny (model prog w) A (again (.compLoop (.ListComp (.Name y pe) [⟨.Tuple [.Name a pa, .Name b pb] kk tp, i1, [], 0⟩, ⟨.Name y py, .BinOp (.List [.Name a pa2] pl) .Add (.Name b pb2) pp, [], 0⟩] scope pos) 0 (.ref I) (.ref D) ce)) (fun fin s' => match fin with | .done f => R (.ok f) s' | .again c' => c'.quiet = true ∧ codeAny (model prog w) A c' R s') (notedBy (model prog w) A ce fun e s' => R (.error e) s') s'
          | .error e => cameBackBy (model prog w) A ce (notedBy (model prog w) A ce fun e s' => R (.error e) s') e s') st := by
      rintro st ⟨tk', rfl⟩
      refine flat_inner hA' hkd hy hyd hps (Nat.ne_of_gt (Nat.lt_trans ltD lt4)) (Nat.ne_of_gt (Nat.lt_trans ltC lt4)) hDC (Nat.ne_of_lt lt4) (Nat.ne_of_gt ltD) (Nat.ne_of_gt ltC) _ 0 ys H5 tk' _ rfl (Nat.zero_le _) hit5 hl5 (k5 D _ (Ne.symm hID) hDC hD) hC5 ?_ ?_
      · rw [List.length_cons]; omega
      · intro h6 tk6 mc6 hk6 hD6 hC6
        refine wpAny_pure ⟨rfl, ?_⟩
        rw [List.drop_zero] at hD6
        have k6 : ∀ c o, c ≠ I → c ≠ D → c ≠ ce.locals → h.get? c = some o → h6.get? c = some o := fun c o b1 b2 b3 e => by
          have e5 := k5 c o b1 b3 e
          refine hk6 c o ?_ b2 b3 e5
          have : c < H4.objs.size := Heap.lt_size (up4 _ _ (k3 c o b1 b3 e))
          exact Nat.ne_of_lt this
        refine ih (i + 1) (ys ++ (Value.int steps[i].1 t :: ovs)) (ks ++ (steps[i].1 :: steps[i].2)) h6 tk6 mc6 (by omega) hlt ⟨oI, hk6 I oI (Nat.ne_of_lt (Nat.lt_trans ltI lt4)) hID hIC hI5, hcI, hdI⟩ (fun c o e => k6 c o (nb c o e).1 (nb c o e).2.1 (nb c o e).2.2 (hg c o e)) hD6 (ints_append hys (.cons _ _ hoi)) hC6 (by rw [List.length_append, List.length_cons]; omega) fun h' tk' ys' mc' hk' hD' hy' hC' => ?_
        refine hR h' tk' ys' mc' (fun c o b1 b2 b3 e => hk' c o b1 b2 b3 (k6 c o b1 b2 b3 e)) hD' ?_ hC'
        have e7 : flatZ (steps.drop i) = (steps[i].1 :: steps[i].2) ++ flatZ (steps.drop (i + 1)) := by
          rw [List.drop_eq_getElem_cons hlt']
          rfl
        rw [e7, ← List.append_assoc]
        exact hy'
    exact flat_start (key _ ⟨_, rfl⟩) (wpAny_pyIter_listiter hit5 (key _ ⟨_, rfl⟩))
end
end Mine

end FL_
theorem Mine.rst_FL2 : True := by
  w_top off
  first | (walk1; done) | trivial
section FL2_
open PySem PySem.W PyProof.Rows PySem.Spec PySem.Calls PyProof.Rows.LCg
namespace Mine
section
variable {prog : Program} {w : World} {A : Around} {E : Value → Shared → Prop} {s : Shared}
noncomputable def FlatSrc (A : Around) (g : Heap) (L : Addr) (m : Str → Option Value) (Q : Value → Shared → Prop) (xv : Value) (s₁ : Shared) : Prop :=
  ∃ (l : Addr) (svs : List Value) (steps : List Step) (news : Led), xv = .ref l ∧ A.handled = none ∧ (A.mark none).handled = none ∧ Fr g L s₁.heap m ∧ News g L s₁.heap news ∧ g.IsList l svs.toArray ∧ svs.length = steps.length ∧ steps.length ≤ 800 ∧
    (∀ (i : Nat) (q : Step), steps[i]? = some q → ∃ (T : Addr) (t : Tok) (O : Addr) (ovs : List Value) (on : Nat), svs[i]? = some (.ref T) ∧ g.IsTuple T #[.int q.1 t, .ref O] ∧ g.get? O = some (listOf ovs.toArray on) ∧ IntsAre ovs q.2 ∧ q.2.length ≤ 100) ∧
    ∀ D h' tk' ys, Fr g L h' m → News g L h' ((D, lst ys) :: news) → (∀ p ∈ news, p.1 ≠ D) → IntsAre ys (flatZ steps) → Q (.ref D) { s₁ with heap := h', toks := tk' }
theorem flat_comp {g : Heap} {L : Addr} {m : Str → Option Value} {env : Env} {a b y : Str} {py pe pa pb pa2 pb2 tp pl pp : Pos} {kk : Nat} {i1 : PySem.Expr} {scope : Scope} {cl : List (Str × Addr)} {pos : Pos} {Q : Value → Shared → Prop} (_F₀ : Fr g L s.heap m)
    (hclos : closureFor scope env = pure cl) (hcell : ∀ y ∈ scope.names, y.2 ≠ .cell) (hkind : scope.kind = .function)
    (hnames : ∀ y ∈ scope.names, y.2 = .local → scope.names.lookup y.1 = some .local) (hxa : scope.names.lookup a = some .local) (hxb : scope.names.lookup b = some .local) (hxy : scope.names.lookup y = some .local) (hab : ¬ a = b)
    (hyd : (y == ("__debug__" : Str)) = false) (had : (a == ("__debug__" : Str)) = false) (hbd : (b == ("__debug__" : Str)) = false)
    (h : wpAny (model prog w) A (eval i1 env) (FlatSrc A g L m Q) E s)
    (hs : ∀ x, foldedSetIterable i1 env x = pure x := by intro _; rfl) :
    wpAny (model prog w) A (eval (.ListComp (.Name y pe) [⟨.Tuple [.Name a pa, .Name b pb] kk tp, i1, [], 0⟩, ⟨.Name y py, .BinOp (.List [.Name a pa2] pl) .Add (.Name b pb2) pp, [], 0⟩] scope pos) env) Q E s := by
  rw [eval_ListComp]
  refine wpAny_comprehension_free (use := none) rfl hs hclos hkind hnames (wpAny_mono h (fun xv s₁ h₁ => ?_) fun _ _ e => e)
  obtain ⟨l, svs, steps, news, rfl, hA, hA', F, N, hl, hlen, hsz, hst, fin⟩ := h₁
  have hl1 : s₁.heap.IsList l svs.toArray := let ⟨o, e, r⟩ := hl; ⟨o, F.keep _ _ e, r⟩
  refine wpAny_pyIter_list hl1 ?_
  refine wpAny_newObj_type (wpAny_newFunctionEnv hcell (by intro y hy; simp at hy) (fun h₁ hns₁ hsb₁ => ?_) hkind)
  dsimp only at hns₁ hsb₁ ⊢
  have hI1 : (s₁.heap.push { cls := .type "list_iterator", data := .fields #[.ref l, .int 0 0] }).get? s₁.heap.objs.size = some _ := Heap.get?_push_size _ rfl
  have sz1 : (s₁.heap.push { cls := .type "list_iterator", data := .fields #[.ref l, .int 0 0] }).objs.size = s₁.heap.objs.size + 1 := Heap.size_push _ _
  have up1 : ∀ c o, s₁.heap.get? c = some o → (s₁.heap.push { cls := .type "list_iterator", data := .fields #[.ref l, .int 0 0] }).get? c = some o := fun c o e => Heap.get?_push_of_some _ e
  generalize hH1 : s₁.heap.push { cls := .type "list_iterator", data := .fields #[.ref l, .int 0 0] } = H1 at *
  have hD2 : (H1.push { cls := .type "list", dict := none, data := .seq ([] : List Value).toArray }).get? H1.objs.size = some (lst []) := Heap.get?_push_size _ rfl
  have sz2 : (H1.push { cls := .type "list", dict := none, data := .seq ([] : List Value).toArray }).objs.size = H1.objs.size + 1 := Heap.size_push _ _
  have up2 : ∀ c o, H1.get? c = some o → (H1.push { cls := .type "list", dict := none, data := .seq ([] : List Value).toArray }).get? c = some o := fun c o e => Heap.get?_push_of_some _ e
  generalize hH2 : H1.push { cls := .type "list", dict := none, data := .seq ([] : List Value).toArray } = H2 at *
  have hIlt : s₁.heap.objs.size < H1.objs.size := by rw [sz1]; exact Nat.lt_succ_self _
  have hDlt : H1.objs.size < H2.objs.size := by rw [sz2]; exact Nat.lt_succ_self _
  have old : ∀ c o, H2.get? c = some o → h₁.get? c = some o := fun c o e => hsb₁.extBut c o (Nat.ne_of_lt (Heap.lt_size e)) (Heap.get?_push_of_some _ e)
  have gnew : ∀ c, s₁.heap.objs.size ≤ c → g.get? c = none := fun c hc => by
    cases e : g.get? c with
    | none => rfl
    | some o' => exact absurd (Heap.lt_size (F.keep c o' e)) (Nat.not_lt.mpr hc)
  have gI := gnew s₁.heap.objs.size (Nat.le_refl _)
  have gD := gnew H1.objs.size (Nat.le_of_lt hIlt)
  have gC := gnew H2.objs.size (Nat.le_of_lt (Nat.lt_trans hIlt hDlt))
  have hLlt : L < s₁.heap.objs.size := F.ns.lt
  have loop : ∀ s₃ : Shared, (∃ tk', s₃ = { s₁ with heap := h₁, toks := tk' }) →
      codeAny (model prog w) A (.compLoop (.ListComp (.Name y pe) [⟨.Tuple [.Name a pa, .Name b pb] kk tp, i1, [], 0⟩, ⟨.Name y py, .BinOp (.List [.Name a pa2] pl) .Add (.Name b pb2) pp, [], 0⟩] scope pos) 0 (.ref s₁.heap.objs.size) (.ref H1.objs.size) (compEnvC scope cl H2.objs.size env))
        (compPost (model prog w) A E none Q (.ref H1.objs.size) H2.objs.size) s₃ := by
    rintro s₃ ⟨tk', rfl⟩
    refine flat_outer (g := g) (ce := compEnvC scope cl H2.objs.size env) hA hA' (by simp [compEnvC, relabel, hkind]) (lookup_relabel_local hxy) hyd (lookup_relabel_local hxa) had (lookup_relabel_local hxb) hbd hab (by simp [compEnvC, relabel, hkind])
      (Nat.ne_of_lt hIlt) (Nat.ne_of_lt (Nat.lt_trans hIlt hDlt)) (Nat.ne_of_lt hDlt) gI gD gC hl hlen hst _ 0 [] [] h₁ tk' _ rfl (Nat.zero_le _) ⟨_, old _ _ (up2 _ _ hI1), rfl, rfl⟩ (fun c o e => old _ _ (up2 _ _ (up1 _ _ (F.keep c o e)))) (old _ _ hD2) .nil hns₁ (by rw [List.length_nil]; omega) ?_
    intro h' tk2 ys' mc' hk' hD' hy' hC'
    have kk' : ∀ c o, s₁.heap.get? c = some o → h'.get? c = some o := fun c o e => by
      have hc := Heap.lt_size e
      exact hk' c o (Nat.ne_of_lt hc) (Nat.ne_of_lt (Nat.lt_trans hc hIlt)) (Nat.ne_of_lt (Nat.lt_trans hc (Nat.lt_trans hIlt hDlt))) (old _ _ (up2 _ _ (up1 _ _ e)))
    refine ⟨mc', hC', fun h'' hs'' => ?_⟩
    have hCL : H2.objs.size ≠ L := Nat.ne_of_gt (Nat.lt_trans hLlt (Nat.lt_trans hIlt hDlt))
    refine fin H1.objs.size h'' tk2 ys' ((F.keeps kk').change hs'' hCL gC) (fun p hp => ?_) (fun p hp => ?_) hy'
    · rcases List.mem_cons.mp hp with rfl | hp
      · exact ⟨hs''.extBut _ _ (Nat.ne_of_lt hDlt) hD', Nat.ne_of_gt (Nat.lt_trans hLlt hIlt), gD⟩
      · have z := N p hp
        have hc := Heap.lt_size z.1
        exact ⟨hs''.extBut _ _ (Nat.ne_of_lt (Nat.lt_trans hc (Nat.lt_trans hIlt hDlt))) (kk' _ _ z.1), z.2⟩
    · exact Nat.ne_of_lt (Nat.lt_trans (Heap.lt_size (N p hp).1) hIlt)
  exact codeAny_compStart_list (loop _ ⟨_, rfl⟩) (wpAny_pyIter_listiter (i := 0) ⟨_, old _ _ (up2 _ _ hI1), rfl, rfl⟩ (loop _ ⟨_, rfl⟩))
end
end Mine

end FL2_
theorem Mine.rst_W15 : True := by
  w_top off
  first | (walk1; done) | trivial
section W15_
open PySem PySem.W PyProof.Rows PySem.Spec PySem.Calls
namespace Mine
local macro_rules | `(tactic| walk_at "eval ListComp") => `(tactic| (refine Stop.of ?_))
theorem flat_tells (w : World) (mean : ExcName → Option Value) (mg mb : Str → Option Value) (v : Value) (steps : List Step) (hs : ∀ q ∈ steps, StepOk q) (hl : steps.length ≤ 800) :
    Tells w mean mg mb 150 2 [] (fun h => DatAt h v (.list (steps.map stepD))) [v] (fun r tl _ => DatIn tl r (.list ((flatZ steps).map .int))) := by
  (have hf := fillme; revert hf; k_fill; intro hf; clear hf)
  refine' tells_intro (binds := [(Str.ofString "steps", v)]) ?k6 ?k7 ?kD ?kB0 ?kB (fun _ _ k h => h.keeps k.nil) ?_ ?c2 ?c3 ?c4 ?c5
  ((case k6 => k_dflt k_is); (case k7 => k_dflt k_is); (case kB0 => exact rfl); (case kB => exact locs rfl); (case c5 => decide); (case c2 => exact rfl); (case c3 => exact rfl); (case c4 => exact rfl); (case kD => decide))
  intro dp un gd outer A₀ base g L h₁ s B F N X T hpre hk hd hu
  (try dsimp only); k_fold
  obtain ⟨lp, hheld, hd0⟩ := hpre
  cases hd0 with | @list a svs sn _ hla hall =>
  have hlen : svs.length = steps.length := by rw [hall.length, List.length_map]
  k_steps
  refine Stop.out ?_
  k_dflt (refine flat_comp F (by rfl) (by decide) (by rfl) (by decide) (by rfl) (by rfl) (by rfl) (by decide) (by decide) (by decide) (by decide) ?_)
  k_steps
  refine ⟨a, svs, steps, [], rfl, rfl, rfl, F, N, ⟨_, hheld _ hla, rfl, _, rfl⟩, hlen, hl, fun i q hq => ?_, fun D h' tk' ys F' N' _ hy => ?_⟩
  · have hi : i < steps.length := (List.getElem?_eq_some_iff.mp hq).1
    have hok := hs q (List.mem_of_getElem? hq)
    obtain ⟨v', hv', hd'⟩ := hall.get (k := i) (by rw [List.length_map]; exact hi)
    rw [List.getElem_map, show steps[i] = q from Option.some.inj ((List.getElem?_eq_getElem hi).symm.trans hq)] at hd'
    obtain ⟨n, os⟩ := q
    unfold stepD at hd'
    cases hd' with | @tuple b ws nn _ hm hds =>
    cases hds with | cons q1 hds =>
    cases hds with | cons q2 hds =>
    cases hds
    cases q1
    rename_i t1
    cases q2 with | @list o ovs on _ hlo hov =>
    have hz := ownZ_hi n
    have h2 : (os.length : Int) = ownZ n := hok.2.1
    exact ⟨b, t1, o, ovs, on, hv', ⟨_, hheld _ hm, rfl, _, rfl⟩, hheld _ hlo, ints_of hov, by show os.length ≤ 100; omega⟩
  · (try dsimp only)
    refine' BodyPost.ret0 [(D, LCg.lst ys)] F' N' (fun _ h => h) ?zz
    exact .list (.head _) (ints_dat hy)
end Mine

end W15_
theorem Mine.rst_P9 : True := by
  w_top off
  first | (walk1; done) | trivial
section P9_
open PySem PySem.W PyProof.Rows PySem.Spec PySem.Calls
namespace Mine
theorem push0_tab : ∀ i : Fin 256, tabName tabOps (i.1 : Int) = some (Str.ofString "PUSH0") ↔ i.1 = 95 := by rw [tabOps_lit]; decide +kernel
theorem unknown_ne (x : Str) : ¬ Str.ofString "UNKNOWN_" ++ x = Str.ofString "PUSH0" := by
  intro e
  have h := congrArg (fun s : Str => s.cps.toList.head?) e
  have e1 : (Str.ofString "UNKNOWN_").cps.toList = [85, 78, 75, 78, 79, 87, 78, 95] := by decide +kernel
  have e2 : (Str.ofString "PUSH0").cps.toList = [80, 85, 83, 72, 48] := by decide +kernel
  simp only [Str.cps_append, Array.toList_append, e1, e2] at h
  simp at h
theorem push0 {n : Int} (h0 : 0 ≤ n) (h1 : n < 256) : (nameZ n == Str.ofString "PUSH0") = decide (n = 95) := by
  have hp := push0_tab ⟨n.toNat, by omega⟩
  have e : ((n.toNat : Nat) : Int) = n := by omega
  dsimp only at hp
  rw [e] at hp
  by_cases h : n = 95
  · rw [decide_eq_true h]
    have := hp.mpr (by omega)
    unfold nameZ
    rw [this]
    simp
  · rw [decide_eq_false h]
    refine beq_eq_false_iff_ne.mpr ?_
    unfold nameZ
    cases ht : tabName tabOps n with
    | none => exact unknown_ne _
    | some x =>
      intro e2
      have e3 : x = Str.ofString "PUSH0" := e2
      rw [ht, e3] at hp
      have := hp.mp rfl
      omega
theorem value_snoc (l : List Int) (x : Int) : KFB.value (l ++ [x]) = 256 * KFB.value l + x := by
  unfold KFB.value
  rw [List.foldl_append]
  show _ * 256 + x = _
  rw [Int.mul_comm]
theorem laidGo_eq (p many : Int) (os : List Int) : ∀ j, j ≤ os.length → laidGo p many os j = KFB.value (os.take (min j (many - p - 1).toNat)) * 2 ^ (8 * (j - min j (many - p - 1).toNat))
  | 0, _ => by
    show (0 : Int) = KFB.value (os.take (min 0 _)) * _
    rw [Nat.zero_min, List.take_zero]
    show (0 : Int) = 0 * _
    rw [Int.zero_mul]
  | j + 1, hj => by
    have ih := laidGo_eq p many os j (by omega)
    show 256 * laidGo p many os j + (if p + 1 + (j : Int) < many then os.getD j 0 else 0) = _
    rw [ih]
    by_cases hm : p + 1 + (j : Int) < many
    · rw [if_pos hm, Nat.min_eq_left (by omega), Nat.min_eq_left (by omega), Nat.sub_self, Nat.sub_self]
      have e : os.take (j + 1) = os.take j ++ [os.getD j 0] := by
        rw [List.take_add_one, List.getD_eq_getElem?_getD, List.getElem?_eq_getElem (by omega)]; rfl
      rw [e, value_snoc]
      simp
    · rw [if_neg hm, Nat.min_eq_right (by omega), Nat.min_eq_right (by omega), Int.add_zero, show 8 * (j + 1 - (many - p - 1).toNat) = 8 * (j - (many - p - 1).toNat) + 8 by omega, Int.pow_add]
      have e8 : (2 : Int) ^ 8 = 256 := by decide
      rw [e8, ← Int.mul_assoc, Int.mul_comm 256, Int.mul_assoc, Int.mul_comm (256 : Int)]
theorem laid_eq {p many n : Int} {os : List Int} (hok : StepOk (n, os)) (hp : p < many) : laidO n (os.take (many - p - 1).toNat) = lawLaid p many n os os.length := by
  obtain ⟨⟨h0, h1⟩, hol, _⟩ := hok
  dsimp only at h0 h1 hol
  unfold laidO lawLaid
  rw [push0 h0 h1]
  by_cases h95 : n = 95
  · rw [if_pos (decide_eq_true h95), if_pos (.inl h95)]
    subst h95
    have : os = [] := List.eq_nil_of_length_eq_zero (by have : ownZ 95 = 0 := by decide
                                                        omega)
    rw [this]
    rfl
  · rw [decide_eq_false h95, if_neg Bool.false_ne_true]
    by_cases hos : os = []
    · rw [if_neg (by rw [hos] at hol; rw [← hol]; decide), if_neg (by intro h; rcases h with h | h; exact h95 h; exact h hos)]
    · have hpos : 0 < os.length := List.length_pos_iff.mpr hos
      rw [if_pos (by omega), if_pos (.inr hos), laidGo_eq p many os os.length (Nat.le_refl _)]
      unfold padZ
      have e : (ownZ n).toNat = os.length := by omega
      rw [e, List.length_take]
      generalize (many - p - 1).toNat = M
      by_cases hm : os.length ≤ M
      · rw [Nat.min_eq_left hm, Nat.min_eq_right hm, List.take_of_length_le hm, List.take_length]
      · rw [Nat.min_eq_right (show M ≤ os.length by omega), Nat.min_eq_left (show M ≤ os.length by omega)]
noncomputable def rowT (r : Int × Int × List Int) : Int × Int × Option Int := (r.1, r.2.1, laidO r.2.1 r.2.2)
theorem due_end (many : Int) : ∀ (steps : List Step) (p : Int), many ≤ p → dueGo many p steps = []
  | [], _, _ => rfl
  | (n, os) :: r, p, h => by rw [dueGo_cons, if_neg (by omega)]; exact due_end many r _ (by omega)
theorem goals_end (many : Int) : ∀ (steps : List Step) (p : Int), many ≤ p → goalsGo many p steps = []
  | [], _, _ => rfl
  | (n, os) :: r, p, h => by rw [goalsGo_cons, if_neg (by omega)]; exact goals_end many r _ (by omega)
theorem parse_due (many : Int) : ∀ (steps : List Step), (∀ q ∈ steps, StepOk q) → ∀ (p : Int) (r : List Int), r = (flatZ steps).take (many - p).toNat →
    (parse p r).map rowT = dueGo many p steps ∧ jumpsOf (parse p r) = goalsGo many p steps
  | [], _, p, r, hr => by
    have e : r = [] := by rw [hr]; show ([] : List Int).take _ = []; exact List.take_nil
    subst e
    rw [parse_nil]
    exact ⟨rfl, rfl⟩
  | (n, os) :: rest, hs, p, r, hr => by
    by_cases hp : p < many
    · have hok := hs _ (.head _)
      have hol : (os.length : Int) = ownZ n := hok.2.1
      have eo : (ownZ n).toNat = os.length := by omega
      have e1 : r = n :: (os ++ flatZ rest).take (many - p - 1).toNat := by
        rw [hr]
        show (n :: (os ++ flatZ rest)).take (many - p).toNat = _
        rw [show (many - p).toNat = (many - p - 1).toNat + 1 by omega, List.take_succ_cons]
      have e2 : ((os ++ flatZ rest).take (many - p - 1).toNat).take (ownZ n).toNat = os.take (many - p - 1).toNat := by
        rw [eo, List.take_take, Nat.min_comm, ← List.take_take, List.take_append_of_le_length (Nat.le_refl _), List.take_length]
      have e3 : ((os ++ flatZ rest).take (many - p - 1).toNat).drop (ownZ n).toNat = (flatZ rest).take (many - (p + 1 + os.length)).toNat := by
        rw [eo, List.drop_take, List.drop_append_of_le_length (Nat.le_refl _), List.drop_length, List.nil_append]
        congr 1
        omega
      obtain ⟨i1, i2⟩ := parse_due many rest (fun q hq => hs q (.tail _ hq)) (p + 1 + os.length) _ e3
      rw [e1, parse_cons, e2, ← hol, dueGo_cons, if_pos hp, goalsGo_cons]
      refine ⟨?_, ?_⟩
      · rw [List.map_cons, ← hol] at *
        rw [i1]
        show (p, n, laidO n _) :: _ = _
        rw [laid_eq hok hp]
      · rw [← hol] at i2
        by_cases h91 : n = 91
        · rw [jumpsOf_yes h91, if_pos ⟨hp, h91⟩, i2]
        · rw [jumpsOf_no h91, if_neg (fun h => h91 h.2), i2]
    · have e : r = [] := by rw [hr, show (many - p).toNat = 0 by omega, List.take_zero]
      subst e
      rw [parse_nil, due_end many _ p (by omega), goals_end many _ p (by omega)]
      exact ⟨rfl, rfl⟩
theorem str_append_empty (x : Str) : x ++ Str.ofString "" = x := by
  have e : (x ++ Str.ofString "").cps = x.cps := by
    rw [Str.cps_append, show (Str.ofString "").cps = #[] from by decide +kernel, Array.append_empty]
  exact congrArg Str.mk e
theorem lineB_eq (A : Str) (o : Option Int) : lineB A o = A ++ (match o with | none => Str.ofString "" | some i => Str.ofString " 0x" ++ hexStr i.toNat 1) := by
  cases o with
  | none => exact (str_append_empty A).symm
  | some i => rfl
theorem line_eq (r : Int × Int × List Int) : lineZ r = lineO (rowT r) := lineB_eq _ (rowT r).2.2
theorem row_eq (r : Int × Int × List Int) : rowD r = rowO (rowT r) := rfl
theorem told_eq {steps : List Step} (hs : ∀ q ∈ steps, StepOk q) {bs : List Int} (hb : bs = (flatZ steps).take bs.length) :
    (parse 0 bs).map rowD = (dueGo bs.length 0 steps).map rowO ∧ jumpsOf (parse 0 bs) = goalsGo bs.length 0 steps ∧ textZ (parse 0 bs) = textO (dueGo bs.length 0 steps) := by
  obtain ⟨h1, h2⟩ := parse_due bs.length steps hs 0 bs (by rw [show ((bs.length : Int) - 0).toNat = bs.length by omega]; exact hb)
  refine ⟨?_, h2, ?_⟩
  · rw [← h1, List.map_map]; rfl
  · unfold textZ textO
    rw [← h1, List.map_map]
    congr 1
    exact List.map_congr_left fun r _ => line_eq r
end Mine

end P9_
theorem Mine.rst_SRT : True := by
  w_top off
  first | (walk1; done) | trivial
section SRT_
open PySem PySem.W PyProof.Rows PySem.Spec PySem.Calls
namespace Mine
theorem minRun_le : ∀ (f n r : Nat), r ≤ 1 → minRun' f n r ≤ n + r
  | 0, n, r, _ => Nat.le_refl _
  | f + 1, n, r, hr => by
    rw [minRun'_succ]
    split
    · exact Nat.le_refl _
    · have := minRun_le f (n / 2) (max r (n % 2)) (by omega)
      omega
section
variable {prog : Program} {w : World} {A : Around} {E : Value → Shared → Prop} {s : Shared} {a₀ : Array Keyed}
theorem countRunS {st : SortSt} {Q : Option Nat → SortSt → Prop} (h0 : IntKeys a₀) (h1 : 1 ≤ a₀.size) (hB : SBase a₀ st) (hs : SortedTo (arrOf st) a₀.size) (h : Q (some a₀.size) st) :
    wpS (model prog w) A E s (countRun' 0 a₀.size) Q st := by
  rw [countRun0_eq]
  have hone : SortedTo (arrOf st) 1 := by
    intro i j hij hj
    have : i = j := by omega
    subst this
    exact Int.le_refl _
  refine wpS_bind (wpS_ascLoop h0 (Nat.le_refl _) (Nat.le_refl 1) h1 hB hone fun n hn1 hn2 hsn hor => ?_)
  dsimp only
  have hn : n = a₀.size := by
    rcases hor with h | h
    · exact h
    · by_cases e : n = a₀.size
      · exact e
      · exact absurd h (Int.not_lt.mpr (hs (n - 1) n (by omega) (by omega)))
  rw [if_pos (by simpa using hn)]
  rw [hn]
  exact wpS_pure h
theorem sortRunsS {st : SortSt} {Q : Unit → SortSt → Prop} (h0 : IntKeys a₀) (hB : SBase a₀ st) (h2 : 2 ≤ a₀.size) (hs : SortedTo (arrOf st) a₀.size)
    (h : ∀ st', (arrOf st').Perm a₀ → failedOf st' = none → SortedTo (arrOf st') a₀.size → Q () st') : wpS (model prog w) A E s sortRuns' Q st := by
  rw [sortRuns'_eq]
  refine wpS_bind (wpS_get ?_)
  dsimp only
  have hmr : minRun' a₀.size a₀.size 0 ≤ a₀.size := minRun_le _ _ _ (by omega)
  simp only [hB.size]
  refine wpS_bind (wpS_mono (wpS_forRange
    (I := fun x c st' => (x = 0 ∧ c = (none, 0) ∧ st' = st) ∨ (1 ≤ x ∧ c = (none, a₀.size) ∧ SDone a₀ st'))
    (Q := fun c st' => c = (none, a₀.size) ∧ SDone a₀ st') ?step ?fin (.inl ⟨rfl, rfl, rfl⟩)) ?post)
  case fin =>
    rintro c st' (⟨hx, _, _⟩ | ⟨_, hc, hD⟩)
    · omega
    · exact ⟨hc, hD⟩
  case step =>
    rintro x c st' _ hx (⟨rfl, rfl, rfl⟩ | ⟨hx1, rfl, hD⟩)
    · dsimp only
      rw [if_neg (by omega)]
      simp only [Nat.sub_zero, Nat.zero_add]
      refine wpS_bind (countRunS h0 (by omega) hB hs ?_)
      dsimp only
      rw [if_neg (by omega)]
      refine wpS_bind (wpS_get ?_)
      have hb : (pendingOf st').back? = none := by rw [hB.pend]; rfl
      rw [hb]
      dsimp only
      exact wpS_bind (wpS_modify (wpS_pure (.inr ⟨by omega, rfl, hB.done hs⟩)))
    · dsimp only
      rw [if_pos (Nat.le_refl _)]
      exact wpS_pure ⟨rfl, hD⟩
  case post =>
    rintro c st' ⟨rfl, hD⟩
    dsimp only
    refine wpS_bind (wpS_mono (wpS_forRange (I := fun _ c st'' => st'' = st' ∧ c = (none, ())) (Q := fun c st'' => st'' = st' ∧ c = (none, ())) ?_ (fun _ _ hh => hh) ⟨rfl, rfl⟩) ?_)
    · rintro x c st'' _ _ ⟨rfl, rfl⟩
      refine wpS_bind (wpS_get ?_)
      rw [if_pos (by rw [hD.2.2.1]; exact Nat.le_refl 1)]
      exact wpS_pure ⟨rfl, rfl⟩
    · rintro c st'' ⟨rfl, rfl⟩
      exact wpS_pure (h _ hD.1 hD.2.1 hD.2.2.2)
theorem K_pairs : ∀ {vs : List Value} {ns : List Int}, IntsAre vs ns → ∀ i, i < ns.length → PyProof.Rows.K (pairsOf vs) i = ns.getD i 0 := by
  intro vs ns hI i hi
  obtain ⟨t, ht⟩ := hI.get i ns[i] (List.getElem?_eq_getElem hi)
  have e : (pairsOf vs)[i]? = some (.int ns[i] t, .int ns[i] t) := by
    rw [← Array.getElem?_toList, pairsOf_toList, List.getElem?_zip_eq_some]
    exact ⟨ht, ht⟩
  unfold PyProof.Rows.K
  rw [e, List.getD_eq_getElem?_getD, List.getElem?_eq_getElem hi]
  rfl
theorem sortedTo_of {vs : List Value} {ns : List Int} (hI : IntsAre vs ns) (hp : ns.Pairwise (· ≤ ·)) : SortedTo (pairsOf vs) (pairsOf vs).size := by
  intro i j hij hj
  rw [pairsOf_size, hI.length] at hj
  rw [K_pairs hI i (by omega), K_pairs hI j hj]
  exact sorted_getD_le hp hij hj
theorem list_sort_S {a : Addr} {vs : List Value} {ns : List Int} {n : Nat} {P : Fin → Shared → Prop} (ho : s.heap.get? a = some (seqObj "list" vs.toArray n))
    (hI : IntsAre vs ns) (hp : ns.Pairwise (· ≤ ·)) (hlen : vs.length ≤ 10000)
    (h : ∀ (out : Array Value), IntsAre out.toList ns → P (.done (.ret .none)) { s with heap := sortedHeap s.heap a vs out }) :
    wpAny (model prog w) A (Builtin.«list.sort» ⟨[.ref a], []⟩) P E s := by
  rw [list_sort_plain]
  have ha : a < s.heap.objs.size := Heap.lt_size ho
  have hszl : vs.toArray.size ≤ sizeLine := by rw [List.size_toArray, sizeLine_eq]; omega
  refine wpAny_bind (listItems_at ho rfl ?_)
  refine wpAny_bind (listUpdate_at (hsz := hszl) (hsz2 := Nat.zero_le _) ho rfl ?_)
  obtain ⟨e1, ho1⟩ : ∃ e1, (s.heap.update a (Obj.mapSeq fun _ => #[])).get? a = some (seqObj "list" #[] e1) := ⟨_, get?_update_seq ho (fun _ => #[])⟩
  refine wpAny_bind (seqEpoch_at ho1 rfl ?_)
  refine wpAny_bind (wpAny_newTuple (hsz := by rw [sizeLine_eq]; simpa using Nat.le_trans hlen (Nat.le_of_ble_eq_true rfl)) ?_)
  refine wpAny_bind (wpAny_newList ?_)
  refine wpAny_holding ?_
  have ho6 : (((s.heap.update a (Obj.mapSeq fun _ => #[])).push (seqObj "tuple" vs.toArray 0)).push (seqObj "list" #[] 0)).get? a = some (seqObj "list" #[] e1) := by
    rw [Heap.get?_push_ne _ _ _ (by rw [size_push', Heap.size_update]; exact Nat.ne_of_lt (Nat.lt_succ_of_lt ha)), Heap.get?_push_ne _ _ _ (by rw [Heap.size_update]; exact Nat.ne_of_lt ha)]
    exact ho1
  show wpAny (model prog w) A _ P E { s with heap := ((s.heap.update a (Obj.mapSeq fun _ => #[])).push (seqObj "tuple" vs.toArray 0)).push (seqObj "list" #[] 0) }
  dsimp only
  have hsz : vs.toArray.size = vs.length := by simp
  have fin : ∀ st' : SortSt, (arrOf st').Perm (pairsOf vs) → SortedTo (arrOf st') (pairsOf vs).size →
      P (.done (.ret .none)) { s with heap := sortedHeap s.heap a vs ((arrOf st').map (·.2)) } := by
    intro st' hp' hs
    obtain ⟨ns', h1, h2, h3⟩ := sorted_out hI hp' hs
    have e : ns' = ns := h2.eq_of_pairwise (fun _ _ _ _ h1 h2 => Int.le_antisymm h1 h2) h3 hp
    rw [e] at h1
    exact h _ h1
  by_cases h2 : vs.toArray.size < 2
  · rw [if_pos h2, if_pos h2]
    refine wpAny_bind (wpAny_pure ?_)
    rw [StateT.run_pure]
    refine wpAny_bind (wpAny_pure ?_)
    dsimp only
    refine wpAny_bind (seqEpoch_at ho6 rfl ?_)
    refine wpAny_bind (listUpdate_at ho6 rfl ?_ (hsz2 := by rw [Array.size_map]; show (pairsOf vs).size ≤ _; rw [pairsOf_size, sizeLine_eq]; omega))
    simp only [bne_self_eq_false, Bool.false_eq_true, if_false]
    refine wpAny_pure (fin (SortSt.mk' general' (vs.toArray.zip vs.toArray) #[] 7 none) (Array.Perm.refl _) ?_)
    intro i j hij hj
    have : i = j := by rw [pairsOf_size] at hj; omega
    subst this; exact Int.le_refl _
  · rw [if_neg h2, if_neg h2]
    have hI' := hI
    obtain ⟨v₁, v₂, rest, rfl⟩ : ∃ v₁ v₂ rest, vs = v₁ :: v₂ :: rest := by
      match vs, hsz, h2 with
      | [], _, h2 => simp at h2
      | [_], _, h2 => simp at h2
      | v₁ :: v₂ :: rest, _, _ => exact ⟨v₁, v₂, rest, rfl⟩
    rw [keyKind_ints hI]
    refine wpAny_bind (wpAny_pure ?_)
    refine wpAny_bind (wpAny_mono (sortRunsS (a₀ := pairsOf (v₁ :: v₂ :: rest)) (st := SortSt.mk' oneType' ((v₁ :: v₂ :: rest).toArray.zip (v₁ :: v₂ :: rest).toArray) #[] 7 none)
      (Q := fun _ st' => (arrOf st').Perm (pairsOf (v₁ :: v₂ :: rest)) ∧ failedOf st' = none ∧ SortedTo (arrOf st') (pairsOf (v₁ :: v₂ :: rest)).size)
      hI.intKeys ⟨Array.Perm.refl _, rfl, rfl, rfl⟩ (by rw [pairsOf_size]; simp) (sortedTo_of hI' hp) fun st' a1 a2 a3 => ⟨a1, a2, a3⟩) ?_ fun _ _ e => e)
    rintro ⟨⟨⟩, st'⟩ s' ⟨rfl, hp, hf, hs⟩
    dsimp only
    refine wpAny_bind (seqEpoch_at ho6 rfl ?_)
    refine wpAny_bind (listUpdate_at ho6 rfl ?_ (hsz2 := by refine Nat.le_trans (Nat.le_of_eq ((Array.size_map ..).trans (hp.size_eq.trans (pairsOf_size _)))) ?_; rw [sizeLine_eq]; omega))
    rw [hf]
    simp only [bne_self_eq_false, Bool.false_eq_true, if_false]
    exact wpAny_pure (fin st' hp hs)
end
end Mine

end SRT_
theorem Mine.rst_SRT2 : True := by
  w_top off
  first | (walk1; done) | trivial
section SRT2_
open PySem PySem.W PyProof.Rows PySem.Spec PySem.Calls
namespace Mine
theorem ints_at : ∀ {vs : List Value} {ks : List Int}, vs.length = ks.length → (∀ (j : Nat) (v : Value), vs[j]? = some v → ∃ k t, ks[j]? = some k ∧ v = .int k t) → IntsAre vs ks
  | [], [], _, _ => .nil
  | [], _ :: _, h, _ => by simp at h
  | _ :: _, [], h, _ => by simp at h
  | v :: vs, k :: ks, h, hj => by
    obtain ⟨k', t, e1, e2⟩ := hj 0 v rfl
    have e3 : k = k' := by simpa using e1
    subst e3 e2
    exact .cons _ _ (ints_at (by simpa using h) fun j w hw => hj (j + 1) w (by simpa using hw))
theorem sortedHeap_other {h : Heap} {a b : Addr} {vs : List Value} {out : Array Value} {o : Obj} (hb : b ≠ a) (e : h.get? b = some o) : (sortedHeap h a vs out).get? b = some o := by
  unfold sortedHeap
  rw [Heap.get?_update_other _ _ (Ne.symm hb)]
  exact Heap.get?_push_of_some _ (Heap.get?_push_of_some _ (by rw [Heap.get?_update_other _ _ (Ne.symm hb)]; exact e))
theorem sortedHeap_self {h : Heap} {a : Addr} {vs : List Value} {n : Nat} {out : Array Value} (e : h.get? a = some (seqObj "list" vs.toArray n)) : ∃ m, (sortedHeap h a vs out).get? a = some (seqObj "list" out m) := by
  unfold sortedHeap
  have e1 := get?_update_seq e (fun _ => #[])
  exact ⟨_, get?_update_seq (Heap.get?_push_of_some _ (Heap.get?_push_of_some _ e1)) (fun _ => out)⟩
section
variable {prog : Program} {w : World} {A : Around} {E : Value → Shared → Prop} {s : Shared}
theorem sorted_dict {g : Heap} {L d : Addr} {m : Str → Option Value} {nx : Led} {o : Obj} {kvs : List (Int × Value)} {Q : Value → Shared → Prop} (F : Fr g L s.heap m) (N : News g L s.heap nx) (hd : (d, o) ∈ nx) (hdo : o.IsDictOf (PySem.intKind prog w) kvs) (lo : (d == sysModules) = false)
    (hp : (kvs.map (·.1)).Pairwise (· ≤ ·)) (hlen : kvs.length ≤ 10000) (hh : A.handled = none)
    (h : ∀ B h' tk vs n, Fr g L h' m → News g L h' ((B, listOf vs.toArray n) :: nx) → (∀ q ∈ nx, q.1 < B) → IntsAre vs (kvs.map (·.1)) → Q (.ref B) { s with heap := h', toks := tk }) :
    wpAny (model prog w) A (call (.builtin "sorted") [.ref d]) Q E s := by
  obtain ⟨ep, hat⟩ := KdkAt.of hdo
  refine kdu_sorted (kdl_dict (knd := PySem.intKind prog w) (kvs := kvs) (ep := ep) lo) hh F N (hat.dictAt (N _ hd).1) (by rw [sizeLine_eq]; omega) fun B h' tk vs F' N' l1 hl hv => ?_
  have hI : IntsAre vs (kvs.map (·.1)) := ints_at (by rw [hl, List.length_map]) fun j v hj => by
    obtain ⟨k, x, e1, e2⟩ := hv j v hj
    obtain ⟨t, e3⟩ := Value.isInt_shape e2
    exact ⟨k, t, by rw [List.getElem?_map, e1]; rfl, e3⟩
  have hoB : h'.get? B = some (seqObj "list" vs.toArray 0) := (N' _ (.head _)).1
  have hB := (N' _ (.head _)).2
  refine wpAny_call_entry slot_list_sort ⟨_, hoB, rfl⟩ entry_list_sort (list_sort_S hoB hI hp (by rw [hl]; exact hlen) fun out hout => ⟨_, rfl, ?_⟩) (args_list_sort _)
  obtain ⟨e9, hself⟩ := sortedHeap_self (out := out) hoB
  have kk : ∀ b ob, b ≠ B → h'.get? b = some ob → (sortedHeap h' B vs out).get? b = some ob := fun b ob hb e => sortedHeap_other hb e
  have F2 : Fr g L (sortedHeap h' B vs out) m := by
    obtain ⟨oL, a1, a2, hL', a3⟩ := F'.ns
    exact ⟨⟨oL, a1, a2, kk _ _ (Ne.symm hB.1) hL', a3⟩, fun b ob e => kk b ob (fun q => by rw [q, hB.2] at e; cases e) (F'.keep b ob e), F'.above⟩
  refine h B _ tk out.toList e9 F2 (fun p hp' => ?_) l1 hout
  rcases List.mem_cons.mp hp' with rfl | hp'
  · exact ⟨by rw [Array.toArray_toList]; exact hself, hB⟩
  · have z := N' p (.tail _ hp')
    exact ⟨kk _ _ (Nat.ne_of_lt (l1 p hp')) z.1, z.2⟩
end
end Mine

end SRT2_
theorem Mine.rst_W16 : True := by
  w_top off
  first | (walk1; done) | trivial
section W16_
open PySem PySem.W PyProof.Rows PySem.Spec PySem.Calls
namespace Mine
local macro_rules
  | `(tactic| walk_at $s) => if ["call ref", "call builtin:sorted", "compareOp NotEq ref ref", "compareOp NotEq ref"].contains s.getString then `(tactic| (refine Stop.of ?_)) else Lean.Macro.throwUnsupported
theorem ref_of {l : Led} {v : Value} {ds : List Dat} (h : DatIn l v (.list ds)) : ∃ a, v = .ref a := by
  cases h; exact ⟨_, rfl⟩
theorem strOk_append {x y : Str} (hx : PyData.strOk x = true) (hy : PyData.strOk y = true) : PyData.strOk (x ++ y) = true := by
  unfold PyData.strOk at *
  rw [Str.cps_append, Array.all_append, hx, hy]; rfl
theorem hexGo_small : ∀ (N m k : Nat), m + k ≤ N → ∀ c ∈ hexGo m k, c < 0x110000
  | N, m, k, h, c, hc => by
    by_cases h0 : m = 0 ∧ k = 0
    · obtain ⟨rfl, rfl⟩ := h0
      rw [hexGo_zero] at hc
      cases hc
    · rw [hexGo_eq h0] at hc
      rcases List.mem_append.mp hc with hc | hc
      · cases N with
        | zero => omega
        | succ N => exact hexGo_small N _ _ (by omega) c hc
      · rw [List.mem_singleton.mp hc]
        have : m % 16 < 16 := Nat.mod_lt _ (by decide)
        unfold hexDig
        split <;> omega
theorem tabOps_strOk : ∀ e ∈ tabOps, PyData.strOk e.2 = true := by rw [tabOps_lit]; decide +kernel
theorem nameZ_ok (n : Int) : PyData.strOk (nameZ n) = true := by
  unfold nameZ
  cases h : tabName tabOps n with
  | some x => exact tabOps_strOk _ (tabName_mem h)
  | none =>
    refine strOk_append (by decide +kernel) ?_
    unfold PyData.strOk hexStr
    rw [← Array.all_toList, List.all_eq_true]
    intro c hc
    exact decide_eq_true (hexGo_small _ _ _ (Nat.le_refl _) c hc)
theorem rowO_ok (r : Int × Int × Option Int) : kqdOk 8 (rowO r) = true := by
  obtain ⟨p, n, o⟩ := r
  unfold rowO
  cases o <;> simp [kqdOk, optD, nameZ_ok]
theorem laidGo_ok {p many n i : Int} {os : List Int} (hok : StepOk (n, os)) (h : lawLaid p many n os os.length = some i) : 0 ≤ i ∧ i < 2 ^ 300 := by
  unfold lawLaid at h
  split at h
  · injection h with h
    subst h
    have h1 := laidGo_lt p many hok.2.2 os.length (Nat.le_refl _)
    have h2 : (os.length : Int) = ownZ n := hok.2.1
    have h3 := ownZ_hi n
    have h4 := pow256_le (j := os.length) (by omega)
    exact ⟨h1.1, Int.lt_of_lt_of_le h1.2 (Int.le_trans h4 (by decide +kernel))⟩
  · cases h
theorem due_ok (many : Int) (hm : many ≤ 1000) : ∀ (steps : List Step), (∀ q ∈ steps, StepOk q) → ∀ p : Int, 0 ≤ p → ∀ r ∈ dueGo many p steps, RowOk r
  | [], _, p, _, r, hr => by cases hr
  | (n, os) :: rest, hs, p, hp, r, hr => by
    have hrest := due_ok many hm rest (fun q hq => hs q (.tail _ hq)) (p + 1 + os.length) (by omega)
    rw [dueGo_cons] at hr
    split at hr
    · rcases List.mem_cons.mp hr with rfl | hr
      · exact ⟨⟨hp, by show p < 100000; omega⟩, (hs _ (.head _)).1, fun i hi => laidGo_ok (hs _ (.head _)) hi⟩
      · exact hrest r hr
    · exact hrest r hr
theorem due_length (many : Int) : ∀ (steps : List Step) (p : Int), (dueGo many p steps).length ≤ steps.length
  | [], _ => Nat.le_refl _
  | (n, os) :: rest, p => by
    have := due_length many rest (p + 1 + os.length)
    rw [dueGo_cons]
    split
    · rw [List.length_cons, List.length_cons]; omega
    · rw [List.length_cons]; omega
theorem trues_keys (ks : List Int) : (trues ks).map (·.1) = ks := by
  unfold trues; rw [List.map_map]; exact List.map_id _
theorem told_tells (w : World) (mean : ExcName → Option Value) (mg mb : Str → Option Value) (b : Array UInt8) (bs : List Int) (t : Tok) (v : Value) (steps : List Step) (isl : Bool) (hbs : KBw.bInts b = bs) (hb : bs.length ≤ 1000) (hs : ∀ q ∈ steps, StepOk q) (hl : steps.length ≤ 800) (htk : bs = (flatZ steps).take bs.length) :
    Tells w mean mg mb 145 14 [] (fun h => DatAt h v (.list (steps.map stepD))) [.bytes b t, v, .bool isl] (fun r tl _ => tl = [] ∧ r = .bool true) := by
  (have hf := fillme; revert hf; k_fill; intro hf; clear hf)
  refine' tells_intro (binds := [(Str.ofString "octets", .bytes b t), (Str.ofString "steps", v), (Str.ofString "is_listed", .bool isl)]) ?k6 ?k7 ?kD ?kB0 ?kB (fun _ _ k h => h.keeps k.nil) ?_ ?c2 ?c3 ?c4 ?c5
  ((case k6 => k_dflt k_is); (case k7 => k_dflt k_is); (case kB0 => exact rfl); (case kB => exact locs rfl); (case c5 => decide); (case c2 => exact rfl); (case c3 => exact rfl); (case c4 => exact rfl); (case kD => decide))
  intro dp un gd outer A₀ base g L h₁ s B F N X T hpre hk hd hu
  (try dsimp only); k_fold
  obtain ⟨e1, e2, e3⟩ := told_eq hs htk
  have hrok := due_ok bs.length (by omega) steps hs 0 (Int.le_refl _)
  have hrl := due_length bs.length steps 0
  k_steps
  refine Stop.out ?_
  refine tells_use0 (due_tells w mean mg mb v bs.length _ steps hs (by omega) (by omega)) B F X N T rfl (hpre.keeps F.keep) (by omega) (by omega) fun r9 h9 tk9 tl9 F9 N9 fr9 o9 P9 k9 => ?_
  cases P9 with | @tuple T9 ws nn _ hm hds =>
  cases hds with | @cons w1 _ _ _ q1 hds =>
  cases hds with | @cons w2 _ _ _ q2 hds =>
  cases hds
  obtain ⟨l1, rfl⟩ := ref_of q1
  obtain ⟨l2, rfl⟩ := ref_of q2
  have hT : IsTup h9 T9 #[.ref l1, .ref l2] := N9.isTup (List.mem_append.mpr (.inr hm))
  clear F N k9 fr9 o9 hm
  k_steps
  rename_i hz1 hz2 h10 F10 N10
  rw [List.nil_append] at N10
  have hjl : (jumpsOf (parse 0 bs)).length ≤ 1000 := by
    unfold jumpsOf
    rw [List.length_map]
    exact Nat.le_trans (List.length_filter_le _ _) (Nat.le_trans (parse_length _ bs 0 (Nat.le_refl _)) hb)
  refine Stop.out ?_
  refine tells_use0 (jump_tells w mean mg mb b bs t hbs (by omega)) B F10 X N10 T rfl trivial (by omega) (by omega) fun r11 h11 tk11 tl11 F11 N11 fr11 o11 P11 k11 => ?_
  obtain ⟨d, od, rfl, rfl, lod, hdo⟩ := P11
  clear F10 N10 k11 fr11 o11 hT
  k_steps
  refine Stop.out ?_
  refine sorted_dict F11 N11 (by simp) hdo lod (by rw [trues_keys]; exact (jumps_inc _ bs 0 (Nat.le_refl _)).imp fun h => Int.le_of_lt h) (by unfold trues; rw [List.length_map]; omega) rfl fun B12 h12 tk12 vs12 n12 F12 N12 l12 hI12 => ?_
  rw [trues_keys] at hI12
  clear F11 N11
  k_steps
  refine Stop.out ?_
  refine dat_ne (ds := (jumpsOf (parse 0 bs)).map .int) (es := (goalsGo bs.length 0 steps).map .int) ⟨_, fun p hp => (N12 p hp).1, .list (.head _) (ints_dat hI12)⟩ ⟨_, fun p hp => (N12 p hp).1, q2.mono fun p hp => .tail _ (List.mem_append.mpr (.inl hp))⟩ ok_ints ok_ints (by show _ + 64 < cLine; (try dsimp only [ktrTop]); omega) fun bv hbv => ?_
  have hb1 : bv = true := hbv.mpr (by rw [e2])
  subst hb1
  clear hbv
  k_steps
  refine Stop.out ?_
  refine tells_use0 (rows_tells w mean mg mb b bs t hbs (by omega)) B F12 X N12 T rfl trivial (by omega) (by omega) fun r13 h13 tk13 tl13 F13 N13 fr13 o13 P13 k13 => ?_
  obtain ⟨l3, rfl⟩ := ref_of P13
  clear F12 N12 k13 fr13 o13
  k_steps
  refine Stop.out ?_
  refine dat_ne (ds := (parse 0 bs).map rowD) (es := (dueGo bs.length 0 steps).map rowO) ⟨_, fun p hp => (N13 p hp).1, P13.mono fun p hp => List.mem_append.mpr (.inr hp)⟩ ⟨_, fun p hp => (N13 p hp).1, q1.mono fun p hp => List.mem_append.mpr (.inl (.tail _ (List.mem_append.mpr (.inl hp))))⟩ ?hx1 ?hx2 (by show _ + 64 < cLine; (try dsimp only [ktrTop]); omega) fun bv hbv => ?_
  case hx1 =>
    intro d hd
    obtain ⟨r, _, rfl⟩ := List.mem_map.mp hd
    exact rowO_ok (rowT r)
  case hx2 =>
    intro d hd
    obtain ⟨r, _, rfl⟩ := List.mem_map.mp hd
    exact rowO_ok r
  have hb1 : bv = true := hbv.mpr e1
  subst hb1
  clear hbv
  have hD1 : DatAt h13 (.ref l1) (.list ((dueGo bs.length 0 steps).map rowO)) := ⟨_, fun p hp => (N13 p hp).1, q1.mono fun p hp => List.mem_append.mpr (.inl (.tail _ (List.mem_append.mpr (.inl hp))))⟩
  cases isl with
  | false =>
    k_steps
    (try dsimp only)
    refine' BodyPost.ret0 [] (nx := []) ?za ?zb (fun _ h => h) ⟨rfl, rfl⟩
    (case za => k_asm)
    (case zb => exact fun _ h => nomatch h)
  | true =>
    k_steps
    refine Stop.out ?_
    refine tells_useP (listing_tells w mean mg mb b bs t hbs hb) B F13 X N13 T rfl trivial (by omega) (by omega) fun r14 h14 tk14 F14 N14 P14 k14 => ?_
    obtain ⟨t14, rfl⟩ := P14
    replace hD1 := hD1.keeps k14
    clear F13 N13 k14
    k_steps
    refine Stop.out ?_
    refine tells_useP (text_tells w mean mg mb (.ref l1) (dueGo bs.length 0 steps) hrok (by omega)) B F14 X N14 T rfl hD1 (by omega) (by omega) fun r15 h15 tk15 F15 N15 P15 k15 => ?_
    obtain ⟨t15, rfl⟩ := P15
    clear F14 N14 k15
    k_steps
    (try dsimp only)
    refine' BodyPost.ret0 [] (nx := []) ?zc ?zd (fun _ h => h) ⟨rfl, by rw [e3]; simp⟩
    (case zc => k_asm)
    (case zd => exact fun _ h => nomatch h)
end Mine

end W16_
theorem Mine.rst_P10 : True := by
  w_top off
  first | (walk1; done) | trivial
section P10_
open PySem PySem.W PyProof.Rows PySem.Spec PySem.Calls
namespace Mine
noncomputable def stepsTo (n : Nat) : List Step := (List.range n).map fun (j : Nat) => ((j : Int), List.replicate (ownZ (j : Int)).toNat 91)
theorem stepsTo_succ (n : Nat) : stepsTo (n + 1) = stepsTo n ++ [((n : Int), List.replicate (ownZ (n : Int)).toNat 91)] := by
  unfold stepsTo; rw [List.range_succ, List.map_append]; rfl
theorem stepsTo_ok {n : Nat} (hn : n ≤ 256) : ∀ q ∈ stepsTo n, StepOk q := by
  intro q hq
  unfold stepsTo at hq
  obtain ⟨j, hj, rfl⟩ := List.mem_map.mp hq
  have := List.mem_range.mp hj
  have h0 := ownZ_lo (j : Int)
  refine ⟨⟨by show (0 : Int) ≤ j; omega, by show (j : Int) < 256; omega⟩, ?_, fun k hk => ?_⟩
  · show ((List.replicate (ownZ (j : Int)).toNat (91 : Int)).length : Int) = ownZ (j : Int)
    rw [List.length_replicate]; omega
  · have e : k = 91 := List.eq_of_mem_replicate hk
    rw [e]; exact ⟨by decide, by decide⟩
theorem stepsTo_len (n : Nat) : (stepsTo n).length = n := by unfold stepsTo; rw [List.length_map, List.length_range]
theorem flat256 : (flatZ (stepsTo 256)).length ≤ 1000 := by decide +kernel
theorem flat_ok : ∀ {steps : List Step}, (∀ q ∈ steps, StepOk q) → ∀ k ∈ flatZ steps, 0 ≤ k ∧ k < 256 := by
  intro steps h k hk
  unfold flatZ at hk
  obtain ⟨q, hq, hk⟩ := List.mem_flatMap.mp hk
  have ok := h q hq
  rcases List.mem_cons.mp hk with rfl | hk
  · exact ok.1
  · exact ok.2.2 k hk
theorem flat_len : ∀ {steps : List Step}, (∀ q ∈ steps, StepOk q) → (flatZ steps).length ≤ 33 * steps.length
  | [], _ => Nat.le_refl _
  | q :: r, h => by
    have ih := flat_len (steps := r) fun x hx => h x (.tail _ hx)
    have h1 : (q.2.length : Int) = ownZ q.1 := (h q (.head _)).2.1
    have h2 := ownZ_hi q.1
    have e : flatZ (q :: r) = (q.1 :: q.2) ++ flatZ r := rfl
    rw [e, List.length_append, List.length_cons, List.length_cons]
    omega
theorem flat_lo : ∀ steps : List Step, steps.length ≤ (flatZ steps).length
  | [] => Nat.le_refl _
  | q :: r => by
    have ih := flat_lo r
    have e : flatZ (q :: r) = (q.1 :: q.2) ++ flatZ r := rfl
    rw [e, List.length_append, List.length_cons, List.length_cons]
    omega
theorem take_self (n : Nat) (l : List Int) : l.take n = l.take (l.take n).length := by
  rw [List.length_take]
  rcases Nat.le_total n l.length with h | h
  · rw [Nat.min_eq_left h]
  · rw [Nat.min_eq_right h, List.take_of_length_le h, List.take_length]
theorem cut_ok {qs : List Step} (h : ∀ q ∈ qs, StepOk q) {m n : Nat} (hn : (flatZ qs).length ≤ m) :
    ∃ os, os = (flatZ qs).take n ∧ os = (flatZ qs).take os.length ∧ os.length ≤ m ∧ ∀ k ∈ os, 0 ≤ k ∧ k < 256 :=
  ⟨_, rfl, take_self _ _, Nat.le_trans (List.length_take_le' _ _) hn, fun k hk => flat_ok h k (List.mem_of_mem_take hk)⟩
noncomputable def partsZ (bs : List Int) : List Step := (parse 0 bs).map partS
theorem pad_len {n : Int} {seg : List Int} (h : (seg.length : Int) ≤ ownZ n) : ((padSeg n seg).length : Int) = ownZ n := by
  unfold padSeg; rw [List.length_append, List.length_replicate]; omega
theorem pad_mem {n : Int} {seg : List Int} (h : ∀ k ∈ seg, 0 ≤ k ∧ k < 256) : ∀ k ∈ padSeg n seg, 0 ≤ k ∧ k < 256 := by
  intro k hk
  unfold padSeg at hk
  rcases List.mem_append.mp hk with hk | hk
  · exact h k hk
  · rw [List.eq_of_mem_replicate hk]; exact ⟨by decide, by decide⟩
theorem parts_ok {bs : List Int} (h : ∀ k ∈ bs, 0 ≤ k ∧ k < 256) : ∀ q ∈ partsZ bs, StepOk q := by
  intro q hq
  obtain ⟨r, hr, rfl⟩ := List.mem_map.mp hq
  obtain ⟨_, _, h1, h2, h3⟩ := parse_mem bs.length bs 0 (Nat.le_refl _) h r hr
  exact ⟨h1, pad_len h2, pad_mem h3⟩
theorem parts_len (bs : List Int) : (partsZ bs).length ≤ bs.length := by
  unfold partsZ; rw [List.length_map]; exact parse_length bs.length bs 0 (Nat.le_refl _)
theorem parts_go : ∀ (n : Nat) (bs : List Int) (p : Int), bs.length ≤ n → (flatZ ((parse p bs).map partS)).take bs.length = bs
  | _, [], p, _ => by rw [parse_nil]; rfl
  | 0, _ :: _, _, h => by cases h
  | n + 1, b :: r, p, h => by
    rw [parse_cons]
    have h0 := ownZ_lo b
    have ih := parts_go n (r.drop (ownZ b).toNat) (p + 1 + ownZ b) (by rw [List.length_drop]; rw [List.length_cons] at h; omega)
    show List.take (r.length + 1) (b :: (padSeg b (r.take (ownZ b).toNat) ++ flatZ (List.map partS (parse (p + 1 + ownZ b) (r.drop (ownZ b).toNat))))) = _
    rw [List.take_succ_cons]
    congr 1
    by_cases hz : (ownZ b).toNat ≤ r.length
    · have e : padSeg b (r.take (ownZ b).toNat) = r.take (ownZ b).toNat := by
        unfold padSeg
        rw [List.length_take, Nat.min_eq_left hz, Nat.sub_self]; exact List.append_nil _
      rw [e, List.take_append, List.length_take, Nat.min_eq_left hz]
      rw [List.length_drop] at ih
      rw [ih, List.take_of_length_le (by rw [List.length_take]; omega)]
      exact List.take_append_drop _ _
    · have e : padSeg b (r.take (ownZ b).toNat) = r ++ List.replicate ((ownZ b).toNat - r.length) 0 := by
        unfold padSeg
        rw [List.take_of_length_le (by omega)]
      rw [e, List.append_assoc, List.take_append, List.take_of_length_le (Nat.le_refl _), Nat.sub_self, List.take_zero, List.append_nil]
theorem parts_take (bs : List Int) : bs = (flatZ (partsZ bs)).take bs.length := (parts_go bs.length bs 0 (Nat.le_refl _)).symm
section
variable {w : World} {mean : ExcName → Option Value} {mg mb : Str → Option Value} {f : Addr} {dep : Nat} {Pre : Heap → Prop} {vs : List Value}
  {dp un : Nat} {gd : Option (List Code)} {cn : Str} {cs : Scope} {a : Addr} {ccd : Value} {cl : List (Str × Addr)} {outer : List Env} {A₀ : Around} {base h₀ : Heap} {L : Addr} {m : Str → Option Value} {s : Shared}
  {Q E : Value → Shared → Prop} {news : Led}
theorem tells_useL {ks : List Int} (C : Tells w mean mg mb f dep [] Pre vs (fun r tl _ => DatIn tl r (.list (ks.map .int)))) (B : Below A₀ base outer h₀) (F : Fr h₀ L s.heap m) (X : (Mine.hp39 w.params).In h₀) (N : News h₀ L s.heap news) (T : Top Mine.vw39 (looseW Mine.vw39 []) mean mg mb h₀) (hk : cs.kind = .function) (hp : Pre s.heap)
    (hd : dp + dep < recursionLimit) (hu : un + 8 * dep < cLine)
    (ret : ∀ b ws n h' tk', Fr h₀ L h' m → News h₀ L h' ((b, listOf (List.toArray ws) n) :: news) → (∀ q ∈ news, q.1 ≠ b) → IntsAre ws ks → Q (.ref b) { s with heap := h', toks := tk' }) :
    wpAny (model PySem.Challenge.rw_pq0392_01.row.prog w) (ktrTop dp un gd cn cs L a ccd cl outer) (call (.ref f) vs) Q E s := by
  refine tells_use0 C B F X N T hk hp hd hu ?_
  intro r h' tk' tl F' N' _ off hP k
  cases hP with | @list b ws n _ hm hall =>
  refine ret b ws n h' tk' F' (fun p hp => ?_) (fun q hq => Ne.symm (off _ hm q hq)) (ints_of hall)
  rcases List.mem_cons.mp hp with rfl | hp
  · exact N' _ (List.mem_append_right _ hm)
  · exact N' _ (List.mem_append_left _ hp)
theorem tells_useD {ds : List Dat} (C : Tells w mean mg mb f dep [] Pre vs (fun r tl _ => DatIn tl r (.list ds))) (B : Below A₀ base outer h₀) (F : Fr h₀ L s.heap m) (X : (Mine.hp39 w.params).In h₀) (N : News h₀ L s.heap news) (T : Top Mine.vw39 (looseW Mine.vw39 []) mean mg mb h₀) (hk : cs.kind = .function) (hp : Pre s.heap)
    (hd : dp + dep < recursionLimit) (hu : un + 8 * dep < cLine)
    (ret : ∀ b h' tk', Fr h₀ L h' m → News h₀ L h' news → DatAt h' (.ref b) (.list ds) → Q (.ref b) { s with heap := h', toks := tk' }) :
    wpAny (model PySem.Challenge.rw_pq0392_01.row.prog w) (ktrTop dp un gd cn cs L a ccd cl outer) (call (.ref f) vs) Q E s := by
  refine tells_use0 C B F X N T hk hp hd hu ?_
  intro r h' tk' tl F' N' _ off hP k
  obtain ⟨b, rfl⟩ := ref_of hP
  exact ret b h' tk' F' (fun p hp => N' p (List.mem_append_left _ hp)) (DatAt.of_led (fun p hp => N' p (List.mem_append_right _ hp)) hP)
end
end Mine

end P10_
theorem Mine.rst_W17 : True := by
  w_top off
  first | (walk1; done) | trivial
section W17_
open PySem PySem.W PyProof.Rows PySem.Spec PySem.Calls
namespace Mine
local macro_rules | `(tactic| k_qdec) => `(tactic| decide +kernel)
theorem stopQ {M : Model} {A : Around} {E : Value → Shared → Prop} {s : Shared} {t : Sem Value} {Q : Value → Shared → Prop} (h : wpAny M A t (fun v s' => Stop (Q v s')) E s) : wpAny M A t Q E s := h
noncomputable def Cells (vs : List Value) : Prop := ∃ cells, IntsAre vs cells ∧ cells.length ≤ 63
theorem pip_law (w : World) (mean : ExcName → Option Value) (mg mb : Str → Option Value) (ta l : Addr) (o : Obj) (vs : List Value) (k many : Int) (t : Tok)
    (hc : Cells vs) (ho : TrayAt w o l k) (hk : 0 ≤ k) (hk2 : k < 1000) (hm : 0 < many) (hm2 : many < 1000) (hne : l ≠ ta) :
    Tells w mean mg mb 105 1 [(ta, o)] (fun h => h.IsList l vs.toArray) [.ref ta, .int many t] (fun r tl mu' => (∃ o', mu' = [(ta, o')] ∧ TrayAt w o' l (k + 1)) ∧ tl = [] ∧ ∃ i t', (0 ≤ i ∧ i < many) ∧ r = .int i t') :=
  let ⟨cells, hi, hl⟩ := hc; pip_any w mean mg mb ta l o vs cells k many t hl hi ho hk hk2 hm hm2 hne
theorem step_law (w : World) (mean : ExcName → Option Value) (mg mb : Str → Option Value) (ta l : Addr) (o : Obj) (vs : List Value) (k : Int)
    (hc : Cells vs) (ho : TrayAt w o l k) (hk : 0 ≤ k) (hk2 : k < 900) (hne : l ≠ ta) :
    Tells w mean mg mb 155 3 [(ta, o)] (fun h => h.IsList l vs.toArray) [.ref ta] (fun r tl mu' => (∃ o', mu' = [(ta, o')] ∧ ∃ k', (k ≤ k' ∧ k' ≤ k + 3) ∧ TrayAt w o' l k') ∧ ∃ q, StepOk q ∧ DatIn tl r (stepD q)) :=
  let ⟨cells, hi, hl⟩ := hc; step_tells w mean mg mb ta l o vs cells k hl hi ho hk hk2 hne
noncomputable def StepJ (w : World) (d D1 : Addr) (c1 c2 : Addr × Obj) (j : Nat) (zs : List Value) (nx : Led) : Prop :=
  ∃ (o : Obj) (k : Int) (tl : Led) (qs : List Step), nx = (d, o) :: c1 :: c2 :: tl ∧ (1 ≤ k ∧ k ≤ 1 + 3 * (j : Int)) ∧ TrayAt w o D1 k ∧ (∀ p ∈ tl, p.1 ≠ d) ∧ qs.length = j ∧ (∀ q ∈ qs, StepOk q) ∧ DatAll tl zs (qs.map stepD)
noncomputable def WildJ (w : World) (d D1 : Addr) (c1 c2 : Addr × Obj) (j : Nat) (zs : List Value) (nx : Led) : Prop :=
  ∃ (o : Obj) (k : Int) (ks : List Int), nx = [(d, o), c1, c2] ∧ (1 ≤ k ∧ k ≤ 60 + (j : Int)) ∧ TrayAt w o D1 k ∧ ks.length = j ∧ (∀ x ∈ ks, 0 ≤ x ∧ x < 256) ∧ IntsAre zs ks
theorem led_isList {h₀ h : Heap} {L a : Addr} {news : Led} {ws : List Value} (N : News h₀ L h news) (hm : (a, LCg.lst ws) ∈ news) : h.IsList a ws.toArray := ⟨_, (N _ hm).1, rfl, _, rfl⟩
theorem law_cut {w : World} {mean : ExcName → Option Value} {mg mb : Str → Option Value} {qual : Str} {scope : Scope} {g : Heap} {L fa sl : Addr} {cdv : Value} {vs : List Value} {oc : Obj} {body : List Stmt} {Q : Flow → Shared → Prop} {E : Value → Shared → Prop} {s : Shared}
    (F : Fr g L s.heap (fun y => if y = Str.ofString "script" then some (.ref sl) else none)) (N : News g L s.heap [(L + 1, oc)]) (hoc : oc.data = .cell none) (X : (Mine.hp39 w.params).In g) (T : Top Mine.vw39 (looseW Mine.vw39 []) mean mg mb g) (B : Below callerA g [] g) (hl : g.IsList sl vs.toArray)
    (h : ∀ (dp un : Nat) (gd : Option (List Code)) (g : Heap) (L : Addr) (oc : Obj) (s : Shared), Below callerA g [] g → Fr g L s.heap (fun y => if y = Str.ofString "script" then some (.ref sl) else none) → News g L s.heap [(L + 1, oc)] → oc.data = .cell none → (Mine.hp39 w.params).In g → Top Mine.vw39 (looseW Mine.vw39 []) mean mg mb g → g.IsList sl vs.toArray →
      dp + 100 < recursionLimit → un + 200 < cLine → wpAny (model PySem.Challenge.rw_pq0392_01.row.prog w) (ktrTop dp un gd qual scope L fa cdv (cellsFrom (L + 1) scope.names []) []) (execs body (envOfC qual scope L fa cdv)) (BodyPost g L [] (fun r tl _ => tl = [] ∧ r = .bool true) s) (fun _ _ => False) s)
    (h2 : ∀ h' tk' m', Fr g L h' m' → Q (.ret (.bool true)) { s with heap := h', toks := tk' }) :
    wpAny (model PySem.Challenge.rw_pq0392_01.row.prog w) (callerA.deeper (envOfC qual scope L fa cdv)) (execs body (envOfC qual scope L fa cdv)) Q E s := by
  refine wpAny_mono (h (2 + claimMargin) 7 (some []) g L oc s B F N hoc X T hl (by decide +kernel) (by decide +kernel)) (fun fl s' hb => ?_) (fun _ _ e => e.elim)
  obtain ⟨h', tk', m', tl, mu', rfl, F, _, _, _, _, _, e⟩ := hb
  cases fl with
  | ret v => dsimp only at e; subst e; exact h2 _ _ _ F
  | _ => cases e
local macro_rules
  | `(tactic| walk_at $s) => if ["exec Assign cons ListComp", "call builtin:len"].contains s.getString then `(tactic| (refine Stop.of ?_)) else Lean.Macro.throwUnsupported
local macro_rules | `(tactic| walk_at "call ref") => `(tactic| first
  | (k_here; k_dflt (refine' tells_useQ (law_own_tells _ _ _ _ _ _) ?_; k_whole); walk_at "mine:v")
  | (k_here; (rename TrayAt _ _ _ _ => hT9); (rename Cells _ => lC9); k_dflt (refine' tells_useM (pip_law _ _ _ _ _ _ _ _ _ _ _ lC9 hT9 (by omega) (by omega) (by omega) (by omega) (by assumption)) (by k_asm) (by k_asm) (by k_asm) (by k_asm) (by k_asm) (by exact rfl) (by k_updF) (by (rename News _ _ _ _ => lN9); exact led_isList lN9 (by k_mem)) (by omega) (by omega) ?_; k_whole);
     intro r9 h9 tk9 tl9 o9 F9 N9 d9 P9 P8; obtain ⟨e8, i9, t9, b9, e9⟩ := P8; subst e8; subst e9; clear d9; (try clear hT9); rw [List.append_nil] at N9; (try dsimp only at N9 ⊢); (try k_fold))
  | (refine Stop.of ?_))
theorem law_holds : PySem.Challenge.rw_pq0392_01.Holds := by
  refine holds_law said_ok fun said => ?_
  w_on
  refine holds_open (q := Mine.vw39) (loose := []) (Xt := fun s => xlAt Mine.vw39 [] s && recOk (RowW.records PySem.Challenge.rw_pq0392_01.row.toRowW) s) (XP := XL Mine.vw39 []) (Yf := Hook.obs (kHook Mine.hp39 as39 (fun _ => by kernel_rfl))) (Ya := Hook.val (kHook Mine.hp39 as39 (fun _ => by kernel_rfl))) (YP := Hook.says (kHook Mine.hp39 as39 (fun _ => by kernel_rfl))) (N := 1890) left_ok (Hook.of (kHook Mine.hp39 as39 (fun _ => by kernel_rfl))) (Hook.keeps (kHook Mine.hp39 as39 (fun _ => by kernel_rfl))) (fun s e => xl_of s (Bool.and_eq_true_iff.mp e).1) XL.keeps (by rfl) (by rfl) (by rfl) (fun s e => recFacts_of (Bool.and_eq_true_iff.mp e).2) (by rfl) (by assumption) (by decide +kernel) ⟨rfl, rfl, rfl, rfl, rfl, by decide +kernel⟩ ?hw ?hc
  (case hw => w_witness2)
  clear said
  k_go0
  (rename World => w)
  (rename Fr _ _ _ _ => F0); (rename News _ _ _ _ => N0); (rename Top _ _ _ _ _ _ => T0); (rename Below _ _ _ _ => B0); (rename Heap.IsList _ _ _ => l0); (rename Frag.In _ _ => X0); (rename IntsAre _ _ => hI); (rename ¬ _ < _ => hlen); (rename _ = Data.cell _ => c0)
  refine law_cut F0 N0 c0 X0 T0 B0 l0 ?_ ?_
  rotate_left
  · intro h9 tk9 m9 F9
    show GoodW _ _ _ _ _ (.ok (.ret (.bool _))) _
    (refine goodW_bool (by with_reducible assumption) (by with_reducible assumption) (raisesW_false ?_) ?_)
    · wrow_none_raised
    · first | kc_post | wrow_post
  clear F0 N0 c0 X0 T0 B0 l0
  intro dp un gd g L oc s B F N hoc X T hls hdp hun
  (try dsimp only); k_fold
  k_steps
  rename_i d h0 o0 lo hd0 l1 D2 ws2 h1 hI2 hC2 hL2 l2 hk1 hk2 gh hys1 hys2 D1 h3 tk3 off3 h4 o1 hdo h5 oc5 F5 N5 hoc
  refine Stop.out ?_
  k_dflt (refine LCg.Assign_ListComp_U F5 (by rfl) (by with_unfolding_all rfl) (by rfl) (by decide) (by rfl) (by decide) (by rfl) (by rfl) (by rfl) ?_)
  refine stopQ ?_
  k_steps
  rename_i h6 tk6 t1 u1 v1 hR F6 N6 k6
  refine Stop.out ?_
  refine LCg.CompSrc.range (n := 256) (news := [(d, o1), (L + 1, oc5), (D1, LCg.lst ys)]) rfl F6 (fun p hp => N6 p ?_) hR (by decide +kernel) (by decide +kernel) (by decide +kernel) ?_
  · exact sub_ap hp (sub_head (by k_mem) (sub_head (by k_mem) (sub_head (by k_mem) sub_nil)))
  intro g9
  refine comp_rest 256 (fun j zs nx => ∃ tl, nx = (d, o1) :: (L + 1, oc5) :: (D1, LCg.lst ys) :: tl ∧ DatAll tl zs ((stepsTo j).map stepD)) ?_ ?_ _ 0 [] _ (Nat.zero_add _) ⟨[], rfl, .nil⟩
  · rintro zs nx ⟨tl, rfl, hys⟩
    intro D8 h8 tk8 F8 N8 off8
    have dsteps : DatIn ((D8, LCg.lst zs) :: (d, o1) :: (L + 1, oc5) :: (D1, LCg.lst ys) :: tl) (.ref D8) (.list ((stepsTo 256).map stepD)) := .list (.head _) (hys.mono fun q hq => .tail _ (.tail _ (.tail _ (.tail _ hq))))
    k_steps
    refine Stop.out ?_
    k_dflt (refine' tells_useL (flat_tells _ _ _ _ _ (stepsTo 256) (stepsTo_ok (Nat.le_refl _)) (by rw [stepsTo_len]; decide)) B ?xF X ?xN T rfl ?xd (by omega) (by omega) ?_; (case xF => k_asm); (case xN => k_asm); (case xd => exact DatAt.of_led N8 dsteps))
    intro a ws n h10 tk10 F10 N10 off10 ia
    k_steps
    k_dflt (refine' KBa.make_K ?xF ?xN rfl ⟨_, (N10 _ (.head _)).1, rfl, _, rfl⟩ ia (flat_ok (stepsTo_ok (Nat.le_refl _))) (Nat.le_trans flat256 (by decide)) ?_; (case xF => k_asm); (case xN => k_asm))
    intro h11 t11 tk11 F11 N11 z11
    clear z11
    k_steps
    refine Stop.out ?_
    k_dflt (refine' tells_useP (told_tells _ _ _ _ _ _ _ _ (stepsTo 256) false (KBa.ints_make (flat_ok (stepsTo_ok (Nat.le_refl _)))) flat256 (stepsTo_ok (Nat.le_refl _)) (by rw [stepsTo_len]; decide) List.take_length.symm) B ?xF X ?xN T rfl ?xd (by omega) (by omega) ?_; (case xF => k_asm); (case xN => k_asm); (case xd => exact DatAt.of_led N11 (dsteps.mono fun q hq => .tail _ hq)))
    intro r12 h12 tk12 F12 N12 e12 k12
    subst e12
    clear k12
    k_steps
    refine Stop.out ?_
    have hT : TrayAt w o1 D1 0 := ⟨_, hdo⟩
    have hC : Cells ys := ⟨_, hys1, by rw [List.length_map, List.length_take]; omega⟩
    have q1 : D1 ≠ d := Ne.symm off3.2.1
    have q2 : d ≠ D1 := off3.2.1
    have q3 : L + 1 ≠ d := Nat.ne_of_lt l1
    have q4 : d ≠ L + 1 := Ne.symm q3
    replace N12 : News g L h12 [(d, o1), (L + 1, oc5), (D1, LCg.lst ys)] := fun p hp => N12 p (sub_ap hp (sub_head (by k_mem) (sub_head (by k_mem) (sub_head (by k_mem) sub_nil))))
    (try clear F11); (try clear N11); (try clear F10); (try clear N10); (try clear off10); (try clear ia); (try clear F8); (try clear N8); (try clear off8); (try clear dsteps); (try clear hys); (try clear hdo); (try clear hys1); (try clear hys2); (try clear off3); (try clear N6); (try clear F6); (try clear k6); (try clear hR); (try clear N5); (try clear F5); (try clear l1); (try clear l2); (try clear hI2); (try clear hC2); (try clear hL2); (try clear hk1); (try clear hk2)
    k_dflt (refine LCg.Assign_ListComp_U F12 (by rfl) (by with_unfolding_all rfl) (by rfl) (by decide) (by rfl) (by decide) (by rfl) (by rfl) (by rfl) ?_)
    refine stopQ ?_
    k_steps
    (rename Cells _ => hC)
    rename_i h9 tk9 o9 F9 hT9 i9 t9 b9 N9 h13 tk13 t1 u1 v1 hR F13 N13 k13
    (try clear F9); (try clear N9); (try clear k13); (try clear F12); (try clear N12)
    refine Stop.out ?_
    refine LCg.CompSrc.range (n := (3 + i9).toNat) rfl F13 N13 hR (small_one (by omega) (by omega) (by omega) (by omega)) (by rw [rangeSize_nat]; omega) (by rw [sizeLine_eq]; omega) ?_
    intro g9
    refine comp_rest (3 + i9).toNat (StepJ w d D1 (L + 1, oc5) (D1, LCg.lst ys)) ?_ ?_ _ 0 [] _ (Nat.zero_add _) ⟨o9, 1, [], [], rfl, ⟨by omega, by omega⟩, hT9, (fun _ h => nomatch h), rfl, (fun _ h => nomatch h), .nil⟩
    · clear hT9 F13 N13 hR
      rintro zs nx ⟨o, k, tl, qs, rfl, hk, hT, htl, hql, hqs, hda⟩
      intro D8 h8 tk8 F8 N8 off8
      have dsteps : DatIn ((D8, LCg.lst zs) :: tl) (.ref D8) (.list (qs.map stepD)) := .list (.head _) (hda.mono fun q hq => .tail _ hq)
      have hqn : qs.length ≤ 11 := by omega
      have hqm : 3 ≤ qs.length := by omega
      k_steps
      refine Stop.out ?_
      k_dflt (refine' tells_useL (flat_tells _ _ _ _ _ qs hqs (by omega)) B ?xF X ?xN T rfl ?xd (by omega) (by omega) ?_; (case xF => k_asm); (case xN => k_asm); (case xd => exact DatAt.of_led N8 (dsteps.mono (sub_head (by k_mem) (sub_skip (sub_skip (sub_skip (sub_skip sub_refl))))))))
      intro a ws n h10 tk10 F10 N10 off10 ia
      have hf1 := flat_len hqs
      have hf2 := flat_lo qs
      k_steps
      refine Stop.out ?_
      (rename News _ _ _ _ => N11)
      refine kun_lenL (k := ((flatZ qs).length : Int)) (News.isList N11 (.head _)) (by rw [List.size_toArray, ia.length]) (by omega) ?_
      have hpo : ∀ p ∈ (L + 1, oc5) :: (D1, LCg.lst ys) :: tl, p.1 ≠ d := by
        intro p hp
        simp only [List.mem_cons] at hp
        rcases hp with rfl | rfl | hp
        · exact q3
        · exact q1
        · exact htl p hp
      have q5 : a ≠ d := Ne.symm (off10 (d, o) (.tail _ (.head _)))
      have q6 : D8 ≠ d := Ne.symm off8.1
      k_steps
      rename_i h9 tk9 o9 hT4 i4 t4 b4 O ows h14 iO cO lO ltO h15 F15 N15
      obtain ⟨os, hos0, hos1, hos2, hos3⟩ := cut_ok hqs (m := 363) (n := (((flatZ qs).length : Int) - i4).toNat) (by omega)
      rw [← hos0] at iO
      k_dflt (refine' KBa.make_K ?xF ?xN rfl (News.isList N15 (.head _)) iO hos3 (by omega) ?_; (case xF => k_asm); (case xN => k_asm))
      intro h16 t16 tk16 F16 N16 z16
      clear z16 F15 cO lO hos0
      k_steps
      refine Stop.out ?_
      k_dflt (refine' tells_useP (told_tells _ _ _ _ _ _ _ _ qs true (KBa.ints_make hos3) (by omega) hqs (by omega) hos1) B ?xF X ?xN T rfl ?xd (by omega) (by omega) ?_; (case xF => k_asm); (case xN => k_asm); (case xd => exact DatAt.of_led N16 (dsteps.mono (sub_head (by k_mem) (sub_skip (sub_skip (sub_skip (sub_skip (sub_skip (sub_skip sub_refl))))))))))
      intro r17 h17 tk17 F17 N17 e17 k17
      subst e17
      clear k17
      have q7 : O ≠ d := Ne.symm (Nat.ne_of_lt ltO.2.2.1)
      have q8 : d ≠ O := Nat.ne_of_lt ltO.2.2.1
      replace N17 : News g L h17 [(O, listOf ows.toArray 0), (d, o9), (L + 1, oc5), (D1, LCg.lst ys)] := fun p hp => N17 p (sub_ap hp (sub_head (by k_mem) (sub_head (by k_mem) (sub_head (by k_mem) (sub_head (by k_mem) sub_nil)))))
      clear N16 F16 N15 dsteps htl hda hpo off10 ia off8 ltO
      k_steps
      rename_i h9 tk9 o9 hT5 i5 t5 b5 L5 h18 lt5 B5 bws h19 iB ltB h20 F20 N20
      have hbs3 : ∀ x ∈ [96 + i5] ++ os, 0 ≤ x ∧ x < 256 := by
        intro x hx
        rcases List.mem_append.mp hx with hx | hx
        · rw [List.mem_singleton.mp hx]; omega
        · exact hos3 x hx
      have hbs2 : ([96 + i5] ++ os).length ≤ 364 := by rw [List.length_append, List.length_singleton]; omega
      generalize [96 + i5] ++ os = bs at iB hbs3 hbs2
      have q9 : B5 ≠ d := Ne.symm (Nat.ne_of_lt ltB.2.2.1)
      have q10 : d ≠ B5 := Nat.ne_of_lt ltB.2.2.1
      replace N20 : News g L h20 [(B5, listOf bws.toArray 0), (d, o9), (L + 1, oc5), (D1, LCg.lst ys)] := fun p hp => N20 p (sub_ap hp (sub_head (by k_mem) (sub_head (by k_mem) (sub_head (by k_mem) (sub_head (by k_mem) sub_nil)))))
      clear ltB lt5
      k_dflt (refine' KBa.make_K ?xF ?xN rfl (News.isList N20 (.head _)) iB hbs3 (by omega) ?_; (case xF => k_asm); (case xN => k_asm))
      intro h21 t21 tk21 F21 N21 z21
      clear z21 F20 N20
      k_steps
      refine Stop.out ?_
      k_dflt (refine' tells_useD (parted_tells _ _ _ _ _ bs (by omega)) B ?xF X ?xN T rfl ?xd (by omega) (by omega) ?_; (case xF => k_asm); (case xN => k_asm); (case xd => exact DatAt.of_led N21 (.list (.head _) (ints_dat iB))))
      intro b22 h22 tk22 F22 N22 D22
      clear F21 N21
      k_steps
      refine Stop.out ?_
      have hpl := parts_len bs
      k_dflt (refine' tells_useP (told_tells _ _ _ _ _ bs _ _ (partsZ bs) false (KBa.ints_make hbs3) (by omega) (parts_ok hbs3) (by omega) (parts_take bs)) B ?xF X ?xN T rfl ?xd (by omega) (by omega) ?_; (case xF => k_asm); (case xN => k_asm); (case xd => exact D22))
      intro r23 h23 tk23 F23 N23 e23 k23
      subst e23
      clear k23 F22 N22 D22
      replace N23 : News g L h23 [(d, o9), (L + 1, oc5), (D1, LCg.lst ys)] := fun p hp => N23 p (.tail _ hp)
      k_steps
      refine Stop.out ?_
      k_dflt (refine LCg.Assign_ListComp_U F23 (by rfl) (by with_unfolding_all rfl) (by rfl) (by decide) (by rfl) (by decide) (by rfl) (by rfl) (by rfl) ?_)
      refine stopQ ?_
      k_steps
      rename_i h24 tk24 t24 u24 v24 hR24 F24 N24 k24
      refine Stop.out ?_
      refine LCg.CompSrc.range (n := 12) (news := [(d, o9), (L + 1, oc5), (D1, LCg.lst ys)]) rfl F24 (fun p hp => N24 p ?_) hR24 (by decide +kernel) (by decide +kernel) (by decide +kernel) ?_
      · exact sub_ap hp (sub_head (by k_mem) (sub_head (by k_mem) (sub_head (by k_mem) sub_nil)))
      (try clear k24); (try clear F23); (try clear N23); (try clear F24); (try clear N24); (try clear hR24)
      intro g24
      refine comp_rest 12 (WildJ w d D1 (L + 1, oc5) (D1, LCg.lst ys)) ?_ ?_ _ 0 [] _ (Nat.zero_add _) ⟨o9, _, [], rfl, ⟨?_, ?_⟩, hT5, rfl, (fun _ h => nomatch h), .nil⟩
      · rintro zs nx ⟨o, kw, ks, rfl, hkw, hTw, hkl, hks, hzs⟩
        intro D9 h25 tk25 F25 N25 off25
        clear hT5
        k_steps
        rename_i h26 t26 tk26 F26 N26 z26 z27
        clear z26 z27 F25 N25
        refine Stop.out ?_
        k_dflt (refine' tells_useD (parted_tells _ _ _ _ _ ks (by omega)) B ?xF X ?xN T rfl ?xd (by omega) (by omega) ?_; (case xF => k_asm); (case xN => k_asm); (case xd => exact DatAt.of_led N26 (.list (.head _) (ints_dat hzs))))
        intro b27 h27 tk27 F27 N27 D27
        clear F26 N26
        k_steps
        refine Stop.out ?_
        have hpl9 := parts_len ks
        k_dflt (refine' tells_useP (told_tells _ _ _ _ _ ks _ _ (partsZ ks) true (KBa.ints_make hks) (by omega) (parts_ok hks) (by omega) (parts_take ks)) B ?xF X ?xN T rfl ?xd (by omega) (by omega) ?_; (case xF => k_asm); (case xN => k_asm); (case xd => exact D27))
        intro r28 h28 tk28 F28 N28 e28 k28
        subst e28
        clear k28 F27 N27 D27
        k_steps
        exact BodyPost.ret0 [] F28 N28 (fun _ h => nomatch h) ⟨rfl, rfl⟩
      · rintro j9 zs nx hj9 ⟨o, kw, ks, rfl, hkw, hTw, hkl, hks, hzs⟩ v9 I9 oI9 C9 oC9 D9 m9 h29 tk29 E9 ⟨t29, rfl⟩ z1 z2 F29 N29 off29 ne29
        clear hT5
        (rename Cells _ => hC9)
        k_steps
        refine Stop.out ?_
        have hpo9 : ∀ p ∈ [(L + 1, oc5), (D1, LCg.lst ys)], p.1 ≠ d := by
          intro p hp
          simp only [List.mem_cons, List.not_mem_nil, or_false] at hp
          rcases hp with rfl | rfl
          · exact q3
          · exact q1
        k_dflt (refine' tells_useM (pip_law _ _ _ _ _ _ _ _ _ _ _ hC9 hTw ?p3 ?p4 ?p5 ?p6 q1) B ?xF X ?xN T rfl ?xU ?xp ?ud ?uu ?_; (case p3 => omega); (case p4 => omega); (case p5 => omega); (case p6 => omega); (case xF => k_asm); (case xN => k_asm); (case ud => omega); (case uu => omega); (case xU => exact .tail (Ne.symm off29.1.1) (.tail (Ne.symm off29.1.2.1) (.tail (Ne.symm off29.1.2.2) (.head hpo9)))); (case xp => exact led_isList N29 (by k_mem)))
        rintro r h30 tk30 tl30 o30 F30 N30 dis hT30 ⟨rfl, i30, t30, b30, rfl⟩
        rw [List.append_nil] at N30
        (try dsimp only)
        refine LCg.CompEnd.intro F30 N30 [(d, o30), (L + 1, oc5), (D1, LCg.lst ys)] ?_ ?_ trivial ⟨o30, kw + 1, ks ++ [i30], rfl, ⟨by omega, by omega⟩, hT30, ?_, ?_, ints_snoc hzs _ _⟩
        · exact fun p hp => hp
        · refine LCg.Off3.of ?_
          intro p hp
          rcases List.mem_cons.mp hp with rfl | hp
          · exact off29.1
          rcases List.mem_cons.mp hp with rfl | hp
          · exact off29.2.1
          · rw [List.mem_singleton.mp hp]; exact off29.2.2.1
        · rw [List.length_append, hkl]; rfl
        · intro x hx
          rcases List.mem_append.mp hx with hx | hx
          · exact hks x hx
          · rw [List.mem_singleton.mp hx]; exact b30
      · omega
      · omega
    · clear hT9 F13 N13 hR
      rintro j zs nx hj8 ⟨o, k, tl, qs, rfl, hk, hT, htl, hql, hqs, hda⟩ v I2 oI2 C oC D m₂ h tk E' ⟨t8, rfl⟩ z1 z2 F4 N4 off ne
      have hpo : ∀ p ∈ (L + 1, oc5) :: (D1, LCg.lst ys) :: tl, p.1 ≠ d := by
        intro p hp
        simp only [List.mem_cons] at hp
        rcases hp with rfl | rfl | hp
        · exact q3
        · exact q1
        · exact htl p hp
      k_steps
      refine Stop.out ?_
      k_dflt (refine' tells_useM (step_law _ _ _ _ _ _ _ _ _ hC hT ?p3 ?p4 q1) B ?xF X ?xN T rfl ?xU ?xp ?ud ?uu ?_; (case p3 => omega); (case p4 => omega); (case xF => k_asm); (case xN => k_asm); (case ud => omega); (case uu => omega); (case xU => exact .tail (Ne.symm off.1.1) (.tail (Ne.symm off.1.2.1) (.tail (Ne.symm off.1.2.2) (.head hpo)))); (case xp => refine' led_isList N4 ?um; k_mem))
      rintro r h9 tk9 tl9 o9 F9 N9 dis ⟨k', hk', hT'⟩ ⟨q, hq, hd⟩
      (try dsimp only)
      refine LCg.CompEnd.intro F9 N9 ((d, o9) :: (L + 1, oc5) :: (D1, LCg.lst ys) :: (tl ++ tl9)) ?_ ?_ trivial ⟨o9, k', tl ++ tl9, qs ++ [q], rfl, ⟨by omega, by omega⟩, hT', ?_, ?_, ?_, ?_⟩
      · intro p hp
        exact hp
      · refine LCg.Off3.of ?_
        intro p hp
        rcases List.mem_cons.mp hp with rfl | hp
        · exact off.1
        rcases List.mem_cons.mp hp with rfl | hp
        · exact off.2.1
        rcases List.mem_cons.mp hp with rfl | hp
        · exact off.2.2.1
        rcases List.mem_append.mp hp with hp | hp
        · exact LCg.Off3.mem off.2.2.2 p hp
        · exact ⟨dis p hp _ (.head _), dis p hp _ (.tail _ (.head _)), dis p hp _ (.tail _ (.tail _ (.head _)))⟩
      · intro p hp
        rcases List.mem_append.mp hp with hp | hp
        · exact htl p hp
        · exact dis p hp _ (.tail _ (.tail _ (.tail _ (.head _))))
      · rw [List.length_append, hql]; rfl
      · intro x hx
        rcases List.mem_append.mp hx with hx | hx
        · exact hqs x hx
        · rw [List.mem_singleton.mp hx]; exact hq
      · rw [List.map_append]
        exact (hda.mono fun p hp => List.mem_append_left _ hp).append (.one (hd.mono fun p hp => List.mem_append_right _ hp))
  · rintro j zs nx hj8 ⟨tl, rfl, hys⟩ v I2 oI2 C oC D m₂ h tk E' ⟨t8, rfl⟩ z1 z2 F4 N4 off ne
    have hx0 := ownZ_lo (0 + (j : Int))
    have hx1 := ownZ_hi (0 + (j : Int))
    k_steps
    rename_i E2 h8 iE nE sE e1 e2 e3 lE T2 h9 F9 N9 lT
    (try dsimp only)
    simp only [List.flatten_replicate_singleton] at iE N9
    refine LCg.CompEnd.intro F9 N9 ((d, o1) :: (L + 1, oc5) :: (D1, LCg.lst ys) :: (T2, { cls := .type "tuple", data := .seq #[Value.int (0 + (j : Int)) t8, Value.ref E2] }) :: (E2, listOf (List.replicate (ownZ (0 + (j : Int))).toNat (Value.int 91 tk)).toArray 0) :: tl) ?_ ?_ trivial ⟨_, rfl, ?_⟩
    · exact (sub_head (by k_mem) (sub_head (by k_mem) (sub_head (by k_mem) (sub_head (by k_mem) (sub_head (by k_mem) (sub_head (by k_mem) (sub_head (by k_mem) (sub_head (by k_mem) (sub_skip (sub_skip (sub_skip (sub_skip (sub_skip (sub_skip (sub_skip (sub_skip (sub_skip sub_refl)))))))))))))))))
    · refine LCg.Off3.of ?_
      intro p hp
      simp only [List.mem_cons] at hp
      rcases hp with rfl | rfl | rfl | rfl | rfl | hp
      · exact off.1
      · exact off.2.1
      · exact off.2.2.1
      · exact ⟨Ne.symm (Nat.ne_of_lt lT.2.2.1), Ne.symm (Nat.ne_of_lt lT.2.2.2.1), Ne.symm (Nat.ne_of_lt lT.2.2.2.2.1)⟩
      · exact ⟨Ne.symm (Nat.ne_of_lt lE.2.1), Ne.symm (Nat.ne_of_lt lE.2.2.1), Ne.symm (Nat.ne_of_lt lE.2.2.2.1)⟩
      · exact LCg.Off3.mem off.2.2.2 p hp
    · rw [stepsTo_succ, List.map_append]
      refine (hys.mono fun q hq => .tail _ (.tail _ hq)).append (.one ?_)
      refine .tuple (vs := [.int _ t8, .ref E2]) (.head _) (.cons ?_ (.cons (.list (.tail _ (.head _)) (ints_dat ?_)) .nil))
      · rw [Int.zero_add]; exact .int _ _
      · rw [Int.zero_add] at iE ⊢; exact iE
end Mine

end W17_
theorem PySem.Challenge.cw_pq0392_01_holds : PySem.Challenge.rw_pq0392_01.Holds := by
  exact Mine.law_holds
