import PyProof.Rows.All
import Wide.All
import OpenK.AllK
import Wide.FinOn
import KE.KPairComp
import KE.LcSums
import KE.KTurns
import KE.KSetAt
import KE.KLcTest
import KE.KTryMore
import KE.BitLaws
import KE.KBits
import KE.RegKTryMore
import PyProof.CompUse
import KE.KFind
import PySem.Challenge.RW_uf040037_09
open PySem PySem.W PyProof.Rows
set_option Elab.async false
set_option maxRecDepth 100000
set_option maxHeartbeats 8000000
set_option linter.all false
set_option rowWalk.seconds 0
set_option compiler.extract_closed false

namespace Mine
open PySem PySem.W
/-- the row's program -/
noncomputable abbrev pW : Program := PySem.Challenge.pw_uf040037_09
noncomputable def nthS : List Stmt → Nat → Option Stmt
  | [], _ => none
  | x :: _, 0 => some x
  | _ :: r, n + 1 => nthS r n
noncomputable def inC : Option Stmt → Nat → Option Stmt
  | some (.ClassDef _ _ _ body ..), n => nthS body n
  | _, _ => none
noncomputable def fnP : Option Stmt → Arguments × List Stmt × Scope
  | some (.FunctionDef _ args body _ _ _ scope ..) => (args, body, scope)
  | _ => (⟨[], [], none, [], [], none, []⟩, [], ⟨.function, [], false, false, []⟩)
noncomputable def pickS (l : List Stmt) : List Nat → List Stmt
  | [] => []
  | n :: r => match nthS l n with
    | some s => s :: pickS l r
    | none => pickS l r
noncomputable def o2 (_P : Params) : Obj := ⟨.none, none, .dict (List.toArray []) 0, List.toArray []⟩
noncomputable def o3 (P : Params) : Obj := ⟨.type "dict", none, .dict (List.toArray [⟨PyData.keyHash P (Str.ofString "__name__"), .str (Str.ofString "__name__") 165, .str (Str.ofString "law_uf040037_09") 492⟩, ⟨PyData.keyHash P (Str.ofString "__doc__"), .str (Str.ofString "__doc__") 166, .none⟩, ⟨PyData.keyHash P (Str.ofString "__package__"), .str (Str.ofString "__package__") 167, .none⟩, ⟨PyData.keyHash P (Str.ofString "__loader__"), .str (Str.ofString "__loader__") 168, .builtin "__main__.__loader__#opaque"⟩, ⟨PyData.keyHash P (Str.ofString "__spec__"), .str (Str.ofString "__spec__") 169, .none⟩, ⟨PyData.keyHash P (Str.ofString "__annotations__"), .str (Str.ofString "__annotations__") 170, .ref 6⟩, ⟨PyData.keyHash P (Str.ofString "__builtins__"), .str (Str.ofString "__builtins__") 171, .ref 4⟩, ⟨PyData.keyHash P (Str.ofString "__file__"), .str (Str.ofString "__file__") 173, .str (Str.ofString "/claim/cut.py") 172⟩, ⟨PyData.keyHash P (Str.ofString "__cached__"), .str (Str.ofString "__cached__") 174, .none⟩, ⟨PyData.keyHash P (Str.ofString "_wall"), .str (Str.ofString "_wall") 193, .ref 21⟩, ⟨PyData.keyHash P (Str.ofString "GateError"), .str (Str.ofString "GateError") 213, .ref 31⟩, ⟨PyData.keyHash P (Str.ofString "NoRow"), .str (Str.ofString "NoRow") 229, .ref 44⟩, ⟨PyData.keyHash P (Str.ofString "NoDivisor"), .str (Str.ofString "NoDivisor") 245, .ref 56⟩, ⟨PyData.keyHash P (Str.ofString "NoCount"), .str (Str.ofString "NoCount") 261, .ref 68⟩, ⟨PyData.keyHash P (Str.ofString "TooLong"), .str (Str.ofString "TooLong") 277, .ref 80⟩, ⟨PyData.keyHash P (Str.ofString "TooShort"), .str (Str.ofString "TooShort") 293, .ref 92⟩, ⟨PyData.keyHash P (Str.ofString "Broken"), .str (Str.ofString "Broken") 309, .ref 104⟩, ⟨PyData.keyHash P (Str.ofString "is_sign"), .str (Str.ofString "is_sign") 318, .ref 113⟩, ⟨PyData.keyHash P (Str.ofString "need_row"), .str (Str.ofString "need_row") 326, .ref 120⟩, ⟨PyData.keyHash P (Str.ofString "value_of"), .str (Str.ofString "value_of") 335, .ref 127⟩, ⟨PyData.keyHash P (Str.ofString "signs_of"), .str (Str.ofString "signs_of") 345, .ref 134⟩, ⟨PyData.keyHash P (Str.ofString "parted"), .str (Str.ofString "parted") 360, .ref 141⟩, ⟨PyData.keyHash P (Str.ofString "LEAST"), .str (Str.ofString "LEAST") 364, .int 2 363⟩, ⟨PyData.keyHash P (Str.ofString "MOST"), .str (Str.ofString "MOST") 366, .int 13 365⟩, ⟨PyData.keyHash P (Str.ofString "need_divisor"), .str (Str.ofString "need_divisor") 373, .ref 148⟩, ⟨PyData.keyHash P (Str.ofString "onward"), .str (Str.ofString "onward") 382, .ref 155⟩, ⟨PyData.keyHash P (Str.ofString "reach"), .str (Str.ofString "reach") 393, .ref 162⟩, ⟨PyData.keyHash P (Str.ofString "MOST_NOUGHTS"), .str (Str.ofString "MOST_NOUGHTS") 399, .int 1000000000000000000 398⟩, ⟨PyData.keyHash P (Str.ofString "Gate"), .str (Str.ofString "Gate") 491, .ref 228⟩, ⟨PyData.keyHash P (Str.ofString "_law_cell_at"), .str (Str.ofString "_law_cell_at") 501, .ref 239⟩, ⟨PyData.keyHash P (Str.ofString "_law_row_by"), .str (Str.ofString "_law_row_by") 507, .ref 244⟩, ⟨PyData.keyHash P (Str.ofString "_law_is_row"), .str (Str.ofString "_law_is_row") 513, .ref 249⟩, ⟨PyData.keyHash P (Str.ofString "_law_step_by"), .str (Str.ofString "_law_step_by") 519, .ref 254⟩, ⟨PyData.keyHash P (Str.ofString "_law_rest_by"), .str (Str.ofString "_law_rest_by") 529, .ref 261⟩, ⟨PyData.keyHash P (Str.ofString "_law_divisor_by"), .str (Str.ofString "_law_divisor_by") 540, .ref 268⟩, ⟨PyData.keyHash P (Str.ofString "_law_reach_by"), .str (Str.ofString "_law_reach_by") 550, .ref 275⟩, ⟨PyData.keyHash P (Str.ofString "_law_words"), .str (Str.ofString "_law_words") 559, .ref 282⟩, ⟨PyData.keyHash P (Str.ofString "_law_any"), .str (Str.ofString "_law_any") 568, .ref 289⟩, ⟨PyData.keyHash P (Str.ofString "_law_row"), .str (Str.ofString "_law_row") 582, .ref 296⟩, ⟨PyData.keyHash P (Str.ofString "_law_asked"), .str (Str.ofString "_law_asked") 601, .ref 303⟩, ⟨PyData.keyHash P (Str.ofString "_law_kept"), .str (Str.ofString "_law_kept") 610, .ref 310⟩, ⟨PyData.keyHash P (Str.ofString "law"), .str (Str.ofString "law") 627, .ref 317⟩]) 42, List.toArray []⟩
noncomputable def o15 (_P : Params) : Obj := ⟨.type "tuple", none, .seq (List.toArray []) 0, List.toArray []⟩
noncomputable def o17 (_P : Params) : Obj := ⟨.type "tuple", none, .seq (List.toArray [.str (Str.ofString "k") 190]) 0, List.toArray []⟩
noncomputable def o18 (_P : Params) : Obj := ⟨.type "tuple", none, .seq (List.toArray []) 0, List.toArray []⟩
noncomputable def o20 (_P : Params) : Obj := ⟨.type "code", none, .fields (List.toArray [.str (Str.ofString "_wall") 187, .str (Str.ofString "_wall") 188, .str (Str.ofString "/claim/cut.py") 189, .int 1 0, .int 1 0, .int 0 0, .int 0 0, .int 3 0, .ref 15, .bool true, .int 181 0, .ref 16, .none, .ref 17, .ref 18, .ref 19, .int 191 0, .int 1 0, .str (Str.ofString "/claim/cut.py") 192]), List.toArray []⟩
noncomputable def o21 (_P : Params) : Obj := (fun (p : Arguments) (b : List Stmt) (s : Scope) (_ : (p, b, s) = fnP (nthS pW.main.body 0)) => (⟨.type "function", none, .func ⟨Str.ofString "_wall", Str.ofString "_wall", p, .stmts b, s, 3, [], .none, .none, .none, .str (Str.ofString "__main__") 164, none, .ref 20, .none, 0⟩, List.toArray []⟩ : Obj)) _ _ _ rfl
noncomputable def o22 (_P : Params) : Obj := ⟨.type "tuple", none, .seq (List.toArray [.type "ValueError"]) 0, List.toArray []⟩
noncomputable def o29 (_P : Params) : Obj := ⟨.type "tuple", none, .seq (List.toArray []) 0, List.toArray []⟩
noncomputable def o30 (P : Params) : Obj := ⟨.type "dict", none, .dict (List.toArray [⟨PyData.keyHash P (Str.ofString "__module__"), .str (Str.ofString "__module__") 203, .str (Str.ofString "crcgate.errors") 194⟩, ⟨PyData.keyHash P (Str.ofString "__firstlineno__"), .str (Str.ofString "__firstlineno__") 207, .int 5 206⟩, ⟨PyData.keyHash P (Str.ofString "__static_attributes__"), .str (Str.ofString "__static_attributes__") 208, .ref 29⟩, ⟨PyData.keyHash P (Str.ofString "__weakref__"), .str (Str.ofString "__weakref__") 210, .ref 32⟩, ⟨PyData.keyHash P (Str.ofString "__doc__"), .str (Str.ofString "__doc__") 211, .none⟩]) 3, List.toArray []⟩
noncomputable def o31 (_P : Params) : Obj := ⟨.type "type", none, .cls ⟨Str.ofString "GateError", [.type "ValueError"], [.ref 31, .type "ValueError", .type "Exception", .type "BaseException", .type "object"], 30, Str.ofString "GateError", true, [], [.ref 44, .ref 56, .ref 68, .ref 80, .ref 92, .ref 104], false, none, false⟩, List.toArray [some (.ref 22), none, some (.str (Str.ofString "GateError") 196), some (.str (Str.ofString "GateError") 204), some (.builtin "ValueError.__new__"), some (.bool true)]⟩
noncomputable def o32 (_P : Params) : Obj := ⟨.type "getset_descriptor", none, .fields (List.toArray [.str (Str.ofString "__weakref__") 209, .ref 31, .builtin "ExceptionGroup.__weakref__", .none]), List.toArray []⟩
noncomputable def o35 (_P : Params) : Obj := ⟨.type "tuple", none, .seq (List.toArray [.ref 31]) 0, List.toArray []⟩
noncomputable def o42 (_P : Params) : Obj := ⟨.type "tuple", none, .seq (List.toArray []) 0, List.toArray []⟩
noncomputable def o43 (P : Params) : Obj := ⟨.type "dict", none, .dict (List.toArray [⟨PyData.keyHash P (Str.ofString "__module__"), .str (Str.ofString "__module__") 221, .str (Str.ofString "crcgate.errors") 194⟩, ⟨PyData.keyHash P (Str.ofString "__firstlineno__"), .str (Str.ofString "__firstlineno__") 225, .int 7 224⟩, ⟨PyData.keyHash P (Str.ofString "__static_attributes__"), .str (Str.ofString "__static_attributes__") 226, .ref 42⟩, ⟨PyData.keyHash P (Str.ofString "__doc__"), .str (Str.ofString "__doc__") 227, .none⟩]) 2, List.toArray []⟩
noncomputable def o44 (_P : Params) : Obj := ⟨.type "type", none, .cls ⟨Str.ofString "NoRow", [.ref 31], [.ref 44, .ref 31, .type "ValueError", .type "Exception", .type "BaseException", .type "object"], 43, Str.ofString "NoRow", true, [], [], false, none, false⟩, List.toArray [some (.ref 35), none, some (.str (Str.ofString "NoRow") 214), some (.str (Str.ofString "NoRow") 222), some (.builtin "ValueError.__new__"), some (.bool true)]⟩
noncomputable def o47 (_P : Params) : Obj := ⟨.type "tuple", none, .seq (List.toArray [.ref 31]) 0, List.toArray []⟩
noncomputable def o54 (_P : Params) : Obj := ⟨.type "tuple", none, .seq (List.toArray []) 0, List.toArray []⟩
noncomputable def o55 (P : Params) : Obj := ⟨.type "dict", none, .dict (List.toArray [⟨PyData.keyHash P (Str.ofString "__module__"), .str (Str.ofString "__module__") 237, .str (Str.ofString "crcgate.errors") 194⟩, ⟨PyData.keyHash P (Str.ofString "__firstlineno__"), .str (Str.ofString "__firstlineno__") 241, .int 9 240⟩, ⟨PyData.keyHash P (Str.ofString "__static_attributes__"), .str (Str.ofString "__static_attributes__") 242, .ref 54⟩, ⟨PyData.keyHash P (Str.ofString "__doc__"), .str (Str.ofString "__doc__") 243, .none⟩]) 2, List.toArray []⟩
noncomputable def o56 (_P : Params) : Obj := ⟨.type "type", none, .cls ⟨Str.ofString "NoDivisor", [.ref 31], [.ref 56, .ref 31, .type "ValueError", .type "Exception", .type "BaseException", .type "object"], 55, Str.ofString "NoDivisor", true, [], [], false, none, false⟩, List.toArray [some (.ref 47), none, some (.str (Str.ofString "NoDivisor") 230), some (.str (Str.ofString "NoDivisor") 238), some (.builtin "ValueError.__new__"), some (.bool true)]⟩
noncomputable def o59 (_P : Params) : Obj := ⟨.type "tuple", none, .seq (List.toArray [.ref 31]) 0, List.toArray []⟩
noncomputable def o66 (_P : Params) : Obj := ⟨.type "tuple", none, .seq (List.toArray []) 0, List.toArray []⟩
noncomputable def o67 (P : Params) : Obj := ⟨.type "dict", none, .dict (List.toArray [⟨PyData.keyHash P (Str.ofString "__module__"), .str (Str.ofString "__module__") 253, .str (Str.ofString "crcgate.errors") 194⟩, ⟨PyData.keyHash P (Str.ofString "__firstlineno__"), .str (Str.ofString "__firstlineno__") 257, .int 11 256⟩, ⟨PyData.keyHash P (Str.ofString "__static_attributes__"), .str (Str.ofString "__static_attributes__") 258, .ref 66⟩, ⟨PyData.keyHash P (Str.ofString "__doc__"), .str (Str.ofString "__doc__") 259, .none⟩]) 2, List.toArray []⟩
noncomputable def o68 (_P : Params) : Obj := ⟨.type "type", none, .cls ⟨Str.ofString "NoCount", [.ref 31], [.ref 68, .ref 31, .type "ValueError", .type "Exception", .type "BaseException", .type "object"], 67, Str.ofString "NoCount", true, [], [], false, none, false⟩, List.toArray [some (.ref 59), none, some (.str (Str.ofString "NoCount") 246), some (.str (Str.ofString "NoCount") 254), some (.builtin "ValueError.__new__"), some (.bool true)]⟩
noncomputable def o71 (_P : Params) : Obj := ⟨.type "tuple", none, .seq (List.toArray [.ref 31]) 0, List.toArray []⟩
noncomputable def o78 (_P : Params) : Obj := ⟨.type "tuple", none, .seq (List.toArray []) 0, List.toArray []⟩
noncomputable def o79 (P : Params) : Obj := ⟨.type "dict", none, .dict (List.toArray [⟨PyData.keyHash P (Str.ofString "__module__"), .str (Str.ofString "__module__") 269, .str (Str.ofString "crcgate.errors") 194⟩, ⟨PyData.keyHash P (Str.ofString "__firstlineno__"), .str (Str.ofString "__firstlineno__") 273, .int 13 272⟩, ⟨PyData.keyHash P (Str.ofString "__static_attributes__"), .str (Str.ofString "__static_attributes__") 274, .ref 78⟩, ⟨PyData.keyHash P (Str.ofString "__doc__"), .str (Str.ofString "__doc__") 275, .none⟩]) 2, List.toArray []⟩
noncomputable def o80 (_P : Params) : Obj := ⟨.type "type", none, .cls ⟨Str.ofString "TooLong", [.ref 31], [.ref 80, .ref 31, .type "ValueError", .type "Exception", .type "BaseException", .type "object"], 79, Str.ofString "TooLong", true, [], [], false, none, false⟩, List.toArray [some (.ref 71), none, some (.str (Str.ofString "TooLong") 262), some (.str (Str.ofString "TooLong") 270), some (.builtin "ValueError.__new__"), some (.bool true)]⟩
noncomputable def o83 (_P : Params) : Obj := ⟨.type "tuple", none, .seq (List.toArray [.ref 31]) 0, List.toArray []⟩
noncomputable def o90 (_P : Params) : Obj := ⟨.type "tuple", none, .seq (List.toArray []) 0, List.toArray []⟩
noncomputable def o91 (P : Params) : Obj := ⟨.type "dict", none, .dict (List.toArray [⟨PyData.keyHash P (Str.ofString "__module__"), .str (Str.ofString "__module__") 285, .str (Str.ofString "crcgate.errors") 194⟩, ⟨PyData.keyHash P (Str.ofString "__firstlineno__"), .str (Str.ofString "__firstlineno__") 289, .int 15 288⟩, ⟨PyData.keyHash P (Str.ofString "__static_attributes__"), .str (Str.ofString "__static_attributes__") 290, .ref 90⟩, ⟨PyData.keyHash P (Str.ofString "__doc__"), .str (Str.ofString "__doc__") 291, .none⟩]) 2, List.toArray []⟩
noncomputable def o92 (_P : Params) : Obj := ⟨.type "type", none, .cls ⟨Str.ofString "TooShort", [.ref 31], [.ref 92, .ref 31, .type "ValueError", .type "Exception", .type "BaseException", .type "object"], 91, Str.ofString "TooShort", true, [], [], false, none, false⟩, List.toArray [some (.ref 83), none, some (.str (Str.ofString "TooShort") 278), some (.str (Str.ofString "TooShort") 286), some (.builtin "ValueError.__new__"), some (.bool true)]⟩
noncomputable def o95 (_P : Params) : Obj := ⟨.type "tuple", none, .seq (List.toArray [.ref 31]) 0, List.toArray []⟩
noncomputable def o102 (_P : Params) : Obj := ⟨.type "tuple", none, .seq (List.toArray []) 0, List.toArray []⟩
noncomputable def o103 (P : Params) : Obj := ⟨.type "dict", none, .dict (List.toArray [⟨PyData.keyHash P (Str.ofString "__module__"), .str (Str.ofString "__module__") 301, .str (Str.ofString "crcgate.errors") 194⟩, ⟨PyData.keyHash P (Str.ofString "__firstlineno__"), .str (Str.ofString "__firstlineno__") 305, .int 17 304⟩, ⟨PyData.keyHash P (Str.ofString "__static_attributes__"), .str (Str.ofString "__static_attributes__") 306, .ref 102⟩, ⟨PyData.keyHash P (Str.ofString "__doc__"), .str (Str.ofString "__doc__") 307, .none⟩]) 2, List.toArray []⟩
noncomputable def o104 (_P : Params) : Obj := ⟨.type "type", none, .cls ⟨Str.ofString "Broken", [.ref 31], [.ref 104, .ref 31, .type "ValueError", .type "Exception", .type "BaseException", .type "object"], 103, Str.ofString "Broken", true, [], [], false, none, false⟩, List.toArray [some (.ref 95), none, some (.str (Str.ofString "Broken") 294), some (.str (Str.ofString "Broken") 302), some (.builtin "ValueError.__new__"), some (.bool true)]⟩
noncomputable def o107 (_P : Params) : Obj := ⟨.type "tuple", none, .seq (List.toArray []) 0, List.toArray []⟩
noncomputable def o109 (_P : Params) : Obj := ⟨.type "tuple", none, .seq (List.toArray [.str (Str.ofString "sign") 315]) 0, List.toArray []⟩
noncomputable def o110 (_P : Params) : Obj := ⟨.type "tuple", none, .seq (List.toArray []) 0, List.toArray []⟩
noncomputable def o112 (_P : Params) : Obj := ⟨.type "code", none, .fields (List.toArray [.str (Str.ofString "is_sign") 312, .str (Str.ofString "is_sign") 313, .str (Str.ofString "/claim/cut.py") 314, .int 20 0, .int 1 0, .int 0 0, .int 0 0, .int 3 0, .ref 107, .bool true, .int 181 0, .ref 108, .none, .ref 109, .ref 110, .ref 111, .int 316 0, .int 20 0, .str (Str.ofString "/claim/cut.py") 317]), List.toArray []⟩
noncomputable def o113 (_P : Params) : Obj := (fun (p : Arguments) (b : List Stmt) (s : Scope) (_ : (p, b, s) = fnP (nthS pW.main.body 10)) => (⟨.type "function", none, .func ⟨Str.ofString "is_sign", Str.ofString "is_sign", p, .stmts b, s, 3, [], .none, .none, .none, .str (Str.ofString "crcgate.rows") 310, none, .ref 112, .none, 0⟩, List.toArray []⟩ : Obj)) _ _ _ rfl
noncomputable def o114 (_P : Params) : Obj := ⟨.type "tuple", none, .seq (List.toArray []) 0, List.toArray []⟩
noncomputable def o116 (_P : Params) : Obj := ⟨.type "tuple", none, .seq (List.toArray [.str (Str.ofString "row") 322, .str (Str.ofString "sign") 323]) 0, List.toArray []⟩
noncomputable def o117 (_P : Params) : Obj := ⟨.type "tuple", none, .seq (List.toArray []) 0, List.toArray []⟩
noncomputable def o119 (_P : Params) : Obj := ⟨.type "code", none, .fields (List.toArray [.str (Str.ofString "need_row") 319, .str (Str.ofString "need_row") 320, .str (Str.ofString "/claim/cut.py") 321, .int 22 0, .int 1 0, .int 0 0, .int 0 0, .int 3 0, .ref 114, .bool true, .int 181 0, .ref 115, .none, .ref 116, .ref 117, .ref 118, .int 324 0, .int 22 0, .str (Str.ofString "/claim/cut.py") 325]), List.toArray []⟩
noncomputable def o120 (_P : Params) : Obj := (fun (p : Arguments) (b : List Stmt) (s : Scope) (_ : (p, b, s) = fnP (nthS pW.main.body 11)) => (⟨.type "function", none, .func ⟨Str.ofString "need_row", Str.ofString "need_row", p, .stmts b, s, 3, [], .none, .none, .none, .str (Str.ofString "crcgate.rows") 310, none, .ref 119, .none, 0⟩, List.toArray []⟩ : Obj)) _ _ _ rfl
noncomputable def o121 (_P : Params) : Obj := ⟨.type "tuple", none, .seq (List.toArray []) 0, List.toArray []⟩
noncomputable def o123 (_P : Params) : Obj := ⟨.type "tuple", none, .seq (List.toArray [.str (Str.ofString "row") 330, .str (Str.ofString "found") 331, .str (Str.ofString "sign") 332]) 0, List.toArray []⟩
noncomputable def o124 (_P : Params) : Obj := ⟨.type "tuple", none, .seq (List.toArray []) 0, List.toArray []⟩
noncomputable def o126 (_P : Params) : Obj := ⟨.type "code", none, .fields (List.toArray [.str (Str.ofString "value_of") 327, .str (Str.ofString "value_of") 328, .str (Str.ofString "/claim/cut.py") 329, .int 28 0, .int 1 0, .int 0 0, .int 0 0, .int 3 0, .ref 121, .bool true, .int 181 0, .ref 122, .none, .ref 123, .ref 124, .ref 125, .int 333 0, .int 28 0, .str (Str.ofString "/claim/cut.py") 334]), List.toArray []⟩
noncomputable def o127 (_P : Params) : Obj := (fun (p : Arguments) (b : List Stmt) (s : Scope) (_ : (p, b, s) = fnP (nthS pW.main.body 12)) => (⟨.type "function", none, .func ⟨Str.ofString "value_of", Str.ofString "value_of", p, .stmts b, s, 3, [], .none, .none, .none, .str (Str.ofString "crcgate.rows") 310, none, .ref 126, .none, 0⟩, List.toArray []⟩ : Obj)) _ _ _ rfl
noncomputable def o128 (_P : Params) : Obj := ⟨.type "tuple", none, .seq (List.toArray []) 0, List.toArray []⟩
noncomputable def o130 (_P : Params) : Obj := ⟨.type "tuple", none, .seq (List.toArray [.str (Str.ofString "value") 339, .str (Str.ofString "many") 340, .str (Str.ofString "found") 341, .str (Str.ofString "turn") 342]) 0, List.toArray []⟩
noncomputable def o131 (_P : Params) : Obj := ⟨.type "tuple", none, .seq (List.toArray []) 0, List.toArray []⟩
noncomputable def o133 (_P : Params) : Obj := ⟨.type "code", none, .fields (List.toArray [.str (Str.ofString "signs_of") 336, .str (Str.ofString "signs_of") 337, .str (Str.ofString "/claim/cut.py") 338, .int 33 0, .int 2 0, .int 0 0, .int 0 0, .int 3 0, .ref 128, .bool true, .int 181 0, .ref 129, .none, .ref 130, .ref 131, .ref 132, .int 343 0, .int 33 0, .str (Str.ofString "/claim/cut.py") 344]), List.toArray []⟩
noncomputable def o134 (_P : Params) : Obj := (fun (p : Arguments) (b : List Stmt) (s : Scope) (_ : (p, b, s) = fnP (nthS pW.main.body 13)) => (⟨.type "function", none, .func ⟨Str.ofString "signs_of", Str.ofString "signs_of", p, .stmts b, s, 3, [], .none, .none, .none, .str (Str.ofString "crcgate.rows") 310, none, .ref 133, .none, 0⟩, List.toArray []⟩ : Obj)) _ _ _ rfl
noncomputable def o135 (_P : Params) : Obj := ⟨.type "tuple", none, .seq (List.toArray []) 0, List.toArray []⟩
noncomputable def o137 (_P : Params) : Obj := ⟨.type "tuple", none, .seq (List.toArray [.str (Str.ofString "row") 349, .str (Str.ofString "divisor") 350, .str (Str.ofString "width") 351, .str (Str.ofString "left") 352, .str (Str.ofString "quotient") 353, .str (Str.ofString "place") 354, .str (Str.ofString "sign") 355, .str (Str.ofString "beside") 356, .str (Str.ofString "more") 357]) 0, List.toArray []⟩
noncomputable def o138 (_P : Params) : Obj := ⟨.type "tuple", none, .seq (List.toArray []) 0, List.toArray []⟩
noncomputable def o140 (_P : Params) : Obj := ⟨.type "code", none, .fields (List.toArray [.str (Str.ofString "parted") 346, .str (Str.ofString "parted") 347, .str (Str.ofString "/claim/cut.py") 348, .int 39 0, .int 2 0, .int 0 0, .int 0 0, .int 3 0, .ref 135, .bool true, .int 181 0, .ref 136, .none, .ref 137, .ref 138, .ref 139, .int 358 0, .int 39 0, .str (Str.ofString "/claim/cut.py") 359]), List.toArray []⟩
noncomputable def o141 (_P : Params) : Obj := (fun (p : Arguments) (b : List Stmt) (s : Scope) (_ : (p, b, s) = fnP (nthS pW.main.body 14)) => (⟨.type "function", none, .func ⟨Str.ofString "parted", Str.ofString "parted", p, .stmts b, s, 3, [], .none, .none, .none, .str (Str.ofString "crcgate.rows") 310, none, .ref 140, .none, 0⟩, List.toArray []⟩ : Obj)) _ _ _ rfl
noncomputable def o142 (_P : Params) : Obj := ⟨.type "tuple", none, .seq (List.toArray []) 0, List.toArray []⟩
noncomputable def o144 (_P : Params) : Obj := ⟨.type "tuple", none, .seq (List.toArray [.str (Str.ofString "divisor") 370]) 0, List.toArray []⟩
noncomputable def o145 (_P : Params) : Obj := ⟨.type "tuple", none, .seq (List.toArray []) 0, List.toArray []⟩
noncomputable def o147 (_P : Params) : Obj := ⟨.type "code", none, .fields (List.toArray [.str (Str.ofString "need_divisor") 367, .str (Str.ofString "need_divisor") 368, .str (Str.ofString "/claim/cut.py") 369, .int 57 0, .int 1 0, .int 0 0, .int 0 0, .int 3 0, .ref 142, .bool true, .int 181 0, .ref 143, .none, .ref 144, .ref 145, .ref 146, .int 371 0, .int 57 0, .str (Str.ofString "/claim/cut.py") 372]), List.toArray []⟩
noncomputable def o148 (_P : Params) : Obj := (fun (p : Arguments) (b : List Stmt) (s : Scope) (_ : (p, b, s) = fnP (nthS pW.main.body 18)) => (⟨.type "function", none, .func ⟨Str.ofString "need_divisor", Str.ofString "need_divisor", p, .stmts b, s, 3, [], .none, .none, .none, .str (Str.ofString "crcgate.reaches") 361, none, .ref 147, .none, 0⟩, List.toArray []⟩ : Obj)) _ _ _ rfl
noncomputable def o149 (_P : Params) : Obj := ⟨.type "tuple", none, .seq (List.toArray []) 0, List.toArray []⟩
noncomputable def o151 (_P : Params) : Obj := ⟨.type "tuple", none, .seq (List.toArray [.str (Str.ofString "value") 377, .str (Str.ofString "divisor") 378, .str (Str.ofString "width") 379]) 0, List.toArray []⟩
noncomputable def o152 (_P : Params) : Obj := ⟨.type "tuple", none, .seq (List.toArray []) 0, List.toArray []⟩
noncomputable def o154 (_P : Params) : Obj := ⟨.type "code", none, .fields (List.toArray [.str (Str.ofString "onward") 374, .str (Str.ofString "onward") 375, .str (Str.ofString "/claim/cut.py") 376, .int 63 0, .int 3 0, .int 0 0, .int 0 0, .int 3 0, .ref 149, .bool true, .int 181 0, .ref 150, .none, .ref 151, .ref 152, .ref 153, .int 380 0, .int 63 0, .str (Str.ofString "/claim/cut.py") 381]), List.toArray []⟩
noncomputable def o155 (_P : Params) : Obj := (fun (p : Arguments) (b : List Stmt) (s : Scope) (_ : (p, b, s) = fnP (nthS pW.main.body 19)) => (⟨.type "function", none, .func ⟨Str.ofString "onward", Str.ofString "onward", p, .stmts b, s, 3, [], .none, .none, .none, .str (Str.ofString "crcgate.reaches") 361, none, .ref 154, .none, 0⟩, List.toArray []⟩ : Obj)) _ _ _ rfl
noncomputable def o156 (_P : Params) : Obj := ⟨.type "tuple", none, .seq (List.toArray []) 0, List.toArray []⟩
noncomputable def o158 (_P : Params) : Obj := ⟨.type "tuple", none, .seq (List.toArray [.str (Str.ofString "divisor") 386, .str (Str.ofString "number") 387, .str (Str.ofString "width") 388, .str (Str.ofString "value") 389, .str (Str.ofString "found") 390]) 0, List.toArray []⟩
noncomputable def o159 (_P : Params) : Obj := ⟨.type "tuple", none, .seq (List.toArray []) 0, List.toArray []⟩
noncomputable def o161 (_P : Params) : Obj := ⟨.type "code", none, .fields (List.toArray [.str (Str.ofString "reach") 383, .str (Str.ofString "reach") 384, .str (Str.ofString "/claim/cut.py") 385, .int 68 0, .int 1 0, .int 0 0, .int 0 0, .int 3 0, .ref 156, .bool true, .int 181 0, .ref 157, .none, .ref 158, .ref 159, .ref 160, .int 391 0, .int 68 0, .str (Str.ofString "/claim/cut.py") 392]), List.toArray []⟩
noncomputable def o162 (_P : Params) : Obj := (fun (p : Arguments) (b : List Stmt) (s : Scope) (_ : (p, b, s) = fnP (nthS pW.main.body 20)) => (⟨.type "function", none, .func ⟨Str.ofString "reach", Str.ofString "reach", p, .stmts b, s, 3, [], .none, .none, .none, .str (Str.ofString "crcgate.reaches") 361, none, .ref 161, .none, 0⟩, List.toArray []⟩ : Obj)) _ _ _ rfl
noncomputable def o170 (_P : Params) : Obj := ⟨.type "tuple", none, .seq (List.toArray []) 0, List.toArray []⟩
noncomputable def o172 (_P : Params) : Obj := ⟨.type "tuple", none, .seq (List.toArray [.str (Str.ofString "self") 415, .str (Str.ofString "divisor") 416]) 0, List.toArray []⟩
noncomputable def o173 (_P : Params) : Obj := ⟨.type "tuple", none, .seq (List.toArray []) 0, List.toArray []⟩
noncomputable def o175 (_P : Params) : Obj := ⟨.type "code", none, .fields (List.toArray [.str (Str.ofString "__init__") 412, .str (Str.ofString "Gate.__init__") 413, .str (Str.ofString "/claim/cut.py") 414, .int 82 0, .int 2 0, .int 0 0, .int 0 0, .int 3 0, .ref 170, .bool true, .int 181 0, .ref 171, .none, .ref 172, .ref 173, .ref 174, .int 417 0, .int 82 0, .str (Str.ofString "/claim/cut.py") 418]), List.toArray []⟩
noncomputable def o176 (_P : Params) : Obj := (fun (p : Arguments) (b : List Stmt) (s : Scope) (_ : (p, b, s) = fnP (inC (nthS pW.main.body 23) 0)) => (⟨.type "function", none, .func ⟨Str.ofString "__init__", Str.ofString "Gate.__init__", p, .stmts b, s, 3, [], .none, .none, .none, .str (Str.ofString "crcgate.gates") 394, none, .ref 175, .none, 0⟩, List.toArray []⟩ : Obj)) _ _ _ rfl
noncomputable def o177 (_P : Params) : Obj := ⟨.type "tuple", none, .seq (List.toArray []) 0, List.toArray []⟩
noncomputable def o179 (_P : Params) : Obj := ⟨.type "tuple", none, .seq (List.toArray [.str (Str.ofString "self") 423, .str (Str.ofString "row") 424]) 0, List.toArray []⟩
noncomputable def o180 (_P : Params) : Obj := ⟨.type "tuple", none, .seq (List.toArray []) 0, List.toArray []⟩
noncomputable def o182 (_P : Params) : Obj := ⟨.type "code", none, .fields (List.toArray [.str (Str.ofString "rest") 420, .str (Str.ofString "Gate.rest") 421, .str (Str.ofString "/claim/cut.py") 422, .int 88 0, .int 2 0, .int 0 0, .int 0 0, .int 3 0, .ref 177, .bool true, .int 181 0, .ref 178, .none, .ref 179, .ref 180, .ref 181, .int 425 0, .int 88 0, .str (Str.ofString "/claim/cut.py") 426]), List.toArray []⟩
noncomputable def o183 (_P : Params) : Obj := (fun (p : Arguments) (b : List Stmt) (s : Scope) (_ : (p, b, s) = fnP (inC (nthS pW.main.body 23) 1)) => (⟨.type "function", none, .func ⟨Str.ofString "rest", Str.ofString "Gate.rest", p, .stmts b, s, 3, [], .none, .none, .none, .str (Str.ofString "crcgate.gates") 394, none, .ref 182, .none, 0⟩, List.toArray []⟩ : Obj)) _ _ _ rfl
noncomputable def o184 (_P : Params) : Obj := ⟨.type "tuple", none, .seq (List.toArray []) 0, List.toArray []⟩
noncomputable def o186 (_P : Params) : Obj := ⟨.type "tuple", none, .seq (List.toArray [.str (Str.ofString "self") 431, .str (Str.ofString "rest") 432, .str (Str.ofString "many") 433, .str (Str.ofString "value") 434, .str (Str.ofString "number") 435, .str (Str.ofString "turn") 436]) 0, List.toArray []⟩
noncomputable def o187 (_P : Params) : Obj := ⟨.type "tuple", none, .seq (List.toArray []) 0, List.toArray []⟩
noncomputable def o189 (_P : Params) : Obj := ⟨.type "code", none, .fields (List.toArray [.str (Str.ofString "later") 428, .str (Str.ofString "Gate.later") 429, .str (Str.ofString "/claim/cut.py") 430, .int 91 0, .int 3 0, .int 0 0, .int 0 0, .int 3 0, .ref 184, .bool true, .int 181 0, .ref 185, .none, .ref 186, .ref 187, .ref 188, .int 437 0, .int 91 0, .str (Str.ofString "/claim/cut.py") 438]), List.toArray []⟩
noncomputable def o190 (_P : Params) : Obj := (fun (p : Arguments) (b : List Stmt) (s : Scope) (_ : (p, b, s) = fnP (inC (nthS pW.main.body 23) 2)) => (⟨.type "function", none, .func ⟨Str.ofString "later", Str.ofString "Gate.later", p, .stmts b, s, 3, [], .none, .none, .none, .str (Str.ofString "crcgate.gates") 394, none, .ref 189, .none, 0⟩, List.toArray []⟩ : Obj)) _ _ _ rfl
noncomputable def o191 (_P : Params) : Obj := ⟨.type "tuple", none, .seq (List.toArray []) 0, List.toArray []⟩
noncomputable def o193 (_P : Params) : Obj := ⟨.type "tuple", none, .seq (List.toArray [.str (Str.ofString "self") 443, .str (Str.ofString "row") 444]) 0, List.toArray []⟩
noncomputable def o194 (_P : Params) : Obj := ⟨.type "tuple", none, .seq (List.toArray []) 0, List.toArray []⟩
noncomputable def o196 (_P : Params) : Obj := ⟨.type "code", none, .fields (List.toArray [.str (Str.ofString "check") 440, .str (Str.ofString "Gate.check") 441, .str (Str.ofString "/claim/cut.py") 442, .int 103 0, .int 2 0, .int 0 0, .int 0 0, .int 3 0, .ref 191, .bool true, .int 181 0, .ref 192, .none, .ref 193, .ref 194, .ref 195, .int 445 0, .int 103 0, .str (Str.ofString "/claim/cut.py") 446]), List.toArray []⟩
noncomputable def o197 (_P : Params) : Obj := (fun (p : Arguments) (b : List Stmt) (s : Scope) (_ : (p, b, s) = fnP (inC (nthS pW.main.body 23) 3)) => (⟨.type "function", none, .func ⟨Str.ofString "check", Str.ofString "Gate.check", p, .stmts b, s, 3, [], .none, .none, .none, .str (Str.ofString "crcgate.gates") 394, none, .ref 196, .none, 0⟩, List.toArray []⟩ : Obj)) _ _ _ rfl
noncomputable def o198 (_P : Params) : Obj := ⟨.type "tuple", none, .seq (List.toArray []) 0, List.toArray []⟩
noncomputable def o200 (_P : Params) : Obj := ⟨.type "tuple", none, .seq (List.toArray [.str (Str.ofString "self") 451, .str (Str.ofString "row") 452]) 0, List.toArray []⟩
noncomputable def o201 (_P : Params) : Obj := ⟨.type "tuple", none, .seq (List.toArray []) 0, List.toArray []⟩
noncomputable def o203 (_P : Params) : Obj := ⟨.type "code", none, .fields (List.toArray [.str (Str.ofString "sealed") 448, .str (Str.ofString "Gate.sealed") 449, .str (Str.ofString "/claim/cut.py") 450, .int 106 0, .int 2 0, .int 0 0, .int 0 0, .int 3 0, .ref 198, .bool true, .int 181 0, .ref 199, .none, .ref 200, .ref 201, .ref 202, .int 453 0, .int 106 0, .str (Str.ofString "/claim/cut.py") 454]), List.toArray []⟩
noncomputable def o204 (_P : Params) : Obj := (fun (p : Arguments) (b : List Stmt) (s : Scope) (_ : (p, b, s) = fnP (inC (nthS pW.main.body 23) 4)) => (⟨.type "function", none, .func ⟨Str.ofString "sealed", Str.ofString "Gate.sealed", p, .stmts b, s, 3, [], .none, .none, .none, .str (Str.ofString "crcgate.gates") 394, none, .ref 203, .none, 0⟩, List.toArray []⟩ : Obj)) _ _ _ rfl
noncomputable def o205 (_P : Params) : Obj := ⟨.type "tuple", none, .seq (List.toArray []) 0, List.toArray []⟩
noncomputable def o207 (_P : Params) : Obj := ⟨.type "tuple", none, .seq (List.toArray [.str (Str.ofString "self") 459, .str (Str.ofString "row") 460]) 0, List.toArray []⟩
noncomputable def o208 (_P : Params) : Obj := ⟨.type "tuple", none, .seq (List.toArray []) 0, List.toArray []⟩
noncomputable def o210 (_P : Params) : Obj := ⟨.type "code", none, .fields (List.toArray [.str (Str.ofString "holds") 456, .str (Str.ofString "Gate.holds") 457, .str (Str.ofString "/claim/cut.py") 458, .int 109 0, .int 2 0, .int 0 0, .int 0 0, .int 3 0, .ref 205, .bool true, .int 181 0, .ref 206, .none, .ref 207, .ref 208, .ref 209, .int 461 0, .int 109 0, .str (Str.ofString "/claim/cut.py") 462]), List.toArray []⟩
noncomputable def o211 (_P : Params) : Obj := (fun (p : Arguments) (b : List Stmt) (s : Scope) (_ : (p, b, s) = fnP (inC (nthS pW.main.body 23) 5)) => (⟨.type "function", none, .func ⟨Str.ofString "holds", Str.ofString "Gate.holds", p, .stmts b, s, 3, [], .none, .none, .none, .str (Str.ofString "crcgate.gates") 394, none, .ref 210, .none, 0⟩, List.toArray []⟩ : Obj)) _ _ _ rfl
noncomputable def o212 (_P : Params) : Obj := ⟨.type "tuple", none, .seq (List.toArray []) 0, List.toArray []⟩
noncomputable def o214 (_P : Params) : Obj := ⟨.type "tuple", none, .seq (List.toArray [.str (Str.ofString "self") 467, .str (Str.ofString "row") 468]) 0, List.toArray []⟩
noncomputable def o215 (_P : Params) : Obj := ⟨.type "tuple", none, .seq (List.toArray []) 0, List.toArray []⟩
noncomputable def o217 (_P : Params) : Obj := ⟨.type "code", none, .fields (List.toArray [.str (Str.ofString "opened") 464, .str (Str.ofString "Gate.opened") 465, .str (Str.ofString "/claim/cut.py") 466, .int 117 0, .int 2 0, .int 0 0, .int 0 0, .int 3 0, .ref 212, .bool true, .int 181 0, .ref 213, .none, .ref 214, .ref 215, .ref 216, .int 469 0, .int 117 0, .str (Str.ofString "/claim/cut.py") 470]), List.toArray []⟩
noncomputable def o218 (_P : Params) : Obj := (fun (p : Arguments) (b : List Stmt) (s : Scope) (_ : (p, b, s) = fnP (inC (nthS pW.main.body 23) 6)) => (⟨.type "function", none, .func ⟨Str.ofString "opened", Str.ofString "Gate.opened", p, .stmts b, s, 3, [], .none, .none, .none, .str (Str.ofString "crcgate.gates") 394, none, .ref 217, .none, 0⟩, List.toArray []⟩ : Obj)) _ _ _ rfl
noncomputable def o219 (_P : Params) : Obj := ⟨.type "tuple", none, .seq (List.toArray []) 0, List.toArray []⟩
noncomputable def o221 (_P : Params) : Obj := ⟨.type "tuple", none, .seq (List.toArray [.str (Str.ofString "self") 475, .str (Str.ofString "row") 476]) 0, List.toArray []⟩
noncomputable def o222 (_P : Params) : Obj := ⟨.type "tuple", none, .seq (List.toArray []) 0, List.toArray []⟩
noncomputable def o224 (_P : Params) : Obj := ⟨.type "code", none, .fields (List.toArray [.str (Str.ofString "mended") 472, .str (Str.ofString "Gate.mended") 473, .str (Str.ofString "/claim/cut.py") 474, .int 122 0, .int 2 0, .int 0 0, .int 0 0, .int 3 0, .ref 219, .bool true, .int 181 0, .ref 220, .none, .ref 221, .ref 222, .ref 223, .int 477 0, .int 122 0, .str (Str.ofString "/claim/cut.py") 478]), List.toArray []⟩
noncomputable def o225 (_P : Params) : Obj := (fun (p : Arguments) (b : List Stmt) (s : Scope) (_ : (p, b, s) = fnP (inC (nthS pW.main.body 23) 7)) => (⟨.type "function", none, .func ⟨Str.ofString "mended", Str.ofString "Gate.mended", p, .stmts b, s, 3, [], .none, .none, .none, .str (Str.ofString "crcgate.gates") 394, none, .ref 224, .none, 0⟩, List.toArray []⟩ : Obj)) _ _ _ rfl
noncomputable def o226 (_P : Params) : Obj := ⟨.type "tuple", none, .seq (List.toArray [.str (Str.ofString "divisor") 480, .str (Str.ofString "even") 481, .str (Str.ofString "reach") 482, .str (Str.ofString "width") 483]) 0, List.toArray []⟩
noncomputable def o227 (P : Params) : Obj := ⟨.type "dict", none, .dict (List.toArray [⟨PyData.keyHash P (Str.ofString "__module__"), .str (Str.ofString "__module__") 407, .str (Str.ofString "crcgate.gates") 394⟩, ⟨PyData.keyHash P (Str.ofString "__firstlineno__"), .str (Str.ofString "__firstlineno__") 411, .int 80 410⟩, ⟨PyData.keyHash P (Str.ofString "__init__"), .str (Str.ofString "__init__") 419, .ref 176⟩, ⟨PyData.keyHash P (Str.ofString "rest"), .str (Str.ofString "rest") 427, .ref 183⟩, ⟨PyData.keyHash P (Str.ofString "later"), .str (Str.ofString "later") 439, .ref 190⟩, ⟨PyData.keyHash P (Str.ofString "check"), .str (Str.ofString "check") 447, .ref 197⟩, ⟨PyData.keyHash P (Str.ofString "sealed"), .str (Str.ofString "sealed") 455, .ref 204⟩, ⟨PyData.keyHash P (Str.ofString "holds"), .str (Str.ofString "holds") 463, .ref 211⟩, ⟨PyData.keyHash P (Str.ofString "opened"), .str (Str.ofString "opened") 471, .ref 218⟩, ⟨PyData.keyHash P (Str.ofString "mended"), .str (Str.ofString "mended") 479, .ref 225⟩, ⟨PyData.keyHash P (Str.ofString "__static_attributes__"), .str (Str.ofString "__static_attributes__") 484, .ref 226⟩, ⟨PyData.keyHash P (Str.ofString "__dict__"), .str (Str.ofString "__dict__") 486, .ref 229⟩, ⟨PyData.keyHash P (Str.ofString "__weakref__"), .str (Str.ofString "__weakref__") 488, .ref 230⟩, ⟨PyData.keyHash P (Str.ofString "__doc__"), .str (Str.ofString "__doc__") 489, .none⟩]) 4, List.toArray []⟩
noncomputable def o228 (_P : Params) : Obj := ⟨.type "type", none, .cls ⟨Str.ofString "Gate", [.type "object"], [.ref 228, .type "object"], 227, Str.ofString "Gate", true, [], [], false, none, false⟩, List.toArray [none, none, some (.str (Str.ofString "Gate") 400), some (.str (Str.ofString "Gate") 408), some (.builtin "object.__new__"), some (.bool true)]⟩
noncomputable def o229 (_P : Params) : Obj := ⟨.type "getset_descriptor", none, .fields (List.toArray [.str (Str.ofString "__dict__") 485, .ref 228, .builtin "function.__dict__", .builtin "function.__dict__#set"]), List.toArray []⟩
noncomputable def o230 (_P : Params) : Obj := ⟨.type "getset_descriptor", none, .fields (List.toArray [.str (Str.ofString "__weakref__") 487, .ref 228, .builtin "ExceptionGroup.__weakref__", .none]), List.toArray []⟩
noncomputable def o233 (_P : Params) : Obj := ⟨.type "tuple", none, .seq (List.toArray []) 0, List.toArray []⟩
noncomputable def o235 (_P : Params) : Obj := ⟨.type "tuple", none, .seq (List.toArray [.str (Str.ofString "_law_script") 497, .str (Str.ofString "_law_k") 498]) 0, List.toArray []⟩
noncomputable def o236 (_P : Params) : Obj := ⟨.type "tuple", none, .seq (List.toArray []) 0, List.toArray []⟩
noncomputable def o238 (_P : Params) : Obj := ⟨.type "code", none, .fields (List.toArray [.str (Str.ofString "_law_cell_at") 494, .str (Str.ofString "_law_cell_at") 495, .str (Str.ofString "/claim/cut.py") 496, .int 125 0, .int 2 0, .int 0 0, .int 0 0, .int 3 0, .ref 233, .bool true, .int 181 0, .ref 234, .none, .ref 235, .ref 236, .ref 237, .int 499 0, .int 125 0, .str (Str.ofString "/claim/cut.py") 500]), List.toArray []⟩
noncomputable def o239 (_P : Params) : Obj := (fun (p : Arguments) (b : List Stmt) (s : Scope) (_ : (p, b, s) = fnP (nthS pW.main.body 25)) => (⟨.type "function", none, .func ⟨Str.ofString "_law_cell_at", Str.ofString "_law_cell_at", p, .stmts b, s, 3, [], .none, .none, .none, .str (Str.ofString "law_uf040037_09") 492, none, .ref 238, .none, 0⟩, List.toArray []⟩ : Obj)) _ _ _ rfl
noncomputable def o240 (_P : Params) : Obj := ⟨.type "tuple", none, .seq (List.toArray []) 0, List.toArray []⟩
noncomputable def o243 (_P : Params) : Obj := ⟨.type "code", none, .fields (List.toArray [.str (Str.ofString "_law_row_by") 502, .str (Str.ofString "_law_row_by") 503, .str (Str.ofString "/claim/cut.py") 504, .int 129 0, .int 2 0, .int 0 0, .int 0 0, .int 3 0, .ref 240, .bool true, .int 181 0, .ref 241, .none, .none, .none, .ref 242, .int 505 0, .int 129 0, .str (Str.ofString "/claim/cut.py") 506]), List.toArray []⟩
noncomputable def o244 (_P : Params) : Obj := (fun (p : Arguments) (b : List Stmt) (s : Scope) (_ : (p, b, s) = fnP (nthS pW.main.body 26)) => (⟨.type "function", none, .func ⟨Str.ofString "_law_row_by", Str.ofString "_law_row_by", p, .stmts b, s, 3, [], .none, .none, .none, .str (Str.ofString "law_uf040037_09") 492, none, .ref 243, .none, 0⟩, List.toArray []⟩ : Obj)) _ _ _ rfl
noncomputable def o245 (_P : Params) : Obj := ⟨.type "tuple", none, .seq (List.toArray []) 0, List.toArray []⟩
noncomputable def o248 (_P : Params) : Obj := ⟨.type "code", none, .fields (List.toArray [.str (Str.ofString "_law_is_row") 508, .str (Str.ofString "_law_is_row") 509, .str (Str.ofString "/claim/cut.py") 510, .int 142 0, .int 2 0, .int 0 0, .int 0 0, .int 3 0, .ref 245, .bool true, .int 181 0, .ref 246, .none, .none, .none, .ref 247, .int 511 0, .int 142 0, .str (Str.ofString "/claim/cut.py") 512]), List.toArray []⟩
noncomputable def o249 (_P : Params) : Obj := (fun (p : Arguments) (b : List Stmt) (s : Scope) (_ : (p, b, s) = fnP (nthS pW.main.body 27)) => (⟨.type "function", none, .func ⟨Str.ofString "_law_is_row", Str.ofString "_law_is_row", p, .stmts b, s, 3, [], .none, .none, .none, .str (Str.ofString "law_uf040037_09") 492, none, .ref 248, .none, 0⟩, List.toArray []⟩ : Obj)) _ _ _ rfl
noncomputable def o250 (_P : Params) : Obj := ⟨.type "tuple", none, .seq (List.toArray []) 0, List.toArray []⟩
noncomputable def o253 (_P : Params) : Obj := ⟨.type "code", none, .fields (List.toArray [.str (Str.ofString "_law_step_by") 514, .str (Str.ofString "_law_step_by") 515, .str (Str.ofString "/claim/cut.py") 516, .int 146 0, .int 3 0, .int 0 0, .int 0 0, .int 3 0, .ref 250, .bool true, .int 181 0, .ref 251, .none, .none, .none, .ref 252, .int 517 0, .int 146 0, .str (Str.ofString "/claim/cut.py") 518]), List.toArray []⟩
noncomputable def o254 (_P : Params) : Obj := (fun (p : Arguments) (b : List Stmt) (s : Scope) (_ : (p, b, s) = fnP (nthS pW.main.body 28)) => (⟨.type "function", none, .func ⟨Str.ofString "_law_step_by", Str.ofString "_law_step_by", p, .stmts b, s, 3, [], .none, .none, .none, .str (Str.ofString "law_uf040037_09") 492, none, .ref 253, .none, 0⟩, List.toArray []⟩ : Obj)) _ _ _ rfl
noncomputable def o255 (_P : Params) : Obj := ⟨.type "tuple", none, .seq (List.toArray []) 0, List.toArray []⟩
noncomputable def o257 (_P : Params) : Obj := ⟨.type "tuple", none, .seq (List.toArray [.str (Str.ofString "_law_row_here") 523, .str (Str.ofString "_law_divisor") 524, .str (Str.ofString "_law_rest") 525, .str (Str.ofString "_law_sign") 526]) 0, List.toArray []⟩
noncomputable def o258 (_P : Params) : Obj := ⟨.type "tuple", none, .seq (List.toArray []) 0, List.toArray []⟩
noncomputable def o260 (_P : Params) : Obj := ⟨.type "code", none, .fields (List.toArray [.str (Str.ofString "_law_rest_by") 520, .str (Str.ofString "_law_rest_by") 521, .str (Str.ofString "/claim/cut.py") 522, .int 151 0, .int 2 0, .int 0 0, .int 0 0, .int 3 0, .ref 255, .bool true, .int 181 0, .ref 256, .none, .ref 257, .ref 258, .ref 259, .int 527 0, .int 151 0, .str (Str.ofString "/claim/cut.py") 528]), List.toArray []⟩
noncomputable def o261 (_P : Params) : Obj := (fun (p : Arguments) (b : List Stmt) (s : Scope) (_ : (p, b, s) = fnP (nthS pW.main.body 29)) => (⟨.type "function", none, .func ⟨Str.ofString "_law_rest_by", Str.ofString "_law_rest_by", p, .stmts b, s, 3, [], .none, .none, .none, .str (Str.ofString "law_uf040037_09") 492, none, .ref 260, .none, 0⟩, List.toArray []⟩ : Obj)) _ _ _ rfl
noncomputable def o262 (_P : Params) : Obj := ⟨.type "tuple", none, .seq (List.toArray []) 0, List.toArray []⟩
noncomputable def o264 (_P : Params) : Obj := ⟨.type "tuple", none, .seq (List.toArray [.str (Str.ofString "_law_cell") 533, .str (Str.ofString "_law_bits") 534, .str (Str.ofString "_law_width") 535, .str (Str.ofString "_law_inner") 536, .str (Str.ofString "_law_k") 537]) 0, List.toArray []⟩
noncomputable def o265 (_P : Params) : Obj := ⟨.type "tuple", none, .seq (List.toArray []) 0, List.toArray []⟩
noncomputable def o267 (_P : Params) : Obj := ⟨.type "code", none, .fields (List.toArray [.str (Str.ofString "_law_divisor_by") 530, .str (Str.ofString "_law_divisor_by") 531, .str (Str.ofString "/claim/cut.py") 532, .int 156 0, .int 2 0, .int 0 0, .int 0 0, .int 3 0, .ref 262, .bool true, .int 181 0, .ref 263, .none, .ref 264, .ref 265, .ref 266, .int 538 0, .int 156 0, .str (Str.ofString "/claim/cut.py") 539]), List.toArray []⟩
noncomputable def o268 (_P : Params) : Obj := (fun (p : Arguments) (b : List Stmt) (s : Scope) (_ : (p, b, s) = fnP (nthS pW.main.body 30)) => (⟨.type "function", none, .func ⟨Str.ofString "_law_divisor_by", Str.ofString "_law_divisor_by", p, .stmts b, s, 3, [], .none, .none, .none, .str (Str.ofString "law_uf040037_09") 492, none, .ref 267, .none, 0⟩, List.toArray []⟩ : Obj)) _ _ _ rfl
noncomputable def o269 (_P : Params) : Obj := ⟨.type "tuple", none, .seq (List.toArray []) 0, List.toArray []⟩
noncomputable def o271 (_P : Params) : Obj := ⟨.type "tuple", none, .seq (List.toArray [.str (Str.ofString "_law_divisor") 544, .str (Str.ofString "_law_begin") 545, .str (Str.ofString "_law_rest") 546, .str (Str.ofString "_law_many") 547]) 0, List.toArray []⟩
noncomputable def o272 (_P : Params) : Obj := ⟨.type "tuple", none, .seq (List.toArray []) 0, List.toArray []⟩
noncomputable def o274 (_P : Params) : Obj := ⟨.type "code", none, .fields (List.toArray [.str (Str.ofString "_law_reach_by") 541, .str (Str.ofString "_law_reach_by") 542, .str (Str.ofString "/claim/cut.py") 543, .int 167 0, .int 1 0, .int 0 0, .int 0 0, .int 3 0, .ref 269, .bool true, .int 181 0, .ref 270, .none, .ref 271, .ref 272, .ref 273, .int 548 0, .int 167 0, .str (Str.ofString "/claim/cut.py") 549]), List.toArray []⟩
noncomputable def o275 (_P : Params) : Obj := (fun (p : Arguments) (b : List Stmt) (s : Scope) (_ : (p, b, s) = fnP (nthS pW.main.body 31)) => (⟨.type "function", none, .func ⟨Str.ofString "_law_reach_by", Str.ofString "_law_reach_by", p, .stmts b, s, 3, [], .none, .none, .none, .str (Str.ofString "law_uf040037_09") 492, none, .ref 274, .none, 0⟩, List.toArray []⟩ : Obj)) _ _ _ rfl
noncomputable def o276 (_P : Params) : Obj := ⟨.type "tuple", none, .seq (List.toArray []) 0, List.toArray []⟩
noncomputable def o278 (_P : Params) : Obj := ⟨.type "tuple", none, .seq (List.toArray [.str (Str.ofString "_law_gate") 554, .str (Str.ofString "_law_row_here") 555, .str (Str.ofString "_law_opens") 556]) 0, List.toArray []⟩
noncomputable def o279 (_P : Params) : Obj := ⟨.type "tuple", none, .seq (List.toArray []) 0, List.toArray []⟩
noncomputable def o281 (_P : Params) : Obj := ⟨.type "code", none, .fields (List.toArray [.str (Str.ofString "_law_words") 551, .str (Str.ofString "_law_words") 552, .str (Str.ofString "/claim/cut.py") 553, .int 175 0, .int 3 0, .int 0 0, .int 0 0, .int 3 0, .ref 276, .bool true, .int 181 0, .ref 277, .none, .ref 278, .ref 279, .ref 280, .int 557 0, .int 175 0, .str (Str.ofString "/claim/cut.py") 558]), List.toArray []⟩
noncomputable def o282 (_P : Params) : Obj := (fun (p : Arguments) (b : List Stmt) (s : Scope) (_ : (p, b, s) = fnP (nthS pW.main.body 32)) => (⟨.type "function", none, .func ⟨Str.ofString "_law_words", Str.ofString "_law_words", p, .stmts b, s, 3, [], .none, .none, .none, .str (Str.ofString "law_uf040037_09") 492, none, .ref 281, .none, 0⟩, List.toArray []⟩ : Obj)) _ _ _ rfl
noncomputable def o283 (_P : Params) : Obj := ⟨.type "tuple", none, .seq (List.toArray []) 0, List.toArray []⟩
noncomputable def o285 (_P : Params) : Obj := ⟨.type "tuple", none, .seq (List.toArray [.str (Str.ofString "_law_gate") 563, .str (Str.ofString "_law_row_here") 564, .str (Str.ofString "e") 565]) 0, List.toArray []⟩
noncomputable def o286 (_P : Params) : Obj := ⟨.type "tuple", none, .seq (List.toArray []) 0, List.toArray []⟩
noncomputable def o288 (_P : Params) : Obj := ⟨.type "code", none, .fields (List.toArray [.str (Str.ofString "_law_any") 560, .str (Str.ofString "_law_any") 561, .str (Str.ofString "/claim/cut.py") 562, .int 188 0, .int 2 0, .int 0 0, .int 0 0, .int 3 0, .ref 283, .bool true, .int 181 0, .ref 284, .none, .ref 285, .ref 286, .ref 287, .int 566 0, .int 188 0, .str (Str.ofString "/claim/cut.py") 567]), List.toArray []⟩
noncomputable def o289 (_P : Params) : Obj := (fun (p : Arguments) (b : List Stmt) (s : Scope) (_ : (p, b, s) = fnP (nthS pW.main.body 33)) => (⟨.type "function", none, .func ⟨Str.ofString "_law_any", Str.ofString "_law_any", p, .stmts b, s, 3, [], .none, .none, .none, .str (Str.ofString "law_uf040037_09") 492, none, .ref 288, .none, 0⟩, List.toArray []⟩ : Obj)) _ _ _ rfl
noncomputable def o290 (_P : Params) : Obj := ⟨.type "tuple", none, .seq (List.toArray []) 0, List.toArray []⟩
noncomputable def o292 (_P : Params) : Obj := ⟨.type "tuple", none, .seq (List.toArray [.str (Str.ofString "_law_cell") 572, .str (Str.ofString "_law_more") 573, .str (Str.ofString "_law_seals") 574, .str (Str.ofString "_law_divisor") 575, .str (Str.ofString "_law_most") 576, .str (Str.ofString "_law_width") 577, .str (Str.ofString "_law_size") 578, .str (Str.ofString "_law_row_here") 579]) 0, List.toArray []⟩
noncomputable def o293 (_P : Params) : Obj := ⟨.type "tuple", none, .seq (List.toArray []) 0, List.toArray []⟩
noncomputable def o295 (_P : Params) : Obj := ⟨.type "code", none, .fields (List.toArray [.str (Str.ofString "_law_row") 569, .str (Str.ofString "_law_row") 570, .str (Str.ofString "/claim/cut.py") 571, .int 194 0, .int 5 0, .int 0 0, .int 0 0, .int 3 0, .ref 290, .bool true, .int 181 0, .ref 291, .none, .ref 292, .ref 293, .ref 294, .int 580 0, .int 194 0, .str (Str.ofString "/claim/cut.py") 581]), List.toArray []⟩
noncomputable def o296 (_P : Params) : Obj := (fun (p : Arguments) (b : List Stmt) (s : Scope) (_ : (p, b, s) = fnP (nthS pW.main.body 34)) => (⟨.type "function", none, .func ⟨Str.ofString "_law_row", Str.ofString "_law_row", p, .stmts b, s, 3, [], .none, .none, .none, .str (Str.ofString "law_uf040037_09") 492, none, .ref 295, .none, 0⟩, List.toArray []⟩ : Obj)) _ _ _ rfl
noncomputable def o297 (_P : Params) : Obj := ⟨.type "tuple", none, .seq (List.toArray []) 0, List.toArray []⟩
noncomputable def o299 (_P : Params) : Obj := ⟨.type "tuple", none, .seq (List.toArray [.str (Str.ofString "_law_gate") 586, .str (Str.ofString "_law_divisor") 587, .str (Str.ofString "_law_most") 588, .str (Str.ofString "_law_row_here") 589, .str (Str.ofString "_law_turned") 590, .str (Str.ofString "_law_held") 591, .str (Str.ofString "_law_size") 592, .str (Str.ofString "_law_width") 593, .str (Str.ofString "_law_mine") 594, .str (Str.ofString "_law_due") 595, .str (Str.ofString "_law_holds") 596, .str (Str.ofString "_law_told") 597, .str (Str.ofString "_law_found") 598]) 0, List.toArray []⟩
noncomputable def o300 (_P : Params) : Obj := ⟨.type "tuple", none, .seq (List.toArray []) 0, List.toArray []⟩
noncomputable def o302 (_P : Params) : Obj := ⟨.type "code", none, .fields (List.toArray [.str (Str.ofString "_law_asked") 583, .str (Str.ofString "_law_asked") 584, .str (Str.ofString "/claim/cut.py") 585, .int 204 0, .int 6 0, .int 0 0, .int 0 0, .int 3 0, .ref 297, .bool true, .int 181 0, .ref 298, .none, .ref 299, .ref 300, .ref 301, .int 599 0, .int 204 0, .str (Str.ofString "/claim/cut.py") 600]), List.toArray []⟩
noncomputable def o303 (_P : Params) : Obj := (fun (p : Arguments) (b : List Stmt) (s : Scope) (_ : (p, b, s) = fnP (nthS pW.main.body 35)) => (⟨.type "function", none, .func ⟨Str.ofString "_law_asked", Str.ofString "_law_asked", p, .stmts b, s, 3, [], .none, .none, .none, .str (Str.ofString "law_uf040037_09") 492, none, .ref 302, .none, 0⟩, List.toArray []⟩ : Obj)) _ _ _ rfl
noncomputable def o304 (_P : Params) : Obj := ⟨.type "tuple", none, .seq (List.toArray []) 0, List.toArray []⟩
noncomputable def o306 (_P : Params) : Obj := ⟨.type "tuple", none, .seq (List.toArray [.str (Str.ofString "_law_held") 605, .str (Str.ofString "_law_found") 606, .str (Str.ofString "_law_copy") 607]) 0, List.toArray []⟩
noncomputable def o307 (_P : Params) : Obj := ⟨.type "tuple", none, .seq (List.toArray []) 0, List.toArray []⟩
noncomputable def o309 (_P : Params) : Obj := ⟨.type "code", none, .fields (List.toArray [.str (Str.ofString "_law_kept") 602, .str (Str.ofString "_law_kept") 603, .str (Str.ofString "/claim/cut.py") 604, .int 231 0, .int 1 0, .int 0 0, .int 0 0, .int 3 0, .ref 304, .bool true, .int 181 0, .ref 305, .none, .ref 306, .ref 307, .ref 308, .int 608 0, .int 231 0, .str (Str.ofString "/claim/cut.py") 609]), List.toArray []⟩
noncomputable def o310 (_P : Params) : Obj := (fun (p : Arguments) (b : List Stmt) (s : Scope) (_ : (p, b, s) = fnP (nthS pW.main.body 36)) => (⟨.type "function", none, .func ⟨Str.ofString "_law_kept", Str.ofString "_law_kept", p, .stmts b, s, 3, [], .none, .none, .none, .str (Str.ofString "law_uf040037_09") 492, none, .ref 309, .none, 0⟩, List.toArray []⟩ : Obj)) _ _ _ rfl
noncomputable def o311 (_P : Params) : Obj := ⟨.type "tuple", none, .seq (List.toArray []) 0, List.toArray []⟩
noncomputable def o313 (_P : Params) : Obj := ⟨.type "tuple", none, .seq (List.toArray [.str (Str.ofString "_law_script") 614, .str (Str.ofString "_law_divisor") 615, .str (Str.ofString "_law_most") 616, .str (Str.ofString "_law_seals") 617, .str (Str.ofString "_law_one") 618, .str (Str.ofString "_law_other") 619, .str (Str.ofString "_law_gate") 620, .str (Str.ofString "_law_held") 621, .str (Str.ofString "_law_first") 622, .str (Str.ofString "_law_row_here") 623, .str (Str.ofString "_law_turned") 624]) 0, List.toArray []⟩
noncomputable def o314 (_P : Params) : Obj := ⟨.type "tuple", none, .seq (List.toArray []) 0, List.toArray []⟩
noncomputable def o316 (_P : Params) : Obj := ⟨.type "code", none, .fields (List.toArray [.str (Str.ofString "law") 611, .str (Str.ofString "law") 612, .str (Str.ofString "/claim/cut.py") 613, .int 236 0, .int 1 0, .int 0 0, .int 0 0, .int 3 0, .ref 311, .bool true, .int 181 0, .ref 312, .none, .ref 313, .ref 314, .ref 315, .int 625 0, .int 236 0, .str (Str.ofString "/claim/cut.py") 626]), List.toArray []⟩
noncomputable def o317 (_P : Params) : Obj := (fun (p : Arguments) (b : List Stmt) (s : Scope) (_ : (p, b, s) = fnP (nthS pW.main.body 37)) => (⟨.type "function", none, .func ⟨Str.ofString "law", Str.ofString "law", p, .stmts b, s, 3, [], .none, .none, .none, .str (Str.ofString "law_uf040037_09") 492, none, .ref 316, .none, 0⟩, List.toArray []⟩ : Obj)) _ _ _ rfl
noncomputable def KK : Params → Frag := fun P => (nat_lit 2, o2 P) :: (nat_lit 3, o3 P) :: (nat_lit 15, o15 P) :: (nat_lit 17, o17 P) :: (nat_lit 18, o18 P) :: (nat_lit 20, o20 P) :: (nat_lit 21, o21 P) :: (nat_lit 22, o22 P) :: (nat_lit 29, o29 P) :: (nat_lit 30, o30 P) :: (nat_lit 31, o31 P) :: (nat_lit 32, o32 P) :: (nat_lit 35, o35 P) :: (nat_lit 42, o42 P) :: (nat_lit 43, o43 P) :: (nat_lit 44, o44 P) :: (nat_lit 47, o47 P) :: (nat_lit 54, o54 P) :: (nat_lit 55, o55 P) :: (nat_lit 56, o56 P) :: (nat_lit 59, o59 P) :: (nat_lit 66, o66 P) :: (nat_lit 67, o67 P) :: (nat_lit 68, o68 P) :: (nat_lit 71, o71 P) :: (nat_lit 78, o78 P) :: (nat_lit 79, o79 P) :: (nat_lit 80, o80 P) :: (nat_lit 83, o83 P) :: (nat_lit 90, o90 P) :: (nat_lit 91, o91 P) :: (nat_lit 92, o92 P) :: (nat_lit 95, o95 P) :: (nat_lit 102, o102 P) :: (nat_lit 103, o103 P) :: (nat_lit 104, o104 P) :: (nat_lit 107, o107 P) :: (nat_lit 109, o109 P) :: (nat_lit 110, o110 P) :: (nat_lit 112, o112 P) :: (nat_lit 113, o113 P) :: (nat_lit 114, o114 P) :: (nat_lit 116, o116 P) :: (nat_lit 117, o117 P) :: (nat_lit 119, o119 P) :: (nat_lit 120, o120 P) :: (nat_lit 121, o121 P) :: (nat_lit 123, o123 P) :: (nat_lit 124, o124 P) :: (nat_lit 126, o126 P) :: (nat_lit 127, o127 P) :: (nat_lit 128, o128 P) :: (nat_lit 130, o130 P) :: (nat_lit 131, o131 P) :: (nat_lit 133, o133 P) :: (nat_lit 134, o134 P) :: (nat_lit 135, o135 P) :: (nat_lit 137, o137 P) :: (nat_lit 138, o138 P) :: (nat_lit 140, o140 P) :: (nat_lit 141, o141 P) :: (nat_lit 142, o142 P) :: (nat_lit 144, o144 P) :: (nat_lit 145, o145 P) :: (nat_lit 147, o147 P) :: (nat_lit 148, o148 P) :: (nat_lit 149, o149 P) :: (nat_lit 151, o151 P) :: (nat_lit 152, o152 P) :: (nat_lit 154, o154 P) :: (nat_lit 155, o155 P) :: (nat_lit 156, o156 P) :: (nat_lit 158, o158 P) :: (nat_lit 159, o159 P) :: (nat_lit 161, o161 P) :: (nat_lit 162, o162 P) :: (nat_lit 170, o170 P) :: (nat_lit 172, o172 P) :: (nat_lit 173, o173 P) :: (nat_lit 175, o175 P) :: (nat_lit 176, o176 P) :: (nat_lit 177, o177 P) :: (nat_lit 179, o179 P) :: (nat_lit 180, o180 P) :: (nat_lit 182, o182 P) :: (nat_lit 183, o183 P) :: (nat_lit 184, o184 P) :: (nat_lit 186, o186 P) :: (nat_lit 187, o187 P) :: (nat_lit 189, o189 P) :: (nat_lit 190, o190 P) :: (nat_lit 191, o191 P) :: (nat_lit 193, o193 P) :: (nat_lit 194, o194 P) :: (nat_lit 196, o196 P) :: (nat_lit 197, o197 P) :: (nat_lit 198, o198 P) :: (nat_lit 200, o200 P) :: (nat_lit 201, o201 P) :: (nat_lit 203, o203 P) :: (nat_lit 204, o204 P) :: (nat_lit 205, o205 P) :: (nat_lit 207, o207 P) :: (nat_lit 208, o208 P) :: (nat_lit 210, o210 P) :: (nat_lit 211, o211 P) :: (nat_lit 212, o212 P) :: (nat_lit 214, o214 P) :: (nat_lit 215, o215 P) :: (nat_lit 217, o217 P) :: (nat_lit 218, o218 P) :: (nat_lit 219, o219 P) :: (nat_lit 221, o221 P) :: (nat_lit 222, o222 P) :: (nat_lit 224, o224 P) :: (nat_lit 225, o225 P) :: (nat_lit 226, o226 P) :: (nat_lit 227, o227 P) :: (nat_lit 228, o228 P) :: (nat_lit 229, o229 P) :: (nat_lit 230, o230 P) :: (nat_lit 233, o233 P) :: (nat_lit 235, o235 P) :: (nat_lit 236, o236 P) :: (nat_lit 238, o238 P) :: (nat_lit 239, o239 P) :: (nat_lit 240, o240 P) :: (nat_lit 243, o243 P) :: (nat_lit 244, o244 P) :: (nat_lit 245, o245 P) :: (nat_lit 248, o248 P) :: (nat_lit 249, o249 P) :: (nat_lit 250, o250 P) :: (nat_lit 253, o253 P) :: (nat_lit 254, o254 P) :: (nat_lit 255, o255 P) :: (nat_lit 257, o257 P) :: (nat_lit 258, o258 P) :: (nat_lit 260, o260 P) :: (nat_lit 261, o261 P) :: (nat_lit 262, o262 P) :: (nat_lit 264, o264 P) :: (nat_lit 265, o265 P) :: (nat_lit 267, o267 P) :: (nat_lit 268, o268 P) :: (nat_lit 269, o269 P) :: (nat_lit 271, o271 P) :: (nat_lit 272, o272 P) :: (nat_lit 274, o274 P) :: (nat_lit 275, o275 P) :: (nat_lit 276, o276 P) :: (nat_lit 278, o278 P) :: (nat_lit 279, o279 P) :: (nat_lit 281, o281 P) :: (nat_lit 282, o282 P) :: (nat_lit 283, o283 P) :: (nat_lit 285, o285 P) :: (nat_lit 286, o286 P) :: (nat_lit 288, o288 P) :: (nat_lit 289, o289 P) :: (nat_lit 290, o290 P) :: (nat_lit 292, o292 P) :: (nat_lit 293, o293 P) :: (nat_lit 295, o295 P) :: (nat_lit 296, o296 P) :: (nat_lit 297, o297 P) :: (nat_lit 299, o299 P) :: (nat_lit 300, o300 P) :: (nat_lit 302, o302 P) :: (nat_lit 303, o303 P) :: (nat_lit 304, o304 P) :: (nat_lit 306, o306 P) :: (nat_lit 307, o307 P) :: (nat_lit 309, o309 P) :: (nat_lit 310, o310 P) :: (nat_lit 311, o311 P) :: (nat_lit 313, o313 P) :: (nat_lit 314, o314 P) :: (nat_lit 316, o316 P) :: (nat_lit 317, o317 P) :: []
noncomputable def KAs : List Nat := [2, 3, 15, 17, 18, 20, 21, 22, 29, 30, 31, 32, 35, 42, 43, 44, 47, 54, 55, 56, 59, 66, 67, 68, 71, 78, 79, 80, 83, 90, 91, 92, 95, 102, 103, 104, 107, 109, 110, 112, 113, 114, 116, 117, 119, 120, 121, 123, 124, 126, 127, 128, 130, 131, 133, 134, 135, 137, 138, 140, 141, 142, 144, 145, 147, 148, 149, 151, 152, 154, 155, 156, 158, 159, 161, 162, 170, 172, 173, 175, 176, 177, 179, 180, 182, 183, 184, 186, 187, 189, 190, 191, 193, 194, 196, 197, 198, 200, 201, 203, 204, 205, 207, 208, 210, 211, 212, 214, 215, 217, 218, 219, 221, 222, 224, 225, 226, 227, 228, 229, 230, 233, 235, 236, 238, 239, 240, 243, 244, 245, 248, 249, 250, 253, 254, 255, 257, 258, 260, 261, 262, 264, 265, 267, 268, 269, 271, 272, 274, 275, 276, 278, 279, 281, 282, 283, 285, 286, 288, 289, 290, 292, 293, 295, 296, 297, 299, 300, 302, 303, 304, 306, 307, 309, 310, 311, 313, 314, 316, 317]

noncomputable def view : Program := (fun (l : List Stmt) (_ : l = pickS pW.main.body [0, 2, 3, 4, 5, 6, 7, 8, 10, 11, 12, 13, 14, 16, 17, 18, 19, 20, 22, 23, 25, 26, 27, 28, 29, 30, 31, 32, 33, 34, 35, 36, 37]) => ({ pW with main := { pW.main with body := l } } : Program)) [_, _, _, _, _, _, _, _, _, _, _, _, _, _, _, _, _, _, _, _, _, _, _, _, _, _, _, _, _, _, _, _, _] rfl
theorem kk_as : ∀ P, KAs = (KK P).map (·.1) := fun _ => by kernel_rfl
noncomputable abbrev kkHook : Hook := kHook KK KAs kk_as
noncomputable def ev41 : Env := ⟨PySem.Module.scope (PySem.Program.main PySem.Challenge.rw_uf040037_09.row.prog), PySem.mainNs, PySem.mainNs, [], PySem.Str.empty, none, .ref 13, some 14, 0⟩
noncomputable def v43 (_P : Params) : PySem.Obj := ⟨.type "tuple", none, .seq (List.toArray []) 0, List.toArray []⟩
noncomputable def v44 (_P : Params) : PySem.Obj := ⟨.none, none, .fields (List.toArray []), List.toArray []⟩
noncomputable def v45 (_P : Params) : PySem.Obj := ⟨.type "code", none, .fields (List.toArray [.str (Str.ofString "<module>") 182, .str (Str.ofString "<module>") 183, .str (Str.ofString "/claim/cut.py") 184, .int 1 0, .int 0 0, .int 0 0, .int 0 0, .int 0 0, .ref 11, .bool false, .int 181 0, .ref 12, .none, .none, .none, .none, .int 185 0, .int 1 0, .str (Str.ofString "/claim/cut.py") 186]), List.toArray []⟩
noncomputable def v46 (_P : Params) : PySem.Obj := ⟨.type "frame", none, .plain, List.toArray [some (.ref 13), some (.ref 3), some (.ref 3), none, some (.str (Str.ofString "__main__") 164), none, some (.ref 0)]⟩
noncomputable def hp46 (P : Params) : PySem.Heap := ⟨⟨[PySem.W.boot_o_0 P, PySem.W.boot_o_1 P, PySem.W.boot_o_2 P, PySem.W.boot_o_3 P, PySem.W.boot_o_4 P, PySem.W.boot_o_5 P, PySem.W.boot_o_6 P, PySem.W.boot_o_7 P, PySem.W.boot_o_8 P, PySem.W.boot_o_9 P, PySem.W.boot_o_10 P, v43 P, v44 P, v45 P, v46 P]⟩, ⟨[], [], [], 0, [], [], false, List.toArray [], [], 0, false, false, false, 0, [2000, 10, 10], false, 0, true, [], [], 0, false⟩⟩
noncomputable def tr47 (P : Params) : PySem.W.BT := .node (PySem.W.boot_o_0 P) (.node (PySem.W.boot_o_1 P) (.node (PySem.W.boot_o_3 P) (.node (PySem.W.boot_o_7 P) .nil .nil) (.node (v43 P) .nil .nil)) (.node (PySem.W.boot_o_5 P) (.node (PySem.W.boot_o_9 P) .nil .nil) (.node (v45 P) .nil .nil))) (.node (PySem.W.boot_o_2 P) (.node (PySem.W.boot_o_4 P) (.node (PySem.W.boot_o_8 P) .nil .nil) (.node (v44 P) .nil .nil)) (.node (PySem.W.boot_o_6 P) (.node (PySem.W.boot_o_10 P) .nil .nil) (.node (v46 P) .nil .nil)))
noncomputable def v49 (P : Params) : PySem.Obj := ⟨.type "dict", none, .dict (List.toArray [⟨PyData.keyHash P (Str.ofString "__name__"), .str (Str.ofString "__name__") 165, .str (Str.ofString "crcgate.errors") 194⟩, ⟨PyData.keyHash P (Str.ofString "__doc__"), .str (Str.ofString "__doc__") 166, .none⟩, ⟨PyData.keyHash P (Str.ofString "__package__"), .str (Str.ofString "__package__") 167, .none⟩, ⟨PyData.keyHash P (Str.ofString "__loader__"), .str (Str.ofString "__loader__") 168, .builtin "__main__.__loader__#opaque"⟩, ⟨PyData.keyHash P (Str.ofString "__spec__"), .str (Str.ofString "__spec__") 169, .none⟩, ⟨PyData.keyHash P (Str.ofString "__annotations__"), .str (Str.ofString "__annotations__") 170, .ref 6⟩, ⟨PyData.keyHash P (Str.ofString "__builtins__"), .str (Str.ofString "__builtins__") 171, .ref 4⟩, ⟨PyData.keyHash P (Str.ofString "__file__"), .str (Str.ofString "__file__") 173, .str (Str.ofString "/claim/cut.py") 172⟩, ⟨PyData.keyHash P (Str.ofString "__cached__"), .str (Str.ofString "__cached__") 174, .none⟩, ⟨PyData.keyHash P (Str.ofString "_wall"), .str (Str.ofString "_wall") 193, .ref 21⟩, ⟨PyData.keyHash P (Str.ofString "GateError"), .str (Str.ofString "GateError") 213, .ref 31⟩]) 11, List.toArray []⟩
noncomputable def v50 (_P : Params) : PySem.Obj := ⟨.none, none, .fields (List.toArray [.int 1 0, .int 0 0, .ref 20, .int 5 0, .int 0 0, .ref 27]), List.toArray []⟩
noncomputable def v51 (_P : Params) : PySem.Obj := ⟨.type "tuple", none, .seq (List.toArray []) 0, List.toArray []⟩
noncomputable def v52 (_P : Params) : PySem.Obj := ⟨.none, none, .fields (List.toArray []), List.toArray []⟩
noncomputable def v53 (_P : Params) : PySem.Obj := ⟨.type "tuple", none, .seq (List.toArray [.str (Str.ofString "k") 190]) 0, List.toArray []⟩
noncomputable def v54 (_P : Params) : PySem.Obj := ⟨.type "tuple", none, .seq (List.toArray []) 0, List.toArray []⟩
noncomputable def v55 (_P : Params) : PySem.Obj := (fun (p : Arguments) (b : List Stmt) (s : Scope) (_ : (p, b, s) = fnP (nthS pW.main.body 0)) => (⟨.none, none, .func ⟨Str.ofString "_wall", Str.ofString "_wall", p, .stmts b, s, 0, [], .none, .none, .none, .none, none, .none, .none, 0⟩, List.toArray []⟩ : Obj)) _ _ _ rfl
noncomputable def v56 (_P : Params) : PySem.Obj := ⟨.type "code", none, .fields (List.toArray [.str (Str.ofString "_wall") 187, .str (Str.ofString "_wall") 188, .str (Str.ofString "/claim/cut.py") 189, .int 1 0, .int 1 0, .int 0 0, .int 0 0, .int 3 0, .ref 15, .bool true, .int 181 0, .ref 16, .none, .ref 17, .ref 18, .ref 19, .int 191 0, .int 1 0, .str (Str.ofString "/claim/cut.py") 192]), List.toArray []⟩
noncomputable def v57 (_P : Params) : PySem.Obj := (fun (p : Arguments) (b : List Stmt) (s : Scope) (_ : (p, b, s) = fnP (nthS pW.main.body 0)) => (⟨.type "function", none, .func ⟨Str.ofString "_wall", Str.ofString "_wall", p, .stmts b, s, 3, [], .none, .none, .none, .str (Str.ofString "__main__") 164, none, .ref 20, .none, 0⟩, List.toArray []⟩ : Obj)) _ _ _ rfl
noncomputable def v58 (_P : Params) : PySem.Obj := ⟨.type "tuple", none, .seq (List.toArray [.type "ValueError"]) 0, List.toArray []⟩
noncomputable def v59 (_P : Params) : PySem.Obj := ⟨.type "builtin_function_or_method", none, .fields (List.toArray [.builtin "type.__prepare__", .type "type"]), List.toArray []⟩
noncomputable def v60 (P : Params) : PySem.Obj := ⟨.type "dict", none, .dict (List.toArray [⟨PyData.keyHash P (Str.ofString "__module__"), .str (Str.ofString "__module__") 203, .str (Str.ofString "crcgate.errors") 194⟩, ⟨PyData.keyHash P (Str.ofString "__qualname__"), .str (Str.ofString "__qualname__") 205, .str (Str.ofString "GateError") 204⟩, ⟨PyData.keyHash P (Str.ofString "__firstlineno__"), .str (Str.ofString "__firstlineno__") 207, .int 5 206⟩, ⟨PyData.keyHash P (Str.ofString "__static_attributes__"), .str (Str.ofString "__static_attributes__") 208, .ref 29⟩]) 4, List.toArray []⟩
noncomputable def v61 (_P : Params) : PySem.Obj := ⟨.type "tuple", none, .seq (List.toArray []) 0, List.toArray []⟩
noncomputable def v62 (_P : Params) : PySem.Obj := ⟨.none, none, .fields (List.toArray []), List.toArray []⟩
noncomputable def v63 (_P : Params) : PySem.Obj := ⟨.type "code", none, .fields (List.toArray [.str (Str.ofString "GateError") 198, .str (Str.ofString "GateError") 199, .str (Str.ofString "/claim/cut.py") 200, .int 5 0, .int 0 0, .int 0 0, .int 0 0, .int 0 0, .ref 25, .bool false, .int 181 0, .ref 26, .none, .none, .none, .none, .int 201 0, .int 5 0, .str (Str.ofString "/claim/cut.py") 202]), List.toArray []⟩
noncomputable def v64 (_P : Params) : PySem.Obj := ⟨.type "frame", none, .plain, List.toArray [some (.ref 27), some (.ref 3), some (.ref 24), none, some (.str (Str.ofString "crcgate.errors") 194), none, some (.ref 0)]⟩
noncomputable def v65 (_P : Params) : PySem.Obj := ⟨.type "tuple", none, .seq (List.toArray []) 0, List.toArray []⟩
noncomputable def v66 (P : Params) : PySem.Obj := ⟨.type "dict", none, .dict (List.toArray [⟨PyData.keyHash P (Str.ofString "__module__"), .str (Str.ofString "__module__") 203, .str (Str.ofString "crcgate.errors") 194⟩, ⟨PyData.keyHash P (Str.ofString "__firstlineno__"), .str (Str.ofString "__firstlineno__") 207, .int 5 206⟩, ⟨PyData.keyHash P (Str.ofString "__static_attributes__"), .str (Str.ofString "__static_attributes__") 208, .ref 29⟩, ⟨PyData.keyHash P (Str.ofString "__weakref__"), .str (Str.ofString "__weakref__") 210, .ref 32⟩, ⟨PyData.keyHash P (Str.ofString "__doc__"), .str (Str.ofString "__doc__") 211, .none⟩]) 3, List.toArray []⟩
noncomputable def v67 (_P : Params) : PySem.Obj := ⟨.type "type", none, .cls ⟨Str.ofString "GateError", [.type "ValueError"], [.ref 31, .type "ValueError", .type "Exception", .type "BaseException", .type "object"], 30, Str.ofString "GateError", true, [], [], false, none, false⟩, List.toArray [some (.ref 22), none, some (.str (Str.ofString "GateError") 196), some (.str (Str.ofString "GateError") 204), some (.builtin "ValueError.__new__"), some (.bool true)]⟩
noncomputable def v68 (_P : Params) : PySem.Obj := ⟨.type "getset_descriptor", none, .fields (List.toArray [.str (Str.ofString "__weakref__") 209, .ref 31, .builtin "ExceptionGroup.__weakref__", .none]), List.toArray []⟩
noncomputable def v69 (_P : Params) : PySem.Obj := ⟨.type "super", none, .fields (List.toArray [.ref 31, .ref 31, .ref 31]), List.toArray []⟩
noncomputable def v70 (_P : Params) : PySem.Obj := ⟨.type "builtin_function_or_method", none, .fields (List.toArray [.builtin "object.__init_subclass__", .ref 31]), List.toArray []⟩
noncomputable def tr70 (P : Params) : PySem.W.BT := .node (PySem.W.boot_o_0 P) (.node (PySem.W.boot_o_1 P) (.node (v49 P) (.node (PySem.W.boot_o_7 P) (.node (v51 P) (.node (v67 P) .nil .nil) .nil) (.node (v59 P) .nil .nil)) (.node (v43 P) (.node (v55 P) .nil .nil) (.node (v63 P) .nil .nil))) (.node (PySem.W.boot_o_5 P) (.node (PySem.W.boot_o_9 P) (.node (v53 P) (.node (v69 P) .nil .nil) .nil) (.node (v61 P) .nil .nil)) (.node (v45 P) (.node (v57 P) .nil .nil) (.node (v65 P) .nil .nil)))) (.node (PySem.W.boot_o_2 P) (.node (PySem.W.boot_o_4 P) (.node (PySem.W.boot_o_8 P) (.node (v52 P) (.node (v68 P) .nil .nil) .nil) (.node (v60 P) .nil .nil)) (.node (v50 P) (.node (v56 P) .nil .nil) (.node (v64 P) .nil .nil))) (.node (PySem.W.boot_o_6 P) (.node (PySem.W.boot_o_10 P) (.node (v54 P) (.node (v70 P) .nil .nil) .nil) (.node (v62 P) .nil .nil)) (.node (v46 P) (.node (v58 P) .nil .nil) (.node (v66 P) .nil .nil))))
noncomputable def v71 (P : Params) : PySem.Obj := ⟨.type "dict", none, .dict (List.toArray [⟨PyData.keyHash P (Str.ofString "__name__"), .str (Str.ofString "__name__") 165, .str (Str.ofString "crcgate.errors") 194⟩, ⟨PyData.keyHash P (Str.ofString "__doc__"), .str (Str.ofString "__doc__") 166, .none⟩, ⟨PyData.keyHash P (Str.ofString "__package__"), .str (Str.ofString "__package__") 167, .none⟩, ⟨PyData.keyHash P (Str.ofString "__loader__"), .str (Str.ofString "__loader__") 168, .builtin "__main__.__loader__#opaque"⟩, ⟨PyData.keyHash P (Str.ofString "__spec__"), .str (Str.ofString "__spec__") 169, .none⟩, ⟨PyData.keyHash P (Str.ofString "__annotations__"), .str (Str.ofString "__annotations__") 170, .ref 6⟩, ⟨PyData.keyHash P (Str.ofString "__builtins__"), .str (Str.ofString "__builtins__") 171, .ref 4⟩, ⟨PyData.keyHash P (Str.ofString "__file__"), .str (Str.ofString "__file__") 173, .str (Str.ofString "/claim/cut.py") 172⟩, ⟨PyData.keyHash P (Str.ofString "__cached__"), .str (Str.ofString "__cached__") 174, .none⟩, ⟨PyData.keyHash P (Str.ofString "_wall"), .str (Str.ofString "_wall") 193, .ref 21⟩, ⟨PyData.keyHash P (Str.ofString "GateError"), .str (Str.ofString "GateError") 213, .ref 31⟩, ⟨PyData.keyHash P (Str.ofString "NoRow"), .str (Str.ofString "NoRow") 229, .ref 44⟩]) 12, List.toArray []⟩
noncomputable def v72 (_P : Params) : PySem.Obj := ⟨.none, none, .fields (List.toArray [.int 1 0, .int 0 0, .ref 20, .int 5 0, .int 0 0, .ref 27, .int 7 0, .int 0 0, .ref 40]), List.toArray []⟩
noncomputable def v73 (_P : Params) : PySem.Obj := ⟨.type "type", none, .cls ⟨Str.ofString "GateError", [.type "ValueError"], [.ref 31, .type "ValueError", .type "Exception", .type "BaseException", .type "object"], 30, Str.ofString "GateError", true, [], [.ref 44], false, none, false⟩, List.toArray [some (.ref 22), none, some (.str (Str.ofString "GateError") 196), some (.str (Str.ofString "GateError") 204), some (.builtin "ValueError.__new__"), some (.bool true)]⟩
noncomputable def v74 (_P : Params) : PySem.Obj := ⟨.type "tuple", none, .seq (List.toArray [.ref 31]) 0, List.toArray []⟩
noncomputable def v75 (_P : Params) : PySem.Obj := ⟨.type "builtin_function_or_method", none, .fields (List.toArray [.builtin "type.__prepare__", .type "type"]), List.toArray []⟩
noncomputable def v76 (P : Params) : PySem.Obj := ⟨.type "dict", none, .dict (List.toArray [⟨PyData.keyHash P (Str.ofString "__module__"), .str (Str.ofString "__module__") 221, .str (Str.ofString "crcgate.errors") 194⟩, ⟨PyData.keyHash P (Str.ofString "__qualname__"), .str (Str.ofString "__qualname__") 223, .str (Str.ofString "NoRow") 222⟩, ⟨PyData.keyHash P (Str.ofString "__firstlineno__"), .str (Str.ofString "__firstlineno__") 225, .int 7 224⟩, ⟨PyData.keyHash P (Str.ofString "__static_attributes__"), .str (Str.ofString "__static_attributes__") 226, .ref 42⟩]) 4, List.toArray []⟩
noncomputable def v77 (_P : Params) : PySem.Obj := ⟨.type "tuple", none, .seq (List.toArray []) 0, List.toArray []⟩
noncomputable def v78 (_P : Params) : PySem.Obj := ⟨.none, none, .fields (List.toArray []), List.toArray []⟩
noncomputable def v79 (_P : Params) : PySem.Obj := ⟨.type "code", none, .fields (List.toArray [.str (Str.ofString "NoRow") 216, .str (Str.ofString "NoRow") 217, .str (Str.ofString "/claim/cut.py") 218, .int 7 0, .int 0 0, .int 0 0, .int 0 0, .int 0 0, .ref 38, .bool false, .int 181 0, .ref 39, .none, .none, .none, .none, .int 219 0, .int 7 0, .str (Str.ofString "/claim/cut.py") 220]), List.toArray []⟩
noncomputable def v80 (_P : Params) : PySem.Obj := ⟨.type "frame", none, .plain, List.toArray [some (.ref 40), some (.ref 3), some (.ref 37), none, some (.str (Str.ofString "crcgate.errors") 194), none, some (.ref 0)]⟩
noncomputable def v81 (_P : Params) : PySem.Obj := ⟨.type "tuple", none, .seq (List.toArray []) 0, List.toArray []⟩
noncomputable def v82 (P : Params) : PySem.Obj := ⟨.type "dict", none, .dict (List.toArray [⟨PyData.keyHash P (Str.ofString "__module__"), .str (Str.ofString "__module__") 221, .str (Str.ofString "crcgate.errors") 194⟩, ⟨PyData.keyHash P (Str.ofString "__firstlineno__"), .str (Str.ofString "__firstlineno__") 225, .int 7 224⟩, ⟨PyData.keyHash P (Str.ofString "__static_attributes__"), .str (Str.ofString "__static_attributes__") 226, .ref 42⟩, ⟨PyData.keyHash P (Str.ofString "__doc__"), .str (Str.ofString "__doc__") 227, .none⟩]) 2, List.toArray []⟩
noncomputable def v83 (_P : Params) : PySem.Obj := ⟨.type "type", none, .cls ⟨Str.ofString "NoRow", [.ref 31], [.ref 44, .ref 31, .type "ValueError", .type "Exception", .type "BaseException", .type "object"], 43, Str.ofString "NoRow", true, [], [], false, none, false⟩, List.toArray [some (.ref 35), none, some (.str (Str.ofString "NoRow") 214), some (.str (Str.ofString "NoRow") 222), some (.builtin "ValueError.__new__"), some (.bool true)]⟩
noncomputable def v84 (_P : Params) : PySem.Obj := ⟨.type "super", none, .fields (List.toArray [.ref 44, .ref 44, .ref 44]), List.toArray []⟩
noncomputable def v85 (_P : Params) : PySem.Obj := ⟨.type "builtin_function_or_method", none, .fields (List.toArray [.builtin "object.__init_subclass__", .ref 44]), List.toArray []⟩
noncomputable def tr85 (P : Params) : PySem.W.BT := .node (PySem.W.boot_o_0 P) (.node (PySem.W.boot_o_1 P) (.node (v71 P) (.node (PySem.W.boot_o_7 P) (.node (v51 P) (.node (v73 P) .nil .nil) .nil) (.node (v59 P) (.node (v78 P) .nil .nil) .nil)) (.node (v43 P) (.node (v55 P) (.node (v74 P) .nil .nil) .nil) (.node (v63 P) (.node (v82 P) .nil .nil) .nil))) (.node (PySem.W.boot_o_5 P) (.node (PySem.W.boot_o_9 P) (.node (v53 P) (.node (v69 P) .nil .nil) .nil) (.node (v61 P) (.node (v80 P) .nil .nil) .nil)) (.node (v45 P) (.node (v57 P) (.node (v76 P) .nil .nil) .nil) (.node (v65 P) (.node (v84 P) .nil .nil) .nil)))) (.node (PySem.W.boot_o_2 P) (.node (PySem.W.boot_o_4 P) (.node (PySem.W.boot_o_8 P) (.node (v52 P) (.node (v68 P) .nil .nil) .nil) (.node (v60 P) (.node (v79 P) .nil .nil) .nil)) (.node (v72 P) (.node (v56 P) (.node (v75 P) .nil .nil) .nil) (.node (v64 P) (.node (v83 P) .nil .nil) .nil))) (.node (PySem.W.boot_o_6 P) (.node (PySem.W.boot_o_10 P) (.node (v54 P) (.node (v70 P) .nil .nil) .nil) (.node (v62 P) (.node (v81 P) .nil .nil) .nil)) (.node (v46 P) (.node (v58 P) (.node (v77 P) .nil .nil) .nil) (.node (v66 P) (.node (v85 P) .nil .nil) .nil))))
noncomputable def v86 (P : Params) : PySem.Obj := ⟨.type "dict", none, .dict (List.toArray [⟨PyData.keyHash P (Str.ofString "__name__"), .str (Str.ofString "__name__") 165, .str (Str.ofString "crcgate.errors") 194⟩, ⟨PyData.keyHash P (Str.ofString "__doc__"), .str (Str.ofString "__doc__") 166, .none⟩, ⟨PyData.keyHash P (Str.ofString "__package__"), .str (Str.ofString "__package__") 167, .none⟩, ⟨PyData.keyHash P (Str.ofString "__loader__"), .str (Str.ofString "__loader__") 168, .builtin "__main__.__loader__#opaque"⟩, ⟨PyData.keyHash P (Str.ofString "__spec__"), .str (Str.ofString "__spec__") 169, .none⟩, ⟨PyData.keyHash P (Str.ofString "__annotations__"), .str (Str.ofString "__annotations__") 170, .ref 6⟩, ⟨PyData.keyHash P (Str.ofString "__builtins__"), .str (Str.ofString "__builtins__") 171, .ref 4⟩, ⟨PyData.keyHash P (Str.ofString "__file__"), .str (Str.ofString "__file__") 173, .str (Str.ofString "/claim/cut.py") 172⟩, ⟨PyData.keyHash P (Str.ofString "__cached__"), .str (Str.ofString "__cached__") 174, .none⟩, ⟨PyData.keyHash P (Str.ofString "_wall"), .str (Str.ofString "_wall") 193, .ref 21⟩, ⟨PyData.keyHash P (Str.ofString "GateError"), .str (Str.ofString "GateError") 213, .ref 31⟩, ⟨PyData.keyHash P (Str.ofString "NoRow"), .str (Str.ofString "NoRow") 229, .ref 44⟩, ⟨PyData.keyHash P (Str.ofString "NoDivisor"), .str (Str.ofString "NoDivisor") 245, .ref 56⟩]) 13, List.toArray []⟩
noncomputable def v87 (_P : Params) : PySem.Obj := ⟨.none, none, .fields (List.toArray [.int 1 0, .int 0 0, .ref 20, .int 5 0, .int 0 0, .ref 27, .int 7 0, .int 0 0, .ref 40, .int 9 0, .int 0 0, .ref 52]), List.toArray []⟩
noncomputable def v88 (_P : Params) : PySem.Obj := ⟨.type "type", none, .cls ⟨Str.ofString "GateError", [.type "ValueError"], [.ref 31, .type "ValueError", .type "Exception", .type "BaseException", .type "object"], 30, Str.ofString "GateError", true, [], [.ref 44, .ref 56], false, none, false⟩, List.toArray [some (.ref 22), none, some (.str (Str.ofString "GateError") 196), some (.str (Str.ofString "GateError") 204), some (.builtin "ValueError.__new__"), some (.bool true)]⟩
noncomputable def v89 (_P : Params) : PySem.Obj := ⟨.type "tuple", none, .seq (List.toArray [.ref 31]) 0, List.toArray []⟩
noncomputable def v90 (_P : Params) : PySem.Obj := ⟨.type "builtin_function_or_method", none, .fields (List.toArray [.builtin "type.__prepare__", .type "type"]), List.toArray []⟩
noncomputable def v91 (P : Params) : PySem.Obj := ⟨.type "dict", none, .dict (List.toArray [⟨PyData.keyHash P (Str.ofString "__module__"), .str (Str.ofString "__module__") 237, .str (Str.ofString "crcgate.errors") 194⟩, ⟨PyData.keyHash P (Str.ofString "__qualname__"), .str (Str.ofString "__qualname__") 239, .str (Str.ofString "NoDivisor") 238⟩, ⟨PyData.keyHash P (Str.ofString "__firstlineno__"), .str (Str.ofString "__firstlineno__") 241, .int 9 240⟩, ⟨PyData.keyHash P (Str.ofString "__static_attributes__"), .str (Str.ofString "__static_attributes__") 242, .ref 54⟩]) 4, List.toArray []⟩
noncomputable def v92 (_P : Params) : PySem.Obj := ⟨.type "tuple", none, .seq (List.toArray []) 0, List.toArray []⟩
noncomputable def v93 (_P : Params) : PySem.Obj := ⟨.none, none, .fields (List.toArray []), List.toArray []⟩
noncomputable def v94 (_P : Params) : PySem.Obj := ⟨.type "code", none, .fields (List.toArray [.str (Str.ofString "NoDivisor") 232, .str (Str.ofString "NoDivisor") 233, .str (Str.ofString "/claim/cut.py") 234, .int 9 0, .int 0 0, .int 0 0, .int 0 0, .int 0 0, .ref 50, .bool false, .int 181 0, .ref 51, .none, .none, .none, .none, .int 235 0, .int 9 0, .str (Str.ofString "/claim/cut.py") 236]), List.toArray []⟩
noncomputable def v95 (_P : Params) : PySem.Obj := ⟨.type "frame", none, .plain, List.toArray [some (.ref 52), some (.ref 3), some (.ref 49), none, some (.str (Str.ofString "crcgate.errors") 194), none, some (.ref 0)]⟩
noncomputable def v96 (_P : Params) : PySem.Obj := ⟨.type "tuple", none, .seq (List.toArray []) 0, List.toArray []⟩
noncomputable def v97 (P : Params) : PySem.Obj := ⟨.type "dict", none, .dict (List.toArray [⟨PyData.keyHash P (Str.ofString "__module__"), .str (Str.ofString "__module__") 237, .str (Str.ofString "crcgate.errors") 194⟩, ⟨PyData.keyHash P (Str.ofString "__firstlineno__"), .str (Str.ofString "__firstlineno__") 241, .int 9 240⟩, ⟨PyData.keyHash P (Str.ofString "__static_attributes__"), .str (Str.ofString "__static_attributes__") 242, .ref 54⟩, ⟨PyData.keyHash P (Str.ofString "__doc__"), .str (Str.ofString "__doc__") 243, .none⟩]) 2, List.toArray []⟩
noncomputable def v98 (_P : Params) : PySem.Obj := ⟨.type "type", none, .cls ⟨Str.ofString "NoDivisor", [.ref 31], [.ref 56, .ref 31, .type "ValueError", .type "Exception", .type "BaseException", .type "object"], 55, Str.ofString "NoDivisor", true, [], [], false, none, false⟩, List.toArray [some (.ref 47), none, some (.str (Str.ofString "NoDivisor") 230), some (.str (Str.ofString "NoDivisor") 238), some (.builtin "ValueError.__new__"), some (.bool true)]⟩
noncomputable def v99 (_P : Params) : PySem.Obj := ⟨.type "super", none, .fields (List.toArray [.ref 56, .ref 56, .ref 56]), List.toArray []⟩
noncomputable def v100 (_P : Params) : PySem.Obj := ⟨.type "builtin_function_or_method", none, .fields (List.toArray [.builtin "object.__init_subclass__", .ref 56]), List.toArray []⟩
noncomputable def tr100 (P : Params) : PySem.W.BT := .node (PySem.W.boot_o_0 P) (.node (PySem.W.boot_o_1 P) (.node (v86 P) (.node (PySem.W.boot_o_7 P) (.node (v51 P) (.node (v88 P) .nil .nil) (.node (v89 P) .nil .nil)) (.node (v59 P) (.node (v78 P) .nil .nil) (.node (v97 P) .nil .nil))) (.node (v43 P) (.node (v55 P) (.node (v74 P) .nil .nil) (.node (v93 P) .nil .nil)) (.node (v63 P) (.node (v82 P) .nil .nil) .nil))) (.node (PySem.W.boot_o_5 P) (.node (PySem.W.boot_o_9 P) (.node (v53 P) (.node (v69 P) .nil .nil) (.node (v91 P) .nil .nil)) (.node (v61 P) (.node (v80 P) .nil .nil) (.node (v99 P) .nil .nil))) (.node (v45 P) (.node (v57 P) (.node (v76 P) .nil .nil) (.node (v95 P) .nil .nil)) (.node (v65 P) (.node (v84 P) .nil .nil) .nil)))) (.node (PySem.W.boot_o_2 P) (.node (PySem.W.boot_o_4 P) (.node (PySem.W.boot_o_8 P) (.node (v52 P) (.node (v68 P) .nil .nil) (.node (v90 P) .nil .nil)) (.node (v60 P) (.node (v79 P) .nil .nil) (.node (v98 P) .nil .nil))) (.node (v87 P) (.node (v56 P) (.node (v75 P) .nil .nil) (.node (v94 P) .nil .nil)) (.node (v64 P) (.node (v83 P) .nil .nil) .nil))) (.node (PySem.W.boot_o_6 P) (.node (PySem.W.boot_o_10 P) (.node (v54 P) (.node (v70 P) .nil .nil) (.node (v92 P) .nil .nil)) (.node (v62 P) (.node (v81 P) .nil .nil) (.node (v100 P) .nil .nil))) (.node (v46 P) (.node (v58 P) (.node (v77 P) .nil .nil) (.node (v96 P) .nil .nil)) (.node (v66 P) (.node (v85 P) .nil .nil) .nil))))
noncomputable def v101 (P : Params) : PySem.Obj := ⟨.type "dict", none, .dict (List.toArray [⟨PyData.keyHash P (Str.ofString "__name__"), .str (Str.ofString "__name__") 165, .str (Str.ofString "crcgate.errors") 194⟩, ⟨PyData.keyHash P (Str.ofString "__doc__"), .str (Str.ofString "__doc__") 166, .none⟩, ⟨PyData.keyHash P (Str.ofString "__package__"), .str (Str.ofString "__package__") 167, .none⟩, ⟨PyData.keyHash P (Str.ofString "__loader__"), .str (Str.ofString "__loader__") 168, .builtin "__main__.__loader__#opaque"⟩, ⟨PyData.keyHash P (Str.ofString "__spec__"), .str (Str.ofString "__spec__") 169, .none⟩, ⟨PyData.keyHash P (Str.ofString "__annotations__"), .str (Str.ofString "__annotations__") 170, .ref 6⟩, ⟨PyData.keyHash P (Str.ofString "__builtins__"), .str (Str.ofString "__builtins__") 171, .ref 4⟩, ⟨PyData.keyHash P (Str.ofString "__file__"), .str (Str.ofString "__file__") 173, .str (Str.ofString "/claim/cut.py") 172⟩, ⟨PyData.keyHash P (Str.ofString "__cached__"), .str (Str.ofString "__cached__") 174, .none⟩, ⟨PyData.keyHash P (Str.ofString "_wall"), .str (Str.ofString "_wall") 193, .ref 21⟩, ⟨PyData.keyHash P (Str.ofString "GateError"), .str (Str.ofString "GateError") 213, .ref 31⟩, ⟨PyData.keyHash P (Str.ofString "NoRow"), .str (Str.ofString "NoRow") 229, .ref 44⟩, ⟨PyData.keyHash P (Str.ofString "NoDivisor"), .str (Str.ofString "NoDivisor") 245, .ref 56⟩, ⟨PyData.keyHash P (Str.ofString "NoCount"), .str (Str.ofString "NoCount") 261, .ref 68⟩]) 14, List.toArray []⟩
noncomputable def v102 (_P : Params) : PySem.Obj := ⟨.none, none, .fields (List.toArray [.int 1 0, .int 0 0, .ref 20, .int 5 0, .int 0 0, .ref 27, .int 7 0, .int 0 0, .ref 40, .int 9 0, .int 0 0, .ref 52, .int 11 0, .int 0 0, .ref 64]), List.toArray []⟩
noncomputable def v103 (_P : Params) : PySem.Obj := ⟨.type "type", none, .cls ⟨Str.ofString "GateError", [.type "ValueError"], [.ref 31, .type "ValueError", .type "Exception", .type "BaseException", .type "object"], 30, Str.ofString "GateError", true, [], [.ref 44, .ref 56, .ref 68], false, none, false⟩, List.toArray [some (.ref 22), none, some (.str (Str.ofString "GateError") 196), some (.str (Str.ofString "GateError") 204), some (.builtin "ValueError.__new__"), some (.bool true)]⟩
noncomputable def v104 (_P : Params) : PySem.Obj := ⟨.type "tuple", none, .seq (List.toArray [.ref 31]) 0, List.toArray []⟩
noncomputable def v105 (_P : Params) : PySem.Obj := ⟨.type "builtin_function_or_method", none, .fields (List.toArray [.builtin "type.__prepare__", .type "type"]), List.toArray []⟩
noncomputable def v106 (P : Params) : PySem.Obj := ⟨.type "dict", none, .dict (List.toArray [⟨PyData.keyHash P (Str.ofString "__module__"), .str (Str.ofString "__module__") 253, .str (Str.ofString "crcgate.errors") 194⟩, ⟨PyData.keyHash P (Str.ofString "__qualname__"), .str (Str.ofString "__qualname__") 255, .str (Str.ofString "NoCount") 254⟩, ⟨PyData.keyHash P (Str.ofString "__firstlineno__"), .str (Str.ofString "__firstlineno__") 257, .int 11 256⟩, ⟨PyData.keyHash P (Str.ofString "__static_attributes__"), .str (Str.ofString "__static_attributes__") 258, .ref 66⟩]) 4, List.toArray []⟩
noncomputable def v107 (_P : Params) : PySem.Obj := ⟨.type "tuple", none, .seq (List.toArray []) 0, List.toArray []⟩
noncomputable def v108 (_P : Params) : PySem.Obj := ⟨.none, none, .fields (List.toArray []), List.toArray []⟩
noncomputable def v109 (_P : Params) : PySem.Obj := ⟨.type "code", none, .fields (List.toArray [.str (Str.ofString "NoCount") 248, .str (Str.ofString "NoCount") 249, .str (Str.ofString "/claim/cut.py") 250, .int 11 0, .int 0 0, .int 0 0, .int 0 0, .int 0 0, .ref 62, .bool false, .int 181 0, .ref 63, .none, .none, .none, .none, .int 251 0, .int 11 0, .str (Str.ofString "/claim/cut.py") 252]), List.toArray []⟩
noncomputable def v110 (_P : Params) : PySem.Obj := ⟨.type "frame", none, .plain, List.toArray [some (.ref 64), some (.ref 3), some (.ref 61), none, some (.str (Str.ofString "crcgate.errors") 194), none, some (.ref 0)]⟩
noncomputable def v111 (_P : Params) : PySem.Obj := ⟨.type "tuple", none, .seq (List.toArray []) 0, List.toArray []⟩
noncomputable def v112 (P : Params) : PySem.Obj := ⟨.type "dict", none, .dict (List.toArray [⟨PyData.keyHash P (Str.ofString "__module__"), .str (Str.ofString "__module__") 253, .str (Str.ofString "crcgate.errors") 194⟩, ⟨PyData.keyHash P (Str.ofString "__firstlineno__"), .str (Str.ofString "__firstlineno__") 257, .int 11 256⟩, ⟨PyData.keyHash P (Str.ofString "__static_attributes__"), .str (Str.ofString "__static_attributes__") 258, .ref 66⟩, ⟨PyData.keyHash P (Str.ofString "__doc__"), .str (Str.ofString "__doc__") 259, .none⟩]) 2, List.toArray []⟩
noncomputable def v113 (_P : Params) : PySem.Obj := ⟨.type "type", none, .cls ⟨Str.ofString "NoCount", [.ref 31], [.ref 68, .ref 31, .type "ValueError", .type "Exception", .type "BaseException", .type "object"], 67, Str.ofString "NoCount", true, [], [], false, none, false⟩, List.toArray [some (.ref 59), none, some (.str (Str.ofString "NoCount") 246), some (.str (Str.ofString "NoCount") 254), some (.builtin "ValueError.__new__"), some (.bool true)]⟩
noncomputable def v114 (_P : Params) : PySem.Obj := ⟨.type "super", none, .fields (List.toArray [.ref 68, .ref 68, .ref 68]), List.toArray []⟩
noncomputable def v115 (_P : Params) : PySem.Obj := ⟨.type "builtin_function_or_method", none, .fields (List.toArray [.builtin "object.__init_subclass__", .ref 68]), List.toArray []⟩
noncomputable def tr115 (P : Params) : PySem.W.BT := .node (PySem.W.boot_o_0 P) (.node (PySem.W.boot_o_1 P) (.node (v101 P) (.node (PySem.W.boot_o_7 P) (.node (v51 P) (.node (v103 P) (.node (v108 P) .nil .nil) .nil) (.node (v89 P) .nil .nil)) (.node (v59 P) (.node (v78 P) .nil .nil) (.node (v97 P) .nil .nil))) (.node (v43 P) (.node (v55 P) (.node (v74 P) (.node (v112 P) .nil .nil) .nil) (.node (v93 P) .nil .nil)) (.node (v63 P) (.node (v82 P) .nil .nil) (.node (v104 P) .nil .nil)))) (.node (PySem.W.boot_o_5 P) (.node (PySem.W.boot_o_9 P) (.node (v53 P) (.node (v69 P) (.node (v110 P) .nil .nil) .nil) (.node (v91 P) .nil .nil)) (.node (v61 P) (.node (v80 P) .nil .nil) (.node (v99 P) .nil .nil))) (.node (v45 P) (.node (v57 P) (.node (v76 P) (.node (v114 P) .nil .nil) .nil) (.node (v95 P) .nil .nil)) (.node (v65 P) (.node (v84 P) .nil .nil) (.node (v106 P) .nil .nil))))) (.node (PySem.W.boot_o_2 P) (.node (PySem.W.boot_o_4 P) (.node (PySem.W.boot_o_8 P) (.node (v52 P) (.node (v68 P) (.node (v109 P) .nil .nil) .nil) (.node (v90 P) .nil .nil)) (.node (v60 P) (.node (v79 P) .nil .nil) (.node (v98 P) .nil .nil))) (.node (v102 P) (.node (v56 P) (.node (v75 P) (.node (v113 P) .nil .nil) .nil) (.node (v94 P) .nil .nil)) (.node (v64 P) (.node (v83 P) .nil .nil) (.node (v105 P) .nil .nil)))) (.node (PySem.W.boot_o_6 P) (.node (PySem.W.boot_o_10 P) (.node (v54 P) (.node (v70 P) (.node (v111 P) .nil .nil) .nil) (.node (v92 P) .nil .nil)) (.node (v62 P) (.node (v81 P) .nil .nil) (.node (v100 P) .nil .nil))) (.node (v46 P) (.node (v58 P) (.node (v77 P) (.node (v115 P) .nil .nil) .nil) (.node (v96 P) .nil .nil)) (.node (v66 P) (.node (v85 P) .nil .nil) (.node (v107 P) .nil .nil)))))
noncomputable def v116 (P : Params) : PySem.Obj := ⟨.type "dict", none, .dict (List.toArray [⟨PyData.keyHash P (Str.ofString "__name__"), .str (Str.ofString "__name__") 165, .str (Str.ofString "crcgate.errors") 194⟩, ⟨PyData.keyHash P (Str.ofString "__doc__"), .str (Str.ofString "__doc__") 166, .none⟩, ⟨PyData.keyHash P (Str.ofString "__package__"), .str (Str.ofString "__package__") 167, .none⟩, ⟨PyData.keyHash P (Str.ofString "__loader__"), .str (Str.ofString "__loader__") 168, .builtin "__main__.__loader__#opaque"⟩, ⟨PyData.keyHash P (Str.ofString "__spec__"), .str (Str.ofString "__spec__") 169, .none⟩, ⟨PyData.keyHash P (Str.ofString "__annotations__"), .str (Str.ofString "__annotations__") 170, .ref 6⟩, ⟨PyData.keyHash P (Str.ofString "__builtins__"), .str (Str.ofString "__builtins__") 171, .ref 4⟩, ⟨PyData.keyHash P (Str.ofString "__file__"), .str (Str.ofString "__file__") 173, .str (Str.ofString "/claim/cut.py") 172⟩, ⟨PyData.keyHash P (Str.ofString "__cached__"), .str (Str.ofString "__cached__") 174, .none⟩, ⟨PyData.keyHash P (Str.ofString "_wall"), .str (Str.ofString "_wall") 193, .ref 21⟩, ⟨PyData.keyHash P (Str.ofString "GateError"), .str (Str.ofString "GateError") 213, .ref 31⟩, ⟨PyData.keyHash P (Str.ofString "NoRow"), .str (Str.ofString "NoRow") 229, .ref 44⟩, ⟨PyData.keyHash P (Str.ofString "NoDivisor"), .str (Str.ofString "NoDivisor") 245, .ref 56⟩, ⟨PyData.keyHash P (Str.ofString "NoCount"), .str (Str.ofString "NoCount") 261, .ref 68⟩, ⟨PyData.keyHash P (Str.ofString "TooLong"), .str (Str.ofString "TooLong") 277, .ref 80⟩]) 15, List.toArray []⟩
noncomputable def v117 (_P : Params) : PySem.Obj := ⟨.none, none, .fields (List.toArray [.int 1 0, .int 0 0, .ref 20, .int 5 0, .int 0 0, .ref 27, .int 7 0, .int 0 0, .ref 40, .int 9 0, .int 0 0, .ref 52, .int 11 0, .int 0 0, .ref 64, .int 13 0, .int 0 0, .ref 76]), List.toArray []⟩
noncomputable def v118 (_P : Params) : PySem.Obj := ⟨.type "type", none, .cls ⟨Str.ofString "GateError", [.type "ValueError"], [.ref 31, .type "ValueError", .type "Exception", .type "BaseException", .type "object"], 30, Str.ofString "GateError", true, [], [.ref 44, .ref 56, .ref 68, .ref 80], false, none, false⟩, List.toArray [some (.ref 22), none, some (.str (Str.ofString "GateError") 196), some (.str (Str.ofString "GateError") 204), some (.builtin "ValueError.__new__"), some (.bool true)]⟩
noncomputable def v119 (_P : Params) : PySem.Obj := ⟨.type "tuple", none, .seq (List.toArray [.ref 31]) 0, List.toArray []⟩
noncomputable def v120 (_P : Params) : PySem.Obj := ⟨.type "builtin_function_or_method", none, .fields (List.toArray [.builtin "type.__prepare__", .type "type"]), List.toArray []⟩
noncomputable def v121 (P : Params) : PySem.Obj := ⟨.type "dict", none, .dict (List.toArray [⟨PyData.keyHash P (Str.ofString "__module__"), .str (Str.ofString "__module__") 269, .str (Str.ofString "crcgate.errors") 194⟩, ⟨PyData.keyHash P (Str.ofString "__qualname__"), .str (Str.ofString "__qualname__") 271, .str (Str.ofString "TooLong") 270⟩, ⟨PyData.keyHash P (Str.ofString "__firstlineno__"), .str (Str.ofString "__firstlineno__") 273, .int 13 272⟩, ⟨PyData.keyHash P (Str.ofString "__static_attributes__"), .str (Str.ofString "__static_attributes__") 274, .ref 78⟩]) 4, List.toArray []⟩
noncomputable def v122 (_P : Params) : PySem.Obj := ⟨.type "tuple", none, .seq (List.toArray []) 0, List.toArray []⟩
noncomputable def v123 (_P : Params) : PySem.Obj := ⟨.none, none, .fields (List.toArray []), List.toArray []⟩
noncomputable def v124 (_P : Params) : PySem.Obj := ⟨.type "code", none, .fields (List.toArray [.str (Str.ofString "TooLong") 264, .str (Str.ofString "TooLong") 265, .str (Str.ofString "/claim/cut.py") 266, .int 13 0, .int 0 0, .int 0 0, .int 0 0, .int 0 0, .ref 74, .bool false, .int 181 0, .ref 75, .none, .none, .none, .none, .int 267 0, .int 13 0, .str (Str.ofString "/claim/cut.py") 268]), List.toArray []⟩
noncomputable def v125 (_P : Params) : PySem.Obj := ⟨.type "frame", none, .plain, List.toArray [some (.ref 76), some (.ref 3), some (.ref 73), none, some (.str (Str.ofString "crcgate.errors") 194), none, some (.ref 0)]⟩
noncomputable def v126 (_P : Params) : PySem.Obj := ⟨.type "tuple", none, .seq (List.toArray []) 0, List.toArray []⟩
noncomputable def v127 (P : Params) : PySem.Obj := ⟨.type "dict", none, .dict (List.toArray [⟨PyData.keyHash P (Str.ofString "__module__"), .str (Str.ofString "__module__") 269, .str (Str.ofString "crcgate.errors") 194⟩, ⟨PyData.keyHash P (Str.ofString "__firstlineno__"), .str (Str.ofString "__firstlineno__") 273, .int 13 272⟩, ⟨PyData.keyHash P (Str.ofString "__static_attributes__"), .str (Str.ofString "__static_attributes__") 274, .ref 78⟩, ⟨PyData.keyHash P (Str.ofString "__doc__"), .str (Str.ofString "__doc__") 275, .none⟩]) 2, List.toArray []⟩
noncomputable def v128 (_P : Params) : PySem.Obj := ⟨.type "type", none, .cls ⟨Str.ofString "TooLong", [.ref 31], [.ref 80, .ref 31, .type "ValueError", .type "Exception", .type "BaseException", .type "object"], 79, Str.ofString "TooLong", true, [], [], false, none, false⟩, List.toArray [some (.ref 71), none, some (.str (Str.ofString "TooLong") 262), some (.str (Str.ofString "TooLong") 270), some (.builtin "ValueError.__new__"), some (.bool true)]⟩
noncomputable def v129 (_P : Params) : PySem.Obj := ⟨.type "super", none, .fields (List.toArray [.ref 80, .ref 80, .ref 80]), List.toArray []⟩
noncomputable def v130 (_P : Params) : PySem.Obj := ⟨.type "builtin_function_or_method", none, .fields (List.toArray [.builtin "object.__init_subclass__", .ref 80]), List.toArray []⟩
noncomputable def tr130 (P : Params) : PySem.W.BT := .node (PySem.W.boot_o_0 P) (.node (PySem.W.boot_o_1 P) (.node (v116 P) (.node (PySem.W.boot_o_7 P) (.node (v51 P) (.node (v118 P) (.node (v108 P) .nil .nil) .nil) (.node (v89 P) (.node (v127 P) .nil .nil) .nil)) (.node (v59 P) (.node (v78 P) (.node (v119 P) .nil .nil) .nil) (.node (v97 P) .nil .nil))) (.node (v43 P) (.node (v55 P) (.node (v74 P) (.node (v112 P) .nil .nil) .nil) (.node (v93 P) .nil .nil)) (.node (v63 P) (.node (v82 P) (.node (v123 P) .nil .nil) .nil) (.node (v104 P) .nil .nil)))) (.node (PySem.W.boot_o_5 P) (.node (PySem.W.boot_o_9 P) (.node (v53 P) (.node (v69 P) (.node (v110 P) .nil .nil) .nil) (.node (v91 P) (.node (v129 P) .nil .nil) .nil)) (.node (v61 P) (.node (v80 P) (.node (v121 P) .nil .nil) .nil) (.node (v99 P) .nil .nil))) (.node (v45 P) (.node (v57 P) (.node (v76 P) (.node (v114 P) .nil .nil) .nil) (.node (v95 P) .nil .nil)) (.node (v65 P) (.node (v84 P) (.node (v125 P) .nil .nil) .nil) (.node (v106 P) .nil .nil))))) (.node (PySem.W.boot_o_2 P) (.node (PySem.W.boot_o_4 P) (.node (PySem.W.boot_o_8 P) (.node (v52 P) (.node (v68 P) (.node (v109 P) .nil .nil) .nil) (.node (v90 P) (.node (v128 P) .nil .nil) .nil)) (.node (v60 P) (.node (v79 P) (.node (v120 P) .nil .nil) .nil) (.node (v98 P) .nil .nil))) (.node (v117 P) (.node (v56 P) (.node (v75 P) (.node (v113 P) .nil .nil) .nil) (.node (v94 P) .nil .nil)) (.node (v64 P) (.node (v83 P) (.node (v124 P) .nil .nil) .nil) (.node (v105 P) .nil .nil)))) (.node (PySem.W.boot_o_6 P) (.node (PySem.W.boot_o_10 P) (.node (v54 P) (.node (v70 P) (.node (v111 P) .nil .nil) .nil) (.node (v92 P) (.node (v130 P) .nil .nil) .nil)) (.node (v62 P) (.node (v81 P) (.node (v122 P) .nil .nil) .nil) (.node (v100 P) .nil .nil))) (.node (v46 P) (.node (v58 P) (.node (v77 P) (.node (v115 P) .nil .nil) .nil) (.node (v96 P) .nil .nil)) (.node (v66 P) (.node (v85 P) (.node (v126 P) .nil .nil) .nil) (.node (v107 P) .nil .nil)))))
noncomputable def v131 (P : Params) : PySem.Obj := ⟨.type "dict", none, .dict (List.toArray [⟨PyData.keyHash P (Str.ofString "__name__"), .str (Str.ofString "__name__") 165, .str (Str.ofString "crcgate.errors") 194⟩, ⟨PyData.keyHash P (Str.ofString "__doc__"), .str (Str.ofString "__doc__") 166, .none⟩, ⟨PyData.keyHash P (Str.ofString "__package__"), .str (Str.ofString "__package__") 167, .none⟩, ⟨PyData.keyHash P (Str.ofString "__loader__"), .str (Str.ofString "__loader__") 168, .builtin "__main__.__loader__#opaque"⟩, ⟨PyData.keyHash P (Str.ofString "__spec__"), .str (Str.ofString "__spec__") 169, .none⟩, ⟨PyData.keyHash P (Str.ofString "__annotations__"), .str (Str.ofString "__annotations__") 170, .ref 6⟩, ⟨PyData.keyHash P (Str.ofString "__builtins__"), .str (Str.ofString "__builtins__") 171, .ref 4⟩, ⟨PyData.keyHash P (Str.ofString "__file__"), .str (Str.ofString "__file__") 173, .str (Str.ofString "/claim/cut.py") 172⟩, ⟨PyData.keyHash P (Str.ofString "__cached__"), .str (Str.ofString "__cached__") 174, .none⟩, ⟨PyData.keyHash P (Str.ofString "_wall"), .str (Str.ofString "_wall") 193, .ref 21⟩, ⟨PyData.keyHash P (Str.ofString "GateError"), .str (Str.ofString "GateError") 213, .ref 31⟩, ⟨PyData.keyHash P (Str.ofString "NoRow"), .str (Str.ofString "NoRow") 229, .ref 44⟩, ⟨PyData.keyHash P (Str.ofString "NoDivisor"), .str (Str.ofString "NoDivisor") 245, .ref 56⟩, ⟨PyData.keyHash P (Str.ofString "NoCount"), .str (Str.ofString "NoCount") 261, .ref 68⟩, ⟨PyData.keyHash P (Str.ofString "TooLong"), .str (Str.ofString "TooLong") 277, .ref 80⟩, ⟨PyData.keyHash P (Str.ofString "TooShort"), .str (Str.ofString "TooShort") 293, .ref 92⟩]) 16, List.toArray []⟩
noncomputable def v132 (_P : Params) : PySem.Obj := ⟨.none, none, .fields (List.toArray [.int 1 0, .int 0 0, .ref 20, .int 5 0, .int 0 0, .ref 27, .int 7 0, .int 0 0, .ref 40, .int 9 0, .int 0 0, .ref 52, .int 11 0, .int 0 0, .ref 64, .int 13 0, .int 0 0, .ref 76, .int 15 0, .int 0 0, .ref 88]), List.toArray []⟩
noncomputable def v133 (_P : Params) : PySem.Obj := ⟨.type "type", none, .cls ⟨Str.ofString "GateError", [.type "ValueError"], [.ref 31, .type "ValueError", .type "Exception", .type "BaseException", .type "object"], 30, Str.ofString "GateError", true, [], [.ref 44, .ref 56, .ref 68, .ref 80, .ref 92], false, none, false⟩, List.toArray [some (.ref 22), none, some (.str (Str.ofString "GateError") 196), some (.str (Str.ofString "GateError") 204), some (.builtin "ValueError.__new__"), some (.bool true)]⟩
noncomputable def v134 (_P : Params) : PySem.Obj := ⟨.type "tuple", none, .seq (List.toArray [.ref 31]) 0, List.toArray []⟩
noncomputable def v135 (_P : Params) : PySem.Obj := ⟨.type "builtin_function_or_method", none, .fields (List.toArray [.builtin "type.__prepare__", .type "type"]), List.toArray []⟩
noncomputable def v136 (P : Params) : PySem.Obj := ⟨.type "dict", none, .dict (List.toArray [⟨PyData.keyHash P (Str.ofString "__module__"), .str (Str.ofString "__module__") 285, .str (Str.ofString "crcgate.errors") 194⟩, ⟨PyData.keyHash P (Str.ofString "__qualname__"), .str (Str.ofString "__qualname__") 287, .str (Str.ofString "TooShort") 286⟩, ⟨PyData.keyHash P (Str.ofString "__firstlineno__"), .str (Str.ofString "__firstlineno__") 289, .int 15 288⟩, ⟨PyData.keyHash P (Str.ofString "__static_attributes__"), .str (Str.ofString "__static_attributes__") 290, .ref 90⟩]) 4, List.toArray []⟩
noncomputable def v137 (_P : Params) : PySem.Obj := ⟨.type "tuple", none, .seq (List.toArray []) 0, List.toArray []⟩
noncomputable def v138 (_P : Params) : PySem.Obj := ⟨.none, none, .fields (List.toArray []), List.toArray []⟩
noncomputable def v139 (_P : Params) : PySem.Obj := ⟨.type "code", none, .fields (List.toArray [.str (Str.ofString "TooShort") 280, .str (Str.ofString "TooShort") 281, .str (Str.ofString "/claim/cut.py") 282, .int 15 0, .int 0 0, .int 0 0, .int 0 0, .int 0 0, .ref 86, .bool false, .int 181 0, .ref 87, .none, .none, .none, .none, .int 283 0, .int 15 0, .str (Str.ofString "/claim/cut.py") 284]), List.toArray []⟩
noncomputable def v140 (_P : Params) : PySem.Obj := ⟨.type "frame", none, .plain, List.toArray [some (.ref 88), some (.ref 3), some (.ref 85), none, some (.str (Str.ofString "crcgate.errors") 194), none, some (.ref 0)]⟩
noncomputable def v141 (_P : Params) : PySem.Obj := ⟨.type "tuple", none, .seq (List.toArray []) 0, List.toArray []⟩
noncomputable def v142 (P : Params) : PySem.Obj := ⟨.type "dict", none, .dict (List.toArray [⟨PyData.keyHash P (Str.ofString "__module__"), .str (Str.ofString "__module__") 285, .str (Str.ofString "crcgate.errors") 194⟩, ⟨PyData.keyHash P (Str.ofString "__firstlineno__"), .str (Str.ofString "__firstlineno__") 289, .int 15 288⟩, ⟨PyData.keyHash P (Str.ofString "__static_attributes__"), .str (Str.ofString "__static_attributes__") 290, .ref 90⟩, ⟨PyData.keyHash P (Str.ofString "__doc__"), .str (Str.ofString "__doc__") 291, .none⟩]) 2, List.toArray []⟩
noncomputable def v143 (_P : Params) : PySem.Obj := ⟨.type "type", none, .cls ⟨Str.ofString "TooShort", [.ref 31], [.ref 92, .ref 31, .type "ValueError", .type "Exception", .type "BaseException", .type "object"], 91, Str.ofString "TooShort", true, [], [], false, none, false⟩, List.toArray [some (.ref 83), none, some (.str (Str.ofString "TooShort") 278), some (.str (Str.ofString "TooShort") 286), some (.builtin "ValueError.__new__"), some (.bool true)]⟩
noncomputable def v144 (_P : Params) : PySem.Obj := ⟨.type "super", none, .fields (List.toArray [.ref 92, .ref 92, .ref 92]), List.toArray []⟩
noncomputable def v145 (_P : Params) : PySem.Obj := ⟨.type "builtin_function_or_method", none, .fields (List.toArray [.builtin "object.__init_subclass__", .ref 92]), List.toArray []⟩
noncomputable def tr145 (P : Params) : PySem.W.BT := .node (PySem.W.boot_o_0 P) (.node (PySem.W.boot_o_1 P) (.node (v131 P) (.node (PySem.W.boot_o_7 P) (.node (v51 P) (.node (v133 P) (.node (v108 P) .nil .nil) .nil) (.node (v89 P) (.node (v127 P) .nil .nil) .nil)) (.node (v59 P) (.node (v78 P) (.node (v119 P) .nil .nil) .nil) (.node (v97 P) (.node (v138 P) .nil .nil) .nil))) (.node (v43 P) (.node (v55 P) (.node (v74 P) (.node (v112 P) .nil .nil) .nil) (.node (v93 P) (.node (v134 P) .nil .nil) .nil)) (.node (v63 P) (.node (v82 P) (.node (v123 P) .nil .nil) .nil) (.node (v104 P) (.node (v142 P) .nil .nil) .nil)))) (.node (PySem.W.boot_o_5 P) (.node (PySem.W.boot_o_9 P) (.node (v53 P) (.node (v69 P) (.node (v110 P) .nil .nil) .nil) (.node (v91 P) (.node (v129 P) .nil .nil) .nil)) (.node (v61 P) (.node (v80 P) (.node (v121 P) .nil .nil) .nil) (.node (v99 P) (.node (v140 P) .nil .nil) .nil))) (.node (v45 P) (.node (v57 P) (.node (v76 P) (.node (v114 P) .nil .nil) .nil) (.node (v95 P) (.node (v136 P) .nil .nil) .nil)) (.node (v65 P) (.node (v84 P) (.node (v125 P) .nil .nil) .nil) (.node (v106 P) (.node (v144 P) .nil .nil) .nil))))) (.node (PySem.W.boot_o_2 P) (.node (PySem.W.boot_o_4 P) (.node (PySem.W.boot_o_8 P) (.node (v52 P) (.node (v68 P) (.node (v109 P) .nil .nil) .nil) (.node (v90 P) (.node (v128 P) .nil .nil) .nil)) (.node (v60 P) (.node (v79 P) (.node (v120 P) .nil .nil) .nil) (.node (v98 P) (.node (v139 P) .nil .nil) .nil))) (.node (v132 P) (.node (v56 P) (.node (v75 P) (.node (v113 P) .nil .nil) .nil) (.node (v94 P) (.node (v135 P) .nil .nil) .nil)) (.node (v64 P) (.node (v83 P) (.node (v124 P) .nil .nil) .nil) (.node (v105 P) (.node (v143 P) .nil .nil) .nil)))) (.node (PySem.W.boot_o_6 P) (.node (PySem.W.boot_o_10 P) (.node (v54 P) (.node (v70 P) (.node (v111 P) .nil .nil) .nil) (.node (v92 P) (.node (v130 P) .nil .nil) .nil)) (.node (v62 P) (.node (v81 P) (.node (v122 P) .nil .nil) .nil) (.node (v100 P) (.node (v141 P) .nil .nil) .nil))) (.node (v46 P) (.node (v58 P) (.node (v77 P) (.node (v115 P) .nil .nil) .nil) (.node (v96 P) (.node (v137 P) .nil .nil) .nil)) (.node (v66 P) (.node (v85 P) (.node (v126 P) .nil .nil) .nil) (.node (v107 P) (.node (v145 P) .nil .nil) .nil)))))
noncomputable def v146 (P : Params) : PySem.Obj := ⟨.type "dict", none, .dict (List.toArray [⟨PyData.keyHash P (Str.ofString "__name__"), .str (Str.ofString "__name__") 165, .str (Str.ofString "crcgate.reaches") 361⟩, ⟨PyData.keyHash P (Str.ofString "__doc__"), .str (Str.ofString "__doc__") 166, .none⟩, ⟨PyData.keyHash P (Str.ofString "__package__"), .str (Str.ofString "__package__") 167, .none⟩, ⟨PyData.keyHash P (Str.ofString "__loader__"), .str (Str.ofString "__loader__") 168, .builtin "__main__.__loader__#opaque"⟩, ⟨PyData.keyHash P (Str.ofString "__spec__"), .str (Str.ofString "__spec__") 169, .none⟩, ⟨PyData.keyHash P (Str.ofString "__annotations__"), .str (Str.ofString "__annotations__") 170, .ref 6⟩, ⟨PyData.keyHash P (Str.ofString "__builtins__"), .str (Str.ofString "__builtins__") 171, .ref 4⟩, ⟨PyData.keyHash P (Str.ofString "__file__"), .str (Str.ofString "__file__") 173, .str (Str.ofString "/claim/cut.py") 172⟩, ⟨PyData.keyHash P (Str.ofString "__cached__"), .str (Str.ofString "__cached__") 174, .none⟩, ⟨PyData.keyHash P (Str.ofString "_wall"), .str (Str.ofString "_wall") 193, .ref 21⟩, ⟨PyData.keyHash P (Str.ofString "GateError"), .str (Str.ofString "GateError") 213, .ref 31⟩, ⟨PyData.keyHash P (Str.ofString "NoRow"), .str (Str.ofString "NoRow") 229, .ref 44⟩, ⟨PyData.keyHash P (Str.ofString "NoDivisor"), .str (Str.ofString "NoDivisor") 245, .ref 56⟩, ⟨PyData.keyHash P (Str.ofString "NoCount"), .str (Str.ofString "NoCount") 261, .ref 68⟩, ⟨PyData.keyHash P (Str.ofString "TooLong"), .str (Str.ofString "TooLong") 277, .ref 80⟩, ⟨PyData.keyHash P (Str.ofString "TooShort"), .str (Str.ofString "TooShort") 293, .ref 92⟩, ⟨PyData.keyHash P (Str.ofString "Broken"), .str (Str.ofString "Broken") 309, .ref 104⟩, ⟨PyData.keyHash P (Str.ofString "is_sign"), .str (Str.ofString "is_sign") 318, .ref 113⟩, ⟨PyData.keyHash P (Str.ofString "need_row"), .str (Str.ofString "need_row") 326, .ref 120⟩, ⟨PyData.keyHash P (Str.ofString "value_of"), .str (Str.ofString "value_of") 335, .ref 127⟩, ⟨PyData.keyHash P (Str.ofString "signs_of"), .str (Str.ofString "signs_of") 345, .ref 134⟩, ⟨PyData.keyHash P (Str.ofString "parted"), .str (Str.ofString "parted") 360, .ref 141⟩, ⟨PyData.keyHash P (Str.ofString "LEAST"), .str (Str.ofString "LEAST") 364, .int 2 363⟩]) 23, List.toArray []⟩
noncomputable def v147 (_P : Params) : PySem.Obj := ⟨.none, none, .fields (List.toArray [.int 1 0, .int 0 0, .ref 20, .int 5 0, .int 0 0, .ref 27, .int 7 0, .int 0 0, .ref 40, .int 9 0, .int 0 0, .ref 52, .int 11 0, .int 0 0, .ref 64, .int 13 0, .int 0 0, .ref 76, .int 15 0, .int 0 0, .ref 88, .int 17 0, .int 0 0, .ref 100, .int 20 0, .int 0 0, .ref 112, .int 22 0, .int 0 0, .ref 119, .int 28 0, .int 0 0, .ref 126, .int 33 0, .int 0 0, .ref 133, .int 39 0, .int 0 0, .ref 140]), List.toArray []⟩
noncomputable def v148 (_P : Params) : PySem.Obj := ⟨.type "type", none, .cls ⟨Str.ofString "GateError", [.type "ValueError"], [.ref 31, .type "ValueError", .type "Exception", .type "BaseException", .type "object"], 30, Str.ofString "GateError", true, [], [.ref 44, .ref 56, .ref 68, .ref 80, .ref 92, .ref 104], false, none, false⟩, List.toArray [some (.ref 22), none, some (.str (Str.ofString "GateError") 196), some (.str (Str.ofString "GateError") 204), some (.builtin "ValueError.__new__"), some (.bool true)]⟩
noncomputable def v149 (_P : Params) : PySem.Obj := ⟨.type "tuple", none, .seq (List.toArray [.ref 31]) 0, List.toArray []⟩
noncomputable def v150 (_P : Params) : PySem.Obj := ⟨.type "builtin_function_or_method", none, .fields (List.toArray [.builtin "type.__prepare__", .type "type"]), List.toArray []⟩
noncomputable def v151 (P : Params) : PySem.Obj := ⟨.type "dict", none, .dict (List.toArray [⟨PyData.keyHash P (Str.ofString "__module__"), .str (Str.ofString "__module__") 301, .str (Str.ofString "crcgate.errors") 194⟩, ⟨PyData.keyHash P (Str.ofString "__qualname__"), .str (Str.ofString "__qualname__") 303, .str (Str.ofString "Broken") 302⟩, ⟨PyData.keyHash P (Str.ofString "__firstlineno__"), .str (Str.ofString "__firstlineno__") 305, .int 17 304⟩, ⟨PyData.keyHash P (Str.ofString "__static_attributes__"), .str (Str.ofString "__static_attributes__") 306, .ref 102⟩]) 4, List.toArray []⟩
noncomputable def v152 (_P : Params) : PySem.Obj := ⟨.type "tuple", none, .seq (List.toArray []) 0, List.toArray []⟩
noncomputable def v153 (_P : Params) : PySem.Obj := ⟨.none, none, .fields (List.toArray []), List.toArray []⟩
noncomputable def v154 (_P : Params) : PySem.Obj := ⟨.type "code", none, .fields (List.toArray [.str (Str.ofString "Broken") 296, .str (Str.ofString "Broken") 297, .str (Str.ofString "/claim/cut.py") 298, .int 17 0, .int 0 0, .int 0 0, .int 0 0, .int 0 0, .ref 98, .bool false, .int 181 0, .ref 99, .none, .none, .none, .none, .int 299 0, .int 17 0, .str (Str.ofString "/claim/cut.py") 300]), List.toArray []⟩
noncomputable def v155 (_P : Params) : PySem.Obj := ⟨.type "frame", none, .plain, List.toArray [some (.ref 100), some (.ref 3), some (.ref 97), none, some (.str (Str.ofString "crcgate.errors") 194), none, some (.ref 0)]⟩
noncomputable def v156 (_P : Params) : PySem.Obj := ⟨.type "tuple", none, .seq (List.toArray []) 0, List.toArray []⟩
noncomputable def v157 (P : Params) : PySem.Obj := ⟨.type "dict", none, .dict (List.toArray [⟨PyData.keyHash P (Str.ofString "__module__"), .str (Str.ofString "__module__") 301, .str (Str.ofString "crcgate.errors") 194⟩, ⟨PyData.keyHash P (Str.ofString "__firstlineno__"), .str (Str.ofString "__firstlineno__") 305, .int 17 304⟩, ⟨PyData.keyHash P (Str.ofString "__static_attributes__"), .str (Str.ofString "__static_attributes__") 306, .ref 102⟩, ⟨PyData.keyHash P (Str.ofString "__doc__"), .str (Str.ofString "__doc__") 307, .none⟩]) 2, List.toArray []⟩
noncomputable def v158 (_P : Params) : PySem.Obj := ⟨.type "type", none, .cls ⟨Str.ofString "Broken", [.ref 31], [.ref 104, .ref 31, .type "ValueError", .type "Exception", .type "BaseException", .type "object"], 103, Str.ofString "Broken", true, [], [], false, none, false⟩, List.toArray [some (.ref 95), none, some (.str (Str.ofString "Broken") 294), some (.str (Str.ofString "Broken") 302), some (.builtin "ValueError.__new__"), some (.bool true)]⟩
noncomputable def v159 (_P : Params) : PySem.Obj := ⟨.type "super", none, .fields (List.toArray [.ref 104, .ref 104, .ref 104]), List.toArray []⟩
noncomputable def v160 (_P : Params) : PySem.Obj := ⟨.type "builtin_function_or_method", none, .fields (List.toArray [.builtin "object.__init_subclass__", .ref 104]), List.toArray []⟩
noncomputable def v161 (_P : Params) : PySem.Obj := ⟨.type "tuple", none, .seq (List.toArray []) 0, List.toArray []⟩
noncomputable def v162 (_P : Params) : PySem.Obj := ⟨.none, none, .fields (List.toArray []), List.toArray []⟩
noncomputable def v163 (_P : Params) : PySem.Obj := ⟨.type "tuple", none, .seq (List.toArray [.str (Str.ofString "sign") 315]) 0, List.toArray []⟩
noncomputable def v164 (_P : Params) : PySem.Obj := ⟨.type "tuple", none, .seq (List.toArray []) 0, List.toArray []⟩
noncomputable def v165 (_P : Params) : PySem.Obj := (fun (p : Arguments) (b : List Stmt) (s : Scope) (_ : (p, b, s) = fnP (nthS pW.main.body 10)) => (⟨.none, none, .func ⟨Str.ofString "is_sign", Str.ofString "is_sign", p, .stmts b, s, 0, [], .none, .none, .none, .none, none, .none, .none, 0⟩, List.toArray []⟩ : Obj)) _ _ _ rfl
noncomputable def v166 (_P : Params) : PySem.Obj := ⟨.type "code", none, .fields (List.toArray [.str (Str.ofString "is_sign") 312, .str (Str.ofString "is_sign") 313, .str (Str.ofString "/claim/cut.py") 314, .int 20 0, .int 1 0, .int 0 0, .int 0 0, .int 3 0, .ref 107, .bool true, .int 181 0, .ref 108, .none, .ref 109, .ref 110, .ref 111, .int 316 0, .int 20 0, .str (Str.ofString "/claim/cut.py") 317]), List.toArray []⟩
noncomputable def v167 (_P : Params) : PySem.Obj := (fun (p : Arguments) (b : List Stmt) (s : Scope) (_ : (p, b, s) = fnP (nthS pW.main.body 10)) => (⟨.type "function", none, .func ⟨Str.ofString "is_sign", Str.ofString "is_sign", p, .stmts b, s, 3, [], .none, .none, .none, .str (Str.ofString "crcgate.rows") 310, none, .ref 112, .none, 0⟩, List.toArray []⟩ : Obj)) _ _ _ rfl
noncomputable def v168 (_P : Params) : PySem.Obj := ⟨.type "tuple", none, .seq (List.toArray []) 0, List.toArray []⟩
noncomputable def v169 (_P : Params) : PySem.Obj := ⟨.none, none, .fields (List.toArray []), List.toArray []⟩
noncomputable def v170 (_P : Params) : PySem.Obj := ⟨.type "tuple", none, .seq (List.toArray [.str (Str.ofString "row") 322, .str (Str.ofString "sign") 323]) 0, List.toArray []⟩
noncomputable def v171 (_P : Params) : PySem.Obj := ⟨.type "tuple", none, .seq (List.toArray []) 0, List.toArray []⟩
noncomputable def v172 (_P : Params) : PySem.Obj := (fun (p : Arguments) (b : List Stmt) (s : Scope) (_ : (p, b, s) = fnP (nthS pW.main.body 11)) => (⟨.none, none, .func ⟨Str.ofString "need_row", Str.ofString "need_row", p, .stmts b, s, 0, [], .none, .none, .none, .none, none, .none, .none, 0⟩, List.toArray []⟩ : Obj)) _ _ _ rfl
noncomputable def v173 (_P : Params) : PySem.Obj := ⟨.type "code", none, .fields (List.toArray [.str (Str.ofString "need_row") 319, .str (Str.ofString "need_row") 320, .str (Str.ofString "/claim/cut.py") 321, .int 22 0, .int 1 0, .int 0 0, .int 0 0, .int 3 0, .ref 114, .bool true, .int 181 0, .ref 115, .none, .ref 116, .ref 117, .ref 118, .int 324 0, .int 22 0, .str (Str.ofString "/claim/cut.py") 325]), List.toArray []⟩
noncomputable def v174 (_P : Params) : PySem.Obj := (fun (p : Arguments) (b : List Stmt) (s : Scope) (_ : (p, b, s) = fnP (nthS pW.main.body 11)) => (⟨.type "function", none, .func ⟨Str.ofString "need_row", Str.ofString "need_row", p, .stmts b, s, 3, [], .none, .none, .none, .str (Str.ofString "crcgate.rows") 310, none, .ref 119, .none, 0⟩, List.toArray []⟩ : Obj)) _ _ _ rfl
noncomputable def v175 (_P : Params) : PySem.Obj := ⟨.type "tuple", none, .seq (List.toArray []) 0, List.toArray []⟩
noncomputable def v176 (_P : Params) : PySem.Obj := ⟨.none, none, .fields (List.toArray []), List.toArray []⟩
noncomputable def v177 (_P : Params) : PySem.Obj := ⟨.type "tuple", none, .seq (List.toArray [.str (Str.ofString "row") 330, .str (Str.ofString "found") 331, .str (Str.ofString "sign") 332]) 0, List.toArray []⟩
noncomputable def v178 (_P : Params) : PySem.Obj := ⟨.type "tuple", none, .seq (List.toArray []) 0, List.toArray []⟩
noncomputable def v179 (_P : Params) : PySem.Obj := (fun (p : Arguments) (b : List Stmt) (s : Scope) (_ : (p, b, s) = fnP (nthS pW.main.body 12)) => (⟨.none, none, .func ⟨Str.ofString "value_of", Str.ofString "value_of", p, .stmts b, s, 0, [], .none, .none, .none, .none, none, .none, .none, 0⟩, List.toArray []⟩ : Obj)) _ _ _ rfl
noncomputable def v180 (_P : Params) : PySem.Obj := ⟨.type "code", none, .fields (List.toArray [.str (Str.ofString "value_of") 327, .str (Str.ofString "value_of") 328, .str (Str.ofString "/claim/cut.py") 329, .int 28 0, .int 1 0, .int 0 0, .int 0 0, .int 3 0, .ref 121, .bool true, .int 181 0, .ref 122, .none, .ref 123, .ref 124, .ref 125, .int 333 0, .int 28 0, .str (Str.ofString "/claim/cut.py") 334]), List.toArray []⟩
noncomputable def v181 (_P : Params) : PySem.Obj := (fun (p : Arguments) (b : List Stmt) (s : Scope) (_ : (p, b, s) = fnP (nthS pW.main.body 12)) => (⟨.type "function", none, .func ⟨Str.ofString "value_of", Str.ofString "value_of", p, .stmts b, s, 3, [], .none, .none, .none, .str (Str.ofString "crcgate.rows") 310, none, .ref 126, .none, 0⟩, List.toArray []⟩ : Obj)) _ _ _ rfl
noncomputable def v182 (_P : Params) : PySem.Obj := ⟨.type "tuple", none, .seq (List.toArray []) 0, List.toArray []⟩
noncomputable def v183 (_P : Params) : PySem.Obj := ⟨.none, none, .fields (List.toArray []), List.toArray []⟩
noncomputable def v184 (_P : Params) : PySem.Obj := ⟨.type "tuple", none, .seq (List.toArray [.str (Str.ofString "value") 339, .str (Str.ofString "many") 340, .str (Str.ofString "found") 341, .str (Str.ofString "turn") 342]) 0, List.toArray []⟩
noncomputable def v185 (_P : Params) : PySem.Obj := ⟨.type "tuple", none, .seq (List.toArray []) 0, List.toArray []⟩
noncomputable def v186 (_P : Params) : PySem.Obj := (fun (p : Arguments) (b : List Stmt) (s : Scope) (_ : (p, b, s) = fnP (nthS pW.main.body 13)) => (⟨.none, none, .func ⟨Str.ofString "signs_of", Str.ofString "signs_of", p, .stmts b, s, 0, [], .none, .none, .none, .none, none, .none, .none, 0⟩, List.toArray []⟩ : Obj)) _ _ _ rfl
noncomputable def v187 (_P : Params) : PySem.Obj := ⟨.type "code", none, .fields (List.toArray [.str (Str.ofString "signs_of") 336, .str (Str.ofString "signs_of") 337, .str (Str.ofString "/claim/cut.py") 338, .int 33 0, .int 2 0, .int 0 0, .int 0 0, .int 3 0, .ref 128, .bool true, .int 181 0, .ref 129, .none, .ref 130, .ref 131, .ref 132, .int 343 0, .int 33 0, .str (Str.ofString "/claim/cut.py") 344]), List.toArray []⟩
noncomputable def v188 (_P : Params) : PySem.Obj := (fun (p : Arguments) (b : List Stmt) (s : Scope) (_ : (p, b, s) = fnP (nthS pW.main.body 13)) => (⟨.type "function", none, .func ⟨Str.ofString "signs_of", Str.ofString "signs_of", p, .stmts b, s, 3, [], .none, .none, .none, .str (Str.ofString "crcgate.rows") 310, none, .ref 133, .none, 0⟩, List.toArray []⟩ : Obj)) _ _ _ rfl
noncomputable def v189 (_P : Params) : PySem.Obj := ⟨.type "tuple", none, .seq (List.toArray []) 0, List.toArray []⟩
noncomputable def v190 (_P : Params) : PySem.Obj := ⟨.none, none, .fields (List.toArray []), List.toArray []⟩
noncomputable def v191 (_P : Params) : PySem.Obj := ⟨.type "tuple", none, .seq (List.toArray [.str (Str.ofString "row") 349, .str (Str.ofString "divisor") 350, .str (Str.ofString "width") 351, .str (Str.ofString "left") 352, .str (Str.ofString "quotient") 353, .str (Str.ofString "place") 354, .str (Str.ofString "sign") 355, .str (Str.ofString "beside") 356, .str (Str.ofString "more") 357]) 0, List.toArray []⟩
noncomputable def v192 (_P : Params) : PySem.Obj := ⟨.type "tuple", none, .seq (List.toArray []) 0, List.toArray []⟩
noncomputable def v193 (_P : Params) : PySem.Obj := (fun (p : Arguments) (b : List Stmt) (s : Scope) (_ : (p, b, s) = fnP (nthS pW.main.body 14)) => (⟨.none, none, .func ⟨Str.ofString "parted", Str.ofString "parted", p, .stmts b, s, 0, [], .none, .none, .none, .none, none, .none, .none, 0⟩, List.toArray []⟩ : Obj)) _ _ _ rfl
noncomputable def v194 (_P : Params) : PySem.Obj := ⟨.type "code", none, .fields (List.toArray [.str (Str.ofString "parted") 346, .str (Str.ofString "parted") 347, .str (Str.ofString "/claim/cut.py") 348, .int 39 0, .int 2 0, .int 0 0, .int 0 0, .int 3 0, .ref 135, .bool true, .int 181 0, .ref 136, .none, .ref 137, .ref 138, .ref 139, .int 358 0, .int 39 0, .str (Str.ofString "/claim/cut.py") 359]), List.toArray []⟩
noncomputable def v195 (_P : Params) : PySem.Obj := (fun (p : Arguments) (b : List Stmt) (s : Scope) (_ : (p, b, s) = fnP (nthS pW.main.body 14)) => (⟨.type "function", none, .func ⟨Str.ofString "parted", Str.ofString "parted", p, .stmts b, s, 3, [], .none, .none, .none, .str (Str.ofString "crcgate.rows") 310, none, .ref 140, .none, 0⟩, List.toArray []⟩ : Obj)) _ _ _ rfl
noncomputable def tr195 (P : Params) : PySem.W.BT := .node (PySem.W.boot_o_0 P) (.node (PySem.W.boot_o_1 P) (.node (v146 P) (.node (PySem.W.boot_o_7 P) (.node (v51 P) (.node (v148 P) (.node (v108 P) (.node (v181 P) .nil .nil) .nil) (.node (v149 P) .nil .nil)) (.node (v89 P) (.node (v127 P) .nil .nil) (.node (v165 P) .nil .nil))) (.node (v59 P) (.node (v78 P) (.node (v119 P) (.node (v189 P) .nil .nil) .nil) (.node (v157 P) .nil .nil)) (.node (v97 P) (.node (v138 P) .nil .nil) (.node (v173 P) .nil .nil)))) (.node (v43 P) (.node (v55 P) (.node (v74 P) (.node (v112 P) (.node (v185 P) .nil .nil) .nil) (.node (v153 P) .nil .nil)) (.node (v93 P) (.node (v134 P) .nil .nil) (.node (v169 P) .nil .nil))) (.node (v63 P) (.node (v82 P) (.node (v123 P) (.node (v193 P) .nil .nil) .nil) (.node (v161 P) .nil .nil)) (.node (v104 P) (.node (v142 P) .nil .nil) (.node (v177 P) .nil .nil))))) (.node (PySem.W.boot_o_5 P) (.node (PySem.W.boot_o_9 P) (.node (v53 P) (.node (v69 P) (.node (v110 P) (.node (v183 P) .nil .nil) .nil) (.node (v151 P) .nil .nil)) (.node (v91 P) (.node (v129 P) .nil .nil) (.node (v167 P) .nil .nil))) (.node (v61 P) (.node (v80 P) (.node (v121 P) (.node (v191 P) .nil .nil) .nil) (.node (v159 P) .nil .nil)) (.node (v99 P) (.node (v140 P) .nil .nil) (.node (v175 P) .nil .nil)))) (.node (v45 P) (.node (v57 P) (.node (v76 P) (.node (v114 P) (.node (v187 P) .nil .nil) .nil) (.node (v155 P) .nil .nil)) (.node (v95 P) (.node (v136 P) .nil .nil) (.node (v171 P) .nil .nil))) (.node (v65 P) (.node (v84 P) (.node (v125 P) (.node (v195 P) .nil .nil) .nil) (.node (v163 P) .nil .nil)) (.node (v106 P) (.node (v144 P) .nil .nil) (.node (v179 P) .nil .nil)))))) (.node (PySem.W.boot_o_2 P) (.node (PySem.W.boot_o_4 P) (.node (PySem.W.boot_o_8 P) (.node (v52 P) (.node (v68 P) (.node (v109 P) (.node (v182 P) .nil .nil) .nil) (.node (v150 P) .nil .nil)) (.node (v90 P) (.node (v128 P) .nil .nil) (.node (v166 P) .nil .nil))) (.node (v60 P) (.node (v79 P) (.node (v120 P) (.node (v190 P) .nil .nil) .nil) (.node (v158 P) .nil .nil)) (.node (v98 P) (.node (v139 P) .nil .nil) (.node (v174 P) .nil .nil)))) (.node (v147 P) (.node (v56 P) (.node (v75 P) (.node (v113 P) (.node (v186 P) .nil .nil) .nil) (.node (v154 P) .nil .nil)) (.node (v94 P) (.node (v135 P) .nil .nil) (.node (v170 P) .nil .nil))) (.node (v64 P) (.node (v83 P) (.node (v124 P) (.node (v194 P) .nil .nil) .nil) (.node (v162 P) .nil .nil)) (.node (v105 P) (.node (v143 P) .nil .nil) (.node (v178 P) .nil .nil))))) (.node (PySem.W.boot_o_6 P) (.node (PySem.W.boot_o_10 P) (.node (v54 P) (.node (v70 P) (.node (v111 P) (.node (v184 P) .nil .nil) .nil) (.node (v152 P) .nil .nil)) (.node (v92 P) (.node (v130 P) .nil .nil) (.node (v168 P) .nil .nil))) (.node (v62 P) (.node (v81 P) (.node (v122 P) (.node (v192 P) .nil .nil) .nil) (.node (v160 P) .nil .nil)) (.node (v100 P) (.node (v141 P) .nil .nil) (.node (v176 P) .nil .nil)))) (.node (v46 P) (.node (v58 P) (.node (v77 P) (.node (v115 P) (.node (v188 P) .nil .nil) .nil) (.node (v156 P) .nil .nil)) (.node (v96 P) (.node (v137 P) .nil .nil) (.node (v172 P) .nil .nil))) (.node (v66 P) (.node (v85 P) (.node (v126 P) .nil .nil) (.node (v164 P) .nil .nil)) (.node (v107 P) (.node (v145 P) .nil .nil) (.node (v180 P) .nil .nil))))))
noncomputable def v196 (P : Params) : PySem.Obj := ⟨.type "dict", none, .dict (List.toArray [⟨PyData.keyHash P (Str.ofString "__name__"), .str (Str.ofString "__name__") 165, .str (Str.ofString "crcgate.gates") 394⟩, ⟨PyData.keyHash P (Str.ofString "__doc__"), .str (Str.ofString "__doc__") 166, .none⟩, ⟨PyData.keyHash P (Str.ofString "__package__"), .str (Str.ofString "__package__") 167, .none⟩, ⟨PyData.keyHash P (Str.ofString "__loader__"), .str (Str.ofString "__loader__") 168, .builtin "__main__.__loader__#opaque"⟩, ⟨PyData.keyHash P (Str.ofString "__spec__"), .str (Str.ofString "__spec__") 169, .none⟩, ⟨PyData.keyHash P (Str.ofString "__annotations__"), .str (Str.ofString "__annotations__") 170, .ref 6⟩, ⟨PyData.keyHash P (Str.ofString "__builtins__"), .str (Str.ofString "__builtins__") 171, .ref 4⟩, ⟨PyData.keyHash P (Str.ofString "__file__"), .str (Str.ofString "__file__") 173, .str (Str.ofString "/claim/cut.py") 172⟩, ⟨PyData.keyHash P (Str.ofString "__cached__"), .str (Str.ofString "__cached__") 174, .none⟩, ⟨PyData.keyHash P (Str.ofString "_wall"), .str (Str.ofString "_wall") 193, .ref 21⟩, ⟨PyData.keyHash P (Str.ofString "GateError"), .str (Str.ofString "GateError") 213, .ref 31⟩, ⟨PyData.keyHash P (Str.ofString "NoRow"), .str (Str.ofString "NoRow") 229, .ref 44⟩, ⟨PyData.keyHash P (Str.ofString "NoDivisor"), .str (Str.ofString "NoDivisor") 245, .ref 56⟩, ⟨PyData.keyHash P (Str.ofString "NoCount"), .str (Str.ofString "NoCount") 261, .ref 68⟩, ⟨PyData.keyHash P (Str.ofString "TooLong"), .str (Str.ofString "TooLong") 277, .ref 80⟩, ⟨PyData.keyHash P (Str.ofString "TooShort"), .str (Str.ofString "TooShort") 293, .ref 92⟩, ⟨PyData.keyHash P (Str.ofString "Broken"), .str (Str.ofString "Broken") 309, .ref 104⟩, ⟨PyData.keyHash P (Str.ofString "is_sign"), .str (Str.ofString "is_sign") 318, .ref 113⟩, ⟨PyData.keyHash P (Str.ofString "need_row"), .str (Str.ofString "need_row") 326, .ref 120⟩, ⟨PyData.keyHash P (Str.ofString "value_of"), .str (Str.ofString "value_of") 335, .ref 127⟩, ⟨PyData.keyHash P (Str.ofString "signs_of"), .str (Str.ofString "signs_of") 345, .ref 134⟩, ⟨PyData.keyHash P (Str.ofString "parted"), .str (Str.ofString "parted") 360, .ref 141⟩, ⟨PyData.keyHash P (Str.ofString "LEAST"), .str (Str.ofString "LEAST") 364, .int 2 363⟩, ⟨PyData.keyHash P (Str.ofString "MOST"), .str (Str.ofString "MOST") 366, .int 13 365⟩, ⟨PyData.keyHash P (Str.ofString "need_divisor"), .str (Str.ofString "need_divisor") 373, .ref 148⟩, ⟨PyData.keyHash P (Str.ofString "onward"), .str (Str.ofString "onward") 382, .ref 155⟩, ⟨PyData.keyHash P (Str.ofString "reach"), .str (Str.ofString "reach") 393, .ref 162⟩, ⟨PyData.keyHash P (Str.ofString "MOST_NOUGHTS"), .str (Str.ofString "MOST_NOUGHTS") 399, .int 1000000000000000000 398⟩]) 28, List.toArray []⟩
noncomputable def v197 (_P : Params) : PySem.Obj := ⟨.none, none, .fields (List.toArray [.int 1 0, .int 0 0, .ref 20, .int 5 0, .int 0 0, .ref 27, .int 7 0, .int 0 0, .ref 40, .int 9 0, .int 0 0, .ref 52, .int 11 0, .int 0 0, .ref 64, .int 13 0, .int 0 0, .ref 76, .int 15 0, .int 0 0, .ref 88, .int 17 0, .int 0 0, .ref 100, .int 20 0, .int 0 0, .ref 112, .int 22 0, .int 0 0, .ref 119, .int 28 0, .int 0 0, .ref 126, .int 33 0, .int 0 0, .ref 133, .int 39 0, .int 0 0, .ref 140, .int 57 0, .int 0 0, .ref 147, .int 63 0, .int 0 0, .ref 154, .int 68 0, .int 0 0, .ref 161]), List.toArray []⟩
noncomputable def v198 (_P : Params) : PySem.Obj := ⟨.type "tuple", none, .seq (List.toArray []) 0, List.toArray []⟩
noncomputable def v199 (_P : Params) : PySem.Obj := ⟨.none, none, .fields (List.toArray []), List.toArray []⟩
noncomputable def v200 (_P : Params) : PySem.Obj := ⟨.type "tuple", none, .seq (List.toArray [.str (Str.ofString "divisor") 370]) 0, List.toArray []⟩
noncomputable def v201 (_P : Params) : PySem.Obj := ⟨.type "tuple", none, .seq (List.toArray []) 0, List.toArray []⟩
noncomputable def v202 (_P : Params) : PySem.Obj := (fun (p : Arguments) (b : List Stmt) (s : Scope) (_ : (p, b, s) = fnP (nthS pW.main.body 18)) => (⟨.none, none, .func ⟨Str.ofString "need_divisor", Str.ofString "need_divisor", p, .stmts b, s, 0, [], .none, .none, .none, .none, none, .none, .none, 0⟩, List.toArray []⟩ : Obj)) _ _ _ rfl
noncomputable def v203 (_P : Params) : PySem.Obj := ⟨.type "code", none, .fields (List.toArray [.str (Str.ofString "need_divisor") 367, .str (Str.ofString "need_divisor") 368, .str (Str.ofString "/claim/cut.py") 369, .int 57 0, .int 1 0, .int 0 0, .int 0 0, .int 3 0, .ref 142, .bool true, .int 181 0, .ref 143, .none, .ref 144, .ref 145, .ref 146, .int 371 0, .int 57 0, .str (Str.ofString "/claim/cut.py") 372]), List.toArray []⟩
noncomputable def v204 (_P : Params) : PySem.Obj := (fun (p : Arguments) (b : List Stmt) (s : Scope) (_ : (p, b, s) = fnP (nthS pW.main.body 18)) => (⟨.type "function", none, .func ⟨Str.ofString "need_divisor", Str.ofString "need_divisor", p, .stmts b, s, 3, [], .none, .none, .none, .str (Str.ofString "crcgate.reaches") 361, none, .ref 147, .none, 0⟩, List.toArray []⟩ : Obj)) _ _ _ rfl
noncomputable def v205 (_P : Params) : PySem.Obj := ⟨.type "tuple", none, .seq (List.toArray []) 0, List.toArray []⟩
noncomputable def v206 (_P : Params) : PySem.Obj := ⟨.none, none, .fields (List.toArray []), List.toArray []⟩
noncomputable def v207 (_P : Params) : PySem.Obj := ⟨.type "tuple", none, .seq (List.toArray [.str (Str.ofString "value") 377, .str (Str.ofString "divisor") 378, .str (Str.ofString "width") 379]) 0, List.toArray []⟩
noncomputable def v208 (_P : Params) : PySem.Obj := ⟨.type "tuple", none, .seq (List.toArray []) 0, List.toArray []⟩
noncomputable def v209 (_P : Params) : PySem.Obj := (fun (p : Arguments) (b : List Stmt) (s : Scope) (_ : (p, b, s) = fnP (nthS pW.main.body 19)) => (⟨.none, none, .func ⟨Str.ofString "onward", Str.ofString "onward", p, .stmts b, s, 0, [], .none, .none, .none, .none, none, .none, .none, 0⟩, List.toArray []⟩ : Obj)) _ _ _ rfl
noncomputable def v210 (_P : Params) : PySem.Obj := ⟨.type "code", none, .fields (List.toArray [.str (Str.ofString "onward") 374, .str (Str.ofString "onward") 375, .str (Str.ofString "/claim/cut.py") 376, .int 63 0, .int 3 0, .int 0 0, .int 0 0, .int 3 0, .ref 149, .bool true, .int 181 0, .ref 150, .none, .ref 151, .ref 152, .ref 153, .int 380 0, .int 63 0, .str (Str.ofString "/claim/cut.py") 381]), List.toArray []⟩
noncomputable def v211 (_P : Params) : PySem.Obj := (fun (p : Arguments) (b : List Stmt) (s : Scope) (_ : (p, b, s) = fnP (nthS pW.main.body 19)) => (⟨.type "function", none, .func ⟨Str.ofString "onward", Str.ofString "onward", p, .stmts b, s, 3, [], .none, .none, .none, .str (Str.ofString "crcgate.reaches") 361, none, .ref 154, .none, 0⟩, List.toArray []⟩ : Obj)) _ _ _ rfl
noncomputable def v212 (_P : Params) : PySem.Obj := ⟨.type "tuple", none, .seq (List.toArray []) 0, List.toArray []⟩
noncomputable def v213 (_P : Params) : PySem.Obj := ⟨.none, none, .fields (List.toArray []), List.toArray []⟩
noncomputable def v214 (_P : Params) : PySem.Obj := ⟨.type "tuple", none, .seq (List.toArray [.str (Str.ofString "divisor") 386, .str (Str.ofString "number") 387, .str (Str.ofString "width") 388, .str (Str.ofString "value") 389, .str (Str.ofString "found") 390]) 0, List.toArray []⟩
noncomputable def v215 (_P : Params) : PySem.Obj := ⟨.type "tuple", none, .seq (List.toArray []) 0, List.toArray []⟩
noncomputable def v216 (_P : Params) : PySem.Obj := (fun (p : Arguments) (b : List Stmt) (s : Scope) (_ : (p, b, s) = fnP (nthS pW.main.body 20)) => (⟨.none, none, .func ⟨Str.ofString "reach", Str.ofString "reach", p, .stmts b, s, 0, [], .none, .none, .none, .none, none, .none, .none, 0⟩, List.toArray []⟩ : Obj)) _ _ _ rfl
noncomputable def v217 (_P : Params) : PySem.Obj := ⟨.type "code", none, .fields (List.toArray [.str (Str.ofString "reach") 383, .str (Str.ofString "reach") 384, .str (Str.ofString "/claim/cut.py") 385, .int 68 0, .int 1 0, .int 0 0, .int 0 0, .int 3 0, .ref 156, .bool true, .int 181 0, .ref 157, .none, .ref 158, .ref 159, .ref 160, .int 391 0, .int 68 0, .str (Str.ofString "/claim/cut.py") 392]), List.toArray []⟩
noncomputable def v218 (_P : Params) : PySem.Obj := (fun (p : Arguments) (b : List Stmt) (s : Scope) (_ : (p, b, s) = fnP (nthS pW.main.body 20)) => (⟨.type "function", none, .func ⟨Str.ofString "reach", Str.ofString "reach", p, .stmts b, s, 3, [], .none, .none, .none, .str (Str.ofString "crcgate.reaches") 361, none, .ref 161, .none, 0⟩, List.toArray []⟩ : Obj)) _ _ _ rfl
noncomputable def tr218 (P : Params) : PySem.W.BT := .node (PySem.W.boot_o_0 P) (.node (PySem.W.boot_o_1 P) (.node (v196 P) (.node (PySem.W.boot_o_7 P) (.node (v51 P) (.node (v148 P) (.node (v108 P) (.node (v181 P) .nil .nil) .nil) (.node (v149 P) (.node (v215 P) .nil .nil) .nil)) (.node (v89 P) (.node (v127 P) (.node (v199 P) .nil .nil) .nil) (.node (v165 P) .nil .nil))) (.node (v59 P) (.node (v78 P) (.node (v119 P) (.node (v189 P) .nil .nil) .nil) (.node (v157 P) .nil .nil)) (.node (v97 P) (.node (v138 P) (.node (v207 P) .nil .nil) .nil) (.node (v173 P) .nil .nil)))) (.node (v43 P) (.node (v55 P) (.node (v74 P) (.node (v112 P) (.node (v185 P) .nil .nil) .nil) (.node (v153 P) .nil .nil)) (.node (v93 P) (.node (v134 P) (.node (v203 P) .nil .nil) .nil) (.node (v169 P) .nil .nil))) (.node (v63 P) (.node (v82 P) (.node (v123 P) (.node (v193 P) .nil .nil) .nil) (.node (v161 P) .nil .nil)) (.node (v104 P) (.node (v142 P) (.node (v211 P) .nil .nil) .nil) (.node (v177 P) .nil .nil))))) (.node (PySem.W.boot_o_5 P) (.node (PySem.W.boot_o_9 P) (.node (v53 P) (.node (v69 P) (.node (v110 P) (.node (v183 P) .nil .nil) .nil) (.node (v151 P) (.node (v217 P) .nil .nil) .nil)) (.node (v91 P) (.node (v129 P) (.node (v201 P) .nil .nil) .nil) (.node (v167 P) .nil .nil))) (.node (v61 P) (.node (v80 P) (.node (v121 P) (.node (v191 P) .nil .nil) .nil) (.node (v159 P) .nil .nil)) (.node (v99 P) (.node (v140 P) (.node (v209 P) .nil .nil) .nil) (.node (v175 P) .nil .nil)))) (.node (v45 P) (.node (v57 P) (.node (v76 P) (.node (v114 P) (.node (v187 P) .nil .nil) .nil) (.node (v155 P) .nil .nil)) (.node (v95 P) (.node (v136 P) (.node (v205 P) .nil .nil) .nil) (.node (v171 P) .nil .nil))) (.node (v65 P) (.node (v84 P) (.node (v125 P) (.node (v195 P) .nil .nil) .nil) (.node (v163 P) .nil .nil)) (.node (v106 P) (.node (v144 P) (.node (v213 P) .nil .nil) .nil) (.node (v179 P) .nil .nil)))))) (.node (PySem.W.boot_o_2 P) (.node (PySem.W.boot_o_4 P) (.node (PySem.W.boot_o_8 P) (.node (v52 P) (.node (v68 P) (.node (v109 P) (.node (v182 P) .nil .nil) .nil) (.node (v150 P) (.node (v216 P) .nil .nil) .nil)) (.node (v90 P) (.node (v128 P) (.node (v200 P) .nil .nil) .nil) (.node (v166 P) .nil .nil))) (.node (v60 P) (.node (v79 P) (.node (v120 P) (.node (v190 P) .nil .nil) .nil) (.node (v158 P) .nil .nil)) (.node (v98 P) (.node (v139 P) (.node (v208 P) .nil .nil) .nil) (.node (v174 P) .nil .nil)))) (.node (v197 P) (.node (v56 P) (.node (v75 P) (.node (v113 P) (.node (v186 P) .nil .nil) .nil) (.node (v154 P) .nil .nil)) (.node (v94 P) (.node (v135 P) (.node (v204 P) .nil .nil) .nil) (.node (v170 P) .nil .nil))) (.node (v64 P) (.node (v83 P) (.node (v124 P) (.node (v194 P) .nil .nil) .nil) (.node (v162 P) .nil .nil)) (.node (v105 P) (.node (v143 P) (.node (v212 P) .nil .nil) .nil) (.node (v178 P) .nil .nil))))) (.node (PySem.W.boot_o_6 P) (.node (PySem.W.boot_o_10 P) (.node (v54 P) (.node (v70 P) (.node (v111 P) (.node (v184 P) .nil .nil) .nil) (.node (v152 P) (.node (v218 P) .nil .nil) .nil)) (.node (v92 P) (.node (v130 P) (.node (v202 P) .nil .nil) .nil) (.node (v168 P) .nil .nil))) (.node (v62 P) (.node (v81 P) (.node (v122 P) (.node (v192 P) .nil .nil) .nil) (.node (v160 P) .nil .nil)) (.node (v100 P) (.node (v141 P) (.node (v210 P) .nil .nil) .nil) (.node (v176 P) .nil .nil)))) (.node (v46 P) (.node (v58 P) (.node (v77 P) (.node (v115 P) (.node (v188 P) .nil .nil) .nil) (.node (v156 P) .nil .nil)) (.node (v96 P) (.node (v137 P) (.node (v206 P) .nil .nil) .nil) (.node (v172 P) .nil .nil))) (.node (v66 P) (.node (v85 P) (.node (v126 P) (.node (v198 P) .nil .nil) .nil) (.node (v164 P) .nil .nil)) (.node (v107 P) (.node (v145 P) (.node (v214 P) .nil .nil) .nil) (.node (v180 P) .nil .nil))))))
noncomputable def v219 (P : Params) : PySem.Obj := ⟨.type "dict", none, .dict (List.toArray [⟨PyData.keyHash P (Str.ofString "__name__"), .str (Str.ofString "__name__") 165, .str (Str.ofString "crcgate.gates") 394⟩, ⟨PyData.keyHash P (Str.ofString "__doc__"), .str (Str.ofString "__doc__") 166, .none⟩, ⟨PyData.keyHash P (Str.ofString "__package__"), .str (Str.ofString "__package__") 167, .none⟩, ⟨PyData.keyHash P (Str.ofString "__loader__"), .str (Str.ofString "__loader__") 168, .builtin "__main__.__loader__#opaque"⟩, ⟨PyData.keyHash P (Str.ofString "__spec__"), .str (Str.ofString "__spec__") 169, .none⟩, ⟨PyData.keyHash P (Str.ofString "__annotations__"), .str (Str.ofString "__annotations__") 170, .ref 6⟩, ⟨PyData.keyHash P (Str.ofString "__builtins__"), .str (Str.ofString "__builtins__") 171, .ref 4⟩, ⟨PyData.keyHash P (Str.ofString "__file__"), .str (Str.ofString "__file__") 173, .str (Str.ofString "/claim/cut.py") 172⟩, ⟨PyData.keyHash P (Str.ofString "__cached__"), .str (Str.ofString "__cached__") 174, .none⟩, ⟨PyData.keyHash P (Str.ofString "_wall"), .str (Str.ofString "_wall") 193, .ref 21⟩, ⟨PyData.keyHash P (Str.ofString "GateError"), .str (Str.ofString "GateError") 213, .ref 31⟩, ⟨PyData.keyHash P (Str.ofString "NoRow"), .str (Str.ofString "NoRow") 229, .ref 44⟩, ⟨PyData.keyHash P (Str.ofString "NoDivisor"), .str (Str.ofString "NoDivisor") 245, .ref 56⟩, ⟨PyData.keyHash P (Str.ofString "NoCount"), .str (Str.ofString "NoCount") 261, .ref 68⟩, ⟨PyData.keyHash P (Str.ofString "TooLong"), .str (Str.ofString "TooLong") 277, .ref 80⟩, ⟨PyData.keyHash P (Str.ofString "TooShort"), .str (Str.ofString "TooShort") 293, .ref 92⟩, ⟨PyData.keyHash P (Str.ofString "Broken"), .str (Str.ofString "Broken") 309, .ref 104⟩, ⟨PyData.keyHash P (Str.ofString "is_sign"), .str (Str.ofString "is_sign") 318, .ref 113⟩, ⟨PyData.keyHash P (Str.ofString "need_row"), .str (Str.ofString "need_row") 326, .ref 120⟩, ⟨PyData.keyHash P (Str.ofString "value_of"), .str (Str.ofString "value_of") 335, .ref 127⟩, ⟨PyData.keyHash P (Str.ofString "signs_of"), .str (Str.ofString "signs_of") 345, .ref 134⟩, ⟨PyData.keyHash P (Str.ofString "parted"), .str (Str.ofString "parted") 360, .ref 141⟩, ⟨PyData.keyHash P (Str.ofString "LEAST"), .str (Str.ofString "LEAST") 364, .int 2 363⟩, ⟨PyData.keyHash P (Str.ofString "MOST"), .str (Str.ofString "MOST") 366, .int 13 365⟩, ⟨PyData.keyHash P (Str.ofString "need_divisor"), .str (Str.ofString "need_divisor") 373, .ref 148⟩, ⟨PyData.keyHash P (Str.ofString "onward"), .str (Str.ofString "onward") 382, .ref 155⟩, ⟨PyData.keyHash P (Str.ofString "reach"), .str (Str.ofString "reach") 393, .ref 162⟩, ⟨PyData.keyHash P (Str.ofString "MOST_NOUGHTS"), .str (Str.ofString "MOST_NOUGHTS") 399, .int 1000000000000000000 398⟩, ⟨PyData.keyHash P (Str.ofString "Gate"), .str (Str.ofString "Gate") 491, .ref 228⟩]) 29, List.toArray []⟩
noncomputable def v220 (_P : Params) : PySem.Obj := ⟨.none, none, .fields (List.toArray [.int 1 0, .int 0 0, .ref 20, .int 5 0, .int 0 0, .ref 27, .int 7 0, .int 0 0, .ref 40, .int 9 0, .int 0 0, .ref 52, .int 11 0, .int 0 0, .ref 64, .int 13 0, .int 0 0, .ref 76, .int 15 0, .int 0 0, .ref 88, .int 17 0, .int 0 0, .ref 100, .int 20 0, .int 0 0, .ref 112, .int 22 0, .int 0 0, .ref 119, .int 28 0, .int 0 0, .ref 126, .int 33 0, .int 0 0, .ref 133, .int 39 0, .int 0 0, .ref 140, .int 57 0, .int 0 0, .ref 147, .int 63 0, .int 0 0, .ref 154, .int 68 0, .int 0 0, .ref 161, .int 80 0, .int 0 0, .ref 168]), List.toArray []⟩
noncomputable def v221 (_P : Params) : PySem.Obj := ⟨.type "tuple", none, .seq (List.toArray []) 0, List.toArray []⟩
noncomputable def v222 (_P : Params) : PySem.Obj := ⟨.type "builtin_function_or_method", none, .fields (List.toArray [.builtin "type.__prepare__", .type "type"]), List.toArray []⟩
noncomputable def v223 (P : Params) : PySem.Obj := ⟨.type "dict", none, .dict (List.toArray [⟨PyData.keyHash P (Str.ofString "__module__"), .str (Str.ofString "__module__") 407, .str (Str.ofString "crcgate.gates") 394⟩, ⟨PyData.keyHash P (Str.ofString "__qualname__"), .str (Str.ofString "__qualname__") 409, .str (Str.ofString "Gate") 408⟩, ⟨PyData.keyHash P (Str.ofString "__firstlineno__"), .str (Str.ofString "__firstlineno__") 411, .int 80 410⟩, ⟨PyData.keyHash P (Str.ofString "__init__"), .str (Str.ofString "__init__") 419, .ref 176⟩, ⟨PyData.keyHash P (Str.ofString "rest"), .str (Str.ofString "rest") 427, .ref 183⟩, ⟨PyData.keyHash P (Str.ofString "later"), .str (Str.ofString "later") 439, .ref 190⟩, ⟨PyData.keyHash P (Str.ofString "check"), .str (Str.ofString "check") 447, .ref 197⟩, ⟨PyData.keyHash P (Str.ofString "sealed"), .str (Str.ofString "sealed") 455, .ref 204⟩, ⟨PyData.keyHash P (Str.ofString "holds"), .str (Str.ofString "holds") 463, .ref 211⟩, ⟨PyData.keyHash P (Str.ofString "opened"), .str (Str.ofString "opened") 471, .ref 218⟩, ⟨PyData.keyHash P (Str.ofString "mended"), .str (Str.ofString "mended") 479, .ref 225⟩, ⟨PyData.keyHash P (Str.ofString "__static_attributes__"), .str (Str.ofString "__static_attributes__") 484, .ref 226⟩]) 12, List.toArray []⟩
noncomputable def v224 (_P : Params) : PySem.Obj := ⟨.type "tuple", none, .seq (List.toArray []) 0, List.toArray []⟩
noncomputable def v225 (_P : Params) : PySem.Obj := ⟨.none, none, .fields (List.toArray [.int 82 0, .int 4 0, .ref 175, .int 88 0, .int 4 0, .ref 182, .int 91 0, .int 4 0, .ref 189, .int 103 0, .int 4 0, .ref 196, .int 106 0, .int 4 0, .ref 203, .int 109 0, .int 4 0, .ref 210, .int 117 0, .int 4 0, .ref 217, .int 122 0, .int 4 0, .ref 224]), List.toArray []⟩
noncomputable def v226 (_P : Params) : PySem.Obj := ⟨.type "code", none, .fields (List.toArray [.str (Str.ofString "Gate") 402, .str (Str.ofString "Gate") 403, .str (Str.ofString "/claim/cut.py") 404, .int 80 0, .int 0 0, .int 0 0, .int 0 0, .int 0 0, .ref 166, .bool false, .int 181 0, .ref 167, .none, .none, .none, .none, .int 405 0, .int 80 0, .str (Str.ofString "/claim/cut.py") 406]), List.toArray []⟩
noncomputable def v227 (_P : Params) : PySem.Obj := ⟨.type "frame", none, .plain, List.toArray [some (.ref 168), some (.ref 3), some (.ref 165), none, some (.str (Str.ofString "crcgate.gates") 394), none, some (.ref 0)]⟩
noncomputable def v228 (_P : Params) : PySem.Obj := ⟨.type "tuple", none, .seq (List.toArray []) 0, List.toArray []⟩
noncomputable def v229 (_P : Params) : PySem.Obj := ⟨.none, none, .fields (List.toArray []), List.toArray []⟩
noncomputable def v230 (_P : Params) : PySem.Obj := ⟨.type "tuple", none, .seq (List.toArray [.str (Str.ofString "self") 415, .str (Str.ofString "divisor") 416]) 0, List.toArray []⟩
noncomputable def v231 (_P : Params) : PySem.Obj := ⟨.type "tuple", none, .seq (List.toArray []) 0, List.toArray []⟩
noncomputable def v232 (_P : Params) : PySem.Obj := (fun (p : Arguments) (b : List Stmt) (s : Scope) (_ : (p, b, s) = fnP (inC (nthS pW.main.body 23) 0)) => (⟨.none, none, .func ⟨Str.ofString "__init__", Str.ofString "Gate.__init__", p, .stmts b, s, 0, [], .none, .none, .none, .none, none, .none, .none, 0⟩, List.toArray []⟩ : Obj)) _ _ _ rfl
noncomputable def v233 (_P : Params) : PySem.Obj := ⟨.type "code", none, .fields (List.toArray [.str (Str.ofString "__init__") 412, .str (Str.ofString "Gate.__init__") 413, .str (Str.ofString "/claim/cut.py") 414, .int 82 0, .int 2 0, .int 0 0, .int 0 0, .int 3 0, .ref 170, .bool true, .int 181 0, .ref 171, .none, .ref 172, .ref 173, .ref 174, .int 417 0, .int 82 0, .str (Str.ofString "/claim/cut.py") 418]), List.toArray []⟩
noncomputable def v234 (_P : Params) : PySem.Obj := (fun (p : Arguments) (b : List Stmt) (s : Scope) (_ : (p, b, s) = fnP (inC (nthS pW.main.body 23) 0)) => (⟨.type "function", none, .func ⟨Str.ofString "__init__", Str.ofString "Gate.__init__", p, .stmts b, s, 3, [], .none, .none, .none, .str (Str.ofString "crcgate.gates") 394, none, .ref 175, .none, 0⟩, List.toArray []⟩ : Obj)) _ _ _ rfl
noncomputable def v235 (_P : Params) : PySem.Obj := ⟨.type "tuple", none, .seq (List.toArray []) 0, List.toArray []⟩
noncomputable def v236 (_P : Params) : PySem.Obj := ⟨.none, none, .fields (List.toArray []), List.toArray []⟩
noncomputable def v237 (_P : Params) : PySem.Obj := ⟨.type "tuple", none, .seq (List.toArray [.str (Str.ofString "self") 423, .str (Str.ofString "row") 424]) 0, List.toArray []⟩
noncomputable def v238 (_P : Params) : PySem.Obj := ⟨.type "tuple", none, .seq (List.toArray []) 0, List.toArray []⟩
noncomputable def v239 (_P : Params) : PySem.Obj := (fun (p : Arguments) (b : List Stmt) (s : Scope) (_ : (p, b, s) = fnP (inC (nthS pW.main.body 23) 1)) => (⟨.none, none, .func ⟨Str.ofString "rest", Str.ofString "Gate.rest", p, .stmts b, s, 0, [], .none, .none, .none, .none, none, .none, .none, 0⟩, List.toArray []⟩ : Obj)) _ _ _ rfl
noncomputable def v240 (_P : Params) : PySem.Obj := ⟨.type "code", none, .fields (List.toArray [.str (Str.ofString "rest") 420, .str (Str.ofString "Gate.rest") 421, .str (Str.ofString "/claim/cut.py") 422, .int 88 0, .int 2 0, .int 0 0, .int 0 0, .int 3 0, .ref 177, .bool true, .int 181 0, .ref 178, .none, .ref 179, .ref 180, .ref 181, .int 425 0, .int 88 0, .str (Str.ofString "/claim/cut.py") 426]), List.toArray []⟩
noncomputable def v241 (_P : Params) : PySem.Obj := (fun (p : Arguments) (b : List Stmt) (s : Scope) (_ : (p, b, s) = fnP (inC (nthS pW.main.body 23) 1)) => (⟨.type "function", none, .func ⟨Str.ofString "rest", Str.ofString "Gate.rest", p, .stmts b, s, 3, [], .none, .none, .none, .str (Str.ofString "crcgate.gates") 394, none, .ref 182, .none, 0⟩, List.toArray []⟩ : Obj)) _ _ _ rfl
noncomputable def v242 (_P : Params) : PySem.Obj := ⟨.type "tuple", none, .seq (List.toArray []) 0, List.toArray []⟩
noncomputable def v243 (_P : Params) : PySem.Obj := ⟨.none, none, .fields (List.toArray []), List.toArray []⟩
noncomputable def v244 (_P : Params) : PySem.Obj := ⟨.type "tuple", none, .seq (List.toArray [.str (Str.ofString "self") 431, .str (Str.ofString "rest") 432, .str (Str.ofString "many") 433, .str (Str.ofString "value") 434, .str (Str.ofString "number") 435, .str (Str.ofString "turn") 436]) 0, List.toArray []⟩
noncomputable def v245 (_P : Params) : PySem.Obj := ⟨.type "tuple", none, .seq (List.toArray []) 0, List.toArray []⟩
noncomputable def v246 (_P : Params) : PySem.Obj := (fun (p : Arguments) (b : List Stmt) (s : Scope) (_ : (p, b, s) = fnP (inC (nthS pW.main.body 23) 2)) => (⟨.none, none, .func ⟨Str.ofString "later", Str.ofString "Gate.later", p, .stmts b, s, 0, [], .none, .none, .none, .none, none, .none, .none, 0⟩, List.toArray []⟩ : Obj)) _ _ _ rfl
noncomputable def v247 (_P : Params) : PySem.Obj := ⟨.type "code", none, .fields (List.toArray [.str (Str.ofString "later") 428, .str (Str.ofString "Gate.later") 429, .str (Str.ofString "/claim/cut.py") 430, .int 91 0, .int 3 0, .int 0 0, .int 0 0, .int 3 0, .ref 184, .bool true, .int 181 0, .ref 185, .none, .ref 186, .ref 187, .ref 188, .int 437 0, .int 91 0, .str (Str.ofString "/claim/cut.py") 438]), List.toArray []⟩
noncomputable def v248 (_P : Params) : PySem.Obj := (fun (p : Arguments) (b : List Stmt) (s : Scope) (_ : (p, b, s) = fnP (inC (nthS pW.main.body 23) 2)) => (⟨.type "function", none, .func ⟨Str.ofString "later", Str.ofString "Gate.later", p, .stmts b, s, 3, [], .none, .none, .none, .str (Str.ofString "crcgate.gates") 394, none, .ref 189, .none, 0⟩, List.toArray []⟩ : Obj)) _ _ _ rfl
noncomputable def v249 (_P : Params) : PySem.Obj := ⟨.type "tuple", none, .seq (List.toArray []) 0, List.toArray []⟩
noncomputable def v250 (_P : Params) : PySem.Obj := ⟨.none, none, .fields (List.toArray []), List.toArray []⟩
noncomputable def v251 (_P : Params) : PySem.Obj := ⟨.type "tuple", none, .seq (List.toArray [.str (Str.ofString "self") 443, .str (Str.ofString "row") 444]) 0, List.toArray []⟩
noncomputable def v252 (_P : Params) : PySem.Obj := ⟨.type "tuple", none, .seq (List.toArray []) 0, List.toArray []⟩
noncomputable def v253 (_P : Params) : PySem.Obj := (fun (p : Arguments) (b : List Stmt) (s : Scope) (_ : (p, b, s) = fnP (inC (nthS pW.main.body 23) 3)) => (⟨.none, none, .func ⟨Str.ofString "check", Str.ofString "Gate.check", p, .stmts b, s, 0, [], .none, .none, .none, .none, none, .none, .none, 0⟩, List.toArray []⟩ : Obj)) _ _ _ rfl
noncomputable def v254 (_P : Params) : PySem.Obj := ⟨.type "code", none, .fields (List.toArray [.str (Str.ofString "check") 440, .str (Str.ofString "Gate.check") 441, .str (Str.ofString "/claim/cut.py") 442, .int 103 0, .int 2 0, .int 0 0, .int 0 0, .int 3 0, .ref 191, .bool true, .int 181 0, .ref 192, .none, .ref 193, .ref 194, .ref 195, .int 445 0, .int 103 0, .str (Str.ofString "/claim/cut.py") 446]), List.toArray []⟩
noncomputable def v255 (_P : Params) : PySem.Obj := (fun (p : Arguments) (b : List Stmt) (s : Scope) (_ : (p, b, s) = fnP (inC (nthS pW.main.body 23) 3)) => (⟨.type "function", none, .func ⟨Str.ofString "check", Str.ofString "Gate.check", p, .stmts b, s, 3, [], .none, .none, .none, .str (Str.ofString "crcgate.gates") 394, none, .ref 196, .none, 0⟩, List.toArray []⟩ : Obj)) _ _ _ rfl
noncomputable def v256 (_P : Params) : PySem.Obj := ⟨.type "tuple", none, .seq (List.toArray []) 0, List.toArray []⟩
noncomputable def v257 (_P : Params) : PySem.Obj := ⟨.none, none, .fields (List.toArray []), List.toArray []⟩
noncomputable def v258 (_P : Params) : PySem.Obj := ⟨.type "tuple", none, .seq (List.toArray [.str (Str.ofString "self") 451, .str (Str.ofString "row") 452]) 0, List.toArray []⟩
noncomputable def v259 (_P : Params) : PySem.Obj := ⟨.type "tuple", none, .seq (List.toArray []) 0, List.toArray []⟩
noncomputable def v260 (_P : Params) : PySem.Obj := (fun (p : Arguments) (b : List Stmt) (s : Scope) (_ : (p, b, s) = fnP (inC (nthS pW.main.body 23) 4)) => (⟨.none, none, .func ⟨Str.ofString "sealed", Str.ofString "Gate.sealed", p, .stmts b, s, 0, [], .none, .none, .none, .none, none, .none, .none, 0⟩, List.toArray []⟩ : Obj)) _ _ _ rfl
noncomputable def v261 (_P : Params) : PySem.Obj := ⟨.type "code", none, .fields (List.toArray [.str (Str.ofString "sealed") 448, .str (Str.ofString "Gate.sealed") 449, .str (Str.ofString "/claim/cut.py") 450, .int 106 0, .int 2 0, .int 0 0, .int 0 0, .int 3 0, .ref 198, .bool true, .int 181 0, .ref 199, .none, .ref 200, .ref 201, .ref 202, .int 453 0, .int 106 0, .str (Str.ofString "/claim/cut.py") 454]), List.toArray []⟩
noncomputable def v262 (_P : Params) : PySem.Obj := (fun (p : Arguments) (b : List Stmt) (s : Scope) (_ : (p, b, s) = fnP (inC (nthS pW.main.body 23) 4)) => (⟨.type "function", none, .func ⟨Str.ofString "sealed", Str.ofString "Gate.sealed", p, .stmts b, s, 3, [], .none, .none, .none, .str (Str.ofString "crcgate.gates") 394, none, .ref 203, .none, 0⟩, List.toArray []⟩ : Obj)) _ _ _ rfl
noncomputable def v263 (_P : Params) : PySem.Obj := ⟨.type "tuple", none, .seq (List.toArray []) 0, List.toArray []⟩
noncomputable def v264 (_P : Params) : PySem.Obj := ⟨.none, none, .fields (List.toArray []), List.toArray []⟩
noncomputable def v265 (_P : Params) : PySem.Obj := ⟨.type "tuple", none, .seq (List.toArray [.str (Str.ofString "self") 459, .str (Str.ofString "row") 460]) 0, List.toArray []⟩
noncomputable def v266 (_P : Params) : PySem.Obj := ⟨.type "tuple", none, .seq (List.toArray []) 0, List.toArray []⟩
noncomputable def v267 (_P : Params) : PySem.Obj := (fun (p : Arguments) (b : List Stmt) (s : Scope) (_ : (p, b, s) = fnP (inC (nthS pW.main.body 23) 5)) => (⟨.none, none, .func ⟨Str.ofString "holds", Str.ofString "Gate.holds", p, .stmts b, s, 0, [], .none, .none, .none, .none, none, .none, .none, 0⟩, List.toArray []⟩ : Obj)) _ _ _ rfl
noncomputable def v268 (_P : Params) : PySem.Obj := ⟨.type "code", none, .fields (List.toArray [.str (Str.ofString "holds") 456, .str (Str.ofString "Gate.holds") 457, .str (Str.ofString "/claim/cut.py") 458, .int 109 0, .int 2 0, .int 0 0, .int 0 0, .int 3 0, .ref 205, .bool true, .int 181 0, .ref 206, .none, .ref 207, .ref 208, .ref 209, .int 461 0, .int 109 0, .str (Str.ofString "/claim/cut.py") 462]), List.toArray []⟩
noncomputable def v269 (_P : Params) : PySem.Obj := (fun (p : Arguments) (b : List Stmt) (s : Scope) (_ : (p, b, s) = fnP (inC (nthS pW.main.body 23) 5)) => (⟨.type "function", none, .func ⟨Str.ofString "holds", Str.ofString "Gate.holds", p, .stmts b, s, 3, [], .none, .none, .none, .str (Str.ofString "crcgate.gates") 394, none, .ref 210, .none, 0⟩, List.toArray []⟩ : Obj)) _ _ _ rfl
noncomputable def v270 (_P : Params) : PySem.Obj := ⟨.type "tuple", none, .seq (List.toArray []) 0, List.toArray []⟩
noncomputable def v271 (_P : Params) : PySem.Obj := ⟨.none, none, .fields (List.toArray []), List.toArray []⟩
noncomputable def v272 (_P : Params) : PySem.Obj := ⟨.type "tuple", none, .seq (List.toArray [.str (Str.ofString "self") 467, .str (Str.ofString "row") 468]) 0, List.toArray []⟩
noncomputable def v273 (_P : Params) : PySem.Obj := ⟨.type "tuple", none, .seq (List.toArray []) 0, List.toArray []⟩
noncomputable def v274 (_P : Params) : PySem.Obj := (fun (p : Arguments) (b : List Stmt) (s : Scope) (_ : (p, b, s) = fnP (inC (nthS pW.main.body 23) 6)) => (⟨.none, none, .func ⟨Str.ofString "opened", Str.ofString "Gate.opened", p, .stmts b, s, 0, [], .none, .none, .none, .none, none, .none, .none, 0⟩, List.toArray []⟩ : Obj)) _ _ _ rfl
noncomputable def v275 (_P : Params) : PySem.Obj := ⟨.type "code", none, .fields (List.toArray [.str (Str.ofString "opened") 464, .str (Str.ofString "Gate.opened") 465, .str (Str.ofString "/claim/cut.py") 466, .int 117 0, .int 2 0, .int 0 0, .int 0 0, .int 3 0, .ref 212, .bool true, .int 181 0, .ref 213, .none, .ref 214, .ref 215, .ref 216, .int 469 0, .int 117 0, .str (Str.ofString "/claim/cut.py") 470]), List.toArray []⟩
noncomputable def v276 (_P : Params) : PySem.Obj := (fun (p : Arguments) (b : List Stmt) (s : Scope) (_ : (p, b, s) = fnP (inC (nthS pW.main.body 23) 6)) => (⟨.type "function", none, .func ⟨Str.ofString "opened", Str.ofString "Gate.opened", p, .stmts b, s, 3, [], .none, .none, .none, .str (Str.ofString "crcgate.gates") 394, none, .ref 217, .none, 0⟩, List.toArray []⟩ : Obj)) _ _ _ rfl
noncomputable def v277 (_P : Params) : PySem.Obj := ⟨.type "tuple", none, .seq (List.toArray []) 0, List.toArray []⟩
noncomputable def v278 (_P : Params) : PySem.Obj := ⟨.none, none, .fields (List.toArray []), List.toArray []⟩
noncomputable def v279 (_P : Params) : PySem.Obj := ⟨.type "tuple", none, .seq (List.toArray [.str (Str.ofString "self") 475, .str (Str.ofString "row") 476]) 0, List.toArray []⟩
noncomputable def v280 (_P : Params) : PySem.Obj := ⟨.type "tuple", none, .seq (List.toArray []) 0, List.toArray []⟩
noncomputable def v281 (_P : Params) : PySem.Obj := (fun (p : Arguments) (b : List Stmt) (s : Scope) (_ : (p, b, s) = fnP (inC (nthS pW.main.body 23) 7)) => (⟨.none, none, .func ⟨Str.ofString "mended", Str.ofString "Gate.mended", p, .stmts b, s, 0, [], .none, .none, .none, .none, none, .none, .none, 0⟩, List.toArray []⟩ : Obj)) _ _ _ rfl
noncomputable def v282 (_P : Params) : PySem.Obj := ⟨.type "code", none, .fields (List.toArray [.str (Str.ofString "mended") 472, .str (Str.ofString "Gate.mended") 473, .str (Str.ofString "/claim/cut.py") 474, .int 122 0, .int 2 0, .int 0 0, .int 0 0, .int 3 0, .ref 219, .bool true, .int 181 0, .ref 220, .none, .ref 221, .ref 222, .ref 223, .int 477 0, .int 122 0, .str (Str.ofString "/claim/cut.py") 478]), List.toArray []⟩
noncomputable def v283 (_P : Params) : PySem.Obj := (fun (p : Arguments) (b : List Stmt) (s : Scope) (_ : (p, b, s) = fnP (inC (nthS pW.main.body 23) 7)) => (⟨.type "function", none, .func ⟨Str.ofString "mended", Str.ofString "Gate.mended", p, .stmts b, s, 3, [], .none, .none, .none, .str (Str.ofString "crcgate.gates") 394, none, .ref 224, .none, 0⟩, List.toArray []⟩ : Obj)) _ _ _ rfl
noncomputable def v284 (_P : Params) : PySem.Obj := ⟨.type "tuple", none, .seq (List.toArray [.str (Str.ofString "divisor") 480, .str (Str.ofString "even") 481, .str (Str.ofString "reach") 482, .str (Str.ofString "width") 483]) 0, List.toArray []⟩
noncomputable def v285 (P : Params) : PySem.Obj := ⟨.type "dict", none, .dict (List.toArray [⟨PyData.keyHash P (Str.ofString "__module__"), .str (Str.ofString "__module__") 407, .str (Str.ofString "crcgate.gates") 394⟩, ⟨PyData.keyHash P (Str.ofString "__firstlineno__"), .str (Str.ofString "__firstlineno__") 411, .int 80 410⟩, ⟨PyData.keyHash P (Str.ofString "__init__"), .str (Str.ofString "__init__") 419, .ref 176⟩, ⟨PyData.keyHash P (Str.ofString "rest"), .str (Str.ofString "rest") 427, .ref 183⟩, ⟨PyData.keyHash P (Str.ofString "later"), .str (Str.ofString "later") 439, .ref 190⟩, ⟨PyData.keyHash P (Str.ofString "check"), .str (Str.ofString "check") 447, .ref 197⟩, ⟨PyData.keyHash P (Str.ofString "sealed"), .str (Str.ofString "sealed") 455, .ref 204⟩, ⟨PyData.keyHash P (Str.ofString "holds"), .str (Str.ofString "holds") 463, .ref 211⟩, ⟨PyData.keyHash P (Str.ofString "opened"), .str (Str.ofString "opened") 471, .ref 218⟩, ⟨PyData.keyHash P (Str.ofString "mended"), .str (Str.ofString "mended") 479, .ref 225⟩, ⟨PyData.keyHash P (Str.ofString "__static_attributes__"), .str (Str.ofString "__static_attributes__") 484, .ref 226⟩, ⟨PyData.keyHash P (Str.ofString "__dict__"), .str (Str.ofString "__dict__") 486, .ref 229⟩, ⟨PyData.keyHash P (Str.ofString "__weakref__"), .str (Str.ofString "__weakref__") 488, .ref 230⟩, ⟨PyData.keyHash P (Str.ofString "__doc__"), .str (Str.ofString "__doc__") 489, .none⟩]) 4, List.toArray []⟩
noncomputable def v286 (_P : Params) : PySem.Obj := ⟨.type "type", none, .cls ⟨Str.ofString "Gate", [.type "object"], [.ref 228, .type "object"], 227, Str.ofString "Gate", true, [], [], false, none, false⟩, List.toArray [none, none, some (.str (Str.ofString "Gate") 400), some (.str (Str.ofString "Gate") 408), some (.builtin "object.__new__"), some (.bool true)]⟩
noncomputable def v287 (_P : Params) : PySem.Obj := ⟨.type "getset_descriptor", none, .fields (List.toArray [.str (Str.ofString "__dict__") 485, .ref 228, .builtin "function.__dict__", .builtin "function.__dict__#set"]), List.toArray []⟩
noncomputable def v288 (_P : Params) : PySem.Obj := ⟨.type "getset_descriptor", none, .fields (List.toArray [.str (Str.ofString "__weakref__") 487, .ref 228, .builtin "ExceptionGroup.__weakref__", .none]), List.toArray []⟩
noncomputable def v289 (_P : Params) : PySem.Obj := ⟨.type "super", none, .fields (List.toArray [.ref 228, .ref 228, .ref 228]), List.toArray []⟩
noncomputable def v290 (_P : Params) : PySem.Obj := ⟨.type "builtin_function_or_method", none, .fields (List.toArray [.builtin "object.__init_subclass__", .ref 228]), List.toArray []⟩
noncomputable def tr290 (P : Params) : PySem.W.BT := .node (PySem.W.boot_o_0 P) (.node (PySem.W.boot_o_1 P) (.node (v219 P) (.node (PySem.W.boot_o_7 P) (.node (v51 P) (.node (v148 P) (.node (v108 P) (.node (v181 P) .nil .nil) (.node (v249 P) .nil .nil)) (.node (v149 P) (.node (v215 P) .nil .nil) (.node (v281 P) .nil .nil))) (.node (v89 P) (.node (v127 P) (.node (v199 P) .nil .nil) (.node (v265 P) .nil .nil)) (.node (v165 P) (.node (v233 P) .nil .nil) .nil))) (.node (v59 P) (.node (v78 P) (.node (v119 P) (.node (v189 P) .nil .nil) (.node (v257 P) .nil .nil)) (.node (v157 P) (.node (v225 P) .nil .nil) (.node (v289 P) .nil .nil))) (.node (v97 P) (.node (v138 P) (.node (v207 P) .nil .nil) (.node (v273 P) .nil .nil)) (.node (v173 P) (.node (v241 P) .nil .nil) .nil)))) (.node (v43 P) (.node (v55 P) (.node (v74 P) (.node (v112 P) (.node (v185 P) .nil .nil) (.node (v253 P) .nil .nil)) (.node (v153 P) (.node (v221 P) .nil .nil) (.node (v285 P) .nil .nil))) (.node (v93 P) (.node (v134 P) (.node (v203 P) .nil .nil) (.node (v269 P) .nil .nil)) (.node (v169 P) (.node (v237 P) .nil .nil) .nil))) (.node (v63 P) (.node (v82 P) (.node (v123 P) (.node (v193 P) .nil .nil) (.node (v261 P) .nil .nil)) (.node (v161 P) (.node (v229 P) .nil .nil) .nil)) (.node (v104 P) (.node (v142 P) (.node (v211 P) .nil .nil) (.node (v277 P) .nil .nil)) (.node (v177 P) (.node (v245 P) .nil .nil) .nil))))) (.node (PySem.W.boot_o_5 P) (.node (PySem.W.boot_o_9 P) (.node (v53 P) (.node (v69 P) (.node (v110 P) (.node (v183 P) .nil .nil) (.node (v251 P) .nil .nil)) (.node (v151 P) (.node (v217 P) .nil .nil) (.node (v283 P) .nil .nil))) (.node (v91 P) (.node (v129 P) (.node (v201 P) .nil .nil) (.node (v267 P) .nil .nil)) (.node (v167 P) (.node (v235 P) .nil .nil) .nil))) (.node (v61 P) (.node (v80 P) (.node (v121 P) (.node (v191 P) .nil .nil) (.node (v259 P) .nil .nil)) (.node (v159 P) (.node (v227 P) .nil .nil) .nil)) (.node (v99 P) (.node (v140 P) (.node (v209 P) .nil .nil) (.node (v275 P) .nil .nil)) (.node (v175 P) (.node (v243 P) .nil .nil) .nil)))) (.node (v45 P) (.node (v57 P) (.node (v76 P) (.node (v114 P) (.node (v187 P) .nil .nil) (.node (v255 P) .nil .nil)) (.node (v155 P) (.node (v223 P) .nil .nil) (.node (v287 P) .nil .nil))) (.node (v95 P) (.node (v136 P) (.node (v205 P) .nil .nil) (.node (v271 P) .nil .nil)) (.node (v171 P) (.node (v239 P) .nil .nil) .nil))) (.node (v65 P) (.node (v84 P) (.node (v125 P) (.node (v195 P) .nil .nil) (.node (v263 P) .nil .nil)) (.node (v163 P) (.node (v231 P) .nil .nil) .nil)) (.node (v106 P) (.node (v144 P) (.node (v213 P) .nil .nil) (.node (v279 P) .nil .nil)) (.node (v179 P) (.node (v247 P) .nil .nil) .nil)))))) (.node (PySem.W.boot_o_2 P) (.node (PySem.W.boot_o_4 P) (.node (PySem.W.boot_o_8 P) (.node (v52 P) (.node (v68 P) (.node (v109 P) (.node (v182 P) .nil .nil) (.node (v250 P) .nil .nil)) (.node (v150 P) (.node (v216 P) .nil .nil) (.node (v282 P) .nil .nil))) (.node (v90 P) (.node (v128 P) (.node (v200 P) .nil .nil) (.node (v266 P) .nil .nil)) (.node (v166 P) (.node (v234 P) .nil .nil) .nil))) (.node (v60 P) (.node (v79 P) (.node (v120 P) (.node (v190 P) .nil .nil) (.node (v258 P) .nil .nil)) (.node (v158 P) (.node (v226 P) .nil .nil) (.node (v290 P) .nil .nil))) (.node (v98 P) (.node (v139 P) (.node (v208 P) .nil .nil) (.node (v274 P) .nil .nil)) (.node (v174 P) (.node (v242 P) .nil .nil) .nil)))) (.node (v220 P) (.node (v56 P) (.node (v75 P) (.node (v113 P) (.node (v186 P) .nil .nil) (.node (v254 P) .nil .nil)) (.node (v154 P) (.node (v222 P) .nil .nil) (.node (v286 P) .nil .nil))) (.node (v94 P) (.node (v135 P) (.node (v204 P) .nil .nil) (.node (v270 P) .nil .nil)) (.node (v170 P) (.node (v238 P) .nil .nil) .nil))) (.node (v64 P) (.node (v83 P) (.node (v124 P) (.node (v194 P) .nil .nil) (.node (v262 P) .nil .nil)) (.node (v162 P) (.node (v230 P) .nil .nil) .nil)) (.node (v105 P) (.node (v143 P) (.node (v212 P) .nil .nil) (.node (v278 P) .nil .nil)) (.node (v178 P) (.node (v246 P) .nil .nil) .nil))))) (.node (PySem.W.boot_o_6 P) (.node (PySem.W.boot_o_10 P) (.node (v54 P) (.node (v70 P) (.node (v111 P) (.node (v184 P) .nil .nil) (.node (v252 P) .nil .nil)) (.node (v152 P) (.node (v218 P) .nil .nil) (.node (v284 P) .nil .nil))) (.node (v92 P) (.node (v130 P) (.node (v202 P) .nil .nil) (.node (v268 P) .nil .nil)) (.node (v168 P) (.node (v236 P) .nil .nil) .nil))) (.node (v62 P) (.node (v81 P) (.node (v122 P) (.node (v192 P) .nil .nil) (.node (v260 P) .nil .nil)) (.node (v160 P) (.node (v228 P) .nil .nil) .nil)) (.node (v100 P) (.node (v141 P) (.node (v210 P) .nil .nil) (.node (v276 P) .nil .nil)) (.node (v176 P) (.node (v244 P) .nil .nil) .nil)))) (.node (v46 P) (.node (v58 P) (.node (v77 P) (.node (v115 P) (.node (v188 P) .nil .nil) (.node (v256 P) .nil .nil)) (.node (v156 P) (.node (v224 P) .nil .nil) (.node (v288 P) .nil .nil))) (.node (v96 P) (.node (v137 P) (.node (v206 P) .nil .nil) (.node (v272 P) .nil .nil)) (.node (v172 P) (.node (v240 P) .nil .nil) .nil))) (.node (v66 P) (.node (v85 P) (.node (v126 P) (.node (v198 P) .nil .nil) (.node (v264 P) .nil .nil)) (.node (v164 P) (.node (v232 P) .nil .nil) .nil)) (.node (v107 P) (.node (v145 P) (.node (v214 P) .nil .nil) (.node (v280 P) .nil .nil)) (.node (v180 P) (.node (v248 P) .nil .nil) .nil))))))
noncomputable def v291 (P : Params) : PySem.Obj := ⟨.type "dict", none, .dict (List.toArray [⟨PyData.keyHash P (Str.ofString "__name__"), .str (Str.ofString "__name__") 165, .str (Str.ofString "law_uf040037_09") 492⟩, ⟨PyData.keyHash P (Str.ofString "__doc__"), .str (Str.ofString "__doc__") 166, .none⟩, ⟨PyData.keyHash P (Str.ofString "__package__"), .str (Str.ofString "__package__") 167, .none⟩, ⟨PyData.keyHash P (Str.ofString "__loader__"), .str (Str.ofString "__loader__") 168, .builtin "__main__.__loader__#opaque"⟩, ⟨PyData.keyHash P (Str.ofString "__spec__"), .str (Str.ofString "__spec__") 169, .none⟩, ⟨PyData.keyHash P (Str.ofString "__annotations__"), .str (Str.ofString "__annotations__") 170, .ref 6⟩, ⟨PyData.keyHash P (Str.ofString "__builtins__"), .str (Str.ofString "__builtins__") 171, .ref 4⟩, ⟨PyData.keyHash P (Str.ofString "__file__"), .str (Str.ofString "__file__") 173, .str (Str.ofString "/claim/cut.py") 172⟩, ⟨PyData.keyHash P (Str.ofString "__cached__"), .str (Str.ofString "__cached__") 174, .none⟩, ⟨PyData.keyHash P (Str.ofString "_wall"), .str (Str.ofString "_wall") 193, .ref 21⟩, ⟨PyData.keyHash P (Str.ofString "GateError"), .str (Str.ofString "GateError") 213, .ref 31⟩, ⟨PyData.keyHash P (Str.ofString "NoRow"), .str (Str.ofString "NoRow") 229, .ref 44⟩, ⟨PyData.keyHash P (Str.ofString "NoDivisor"), .str (Str.ofString "NoDivisor") 245, .ref 56⟩, ⟨PyData.keyHash P (Str.ofString "NoCount"), .str (Str.ofString "NoCount") 261, .ref 68⟩, ⟨PyData.keyHash P (Str.ofString "TooLong"), .str (Str.ofString "TooLong") 277, .ref 80⟩, ⟨PyData.keyHash P (Str.ofString "TooShort"), .str (Str.ofString "TooShort") 293, .ref 92⟩, ⟨PyData.keyHash P (Str.ofString "Broken"), .str (Str.ofString "Broken") 309, .ref 104⟩, ⟨PyData.keyHash P (Str.ofString "is_sign"), .str (Str.ofString "is_sign") 318, .ref 113⟩, ⟨PyData.keyHash P (Str.ofString "need_row"), .str (Str.ofString "need_row") 326, .ref 120⟩, ⟨PyData.keyHash P (Str.ofString "value_of"), .str (Str.ofString "value_of") 335, .ref 127⟩, ⟨PyData.keyHash P (Str.ofString "signs_of"), .str (Str.ofString "signs_of") 345, .ref 134⟩, ⟨PyData.keyHash P (Str.ofString "parted"), .str (Str.ofString "parted") 360, .ref 141⟩, ⟨PyData.keyHash P (Str.ofString "LEAST"), .str (Str.ofString "LEAST") 364, .int 2 363⟩, ⟨PyData.keyHash P (Str.ofString "MOST"), .str (Str.ofString "MOST") 366, .int 13 365⟩, ⟨PyData.keyHash P (Str.ofString "need_divisor"), .str (Str.ofString "need_divisor") 373, .ref 148⟩, ⟨PyData.keyHash P (Str.ofString "onward"), .str (Str.ofString "onward") 382, .ref 155⟩, ⟨PyData.keyHash P (Str.ofString "reach"), .str (Str.ofString "reach") 393, .ref 162⟩, ⟨PyData.keyHash P (Str.ofString "MOST_NOUGHTS"), .str (Str.ofString "MOST_NOUGHTS") 399, .int 1000000000000000000 398⟩, ⟨PyData.keyHash P (Str.ofString "Gate"), .str (Str.ofString "Gate") 491, .ref 228⟩, ⟨PyData.keyHash P (Str.ofString "_law_cell_at"), .str (Str.ofString "_law_cell_at") 501, .ref 239⟩, ⟨PyData.keyHash P (Str.ofString "_law_row_by"), .str (Str.ofString "_law_row_by") 507, .ref 244⟩, ⟨PyData.keyHash P (Str.ofString "_law_is_row"), .str (Str.ofString "_law_is_row") 513, .ref 249⟩, ⟨PyData.keyHash P (Str.ofString "_law_step_by"), .str (Str.ofString "_law_step_by") 519, .ref 254⟩, ⟨PyData.keyHash P (Str.ofString "_law_rest_by"), .str (Str.ofString "_law_rest_by") 529, .ref 261⟩, ⟨PyData.keyHash P (Str.ofString "_law_divisor_by"), .str (Str.ofString "_law_divisor_by") 540, .ref 268⟩, ⟨PyData.keyHash P (Str.ofString "_law_reach_by"), .str (Str.ofString "_law_reach_by") 550, .ref 275⟩, ⟨PyData.keyHash P (Str.ofString "_law_words"), .str (Str.ofString "_law_words") 559, .ref 282⟩, ⟨PyData.keyHash P (Str.ofString "_law_any"), .str (Str.ofString "_law_any") 568, .ref 289⟩, ⟨PyData.keyHash P (Str.ofString "_law_row"), .str (Str.ofString "_law_row") 582, .ref 296⟩, ⟨PyData.keyHash P (Str.ofString "_law_asked"), .str (Str.ofString "_law_asked") 601, .ref 303⟩, ⟨PyData.keyHash P (Str.ofString "_law_kept"), .str (Str.ofString "_law_kept") 610, .ref 310⟩]) 41, List.toArray []⟩
noncomputable def v292 (_P : Params) : PySem.Obj := ⟨.none, none, .fields (List.toArray [.int 1 0, .int 0 0, .ref 20, .int 5 0, .int 0 0, .ref 27, .int 7 0, .int 0 0, .ref 40, .int 9 0, .int 0 0, .ref 52, .int 11 0, .int 0 0, .ref 64, .int 13 0, .int 0 0, .ref 76, .int 15 0, .int 0 0, .ref 88, .int 17 0, .int 0 0, .ref 100, .int 20 0, .int 0 0, .ref 112, .int 22 0, .int 0 0, .ref 119, .int 28 0, .int 0 0, .ref 126, .int 33 0, .int 0 0, .ref 133, .int 39 0, .int 0 0, .ref 140, .int 57 0, .int 0 0, .ref 147, .int 63 0, .int 0 0, .ref 154, .int 68 0, .int 0 0, .ref 161, .int 80 0, .int 0 0, .ref 168, .int 125 0, .int 0 0, .ref 238, .int 129 0, .int 0 0, .ref 243, .int 142 0, .int 0 0, .ref 248, .int 146 0, .int 0 0, .ref 253, .int 151 0, .int 0 0, .ref 260, .int 156 0, .int 0 0, .ref 267, .int 167 0, .int 0 0, .ref 274, .int 175 0, .int 0 0, .ref 281, .int 188 0, .int 0 0, .ref 288, .int 194 0, .int 0 0, .ref 295, .int 204 0, .int 0 0, .ref 302, .int 231 0, .int 0 0, .ref 309]), List.toArray []⟩
noncomputable def v293 (_P : Params) : PySem.Obj := ⟨.type "tuple", none, .seq (List.toArray []) 0, List.toArray []⟩
noncomputable def v294 (_P : Params) : PySem.Obj := ⟨.none, none, .fields (List.toArray []), List.toArray []⟩
noncomputable def v295 (_P : Params) : PySem.Obj := ⟨.type "tuple", none, .seq (List.toArray [.str (Str.ofString "_law_script") 497, .str (Str.ofString "_law_k") 498]) 0, List.toArray []⟩
noncomputable def v296 (_P : Params) : PySem.Obj := ⟨.type "tuple", none, .seq (List.toArray []) 0, List.toArray []⟩
noncomputable def v297 (_P : Params) : PySem.Obj := (fun (p : Arguments) (b : List Stmt) (s : Scope) (_ : (p, b, s) = fnP (nthS pW.main.body 25)) => (⟨.none, none, .func ⟨Str.ofString "_law_cell_at", Str.ofString "_law_cell_at", p, .stmts b, s, 0, [], .none, .none, .none, .none, none, .none, .none, 0⟩, List.toArray []⟩ : Obj)) _ _ _ rfl
noncomputable def v298 (_P : Params) : PySem.Obj := ⟨.type "code", none, .fields (List.toArray [.str (Str.ofString "_law_cell_at") 494, .str (Str.ofString "_law_cell_at") 495, .str (Str.ofString "/claim/cut.py") 496, .int 125 0, .int 2 0, .int 0 0, .int 0 0, .int 3 0, .ref 233, .bool true, .int 181 0, .ref 234, .none, .ref 235, .ref 236, .ref 237, .int 499 0, .int 125 0, .str (Str.ofString "/claim/cut.py") 500]), List.toArray []⟩
noncomputable def v299 (_P : Params) : PySem.Obj := (fun (p : Arguments) (b : List Stmt) (s : Scope) (_ : (p, b, s) = fnP (nthS pW.main.body 25)) => (⟨.type "function", none, .func ⟨Str.ofString "_law_cell_at", Str.ofString "_law_cell_at", p, .stmts b, s, 3, [], .none, .none, .none, .str (Str.ofString "law_uf040037_09") 492, none, .ref 238, .none, 0⟩, List.toArray []⟩ : Obj)) _ _ _ rfl
noncomputable def v300 (_P : Params) : PySem.Obj := ⟨.type "tuple", none, .seq (List.toArray []) 0, List.toArray []⟩
noncomputable def v301 (_P : Params) : PySem.Obj := ⟨.none, none, .fields (List.toArray []), List.toArray []⟩
noncomputable def v302 (_P : Params) : PySem.Obj := (fun (p : Arguments) (b : List Stmt) (s : Scope) (_ : (p, b, s) = fnP (nthS pW.main.body 26)) => (⟨.none, none, .func ⟨Str.ofString "_law_row_by", Str.ofString "_law_row_by", p, .stmts b, s, 0, [], .none, .none, .none, .none, none, .none, .none, 0⟩, List.toArray []⟩ : Obj)) _ _ _ rfl
noncomputable def v303 (_P : Params) : PySem.Obj := ⟨.type "code", none, .fields (List.toArray [.str (Str.ofString "_law_row_by") 502, .str (Str.ofString "_law_row_by") 503, .str (Str.ofString "/claim/cut.py") 504, .int 129 0, .int 2 0, .int 0 0, .int 0 0, .int 3 0, .ref 240, .bool true, .int 181 0, .ref 241, .none, .none, .none, .ref 242, .int 505 0, .int 129 0, .str (Str.ofString "/claim/cut.py") 506]), List.toArray []⟩
noncomputable def v304 (_P : Params) : PySem.Obj := (fun (p : Arguments) (b : List Stmt) (s : Scope) (_ : (p, b, s) = fnP (nthS pW.main.body 26)) => (⟨.type "function", none, .func ⟨Str.ofString "_law_row_by", Str.ofString "_law_row_by", p, .stmts b, s, 3, [], .none, .none, .none, .str (Str.ofString "law_uf040037_09") 492, none, .ref 243, .none, 0⟩, List.toArray []⟩ : Obj)) _ _ _ rfl
noncomputable def v305 (_P : Params) : PySem.Obj := ⟨.type "tuple", none, .seq (List.toArray []) 0, List.toArray []⟩
noncomputable def v306 (_P : Params) : PySem.Obj := ⟨.none, none, .fields (List.toArray []), List.toArray []⟩
noncomputable def v307 (_P : Params) : PySem.Obj := (fun (p : Arguments) (b : List Stmt) (s : Scope) (_ : (p, b, s) = fnP (nthS pW.main.body 27)) => (⟨.none, none, .func ⟨Str.ofString "_law_is_row", Str.ofString "_law_is_row", p, .stmts b, s, 0, [], .none, .none, .none, .none, none, .none, .none, 0⟩, List.toArray []⟩ : Obj)) _ _ _ rfl
noncomputable def v308 (_P : Params) : PySem.Obj := ⟨.type "code", none, .fields (List.toArray [.str (Str.ofString "_law_is_row") 508, .str (Str.ofString "_law_is_row") 509, .str (Str.ofString "/claim/cut.py") 510, .int 142 0, .int 2 0, .int 0 0, .int 0 0, .int 3 0, .ref 245, .bool true, .int 181 0, .ref 246, .none, .none, .none, .ref 247, .int 511 0, .int 142 0, .str (Str.ofString "/claim/cut.py") 512]), List.toArray []⟩
noncomputable def v309 (_P : Params) : PySem.Obj := (fun (p : Arguments) (b : List Stmt) (s : Scope) (_ : (p, b, s) = fnP (nthS pW.main.body 27)) => (⟨.type "function", none, .func ⟨Str.ofString "_law_is_row", Str.ofString "_law_is_row", p, .stmts b, s, 3, [], .none, .none, .none, .str (Str.ofString "law_uf040037_09") 492, none, .ref 248, .none, 0⟩, List.toArray []⟩ : Obj)) _ _ _ rfl
noncomputable def v310 (_P : Params) : PySem.Obj := ⟨.type "tuple", none, .seq (List.toArray []) 0, List.toArray []⟩
noncomputable def v311 (_P : Params) : PySem.Obj := ⟨.none, none, .fields (List.toArray []), List.toArray []⟩
noncomputable def v312 (_P : Params) : PySem.Obj := (fun (p : Arguments) (b : List Stmt) (s : Scope) (_ : (p, b, s) = fnP (nthS pW.main.body 28)) => (⟨.none, none, .func ⟨Str.ofString "_law_step_by", Str.ofString "_law_step_by", p, .stmts b, s, 0, [], .none, .none, .none, .none, none, .none, .none, 0⟩, List.toArray []⟩ : Obj)) _ _ _ rfl
noncomputable def v313 (_P : Params) : PySem.Obj := ⟨.type "code", none, .fields (List.toArray [.str (Str.ofString "_law_step_by") 514, .str (Str.ofString "_law_step_by") 515, .str (Str.ofString "/claim/cut.py") 516, .int 146 0, .int 3 0, .int 0 0, .int 0 0, .int 3 0, .ref 250, .bool true, .int 181 0, .ref 251, .none, .none, .none, .ref 252, .int 517 0, .int 146 0, .str (Str.ofString "/claim/cut.py") 518]), List.toArray []⟩
noncomputable def v314 (_P : Params) : PySem.Obj := (fun (p : Arguments) (b : List Stmt) (s : Scope) (_ : (p, b, s) = fnP (nthS pW.main.body 28)) => (⟨.type "function", none, .func ⟨Str.ofString "_law_step_by", Str.ofString "_law_step_by", p, .stmts b, s, 3, [], .none, .none, .none, .str (Str.ofString "law_uf040037_09") 492, none, .ref 253, .none, 0⟩, List.toArray []⟩ : Obj)) _ _ _ rfl
noncomputable def v315 (_P : Params) : PySem.Obj := ⟨.type "tuple", none, .seq (List.toArray []) 0, List.toArray []⟩
noncomputable def v316 (_P : Params) : PySem.Obj := ⟨.none, none, .fields (List.toArray []), List.toArray []⟩
noncomputable def v317 (_P : Params) : PySem.Obj := ⟨.type "tuple", none, .seq (List.toArray [.str (Str.ofString "_law_row_here") 523, .str (Str.ofString "_law_divisor") 524, .str (Str.ofString "_law_rest") 525, .str (Str.ofString "_law_sign") 526]) 0, List.toArray []⟩
noncomputable def v318 (_P : Params) : PySem.Obj := ⟨.type "tuple", none, .seq (List.toArray []) 0, List.toArray []⟩
noncomputable def v319 (_P : Params) : PySem.Obj := (fun (p : Arguments) (b : List Stmt) (s : Scope) (_ : (p, b, s) = fnP (nthS pW.main.body 29)) => (⟨.none, none, .func ⟨Str.ofString "_law_rest_by", Str.ofString "_law_rest_by", p, .stmts b, s, 0, [], .none, .none, .none, .none, none, .none, .none, 0⟩, List.toArray []⟩ : Obj)) _ _ _ rfl
noncomputable def v320 (_P : Params) : PySem.Obj := ⟨.type "code", none, .fields (List.toArray [.str (Str.ofString "_law_rest_by") 520, .str (Str.ofString "_law_rest_by") 521, .str (Str.ofString "/claim/cut.py") 522, .int 151 0, .int 2 0, .int 0 0, .int 0 0, .int 3 0, .ref 255, .bool true, .int 181 0, .ref 256, .none, .ref 257, .ref 258, .ref 259, .int 527 0, .int 151 0, .str (Str.ofString "/claim/cut.py") 528]), List.toArray []⟩
noncomputable def v321 (_P : Params) : PySem.Obj := (fun (p : Arguments) (b : List Stmt) (s : Scope) (_ : (p, b, s) = fnP (nthS pW.main.body 29)) => (⟨.type "function", none, .func ⟨Str.ofString "_law_rest_by", Str.ofString "_law_rest_by", p, .stmts b, s, 3, [], .none, .none, .none, .str (Str.ofString "law_uf040037_09") 492, none, .ref 260, .none, 0⟩, List.toArray []⟩ : Obj)) _ _ _ rfl
noncomputable def v322 (_P : Params) : PySem.Obj := ⟨.type "tuple", none, .seq (List.toArray []) 0, List.toArray []⟩
noncomputable def v323 (_P : Params) : PySem.Obj := ⟨.none, none, .fields (List.toArray []), List.toArray []⟩
noncomputable def v324 (_P : Params) : PySem.Obj := ⟨.type "tuple", none, .seq (List.toArray [.str (Str.ofString "_law_cell") 533, .str (Str.ofString "_law_bits") 534, .str (Str.ofString "_law_width") 535, .str (Str.ofString "_law_inner") 536, .str (Str.ofString "_law_k") 537]) 0, List.toArray []⟩
noncomputable def v325 (_P : Params) : PySem.Obj := ⟨.type "tuple", none, .seq (List.toArray []) 0, List.toArray []⟩
noncomputable def v326 (_P : Params) : PySem.Obj := (fun (p : Arguments) (b : List Stmt) (s : Scope) (_ : (p, b, s) = fnP (nthS pW.main.body 30)) => (⟨.none, none, .func ⟨Str.ofString "_law_divisor_by", Str.ofString "_law_divisor_by", p, .stmts b, s, 0, [], .none, .none, .none, .none, none, .none, .none, 0⟩, List.toArray []⟩ : Obj)) _ _ _ rfl
noncomputable def v327 (_P : Params) : PySem.Obj := ⟨.type "code", none, .fields (List.toArray [.str (Str.ofString "_law_divisor_by") 530, .str (Str.ofString "_law_divisor_by") 531, .str (Str.ofString "/claim/cut.py") 532, .int 156 0, .int 2 0, .int 0 0, .int 0 0, .int 3 0, .ref 262, .bool true, .int 181 0, .ref 263, .none, .ref 264, .ref 265, .ref 266, .int 538 0, .int 156 0, .str (Str.ofString "/claim/cut.py") 539]), List.toArray []⟩
noncomputable def v328 (_P : Params) : PySem.Obj := (fun (p : Arguments) (b : List Stmt) (s : Scope) (_ : (p, b, s) = fnP (nthS pW.main.body 30)) => (⟨.type "function", none, .func ⟨Str.ofString "_law_divisor_by", Str.ofString "_law_divisor_by", p, .stmts b, s, 3, [], .none, .none, .none, .str (Str.ofString "law_uf040037_09") 492, none, .ref 267, .none, 0⟩, List.toArray []⟩ : Obj)) _ _ _ rfl
noncomputable def v329 (_P : Params) : PySem.Obj := ⟨.type "tuple", none, .seq (List.toArray []) 0, List.toArray []⟩
noncomputable def v330 (_P : Params) : PySem.Obj := ⟨.none, none, .fields (List.toArray []), List.toArray []⟩
noncomputable def v331 (_P : Params) : PySem.Obj := ⟨.type "tuple", none, .seq (List.toArray [.str (Str.ofString "_law_divisor") 544, .str (Str.ofString "_law_begin") 545, .str (Str.ofString "_law_rest") 546, .str (Str.ofString "_law_many") 547]) 0, List.toArray []⟩
noncomputable def v332 (_P : Params) : PySem.Obj := ⟨.type "tuple", none, .seq (List.toArray []) 0, List.toArray []⟩
noncomputable def v333 (_P : Params) : PySem.Obj := (fun (p : Arguments) (b : List Stmt) (s : Scope) (_ : (p, b, s) = fnP (nthS pW.main.body 31)) => (⟨.none, none, .func ⟨Str.ofString "_law_reach_by", Str.ofString "_law_reach_by", p, .stmts b, s, 0, [], .none, .none, .none, .none, none, .none, .none, 0⟩, List.toArray []⟩ : Obj)) _ _ _ rfl
noncomputable def v334 (_P : Params) : PySem.Obj := ⟨.type "code", none, .fields (List.toArray [.str (Str.ofString "_law_reach_by") 541, .str (Str.ofString "_law_reach_by") 542, .str (Str.ofString "/claim/cut.py") 543, .int 167 0, .int 1 0, .int 0 0, .int 0 0, .int 3 0, .ref 269, .bool true, .int 181 0, .ref 270, .none, .ref 271, .ref 272, .ref 273, .int 548 0, .int 167 0, .str (Str.ofString "/claim/cut.py") 549]), List.toArray []⟩
noncomputable def v335 (_P : Params) : PySem.Obj := (fun (p : Arguments) (b : List Stmt) (s : Scope) (_ : (p, b, s) = fnP (nthS pW.main.body 31)) => (⟨.type "function", none, .func ⟨Str.ofString "_law_reach_by", Str.ofString "_law_reach_by", p, .stmts b, s, 3, [], .none, .none, .none, .str (Str.ofString "law_uf040037_09") 492, none, .ref 274, .none, 0⟩, List.toArray []⟩ : Obj)) _ _ _ rfl
noncomputable def v336 (_P : Params) : PySem.Obj := ⟨.type "tuple", none, .seq (List.toArray []) 0, List.toArray []⟩
noncomputable def v337 (_P : Params) : PySem.Obj := ⟨.none, none, .fields (List.toArray []), List.toArray []⟩
noncomputable def v338 (_P : Params) : PySem.Obj := ⟨.type "tuple", none, .seq (List.toArray [.str (Str.ofString "_law_gate") 554, .str (Str.ofString "_law_row_here") 555, .str (Str.ofString "_law_opens") 556]) 0, List.toArray []⟩
noncomputable def v339 (_P : Params) : PySem.Obj := ⟨.type "tuple", none, .seq (List.toArray []) 0, List.toArray []⟩
noncomputable def v340 (_P : Params) : PySem.Obj := (fun (p : Arguments) (b : List Stmt) (s : Scope) (_ : (p, b, s) = fnP (nthS pW.main.body 32)) => (⟨.none, none, .func ⟨Str.ofString "_law_words", Str.ofString "_law_words", p, .stmts b, s, 0, [], .none, .none, .none, .none, none, .none, .none, 0⟩, List.toArray []⟩ : Obj)) _ _ _ rfl
noncomputable def v341 (_P : Params) : PySem.Obj := ⟨.type "code", none, .fields (List.toArray [.str (Str.ofString "_law_words") 551, .str (Str.ofString "_law_words") 552, .str (Str.ofString "/claim/cut.py") 553, .int 175 0, .int 3 0, .int 0 0, .int 0 0, .int 3 0, .ref 276, .bool true, .int 181 0, .ref 277, .none, .ref 278, .ref 279, .ref 280, .int 557 0, .int 175 0, .str (Str.ofString "/claim/cut.py") 558]), List.toArray []⟩
noncomputable def v342 (_P : Params) : PySem.Obj := (fun (p : Arguments) (b : List Stmt) (s : Scope) (_ : (p, b, s) = fnP (nthS pW.main.body 32)) => (⟨.type "function", none, .func ⟨Str.ofString "_law_words", Str.ofString "_law_words", p, .stmts b, s, 3, [], .none, .none, .none, .str (Str.ofString "law_uf040037_09") 492, none, .ref 281, .none, 0⟩, List.toArray []⟩ : Obj)) _ _ _ rfl
noncomputable def v343 (_P : Params) : PySem.Obj := ⟨.type "tuple", none, .seq (List.toArray []) 0, List.toArray []⟩
noncomputable def v344 (_P : Params) : PySem.Obj := ⟨.none, none, .fields (List.toArray []), List.toArray []⟩
noncomputable def v345 (_P : Params) : PySem.Obj := ⟨.type "tuple", none, .seq (List.toArray [.str (Str.ofString "_law_gate") 563, .str (Str.ofString "_law_row_here") 564, .str (Str.ofString "e") 565]) 0, List.toArray []⟩
noncomputable def v346 (_P : Params) : PySem.Obj := ⟨.type "tuple", none, .seq (List.toArray []) 0, List.toArray []⟩
noncomputable def v347 (_P : Params) : PySem.Obj := (fun (p : Arguments) (b : List Stmt) (s : Scope) (_ : (p, b, s) = fnP (nthS pW.main.body 33)) => (⟨.none, none, .func ⟨Str.ofString "_law_any", Str.ofString "_law_any", p, .stmts b, s, 0, [], .none, .none, .none, .none, none, .none, .none, 0⟩, List.toArray []⟩ : Obj)) _ _ _ rfl
noncomputable def v348 (_P : Params) : PySem.Obj := ⟨.type "code", none, .fields (List.toArray [.str (Str.ofString "_law_any") 560, .str (Str.ofString "_law_any") 561, .str (Str.ofString "/claim/cut.py") 562, .int 188 0, .int 2 0, .int 0 0, .int 0 0, .int 3 0, .ref 283, .bool true, .int 181 0, .ref 284, .none, .ref 285, .ref 286, .ref 287, .int 566 0, .int 188 0, .str (Str.ofString "/claim/cut.py") 567]), List.toArray []⟩
noncomputable def v349 (_P : Params) : PySem.Obj := (fun (p : Arguments) (b : List Stmt) (s : Scope) (_ : (p, b, s) = fnP (nthS pW.main.body 33)) => (⟨.type "function", none, .func ⟨Str.ofString "_law_any", Str.ofString "_law_any", p, .stmts b, s, 3, [], .none, .none, .none, .str (Str.ofString "law_uf040037_09") 492, none, .ref 288, .none, 0⟩, List.toArray []⟩ : Obj)) _ _ _ rfl
noncomputable def v350 (_P : Params) : PySem.Obj := ⟨.type "tuple", none, .seq (List.toArray []) 0, List.toArray []⟩
noncomputable def v351 (_P : Params) : PySem.Obj := ⟨.none, none, .fields (List.toArray []), List.toArray []⟩
noncomputable def v352 (_P : Params) : PySem.Obj := ⟨.type "tuple", none, .seq (List.toArray [.str (Str.ofString "_law_cell") 572, .str (Str.ofString "_law_more") 573, .str (Str.ofString "_law_seals") 574, .str (Str.ofString "_law_divisor") 575, .str (Str.ofString "_law_most") 576, .str (Str.ofString "_law_width") 577, .str (Str.ofString "_law_size") 578, .str (Str.ofString "_law_row_here") 579]) 0, List.toArray []⟩
noncomputable def v353 (_P : Params) : PySem.Obj := ⟨.type "tuple", none, .seq (List.toArray []) 0, List.toArray []⟩
noncomputable def v354 (_P : Params) : PySem.Obj := (fun (p : Arguments) (b : List Stmt) (s : Scope) (_ : (p, b, s) = fnP (nthS pW.main.body 34)) => (⟨.none, none, .func ⟨Str.ofString "_law_row", Str.ofString "_law_row", p, .stmts b, s, 0, [], .none, .none, .none, .none, none, .none, .none, 0⟩, List.toArray []⟩ : Obj)) _ _ _ rfl
noncomputable def v355 (_P : Params) : PySem.Obj := ⟨.type "code", none, .fields (List.toArray [.str (Str.ofString "_law_row") 569, .str (Str.ofString "_law_row") 570, .str (Str.ofString "/claim/cut.py") 571, .int 194 0, .int 5 0, .int 0 0, .int 0 0, .int 3 0, .ref 290, .bool true, .int 181 0, .ref 291, .none, .ref 292, .ref 293, .ref 294, .int 580 0, .int 194 0, .str (Str.ofString "/claim/cut.py") 581]), List.toArray []⟩
noncomputable def v356 (_P : Params) : PySem.Obj := (fun (p : Arguments) (b : List Stmt) (s : Scope) (_ : (p, b, s) = fnP (nthS pW.main.body 34)) => (⟨.type "function", none, .func ⟨Str.ofString "_law_row", Str.ofString "_law_row", p, .stmts b, s, 3, [], .none, .none, .none, .str (Str.ofString "law_uf040037_09") 492, none, .ref 295, .none, 0⟩, List.toArray []⟩ : Obj)) _ _ _ rfl
noncomputable def v357 (_P : Params) : PySem.Obj := ⟨.type "tuple", none, .seq (List.toArray []) 0, List.toArray []⟩
noncomputable def v358 (_P : Params) : PySem.Obj := ⟨.none, none, .fields (List.toArray []), List.toArray []⟩
noncomputable def v359 (_P : Params) : PySem.Obj := ⟨.type "tuple", none, .seq (List.toArray [.str (Str.ofString "_law_gate") 586, .str (Str.ofString "_law_divisor") 587, .str (Str.ofString "_law_most") 588, .str (Str.ofString "_law_row_here") 589, .str (Str.ofString "_law_turned") 590, .str (Str.ofString "_law_held") 591, .str (Str.ofString "_law_size") 592, .str (Str.ofString "_law_width") 593, .str (Str.ofString "_law_mine") 594, .str (Str.ofString "_law_due") 595, .str (Str.ofString "_law_holds") 596, .str (Str.ofString "_law_told") 597, .str (Str.ofString "_law_found") 598]) 0, List.toArray []⟩
noncomputable def v360 (_P : Params) : PySem.Obj := ⟨.type "tuple", none, .seq (List.toArray []) 0, List.toArray []⟩
noncomputable def v361 (_P : Params) : PySem.Obj := (fun (p : Arguments) (b : List Stmt) (s : Scope) (_ : (p, b, s) = fnP (nthS pW.main.body 35)) => (⟨.none, none, .func ⟨Str.ofString "_law_asked", Str.ofString "_law_asked", p, .stmts b, s, 0, [], .none, .none, .none, .none, none, .none, .none, 0⟩, List.toArray []⟩ : Obj)) _ _ _ rfl
noncomputable def v362 (_P : Params) : PySem.Obj := ⟨.type "code", none, .fields (List.toArray [.str (Str.ofString "_law_asked") 583, .str (Str.ofString "_law_asked") 584, .str (Str.ofString "/claim/cut.py") 585, .int 204 0, .int 6 0, .int 0 0, .int 0 0, .int 3 0, .ref 297, .bool true, .int 181 0, .ref 298, .none, .ref 299, .ref 300, .ref 301, .int 599 0, .int 204 0, .str (Str.ofString "/claim/cut.py") 600]), List.toArray []⟩
noncomputable def v363 (_P : Params) : PySem.Obj := (fun (p : Arguments) (b : List Stmt) (s : Scope) (_ : (p, b, s) = fnP (nthS pW.main.body 35)) => (⟨.type "function", none, .func ⟨Str.ofString "_law_asked", Str.ofString "_law_asked", p, .stmts b, s, 3, [], .none, .none, .none, .str (Str.ofString "law_uf040037_09") 492, none, .ref 302, .none, 0⟩, List.toArray []⟩ : Obj)) _ _ _ rfl
noncomputable def v364 (_P : Params) : PySem.Obj := ⟨.type "tuple", none, .seq (List.toArray []) 0, List.toArray []⟩
noncomputable def v365 (_P : Params) : PySem.Obj := ⟨.none, none, .fields (List.toArray []), List.toArray []⟩
noncomputable def v366 (_P : Params) : PySem.Obj := ⟨.type "tuple", none, .seq (List.toArray [.str (Str.ofString "_law_held") 605, .str (Str.ofString "_law_found") 606, .str (Str.ofString "_law_copy") 607]) 0, List.toArray []⟩
noncomputable def v367 (_P : Params) : PySem.Obj := ⟨.type "tuple", none, .seq (List.toArray []) 0, List.toArray []⟩
noncomputable def v368 (_P : Params) : PySem.Obj := (fun (p : Arguments) (b : List Stmt) (s : Scope) (_ : (p, b, s) = fnP (nthS pW.main.body 36)) => (⟨.none, none, .func ⟨Str.ofString "_law_kept", Str.ofString "_law_kept", p, .stmts b, s, 0, [], .none, .none, .none, .none, none, .none, .none, 0⟩, List.toArray []⟩ : Obj)) _ _ _ rfl
noncomputable def v369 (_P : Params) : PySem.Obj := ⟨.type "code", none, .fields (List.toArray [.str (Str.ofString "_law_kept") 602, .str (Str.ofString "_law_kept") 603, .str (Str.ofString "/claim/cut.py") 604, .int 231 0, .int 1 0, .int 0 0, .int 0 0, .int 3 0, .ref 304, .bool true, .int 181 0, .ref 305, .none, .ref 306, .ref 307, .ref 308, .int 608 0, .int 231 0, .str (Str.ofString "/claim/cut.py") 609]), List.toArray []⟩
noncomputable def v370 (_P : Params) : PySem.Obj := (fun (p : Arguments) (b : List Stmt) (s : Scope) (_ : (p, b, s) = fnP (nthS pW.main.body 36)) => (⟨.type "function", none, .func ⟨Str.ofString "_law_kept", Str.ofString "_law_kept", p, .stmts b, s, 3, [], .none, .none, .none, .str (Str.ofString "law_uf040037_09") 492, none, .ref 309, .none, 0⟩, List.toArray []⟩ : Obj)) _ _ _ rfl
noncomputable def tr370 (P : Params) : PySem.W.BT := .node (PySem.W.boot_o_0 P) (.node (PySem.W.boot_o_1 P) (.node (v291 P) (.node (PySem.W.boot_o_7 P) (.node (v51 P) (.node (v148 P) (.node (v108 P) (.node (v181 P) (.node (v315 P) .nil .nil) .nil) (.node (v249 P) .nil .nil)) (.node (v149 P) (.node (v215 P) (.node (v347 P) .nil .nil) .nil) (.node (v281 P) .nil .nil))) (.node (v89 P) (.node (v127 P) (.node (v199 P) (.node (v331 P) .nil .nil) .nil) (.node (v265 P) .nil .nil)) (.node (v165 P) (.node (v233 P) (.node (v363 P) .nil .nil) .nil) (.node (v299 P) .nil .nil)))) (.node (v59 P) (.node (v78 P) (.node (v119 P) (.node (v189 P) (.node (v323 P) .nil .nil) .nil) (.node (v257 P) .nil .nil)) (.node (v157 P) (.node (v225 P) (.node (v355 P) .nil .nil) .nil) (.node (v289 P) .nil .nil))) (.node (v97 P) (.node (v138 P) (.node (v207 P) (.node (v339 P) .nil .nil) .nil) (.node (v273 P) .nil .nil)) (.node (v173 P) (.node (v241 P) .nil .nil) (.node (v307 P) .nil .nil))))) (.node (v43 P) (.node (v55 P) (.node (v74 P) (.node (v112 P) (.node (v185 P) (.node (v319 P) .nil .nil) .nil) (.node (v253 P) .nil .nil)) (.node (v153 P) (.node (v221 P) (.node (v351 P) .nil .nil) .nil) (.node (v285 P) .nil .nil))) (.node (v93 P) (.node (v134 P) (.node (v203 P) (.node (v335 P) .nil .nil) .nil) (.node (v269 P) .nil .nil)) (.node (v169 P) (.node (v237 P) (.node (v367 P) .nil .nil) .nil) (.node (v303 P) .nil .nil)))) (.node (v63 P) (.node (v82 P) (.node (v123 P) (.node (v193 P) (.node (v327 P) .nil .nil) .nil) (.node (v261 P) .nil .nil)) (.node (v161 P) (.node (v229 P) (.node (v359 P) .nil .nil) .nil) (.node (v295 P) .nil .nil))) (.node (v104 P) (.node (v142 P) (.node (v211 P) (.node (v343 P) .nil .nil) .nil) (.node (v277 P) .nil .nil)) (.node (v177 P) (.node (v245 P) .nil .nil) (.node (v311 P) .nil .nil)))))) (.node (PySem.W.boot_o_5 P) (.node (PySem.W.boot_o_9 P) (.node (v53 P) (.node (v69 P) (.node (v110 P) (.node (v183 P) (.node (v317 P) .nil .nil) .nil) (.node (v251 P) .nil .nil)) (.node (v151 P) (.node (v217 P) (.node (v349 P) .nil .nil) .nil) (.node (v283 P) .nil .nil))) (.node (v91 P) (.node (v129 P) (.node (v201 P) (.node (v333 P) .nil .nil) .nil) (.node (v267 P) .nil .nil)) (.node (v167 P) (.node (v235 P) (.node (v365 P) .nil .nil) .nil) (.node (v301 P) .nil .nil)))) (.node (v61 P) (.node (v80 P) (.node (v121 P) (.node (v191 P) (.node (v325 P) .nil .nil) .nil) (.node (v259 P) .nil .nil)) (.node (v159 P) (.node (v227 P) (.node (v357 P) .nil .nil) .nil) (.node (v293 P) .nil .nil))) (.node (v99 P) (.node (v140 P) (.node (v209 P) (.node (v341 P) .nil .nil) .nil) (.node (v275 P) .nil .nil)) (.node (v175 P) (.node (v243 P) .nil .nil) (.node (v309 P) .nil .nil))))) (.node (v45 P) (.node (v57 P) (.node (v76 P) (.node (v114 P) (.node (v187 P) (.node (v321 P) .nil .nil) .nil) (.node (v255 P) .nil .nil)) (.node (v155 P) (.node (v223 P) (.node (v353 P) .nil .nil) .nil) (.node (v287 P) .nil .nil))) (.node (v95 P) (.node (v136 P) (.node (v205 P) (.node (v337 P) .nil .nil) .nil) (.node (v271 P) .nil .nil)) (.node (v171 P) (.node (v239 P) (.node (v369 P) .nil .nil) .nil) (.node (v305 P) .nil .nil)))) (.node (v65 P) (.node (v84 P) (.node (v125 P) (.node (v195 P) (.node (v329 P) .nil .nil) .nil) (.node (v263 P) .nil .nil)) (.node (v163 P) (.node (v231 P) (.node (v361 P) .nil .nil) .nil) (.node (v297 P) .nil .nil))) (.node (v106 P) (.node (v144 P) (.node (v213 P) (.node (v345 P) .nil .nil) .nil) (.node (v279 P) .nil .nil)) (.node (v179 P) (.node (v247 P) .nil .nil) (.node (v313 P) .nil .nil))))))) (.node (PySem.W.boot_o_2 P) (.node (PySem.W.boot_o_4 P) (.node (PySem.W.boot_o_8 P) (.node (v52 P) (.node (v68 P) (.node (v109 P) (.node (v182 P) (.node (v316 P) .nil .nil) .nil) (.node (v250 P) .nil .nil)) (.node (v150 P) (.node (v216 P) (.node (v348 P) .nil .nil) .nil) (.node (v282 P) .nil .nil))) (.node (v90 P) (.node (v128 P) (.node (v200 P) (.node (v332 P) .nil .nil) .nil) (.node (v266 P) .nil .nil)) (.node (v166 P) (.node (v234 P) (.node (v364 P) .nil .nil) .nil) (.node (v300 P) .nil .nil)))) (.node (v60 P) (.node (v79 P) (.node (v120 P) (.node (v190 P) (.node (v324 P) .nil .nil) .nil) (.node (v258 P) .nil .nil)) (.node (v158 P) (.node (v226 P) (.node (v356 P) .nil .nil) .nil) (.node (v290 P) .nil .nil))) (.node (v98 P) (.node (v139 P) (.node (v208 P) (.node (v340 P) .nil .nil) .nil) (.node (v274 P) .nil .nil)) (.node (v174 P) (.node (v242 P) .nil .nil) (.node (v308 P) .nil .nil))))) (.node (v292 P) (.node (v56 P) (.node (v75 P) (.node (v113 P) (.node (v186 P) (.node (v320 P) .nil .nil) .nil) (.node (v254 P) .nil .nil)) (.node (v154 P) (.node (v222 P) (.node (v352 P) .nil .nil) .nil) (.node (v286 P) .nil .nil))) (.node (v94 P) (.node (v135 P) (.node (v204 P) (.node (v336 P) .nil .nil) .nil) (.node (v270 P) .nil .nil)) (.node (v170 P) (.node (v238 P) (.node (v368 P) .nil .nil) .nil) (.node (v304 P) .nil .nil)))) (.node (v64 P) (.node (v83 P) (.node (v124 P) (.node (v194 P) (.node (v328 P) .nil .nil) .nil) (.node (v262 P) .nil .nil)) (.node (v162 P) (.node (v230 P) (.node (v360 P) .nil .nil) .nil) (.node (v296 P) .nil .nil))) (.node (v105 P) (.node (v143 P) (.node (v212 P) (.node (v344 P) .nil .nil) .nil) (.node (v278 P) .nil .nil)) (.node (v178 P) (.node (v246 P) .nil .nil) (.node (v312 P) .nil .nil)))))) (.node (PySem.W.boot_o_6 P) (.node (PySem.W.boot_o_10 P) (.node (v54 P) (.node (v70 P) (.node (v111 P) (.node (v184 P) (.node (v318 P) .nil .nil) .nil) (.node (v252 P) .nil .nil)) (.node (v152 P) (.node (v218 P) (.node (v350 P) .nil .nil) .nil) (.node (v284 P) .nil .nil))) (.node (v92 P) (.node (v130 P) (.node (v202 P) (.node (v334 P) .nil .nil) .nil) (.node (v268 P) .nil .nil)) (.node (v168 P) (.node (v236 P) (.node (v366 P) .nil .nil) .nil) (.node (v302 P) .nil .nil)))) (.node (v62 P) (.node (v81 P) (.node (v122 P) (.node (v192 P) (.node (v326 P) .nil .nil) .nil) (.node (v260 P) .nil .nil)) (.node (v160 P) (.node (v228 P) (.node (v358 P) .nil .nil) .nil) (.node (v294 P) .nil .nil))) (.node (v100 P) (.node (v141 P) (.node (v210 P) (.node (v342 P) .nil .nil) .nil) (.node (v276 P) .nil .nil)) (.node (v176 P) (.node (v244 P) .nil .nil) (.node (v310 P) .nil .nil))))) (.node (v46 P) (.node (v58 P) (.node (v77 P) (.node (v115 P) (.node (v188 P) (.node (v322 P) .nil .nil) .nil) (.node (v256 P) .nil .nil)) (.node (v156 P) (.node (v224 P) (.node (v354 P) .nil .nil) .nil) (.node (v288 P) .nil .nil))) (.node (v96 P) (.node (v137 P) (.node (v206 P) (.node (v338 P) .nil .nil) .nil) (.node (v272 P) .nil .nil)) (.node (v172 P) (.node (v240 P) (.node (v370 P) .nil .nil) .nil) (.node (v306 P) .nil .nil)))) (.node (v66 P) (.node (v85 P) (.node (v126 P) (.node (v198 P) (.node (v330 P) .nil .nil) .nil) (.node (v264 P) .nil .nil)) (.node (v164 P) (.node (v232 P) (.node (v362 P) .nil .nil) .nil) (.node (v298 P) .nil .nil))) (.node (v107 P) (.node (v145 P) (.node (v214 P) (.node (v346 P) .nil .nil) .nil) (.node (v280 P) .nil .nil)) (.node (v180 P) (.node (v248 P) .nil .nil) (.node (v314 P) .nil .nil)))))))
noncomputable def v371 (P : Params) : PySem.Obj := ⟨.type "dict", none, .dict (List.toArray [⟨PyData.keyHash P (Str.ofString "__name__"), .str (Str.ofString "__name__") 165, .str (Str.ofString "law_uf040037_09") 492⟩, ⟨PyData.keyHash P (Str.ofString "__doc__"), .str (Str.ofString "__doc__") 166, .none⟩, ⟨PyData.keyHash P (Str.ofString "__package__"), .str (Str.ofString "__package__") 167, .none⟩, ⟨PyData.keyHash P (Str.ofString "__loader__"), .str (Str.ofString "__loader__") 168, .builtin "__main__.__loader__#opaque"⟩, ⟨PyData.keyHash P (Str.ofString "__spec__"), .str (Str.ofString "__spec__") 169, .none⟩, ⟨PyData.keyHash P (Str.ofString "__annotations__"), .str (Str.ofString "__annotations__") 170, .ref 6⟩, ⟨PyData.keyHash P (Str.ofString "__builtins__"), .str (Str.ofString "__builtins__") 171, .ref 4⟩, ⟨PyData.keyHash P (Str.ofString "__file__"), .str (Str.ofString "__file__") 173, .str (Str.ofString "/claim/cut.py") 172⟩, ⟨PyData.keyHash P (Str.ofString "__cached__"), .str (Str.ofString "__cached__") 174, .none⟩, ⟨PyData.keyHash P (Str.ofString "_wall"), .str (Str.ofString "_wall") 193, .ref 21⟩, ⟨PyData.keyHash P (Str.ofString "GateError"), .str (Str.ofString "GateError") 213, .ref 31⟩, ⟨PyData.keyHash P (Str.ofString "NoRow"), .str (Str.ofString "NoRow") 229, .ref 44⟩, ⟨PyData.keyHash P (Str.ofString "NoDivisor"), .str (Str.ofString "NoDivisor") 245, .ref 56⟩, ⟨PyData.keyHash P (Str.ofString "NoCount"), .str (Str.ofString "NoCount") 261, .ref 68⟩, ⟨PyData.keyHash P (Str.ofString "TooLong"), .str (Str.ofString "TooLong") 277, .ref 80⟩, ⟨PyData.keyHash P (Str.ofString "TooShort"), .str (Str.ofString "TooShort") 293, .ref 92⟩, ⟨PyData.keyHash P (Str.ofString "Broken"), .str (Str.ofString "Broken") 309, .ref 104⟩, ⟨PyData.keyHash P (Str.ofString "is_sign"), .str (Str.ofString "is_sign") 318, .ref 113⟩, ⟨PyData.keyHash P (Str.ofString "need_row"), .str (Str.ofString "need_row") 326, .ref 120⟩, ⟨PyData.keyHash P (Str.ofString "value_of"), .str (Str.ofString "value_of") 335, .ref 127⟩, ⟨PyData.keyHash P (Str.ofString "signs_of"), .str (Str.ofString "signs_of") 345, .ref 134⟩, ⟨PyData.keyHash P (Str.ofString "parted"), .str (Str.ofString "parted") 360, .ref 141⟩, ⟨PyData.keyHash P (Str.ofString "LEAST"), .str (Str.ofString "LEAST") 364, .int 2 363⟩, ⟨PyData.keyHash P (Str.ofString "MOST"), .str (Str.ofString "MOST") 366, .int 13 365⟩, ⟨PyData.keyHash P (Str.ofString "need_divisor"), .str (Str.ofString "need_divisor") 373, .ref 148⟩, ⟨PyData.keyHash P (Str.ofString "onward"), .str (Str.ofString "onward") 382, .ref 155⟩, ⟨PyData.keyHash P (Str.ofString "reach"), .str (Str.ofString "reach") 393, .ref 162⟩, ⟨PyData.keyHash P (Str.ofString "MOST_NOUGHTS"), .str (Str.ofString "MOST_NOUGHTS") 399, .int 1000000000000000000 398⟩, ⟨PyData.keyHash P (Str.ofString "Gate"), .str (Str.ofString "Gate") 491, .ref 228⟩, ⟨PyData.keyHash P (Str.ofString "_law_cell_at"), .str (Str.ofString "_law_cell_at") 501, .ref 239⟩, ⟨PyData.keyHash P (Str.ofString "_law_row_by"), .str (Str.ofString "_law_row_by") 507, .ref 244⟩, ⟨PyData.keyHash P (Str.ofString "_law_is_row"), .str (Str.ofString "_law_is_row") 513, .ref 249⟩, ⟨PyData.keyHash P (Str.ofString "_law_step_by"), .str (Str.ofString "_law_step_by") 519, .ref 254⟩, ⟨PyData.keyHash P (Str.ofString "_law_rest_by"), .str (Str.ofString "_law_rest_by") 529, .ref 261⟩, ⟨PyData.keyHash P (Str.ofString "_law_divisor_by"), .str (Str.ofString "_law_divisor_by") 540, .ref 268⟩, ⟨PyData.keyHash P (Str.ofString "_law_reach_by"), .str (Str.ofString "_law_reach_by") 550, .ref 275⟩, ⟨PyData.keyHash P (Str.ofString "_law_words"), .str (Str.ofString "_law_words") 559, .ref 282⟩, ⟨PyData.keyHash P (Str.ofString "_law_any"), .str (Str.ofString "_law_any") 568, .ref 289⟩, ⟨PyData.keyHash P (Str.ofString "_law_row"), .str (Str.ofString "_law_row") 582, .ref 296⟩, ⟨PyData.keyHash P (Str.ofString "_law_asked"), .str (Str.ofString "_law_asked") 601, .ref 303⟩, ⟨PyData.keyHash P (Str.ofString "_law_kept"), .str (Str.ofString "_law_kept") 610, .ref 310⟩, ⟨PyData.keyHash P (Str.ofString "law"), .str (Str.ofString "law") 627, .ref 317⟩]) 42, List.toArray []⟩
noncomputable def v372 (_P : Params) : PySem.Obj := ⟨.none, none, .fields (List.toArray [.int 1 0, .int 0 0, .ref 20, .int 5 0, .int 0 0, .ref 27, .int 7 0, .int 0 0, .ref 40, .int 9 0, .int 0 0, .ref 52, .int 11 0, .int 0 0, .ref 64, .int 13 0, .int 0 0, .ref 76, .int 15 0, .int 0 0, .ref 88, .int 17 0, .int 0 0, .ref 100, .int 20 0, .int 0 0, .ref 112, .int 22 0, .int 0 0, .ref 119, .int 28 0, .int 0 0, .ref 126, .int 33 0, .int 0 0, .ref 133, .int 39 0, .int 0 0, .ref 140, .int 57 0, .int 0 0, .ref 147, .int 63 0, .int 0 0, .ref 154, .int 68 0, .int 0 0, .ref 161, .int 80 0, .int 0 0, .ref 168, .int 125 0, .int 0 0, .ref 238, .int 129 0, .int 0 0, .ref 243, .int 142 0, .int 0 0, .ref 248, .int 146 0, .int 0 0, .ref 253, .int 151 0, .int 0 0, .ref 260, .int 156 0, .int 0 0, .ref 267, .int 167 0, .int 0 0, .ref 274, .int 175 0, .int 0 0, .ref 281, .int 188 0, .int 0 0, .ref 288, .int 194 0, .int 0 0, .ref 295, .int 204 0, .int 0 0, .ref 302, .int 231 0, .int 0 0, .ref 309, .int 236 0, .int 0 0, .ref 316]), List.toArray []⟩
noncomputable def v373 (_P : Params) : PySem.Obj := ⟨.type "tuple", none, .seq (List.toArray []) 0, List.toArray []⟩
noncomputable def v374 (_P : Params) : PySem.Obj := ⟨.none, none, .fields (List.toArray []), List.toArray []⟩
noncomputable def v375 (_P : Params) : PySem.Obj := ⟨.type "tuple", none, .seq (List.toArray [.str (Str.ofString "_law_script") 614, .str (Str.ofString "_law_divisor") 615, .str (Str.ofString "_law_most") 616, .str (Str.ofString "_law_seals") 617, .str (Str.ofString "_law_one") 618, .str (Str.ofString "_law_other") 619, .str (Str.ofString "_law_gate") 620, .str (Str.ofString "_law_held") 621, .str (Str.ofString "_law_first") 622, .str (Str.ofString "_law_row_here") 623, .str (Str.ofString "_law_turned") 624]) 0, List.toArray []⟩
noncomputable def v376 (_P : Params) : PySem.Obj := ⟨.type "tuple", none, .seq (List.toArray []) 0, List.toArray []⟩
noncomputable def v377 (_P : Params) : PySem.Obj := (fun (p : Arguments) (b : List Stmt) (s : Scope) (_ : (p, b, s) = fnP (nthS pW.main.body 37)) => (⟨.none, none, .func ⟨Str.ofString "law", Str.ofString "law", p, .stmts b, s, 0, [], .none, .none, .none, .none, none, .none, .none, 0⟩, List.toArray []⟩ : Obj)) _ _ _ rfl
noncomputable def v378 (_P : Params) : PySem.Obj := ⟨.type "code", none, .fields (List.toArray [.str (Str.ofString "law") 611, .str (Str.ofString "law") 612, .str (Str.ofString "/claim/cut.py") 613, .int 236 0, .int 1 0, .int 0 0, .int 0 0, .int 3 0, .ref 311, .bool true, .int 181 0, .ref 312, .none, .ref 313, .ref 314, .ref 315, .int 625 0, .int 236 0, .str (Str.ofString "/claim/cut.py") 626]), List.toArray []⟩
noncomputable def v379 (_P : Params) : PySem.Obj := (fun (p : Arguments) (b : List Stmt) (s : Scope) (_ : (p, b, s) = fnP (nthS pW.main.body 37)) => (⟨.type "function", none, .func ⟨Str.ofString "law", Str.ofString "law", p, .stmts b, s, 3, [], .none, .none, .none, .str (Str.ofString "law_uf040037_09") 492, none, .ref 316, .none, 0⟩, List.toArray []⟩ : Obj)) _ _ _ rfl
noncomputable def tr379 (P : Params) : PySem.W.BT := .node (PySem.W.boot_o_0 P) (.node (PySem.W.boot_o_1 P) (.node (v371 P) (.node (PySem.W.boot_o_7 P) (.node (v51 P) (.node (v148 P) (.node (v108 P) (.node (v181 P) (.node (v315 P) .nil .nil) .nil) (.node (v249 P) .nil .nil)) (.node (v149 P) (.node (v215 P) (.node (v347 P) .nil .nil) .nil) (.node (v281 P) .nil .nil))) (.node (v89 P) (.node (v127 P) (.node (v199 P) (.node (v331 P) .nil .nil) .nil) (.node (v265 P) .nil .nil)) (.node (v165 P) (.node (v233 P) (.node (v363 P) .nil .nil) .nil) (.node (v299 P) .nil .nil)))) (.node (v59 P) (.node (v78 P) (.node (v119 P) (.node (v189 P) (.node (v323 P) .nil .nil) .nil) (.node (v257 P) .nil .nil)) (.node (v157 P) (.node (v225 P) (.node (v355 P) .nil .nil) .nil) (.node (v289 P) .nil .nil))) (.node (v97 P) (.node (v138 P) (.node (v207 P) (.node (v339 P) .nil .nil) .nil) (.node (v273 P) .nil .nil)) (.node (v173 P) (.node (v241 P) (.node (v373 P) .nil .nil) .nil) (.node (v307 P) .nil .nil))))) (.node (v43 P) (.node (v55 P) (.node (v74 P) (.node (v112 P) (.node (v185 P) (.node (v319 P) .nil .nil) .nil) (.node (v253 P) .nil .nil)) (.node (v153 P) (.node (v221 P) (.node (v351 P) .nil .nil) .nil) (.node (v285 P) .nil .nil))) (.node (v93 P) (.node (v134 P) (.node (v203 P) (.node (v335 P) .nil .nil) .nil) (.node (v269 P) .nil .nil)) (.node (v169 P) (.node (v237 P) (.node (v367 P) .nil .nil) .nil) (.node (v303 P) .nil .nil)))) (.node (v63 P) (.node (v82 P) (.node (v123 P) (.node (v193 P) (.node (v327 P) .nil .nil) .nil) (.node (v261 P) .nil .nil)) (.node (v161 P) (.node (v229 P) (.node (v359 P) .nil .nil) .nil) (.node (v295 P) .nil .nil))) (.node (v104 P) (.node (v142 P) (.node (v211 P) (.node (v343 P) .nil .nil) .nil) (.node (v277 P) .nil .nil)) (.node (v177 P) (.node (v245 P) (.node (v377 P) .nil .nil) .nil) (.node (v311 P) .nil .nil)))))) (.node (PySem.W.boot_o_5 P) (.node (PySem.W.boot_o_9 P) (.node (v53 P) (.node (v69 P) (.node (v110 P) (.node (v183 P) (.node (v317 P) .nil .nil) .nil) (.node (v251 P) .nil .nil)) (.node (v151 P) (.node (v217 P) (.node (v349 P) .nil .nil) .nil) (.node (v283 P) .nil .nil))) (.node (v91 P) (.node (v129 P) (.node (v201 P) (.node (v333 P) .nil .nil) .nil) (.node (v267 P) .nil .nil)) (.node (v167 P) (.node (v235 P) (.node (v365 P) .nil .nil) .nil) (.node (v301 P) .nil .nil)))) (.node (v61 P) (.node (v80 P) (.node (v121 P) (.node (v191 P) (.node (v325 P) .nil .nil) .nil) (.node (v259 P) .nil .nil)) (.node (v159 P) (.node (v227 P) (.node (v357 P) .nil .nil) .nil) (.node (v293 P) .nil .nil))) (.node (v99 P) (.node (v140 P) (.node (v209 P) (.node (v341 P) .nil .nil) .nil) (.node (v275 P) .nil .nil)) (.node (v175 P) (.node (v243 P) (.node (v375 P) .nil .nil) .nil) (.node (v309 P) .nil .nil))))) (.node (v45 P) (.node (v57 P) (.node (v76 P) (.node (v114 P) (.node (v187 P) (.node (v321 P) .nil .nil) .nil) (.node (v255 P) .nil .nil)) (.node (v155 P) (.node (v223 P) (.node (v353 P) .nil .nil) .nil) (.node (v287 P) .nil .nil))) (.node (v95 P) (.node (v136 P) (.node (v205 P) (.node (v337 P) .nil .nil) .nil) (.node (v271 P) .nil .nil)) (.node (v171 P) (.node (v239 P) (.node (v369 P) .nil .nil) .nil) (.node (v305 P) .nil .nil)))) (.node (v65 P) (.node (v84 P) (.node (v125 P) (.node (v195 P) (.node (v329 P) .nil .nil) .nil) (.node (v263 P) .nil .nil)) (.node (v163 P) (.node (v231 P) (.node (v361 P) .nil .nil) .nil) (.node (v297 P) .nil .nil))) (.node (v106 P) (.node (v144 P) (.node (v213 P) (.node (v345 P) .nil .nil) .nil) (.node (v279 P) .nil .nil)) (.node (v179 P) (.node (v247 P) (.node (v379 P) .nil .nil) .nil) (.node (v313 P) .nil .nil))))))) (.node (PySem.W.boot_o_2 P) (.node (PySem.W.boot_o_4 P) (.node (PySem.W.boot_o_8 P) (.node (v52 P) (.node (v68 P) (.node (v109 P) (.node (v182 P) (.node (v316 P) .nil .nil) .nil) (.node (v250 P) .nil .nil)) (.node (v150 P) (.node (v216 P) (.node (v348 P) .nil .nil) .nil) (.node (v282 P) .nil .nil))) (.node (v90 P) (.node (v128 P) (.node (v200 P) (.node (v332 P) .nil .nil) .nil) (.node (v266 P) .nil .nil)) (.node (v166 P) (.node (v234 P) (.node (v364 P) .nil .nil) .nil) (.node (v300 P) .nil .nil)))) (.node (v60 P) (.node (v79 P) (.node (v120 P) (.node (v190 P) (.node (v324 P) .nil .nil) .nil) (.node (v258 P) .nil .nil)) (.node (v158 P) (.node (v226 P) (.node (v356 P) .nil .nil) .nil) (.node (v290 P) .nil .nil))) (.node (v98 P) (.node (v139 P) (.node (v208 P) (.node (v340 P) .nil .nil) .nil) (.node (v274 P) .nil .nil)) (.node (v174 P) (.node (v242 P) (.node (v374 P) .nil .nil) .nil) (.node (v308 P) .nil .nil))))) (.node (v372 P) (.node (v56 P) (.node (v75 P) (.node (v113 P) (.node (v186 P) (.node (v320 P) .nil .nil) .nil) (.node (v254 P) .nil .nil)) (.node (v154 P) (.node (v222 P) (.node (v352 P) .nil .nil) .nil) (.node (v286 P) .nil .nil))) (.node (v94 P) (.node (v135 P) (.node (v204 P) (.node (v336 P) .nil .nil) .nil) (.node (v270 P) .nil .nil)) (.node (v170 P) (.node (v238 P) (.node (v368 P) .nil .nil) .nil) (.node (v304 P) .nil .nil)))) (.node (v64 P) (.node (v83 P) (.node (v124 P) (.node (v194 P) (.node (v328 P) .nil .nil) .nil) (.node (v262 P) .nil .nil)) (.node (v162 P) (.node (v230 P) (.node (v360 P) .nil .nil) .nil) (.node (v296 P) .nil .nil))) (.node (v105 P) (.node (v143 P) (.node (v212 P) (.node (v344 P) .nil .nil) .nil) (.node (v278 P) .nil .nil)) (.node (v178 P) (.node (v246 P) (.node (v378 P) .nil .nil) .nil) (.node (v312 P) .nil .nil)))))) (.node (PySem.W.boot_o_6 P) (.node (PySem.W.boot_o_10 P) (.node (v54 P) (.node (v70 P) (.node (v111 P) (.node (v184 P) (.node (v318 P) .nil .nil) .nil) (.node (v252 P) .nil .nil)) (.node (v152 P) (.node (v218 P) (.node (v350 P) .nil .nil) .nil) (.node (v284 P) .nil .nil))) (.node (v92 P) (.node (v130 P) (.node (v202 P) (.node (v334 P) .nil .nil) .nil) (.node (v268 P) .nil .nil)) (.node (v168 P) (.node (v236 P) (.node (v366 P) .nil .nil) .nil) (.node (v302 P) .nil .nil)))) (.node (v62 P) (.node (v81 P) (.node (v122 P) (.node (v192 P) (.node (v326 P) .nil .nil) .nil) (.node (v260 P) .nil .nil)) (.node (v160 P) (.node (v228 P) (.node (v358 P) .nil .nil) .nil) (.node (v294 P) .nil .nil))) (.node (v100 P) (.node (v141 P) (.node (v210 P) (.node (v342 P) .nil .nil) .nil) (.node (v276 P) .nil .nil)) (.node (v176 P) (.node (v244 P) (.node (v376 P) .nil .nil) .nil) (.node (v310 P) .nil .nil))))) (.node (v46 P) (.node (v58 P) (.node (v77 P) (.node (v115 P) (.node (v188 P) (.node (v322 P) .nil .nil) .nil) (.node (v256 P) .nil .nil)) (.node (v156 P) (.node (v224 P) (.node (v354 P) .nil .nil) .nil) (.node (v288 P) .nil .nil))) (.node (v96 P) (.node (v137 P) (.node (v206 P) (.node (v338 P) .nil .nil) .nil) (.node (v272 P) .nil .nil)) (.node (v172 P) (.node (v240 P) (.node (v370 P) .nil .nil) .nil) (.node (v306 P) .nil .nil)))) (.node (v66 P) (.node (v85 P) (.node (v126 P) (.node (v198 P) (.node (v330 P) .nil .nil) .nil) (.node (v264 P) .nil .nil)) (.node (v164 P) (.node (v232 P) (.node (v362 P) .nil .nil) .nil) (.node (v298 P) .nil .nil))) (.node (v107 P) (.node (v145 P) (.node (v214 P) (.node (v346 P) .nil .nil) .nil) (.node (v280 P) .nil .nil)) (.node (v180 P) (.node (v248 P) .nil .nil) (.node (v314 P) .nil .nil)))))))
noncomputable def hp380 (P : Params) : PySem.Heap := ⟨⟨[PySem.W.boot_o_0 P, PySem.W.boot_o_1 P, PySem.W.boot_o_2 P, v371 P, PySem.W.boot_o_4 P, PySem.W.boot_o_5 P, PySem.W.boot_o_6 P, PySem.W.boot_o_7 P, PySem.W.boot_o_8 P, PySem.W.boot_o_9 P, PySem.W.boot_o_10 P, v43 P, v372 P, v45 P, v46 P, v51 P, v52 P, v53 P, v54 P, v55 P, v56 P, v57 P, v58 P, v59 P, v60 P, v61 P, v62 P, v63 P, v64 P, v65 P, v66 P, v148 P, v68 P, v69 P, v70 P, v74 P, v75 P, v76 P, v77 P, v78 P, v79 P, v80 P, v81 P, v82 P, v83 P, v84 P, v85 P, v89 P, v90 P, v91 P, v92 P, v93 P, v94 P, v95 P, v96 P, v97 P, v98 P, v99 P, v100 P, v104 P, v105 P, v106 P, v107 P, v108 P, v109 P, v110 P, v111 P, v112 P, v113 P, v114 P, v115 P, v119 P, v120 P, v121 P, v122 P, v123 P, v124 P, v125 P, v126 P, v127 P, v128 P, v129 P, v130 P, v134 P, v135 P, v136 P, v137 P, v138 P, v139 P, v140 P, v141 P, v142 P, v143 P, v144 P, v145 P, v149 P, v150 P, v151 P, v152 P, v153 P, v154 P, v155 P, v156 P, v157 P, v158 P, v159 P, v160 P, v161 P, v162 P, v163 P, v164 P, v165 P, v166 P, v167 P, v168 P, v169 P, v170 P, v171 P, v172 P, v173 P, v174 P, v175 P, v176 P, v177 P, v178 P, v179 P, v180 P, v181 P, v182 P, v183 P, v184 P, v185 P, v186 P, v187 P, v188 P, v189 P, v190 P, v191 P, v192 P, v193 P, v194 P, v195 P, v198 P, v199 P, v200 P, v201 P, v202 P, v203 P, v204 P, v205 P, v206 P, v207 P, v208 P, v209 P, v210 P, v211 P, v212 P, v213 P, v214 P, v215 P, v216 P, v217 P, v218 P, v221 P, v222 P, v223 P, v224 P, v225 P, v226 P, v227 P, v228 P, v229 P, v230 P, v231 P, v232 P, v233 P, v234 P, v235 P, v236 P, v237 P, v238 P, v239 P, v240 P, v241 P, v242 P, v243 P, v244 P, v245 P, v246 P, v247 P, v248 P, v249 P, v250 P, v251 P, v252 P, v253 P, v254 P, v255 P, v256 P, v257 P, v258 P, v259 P, v260 P, v261 P, v262 P, v263 P, v264 P, v265 P, v266 P, v267 P, v268 P, v269 P, v270 P, v271 P, v272 P, v273 P, v274 P, v275 P, v276 P, v277 P, v278 P, v279 P, v280 P, v281 P, v282 P, v283 P, v284 P, v285 P, v286 P, v287 P, v288 P, v289 P, v290 P, v293 P, v294 P, v295 P, v296 P, v297 P, v298 P, v299 P, v300 P, v301 P, v302 P, v303 P, v304 P, v305 P, v306 P, v307 P, v308 P, v309 P, v310 P, v311 P, v312 P, v313 P, v314 P, v315 P, v316 P, v317 P, v318 P, v319 P, v320 P, v321 P, v322 P, v323 P, v324 P, v325 P, v326 P, v327 P, v328 P, v329 P, v330 P, v331 P, v332 P, v333 P, v334 P, v335 P, v336 P, v337 P, v338 P, v339 P, v340 P, v341 P, v342 P, v343 P, v344 P, v345 P, v346 P, v347 P, v348 P, v349 P, v350 P, v351 P, v352 P, v353 P, v354 P, v355 P, v356 P, v357 P, v358 P, v359 P, v360 P, v361 P, v362 P, v363 P, v364 P, v365 P, v366 P, v367 P, v368 P, v369 P, v370 P, v373 P, v374 P, v375 P, v376 P, v377 P, v378 P, v379 P]⟩, ⟨[], [], [], 0, [], [], false, List.toArray [], [], 0, false, false, false, 0, [2000, 10, 10], false, 0, true, [], [], 0, false⟩⟩
noncomputable def st49 : List Stmt := (fun (l : List Stmt) (_ : l = pickS pW.main.body [0, 1, 2]) => l) [_, _, _] rfl
noncomputable def st71 : List Stmt := (fun (l : List Stmt) (_ : l = pickS pW.main.body [3]) => l) [_] rfl
noncomputable def st86 : List Stmt := (fun (l : List Stmt) (_ : l = pickS pW.main.body [4]) => l) [_] rfl
noncomputable def st101 : List Stmt := (fun (l : List Stmt) (_ : l = pickS pW.main.body [5]) => l) [_] rfl
noncomputable def st116 : List Stmt := (fun (l : List Stmt) (_ : l = pickS pW.main.body [6]) => l) [_] rfl
noncomputable def st131 : List Stmt := (fun (l : List Stmt) (_ : l = pickS pW.main.body [7]) => l) [_] rfl
noncomputable def st146 : List Stmt := (fun (l : List Stmt) (_ : l = pickS pW.main.body [8, 9, 10, 11, 12, 13, 14, 15, 16]) => l) [_, _, _, _, _, _, _, _, _] rfl
noncomputable def st196 : List Stmt := (fun (l : List Stmt) (_ : l = pickS pW.main.body [17, 18, 19, 20, 21, 22]) => l) [_, _, _, _, _, _] rfl
noncomputable def st219 : List Stmt := (fun (l : List Stmt) (_ : l = pickS pW.main.body [23]) => l) [_] rfl
noncomputable def st291 : List Stmt := (fun (l : List Stmt) (_ : l = pickS pW.main.body [24, 25, 26, 27, 28, 29, 30, 31, 32, 33, 34, 35, 36]) => l) [_, _, _, _, _, _, _, _, _, _, _, _, _] rfl
noncomputable def st371 : List Stmt := (fun (l : List Stmt) (_ : l = pickS pW.main.body [37]) => l) [_] rfl
noncomputable abbrev cdT : Code := .body (behindTheImports PySem.Challenge.rw_uf040037_09.row.prog) ev41
theorem sg_go : ∀ (w : World) (os : OsState), topGo treeTable PySem.Challenge.rw_uf040037_09.row.prog w 11 (some (.ref 6)) 12 ⟨boot_heap w.params, Array.mk [], boot_drawn, boot_toks, os⟩ (topStub PySem.Challenge.rw_uf040037_09.row.prog) = some (⟨hp46 w.params, Array.mk [], {}, 187, os⟩, ⟨denote treeTable cdT, cdT, ⟨0, 0, 0, 0⟩, [topFrame ⟨0, 0, 0, 0⟩]⟩) := fun _ _ => by kernel_rfl
theorem sg_block : ∀ (w : World) (os : OsState), segRun treeTable PySem.Challenge.rw_uf040037_09.row.prog w 11 (some (.ref 6)) 1 1 ⟨hp46 w.params, Array.mk [], {}, 187, os⟩ (blockOf (behindTheImports PySem.Challenge.rw_uf040037_09.row.prog) ev41 cdT ⟨0, 0, 0, 0⟩ [topFrame ⟨0, 0, 0, 0⟩]) = some (.next, SharedT.abs ⟨tr47 w.params, 15, {}, Array.mk [], {}, 187, os⟩, cdT, ⟨0, 0, 0, 0⟩) := fun _ _ => by kernel_rfl
theorem sg_49 : ∀ (w : World) (os : OsState), segRunT treeTable PySem.Challenge.rw_uf040037_09.row.prog w 11 (some (.ref 6)) 1 225 ⟨tr47 w.params, 15, {}, Array.mk [], {}, 187, os⟩ (piecesOf st49 ev41 cdT ⟨0, 0, 0, 0⟩ [topFrame ⟨0, 0, 0, 0⟩]) = some (.next, ⟨tr70 w.params, 35, {}, Array.mk [], {}, 214, os⟩, cdT, ⟨5, 0, 6, 8⟩) := fun _ _ => by kernel_rfl
theorem sg_71 : ∀ (w : World) (os : OsState), segRunT treeTable PySem.Challenge.rw_uf040037_09.row.prog w 11 (some (.ref 6)) 1 214 ⟨tr70 w.params, 35, {}, Array.mk [], {}, 214, os⟩ (piecesOf st71 ev41 cdT ⟨5, 0, 6, 8⟩ [topFrame ⟨0, 0, 0, 0⟩]) = some (.next, ⟨tr85 w.params, 47, {}, Array.mk [], {}, 230, os⟩, cdT, ⟨7, 0, 8, 8⟩) := fun _ _ => by kernel_rfl
theorem sg_86 : ∀ (w : World) (os : OsState), segRunT treeTable PySem.Challenge.rw_uf040037_09.row.prog w 11 (some (.ref 6)) 1 214 ⟨tr85 w.params, 47, {}, Array.mk [], {}, 230, os⟩ (piecesOf st86 ev41 cdT ⟨7, 0, 8, 8⟩ [topFrame ⟨0, 0, 0, 0⟩]) = some (.next, ⟨tr100 w.params, 59, {}, Array.mk [], {}, 246, os⟩, cdT, ⟨9, 0, 10, 8⟩) := fun _ _ => by kernel_rfl
theorem sg_101 : ∀ (w : World) (os : OsState), segRunT treeTable PySem.Challenge.rw_uf040037_09.row.prog w 11 (some (.ref 6)) 1 214 ⟨tr100 w.params, 59, {}, Array.mk [], {}, 246, os⟩ (piecesOf st101 ev41 cdT ⟨9, 0, 10, 8⟩ [topFrame ⟨0, 0, 0, 0⟩]) = some (.next, ⟨tr115 w.params, 71, {}, Array.mk [], {}, 262, os⟩, cdT, ⟨11, 0, 12, 8⟩) := fun _ _ => by kernel_rfl
theorem sg_116 : ∀ (w : World) (os : OsState), segRunT treeTable PySem.Challenge.rw_uf040037_09.row.prog w 11 (some (.ref 6)) 1 214 ⟨tr115 w.params, 71, {}, Array.mk [], {}, 262, os⟩ (piecesOf st116 ev41 cdT ⟨11, 0, 12, 8⟩ [topFrame ⟨0, 0, 0, 0⟩]) = some (.next, ⟨tr130 w.params, 83, {}, Array.mk [], {}, 278, os⟩, cdT, ⟨13, 0, 14, 8⟩) := fun _ _ => by kernel_rfl
theorem sg_131 : ∀ (w : World) (os : OsState), segRunT treeTable PySem.Challenge.rw_uf040037_09.row.prog w 11 (some (.ref 6)) 1 214 ⟨tr130 w.params, 83, {}, Array.mk [], {}, 278, os⟩ (piecesOf st131 ev41 cdT ⟨13, 0, 14, 8⟩ [topFrame ⟨0, 0, 0, 0⟩]) = some (.next, ⟨tr145 w.params, 95, {}, Array.mk [], {}, 294, os⟩, cdT, ⟨15, 0, 16, 8⟩) := fun _ _ => by kernel_rfl
theorem sg_146 : ∀ (w : World) (os : OsState), segRunT treeTable PySem.Challenge.rw_uf040037_09.row.prog w 11 (some (.ref 6)) 1 400 ⟨tr145 w.params, 95, {}, Array.mk [], {}, 294, os⟩ (piecesOf st146 ev41 cdT ⟨15, 0, 16, 8⟩ [topFrame ⟨0, 0, 0, 0⟩]) = some (.next, ⟨tr195 w.params, 142, {}, Array.mk [], {}, 365, os⟩, cdT, ⟨55, 0, 55, 5⟩) := fun _ _ => by kernel_rfl
theorem sg_196 : ∀ (w : World) (os : OsState), segRunT treeTable PySem.Challenge.rw_uf040037_09.row.prog w 11 (some (.ref 6)) 1 127 ⟨tr195 w.params, 142, {}, Array.mk [], {}, 365, os⟩ (piecesOf st196 ev41 cdT ⟨55, 0, 55, 5⟩ [topFrame ⟨0, 0, 0, 0⟩]) = some (.next, ⟨tr218 w.params, 163, {}, Array.mk [], {}, 400, os⟩, cdT, ⟨79, 0, 79, 12⟩) := fun _ _ => by kernel_rfl
theorem sg_219 : ∀ (w : World) (os : OsState), segRunT treeTable PySem.Challenge.rw_uf040037_09.row.prog w 11 (some (.ref 6)) 1 454 ⟨tr218 w.params, 163, {}, Array.mk [], {}, 400, os⟩ (piecesOf st219 ev41 cdT ⟨79, 0, 79, 12⟩ [topFrame ⟨0, 0, 0, 0⟩]) = some (.next, ⟨tr290 w.params, 233, {}, Array.mk [], {}, 492, os⟩, cdT, ⟨80, 0, 123, 16⟩) := fun _ _ => by kernel_rfl
theorem sg_291 : ∀ (w : World) (os : OsState), segRunT treeTable PySem.Challenge.rw_uf040037_09.row.prog w 11 (some (.ref 6)) 1 385 ⟨tr290 w.params, 233, {}, Array.mk [], {}, 492, os⟩ (piecesOf st291 ev41 cdT ⟨80, 0, 123, 16⟩ [topFrame ⟨0, 0, 0, 0⟩]) = some (.next, ⟨tr370 w.params, 311, {}, Array.mk [], {}, 611, os⟩, cdT, ⟨231, 0, 235, 15⟩) := fun _ _ => by kernel_rfl
theorem sg_371 : ∀ (w : World) (os : OsState), segRunT treeTable PySem.Challenge.rw_uf040037_09.row.prog w 11 (some (.ref 6)) 1 40 ⟨tr370 w.params, 311, {}, Array.mk [], {}, 611, os⟩ (piecesOf st371 ev41 cdT ⟨231, 0, 235, 15⟩ [topFrame ⟨0, 0, 0, 0⟩]) = some (.next, ⟨tr379 w.params, 318, {}, Array.mk [], {}, 628, os⟩, cdT, ⟨236, 0, 248, 31⟩) := fun _ _ => by kernel_rfl
theorem sg_last : ∀ (w : World) (os : OsState), topRun treeTable PySem.Challenge.rw_uf040037_09.row.prog w 11 (some (.ref 6)) 2 (SharedT.abs ⟨tr379 w.params, 318, {}, Array.mk [], {}, 628, os⟩) ⟨doneF .next, cdT, ⟨236, 0, 248, 31⟩, [topFrame ⟨0, 0, 0, 0⟩]⟩ = some ⟨hp380 w.params, Array.mk [], {}, 628, os⟩ := fun _ _ => by kernel_rfl
theorem body_is : behindTheImports PySem.Challenge.rw_uf040037_09.row.prog = (st49 ++ (st71 ++ (st86 ++ (st101 ++ (st116 ++ (st131 ++ (st146 ++ (st196 ++ (st219 ++ (st291 ++ (st371 ++ []))))))))))) := by kernel_rfl
theorem run_ : ∀ (w : World) (os : OsState), topRun treeTable PySem.Challenge.rw_uf040037_09.row.prog w 11 (some (.ref 6)) (12 + (1 + (225 + (214 + (214 + (214 + (214 + (214 + (400 + (127 + (454 + (385 + (40 + 2))))))))))))) ⟨boot_heap w.params, Array.mk [], boot_drawn, boot_toks, os⟩ (topStub PySem.Challenge.rw_uf040037_09.row.prog) = some ⟨hp380 w.params, Array.mk [], {}, 628, os⟩ := fun w os => by
  have h : topRun treeTable PySem.Challenge.rw_uf040037_09.row.prog w 11 (some (.ref 6)) (225 + (214 + (214 + (214 + (214 + (214 + (400 + (127 + (454 + (385 + (40 + 2))))))))))) (SharedT.abs ⟨tr47 w.params, 15, {}, Array.mk [], {}, 187, os⟩) (restOf (st49 ++ (st71 ++ (st86 ++ (st101 ++ (st116 ++ (st131 ++ (st146 ++ (st196 ++ (st219 ++ (st291 ++ (st371 ++ []))))))))))) ev41 cdT ⟨0, 0, 0, 0⟩ [topFrame ⟨0, 0, 0, 0⟩]) = some ⟨hp380 w.params, Array.mk [], {}, 628, os⟩ := (piece_app (segRun_of (sg_49 w os)) (piece_app (segRun_of (sg_71 w os)) (piece_app (segRun_of (sg_86 w os)) (piece_app (segRun_of (sg_101 w os)) (piece_app (segRun_of (sg_116 w os)) (piece_app (segRun_of (sg_131 w os)) (piece_app (segRun_of (sg_146 w os)) (piece_app (segRun_of (sg_196 w os)) (piece_app (segRun_of (sg_219 w os)) (piece_app (segRun_of (sg_291 w os)) (piece_app (segRun_of (sg_371 w os)) (piece_nil (sg_last w os)))))))))))))
  rw [← body_is] at h
  exact go_top (sg_go w os) (piece_block (sg_block w os) h)
theorem size_ : ∀ w : World, ((boot_heap w.params).isNs mainGlobals && (Array.mk [] : Array GenState).size == 0, (boot_heap w.params).objs.size, (boot_heap w.params).nsMap mainGlobals "__annotations__") = (true, 11, some (.ref 6)) := fun _ => by kernel_rfl
noncomputable abbrev endS (w : World) (os : OsState) : Shared := ⟨hp380 w.params, Array.mk [], {}, 628, os⟩
theorem look1 : ∀ (w : World) (os : OsState), (staticsOk (importedModules (PySem.Challenge.rw_uf040037_09.row.prog).main.body) (boot_heap w.params) (hp380 w.params) && namesBound PySem.Challenge.rw_uf040037_09.row.prog (hp380 w.params) && gensDone (endS w os) && laidKept (boot_heap w.params) (hp380 w.params)) = true := fun _ _ => by kernel_rfl
theorem look2 : ∀ (w : World) (os : OsState), openSeen view [Str.ofString "MOST_NOUGHTS"] (importedModules (PySem.Challenge.rw_uf040037_09.row.prog).main.body) (fun s => xlAt view [(PySem.Str.ofString "MOST_NOUGHTS", .int 1000000000000000000)] s && recOk (RowW.records PySem.Challenge.rw_uf040037_09.row.toRowW) s) true (endS w os) = openGood view [Str.ofString "MOST_NOUGHTS"] := fun _ _ => by kernel_rfl
theorem look3 : ∀ (w : World) (os : OsState), Hook.obs kkHook (endS w os) = Hook.val kkHook w := fun _ _ => by kernel_rfl
/-- what the top leaves: a run in pieces -/
theorem left_ : LeftO PySem.Challenge.rw_uf040037_09.row.prog view [Str.ofString "MOST_NOUGHTS"] (fun s => xlAt view [(PySem.Str.ofString "MOST_NOUGHTS", .int 1000000000000000000)] s && recOk (RowW.records PySem.Challenge.rw_uf040037_09.row.toRowW) s) (Hook.obs kkHook) (Hook.val kkHook) 5506 :=
  LeftO.of_pieces (M := 2716) (boot_open (by kernel_rfl) (by decide) (fun _ => rfl)) size_ run_ (by decide) (fun w => funext fun os => Prod.ext (look1 w os) (Prod.ext (look2 w os) (look3 w os)))
end Mine

section

namespace Mine

def IsRow (r : List Int) : Prop := ∀ x ∈ r, x = 0 ∨ x = 1

theorem isRow_nil : IsRow [] := fun _ h => nomatch h
theorem isRow_cons {x : Int} {r : List Int} : IsRow (x :: r) ↔ (x = 0 ∨ x = 1) ∧ IsRow r := by
  simp [IsRow]
theorem isRow_append {a b : List Int} : IsRow (a ++ b) ↔ IsRow a ∧ IsRow b := by
  simp only [IsRow, List.mem_append]
  exact ⟨fun h => ⟨fun x hx => h x (.inl hx), fun x hx => h x (.inr hx)⟩, fun h x hx => hx.elim (h.1 x) (h.2 x)⟩
theorem isRow_single {x : Int} (h : x = 0 ∨ x = 1) : IsRow [x] := by simpa [IsRow] using h
theorem isRow_replicate0 (n : Nat) : IsRow (List.replicate n 0) := fun _ hx => .inl (List.eq_of_mem_replicate hx)
theorem IsRow.take {r : List Int} (h : IsRow r) (n : Nat) : IsRow (r.take n) := fun x hx => h x (List.mem_of_mem_take hx)
theorem IsRow.drop {r : List Int} (h : IsRow r) (n : Nat) : IsRow (r.drop n) := fun x hx => h x (List.mem_of_mem_drop hx)
theorem IsRow.tail {r : List Int} (h : IsRow r) : IsRow r.tail := fun x hx => h x (List.mem_of_mem_tail hx)
theorem IsRow.getElem {r : List Int} (h : IsRow r) {i : Nat} (hi : i < r.length) : r[i] = 0 ∨ r[i] = 1 := h _ (List.getElem_mem hi)
theorem IsRow.getD {r : List Int} (h : IsRow r) (i : Nat) : r.getD i 0 = 0 ∨ r.getD i 0 = 1 := by
  rw [List.getD_eq_getElem?_getD]
  by_cases hi : i < r.length
  · rw [List.getElem?_eq_getElem hi]; exact h.getElem hi
  · rw [List.getElem?_eq_none (by omega)]; exact .inl rfl
theorem IsRow.set {r : List Int} (h : IsRow r) {x : Int} (hx : x = 0 ∨ x = 1) (i : Nat) : IsRow (r.set i x) := fun y hy => by
  rcases List.mem_or_eq_of_mem_set hy with h1 | h1
  · exact h y h1
  · exact h1 ▸ hx

/-- the number of a row -/
def val (r : List Int) : Nat := r.foldl (fun v s => 2 * v + s.toNat) 0
theorem val_nil : val [] = 0 := rfl
theorem val_snoc (r : List Int) (s : Int) : val (r ++ [s]) = 2 * val r + s.toNat := by simp [val, List.foldl_append]
theorem val_foldl (r : List Int) (v : Nat) : r.foldl (fun v s => 2 * v + s.toNat) v = v * 2 ^ r.length + val r := by
  induction r generalizing v with
  | nil => simp [val]
  | cons x r ih =>
    have e : val (x :: r) = List.foldl (fun v s => 2 * v + s.toNat) (2 * 0 + x.toNat) r := rfl
    rw [List.foldl_cons, ih, e, ih]
    simp only [List.length_cons, Nat.pow_succ, Nat.add_mul, Nat.mul_zero, Nat.zero_add]
    have : 2 * v * 2 ^ r.length = v * (2 ^ r.length * 2) := by
      rw [Nat.mul_comm 2 v, Nat.mul_assoc, Nat.mul_comm 2]
    omega
theorem val_append (a b : List Int) : val (a ++ b) = val a * 2 ^ b.length + val b := by
  rw [val, List.foldl_append, val_foldl]; rfl
theorem val_cons (x : Int) (r : List Int) : val (x :: r) = x.toNat * 2 ^ r.length + val r := by
  have := val_append [x] r
  simpa [val] using this
theorem val_lt {r : List Int} (h : IsRow r) : val r < 2 ^ r.length := by
  induction r with
  | nil => simp [val]
  | cons x r ih =>
    rw [val_cons, List.length_cons, Nat.pow_succ]
    have h1 := isRow_cons.mp h
    have := ih h1.2
    rcases h1.1 with rfl | rfl <;> simp <;> omega
theorem val_replicate0 (n : Nat) : val (List.replicate n 0) = 0 := by
  induction n with
  | zero => rfl
  | succ n ih => rw [List.replicate_succ, val_cons, ih]; simp
theorem val_inj {a b : List Int} (ha : IsRow a) (hb : IsRow b) (hl : a.length = b.length) (hv : val a = val b) : a = b := by
  induction a generalizing b with
  | nil => cases b with
    | nil => rfl
    | cons y b => simp at hl
  | cons x a ih =>
    cases b with
    | nil => simp at hl
    | cons y b =>
      have h1 := isRow_cons.mp ha
      have h2 := isRow_cons.mp hb
      have hl' : a.length = b.length := by simpa using hl
      rw [val_cons, val_cons, hl'] at hv
      have l1 := val_lt h1.2
      have l2 := val_lt h2.2
      rw [hl'] at l1
      have key : x = y ∧ val a = val b := by
        rcases h1.1 with rfl | rfl <;> rcases h2.1 with rfl | rfl <;> simp at hv ⊢ <;> omega
      rw [key.1, ih h1.2 h2.2 hl' key.2]
theorem val_zero {a : List Int} (ha : IsRow a) : val a = 0 ↔ a = List.replicate a.length 0 := by
  constructor
  · intro h; exact val_inj ha (isRow_replicate0 _) (by simp) (by rw [h, val_replicate0])
  · intro h; rw [h, val_replicate0]

theorem two_xor (a b x y : Nat) (hx : x < 2) (hy : y < 2) : (2 * a + x) ^^^ (2 * b + y) = 2 * (a ^^^ b) + (x + y) % 2 := by
  apply Nat.eq_of_testBit_eq
  intro i
  rw [Nat.testBit_xor]
  cases i with
  | zero =>
    simp only [Nat.testBit_zero]
    have h1 : x = 0 ∨ x = 1 := by omega
    have h2 : y = 0 ∨ y = 1 := by omega
    rcases h1 with rfl | rfl <;> rcases h2 with rfl | rfl <;> simp <;> omega
  | succ i =>
    simp only [Nat.testBit_succ]
    rw [show (2 * a + x) / 2 = a by omega, show (2 * b + y) / 2 = b by omega, show (2 * (a ^^^ b) + (x + y) % 2) / 2 = a ^^^ b by omega, Nat.testBit_xor]

theorem two_xor0 (a b : Nat) : 2 * (a ^^^ b) = (2 * a) ^^^ (2 * b) := by
  have := two_xor a b 0 0 (by omega) (by omega)
  simpa using this.symm

theorem eq_of_xor {a b : Nat} (h : a ^^^ b = 0) : a = b := by
  have : a ^^^ (b ^^^ b) = b := by rw [← Nat.xor_assoc, h, Nat.zero_xor]
  rwa [Nat.xor_self, Nat.xor_zero] at this

/-- the sum of two rows of one length -/
def sum2 (a b : List Int) : List Int := List.zipWith (fun x y => (x + y) % 2) a b
theorem sum2_length {a b : List Int} (h : a.length = b.length) : (sum2 a b).length = a.length := by simp [sum2, h]
theorem sum2_isRow (a b : List Int) : IsRow (sum2 a b) := by
  intro x hx
  obtain ⟨i, hi, rfl⟩ := List.mem_iff_getElem.mp hx
  simp only [sum2, List.getElem_zipWith]
  omega
theorem sum2_snoc {a b : List Int} (h : a.length = b.length) (x y : Int) : sum2 (a ++ [x]) (b ++ [y]) = sum2 a b ++ [(x + y) % 2] := by
  simp [sum2, List.zipWith_append h]
theorem val_sum2 {a b : List Int} (ha : IsRow a) (hb : IsRow b) (h : a.length = b.length) : val (sum2 a b) = val a ^^^ val b := by
  generalize hn : a.length = n
  induction n generalizing a b with
  | zero =>
    have : a = [] := List.length_eq_zero_iff.mp hn
    have : b = [] := List.length_eq_zero_iff.mp (h ▸ hn)
    subst_vars; rfl
  | succ n ih =>
    have hb' : b.length = n + 1 := by omega
    obtain ⟨a', x, rfl⟩ : ∃ a' x, a = a' ++ [x] := ⟨a.dropLast, a.getLast (by intro e; simp [e] at hn), (List.dropLast_concat_getLast _).symm⟩
    obtain ⟨b', y, rfl⟩ : ∃ b' y, b = b' ++ [y] := ⟨b.dropLast, b.getLast (by intro e; simp [e] at hb'), (List.dropLast_concat_getLast _).symm⟩
    have hl : a'.length = b'.length := by simpa using h
    have r1 := isRow_append.mp ha
    have r2 := isRow_append.mp hb
    rw [sum2_snoc hl, val_snoc, val_snoc, val_snoc, ih r1.1 r2.1 hl (by simpa using hn)]
    have hx := r1.2 x (by simp)
    have hy := r2.2 y (by simp)
    rw [two_xor _ _ _ _ (by rcases hx with rfl | rfl <;> decide) (by rcases hy with rfl | rfl <;> decide)]
    rcases hx with rfl | rfl <;> rcases hy with rfl | rfl <;> rfl

/-- bit w struck by n -/
def red (n w v : Nat) : Nat := if v.testBit w then v ^^^ n else v
def onw (n w v : Nat) : Nat := red n w (2 * v)
theorem red_xor (n w a b : Nat) : red n w (a ^^^ b) = red n w a ^^^ red n w b := by
  unfold red
  rw [Nat.testBit_xor]
  cases h1 : a.testBit w <;> cases h2 : b.testBit w
  · simp
  · simp [Nat.xor_assoc]
  · simp only [Bool.xor_false, if_true, Bool.false_eq_true, if_false]
    rw [Nat.xor_assoc, Nat.xor_assoc, Nat.xor_comm b n]
  · simp only [Bool.xor_true, Bool.not_true, Bool.false_eq_true, if_false, if_true]
    rw [Nat.xor_assoc, ← Nat.xor_assoc n b n, Nat.xor_comm n b, Nat.xor_assoc b n n, Nat.xor_self, Nat.xor_zero]
theorem onw_xor (n w a b : Nat) : onw n w (a ^^^ b) = onw n w a ^^^ onw n w b := by
  unfold onw; rw [two_xor0, red_xor]
theorem red_zero (n w : Nat) : red n w 0 = 0 := by simp [red]
theorem onw_zero (n w : Nat) : onw n w 0 = 0 := by simp [onw, red_zero]
theorem testBit_top {w v : Nat} (h1 : 2 ^ w ≤ v) (h2 : v < 2 ^ (w + 1)) : v.testBit w = true := by
  rw [Nat.testBit_eq_decide_div_mod_eq]
  have hp : 0 < 2 ^ w := Nat.two_pow_pos w
  have : v / 2 ^ w = 1 := by
    rw [Nat.pow_succ] at h2
    apply Nat.div_eq_of_lt_le <;> omega
  rw [this]; rfl
theorem testBit_top_iff {w v : Nat} (h2 : v < 2 ^ (w + 1)) : v.testBit w = true ↔ 2 ^ w ≤ v := by
  constructor
  · intro h
    exact Nat.ge_two_pow_of_testBit h
  · exact fun h => testBit_top h h2
/-- the divisor's number: its highest bit is w -/
structure IsDivN (n w : Nat) : Prop where
  lo : 2 ^ w ≤ n
  hi : n < 2 ^ (w + 1)
  odd : n % 2 = 1
theorem IsDivN.bit {n w : Nat} (h : IsDivN n w) : n.testBit w = true := testBit_top h.lo h.hi
theorem lt_of_bits {w v : Nat} (h : v < 2 ^ (w + 1)) (hb : v.testBit w = false) : v < 2 ^ w := by
  rcases Nat.lt_or_ge v (2 ^ w) with h1 | h1
  · exact h1
  · rw [testBit_top h1 h] at hb; cases hb
theorem red_lt {n w v : Nat} (h : 2 ^ w ≤ n ∧ n < 2 ^ (w + 1)) (hv : v < 2 ^ (w + 1)) : red n w v < 2 ^ w := by
  unfold red
  cases hb : v.testBit w with
  | false => simpa using lt_of_bits hv hb
  | true =>
    simp only [if_true]
    refine lt_of_bits (Nat.xor_lt_two_pow hv h.2) ?_
    rw [Nat.testBit_xor, hb, testBit_top h.1 h.2]; rfl
theorem onw_lt {n w v : Nat} (h : 2 ^ w ≤ n ∧ n < 2 ^ (w + 1)) (hv : v < 2 ^ w) : onw n w v < 2 ^ w :=
  red_lt h (by rw [Nat.pow_succ]; omega)
theorem red_of_lt {n w v : Nat} (hv : v < 2 ^ w) : red n w v = v := by
  unfold red
  rw [Nat.testBit_lt_two_pow hv]; rfl
theorem onw_ne_zero {n w v : Nat} (h : IsDivN n w) (hv : v < 2 ^ w) (h0 : v ≠ 0) : onw n w v ≠ 0 := by
  unfold onw red
  split
  · intro e
    have e2 : 2 * v = n := eq_of_xor e
    have := h.odd
    omega
  · omega
theorem onw_inj {n w a b : Nat} (h : IsDivN n w) (ha : a < 2 ^ w) (hb : b < 2 ^ w) (e : onw n w a = onw n w b) : a = b := by
  have h1 : onw n w (a ^^^ b) = 0 := by rw [onw_xor, e, Nat.xor_self]
  by_cases h2 : a ^^^ b = 0
  · exact eq_of_xor h2
  · exact absurd h1 (onw_ne_zero h (Nat.xor_lt_two_pow ha hb) h2)

/-- k times onward -/
def pow (n w : Nat) : Nat → Nat → Nat
  | 0, v => v
  | k + 1, v => onw n w (pow n w k v)
theorem pow_succ' (n w k v : Nat) : pow n w (k + 1) v = pow n w k (onw n w v) := by
  induction k with
  | zero => rfl
  | succ k ih => rw [pow, ih]; rfl
theorem pow_add (n w j k v : Nat) : pow n w (j + k) v = pow n w j (pow n w k v) := by
  induction j with
  | zero => simp [pow]
  | succ j ih => rw [Nat.succ_add, pow, ih]; rfl
theorem pow_xor (n w k a b : Nat) : pow n w k (a ^^^ b) = pow n w k a ^^^ pow n w k b := by
  induction k with
  | zero => rfl
  | succ k ih => rw [pow, ih, onw_xor]; rfl
theorem pow_zero' (n w k : Nat) : pow n w k 0 = 0 := by
  induction k with
  | zero => rfl
  | succ k ih => rw [pow, ih, onw_zero]
theorem pow_lt {n w v : Nat} (h : 2 ^ w ≤ n ∧ n < 2 ^ (w + 1)) (hv : v < 2 ^ w) (k : Nat) : pow n w k v < 2 ^ w := by
  induction k with
  | zero => exact hv
  | succ k ih => exact onw_lt h ih
theorem pow_inj {n w a b : Nat} (h : IsDivN n w) (ha : a < 2 ^ w) (hb : b < 2 ^ w) {k : Nat} (e : pow n w k a = pow n w k b) : a = b := by
  induction k with
  | zero => exact e
  | succ k ih => exact ih (onw_inj h (pow_lt ⟨h.lo, h.hi⟩ ha k) (pow_lt ⟨h.lo, h.hi⟩ hb k) e)
theorem pow_ne_zero {n w v : Nat} (h : IsDivN n w) (hv : v < 2 ^ w) (h0 : v ≠ 0) (k : Nat) : pow n w k v ≠ 0 := fun e =>
  h0 (pow_inj h hv (Nat.two_pow_pos w) (k := k) (e.trans (pow_zero' n w k).symm))

/-! the reach -/
theorem php : ∀ (k : Nat) (l : List Nat), l.Nodup → (∀ x ∈ l, x < k) → l.length ≤ k
  | 0, [], _, _ => Nat.le_refl 0
  | 0, x :: _, _, h => absurd (h x (.head _)) (Nat.not_lt_zero x)
  | k + 1, l, hn, h => by
    by_cases hk : k ∈ l
    · have h1 := php k (l.erase k) (hn.erase k) (fun x hx => by
        have := (hn.mem_erase_iff).mp hx
        have := h x this.2
        omega)
      rw [List.length_erase_of_mem hk] at h1
      omega
    · have := php k l hn (fun x hx => by
        have h1 := h x hx
        have : x ≠ k := fun e => hk (e ▸ hx)
        omega)
      omega
theorem exists_least {p : Nat → Prop} : ∀ k, p k → ∃ k, p k ∧ ∀ j, j < k → ¬ p j := by
  intro k
  induction k using Nat.strongRecOn with
  | ind k ih =>
    intro hk
    by_cases h : ∃ j, j < k ∧ p j
    · obtain ⟨j, h1, h2⟩ := h
      exact ih j h1 h2
    · exact ⟨k, hk, fun j h1 h2 => h ⟨j, h1, h2⟩⟩

structure IsReach (n w P : Nat) : Prop where
  pos : 1 ≤ P
  back : pow n w P 1 = 1
  least : ∀ k, 1 ≤ k → k < P → pow n w k 1 ≠ 1
theorem one_lt_pow {w : Nat} (hw : 1 ≤ w) : 1 < 2 ^ w := Nat.one_lt_two_pow (by omega)
theorem exists_back {n w : Nat} (h : IsDivN n w) (hw : 1 ≤ w) : ∃ k, 1 ≤ k ∧ k ≤ 2 ^ w - 1 ∧ pow n w k 1 = 1 := by
  false_or_by_contra
  rename_i hno
  have hno' : ∀ k, 1 ≤ k → k ≤ 2 ^ w - 1 → pow n w k 1 ≠ 1 := fun k h1 h2 h3 => hno ⟨k, h1, h2, h3⟩
  have h1 := one_lt_pow hw
  have hlt := fun k => pow_lt (n := n) (w := w) (v := 1) ⟨h.lo, h.hi⟩ h1 k
  have hne := fun k => pow_ne_zero h h1 (by decide) k
  have hnd : ((List.range (2 ^ w)).map (fun i => pow n w i 1 - 1)).Nodup := by
    unfold List.Nodup
    rw [List.pairwise_map]
    refine List.Pairwise.imp_of_mem ?_ List.pairwise_lt_range
    intro a b ha hb hab e
    have ha' := List.mem_range.mp ha
    have hb' := List.mem_range.mp hb
    have e2 : pow n w a 1 = pow n w b 1 := by
      have := hne a; have := hne b; omega
    have e3 : pow n w a 1 = pow n w a (pow n w (b - a) 1) := by
      rw [← pow_add, show a + (b - a) = b by omega]; exact e2
    have e4 := pow_inj h h1 (hlt (b - a)) e3
    exact hno' (b - a) (by omega) (by omega) e4.symm
  have := php (2 ^ w - 1) _ hnd (fun x hx => by
    obtain ⟨i, _, rfl⟩ := List.mem_map.mp hx
    have := hlt i; have := hne i; omega)
  rw [List.length_map, List.length_range] at this
  omega
theorem exists_reach {n w : Nat} (h : IsDivN n w) (hw : 1 ≤ w) : ∃ P, IsReach n w P ∧ P ≤ 2 ^ w - 1 := by
  obtain ⟨k, h1, h2, h3⟩ := exists_back h hw
  obtain ⟨P, ⟨p1, p2, p3⟩, hl⟩ := exists_least (p := fun k => 1 ≤ k ∧ k ≤ 2 ^ w - 1 ∧ pow n w k 1 = 1) k ⟨h1, h2, h3⟩
  exact ⟨P, ⟨p1, p3, fun k q1 q2 q3 => hl k q2 ⟨q1, by omega, q3⟩⟩, p2⟩
theorem IsReach.unique {n w P P' : Nat} (h : IsReach n w P) (h' : IsReach n w P') : P = P' := by
  rcases Nat.lt_trichotomy P P' with e | e | e
  · exact absurd h.back (h'.least P h.pos e)
  · exact e
  · exact absurd h'.back (h.least P' h'.pos e)
theorem onw_two_pow {n w k : Nat} (hk : k + 1 < w) : onw n w (2 ^ k) = 2 ^ (k + 1) := by
  unfold onw
  rw [show 2 * 2 ^ k = 2 ^ (k + 1) by rw [Nat.pow_succ]; omega]
  exact red_of_lt (Nat.pow_lt_pow_right (by decide) hk)
theorem pow_one {n w k : Nat} (hk : k < w) : pow n w k 1 = 2 ^ k := by
  induction k with
  | zero => rfl
  | succ k ih => rw [pow, ih (by omega), onw_two_pow hk]
theorem IsReach.ge {n w P : Nat} (h : IsReach n w P) : w ≤ P := by
  rcases Nat.lt_or_ge P w with e | e
  · have h1 := h.back
    rw [pow_one e] at h1
    have := Nat.one_lt_two_pow (n := P) (by have := h.pos; omega)
    omega
  · exact e
theorem IsReach.id {n w P : Nat} (h : IsReach n w P) : ∀ m, m ≤ w → ∀ v, v < 2 ^ m → pow n w P v = v := by
  intro m
  induction m with
  | zero => intro _ v hv; have : v = 0 := by simpa using hv
            rw [this, pow_zero']
  | succ m ih =>
    intro hm v hv
    rcases Nat.lt_or_ge v (2 ^ m) with h1 | h1
    · exact ih (by omega) v h1
    · have hb := testBit_top h1 hv
      have h2 : v ^^^ 2 ^ m < 2 ^ m := lt_of_bits (Nat.xor_lt_two_pow hv (by rw [Nat.pow_succ]; have := Nat.two_pow_pos m; omega)) (by
        rw [Nat.testBit_xor, hb, Nat.testBit_two_pow_self]; rfl)
      have h3 : v = (v ^^^ 2 ^ m) ^^^ 2 ^ m := by rw [Nat.xor_assoc, Nat.xor_self, Nat.xor_zero]
      have h4 : pow n w P (2 ^ m) = 2 ^ m := by
        rw [← pow_one (n := n) (show m < w by omega), ← pow_add, Nat.add_comm, pow_add, h.back]
      have h5 := pow_xor n w P (v ^^^ 2 ^ m) (2 ^ m)
      rw [ih (by omega) _ h2, h4, ← h3] at h5
      exact h5
/-! the rest of a row, by numbers -/
def RF (n w v : Nat) (row : List Int) : Nat := row.foldl (fun v s => red n w (2 * v + s.toNat)) v
def R (n w : Nat) (row : List Int) : Nat := RF n w 0 row
theorem RF_append (n w v : Nat) (a b : List Int) : RF n w v (a ++ b) = RF n w (RF n w v a) b := by simp [RF, List.foldl_append]
theorem RF_cons (n w v : Nat) (x : Int) (r : List Int) : RF n w v (x :: r) = RF n w (red n w (2 * v + x.toNat)) r := rfl
theorem R_snoc (n w : Nat) (r : List Int) (s : Int) : R n w (r ++ [s]) = red n w (2 * R n w r + s.toNat) := by simp [R, RF_append]; rfl
theorem toNat_row {x : Int} (h : x = 0 ∨ x = 1) : x.toNat < 2 := by rcases h with rfl | rfl <;> decide
theorem RF_split (n w v : Nat) {row : List Int} (h : IsRow row) : RF n w v row = pow n w row.length v ^^^ R n w row := by
  have key : ∀ (row : List Int), IsRow row → ∀ a b, RF n w (a ^^^ b) row = pow n w row.length a ^^^ RF n w b row := by
    intro row
    induction row with
    | nil => intro _ a b; rfl
    | cons x r ih =>
      intro h a b
      have h' := isRow_cons.mp h
      have e : red n w (2 * (a ^^^ b) + x.toNat) = onw n w a ^^^ red n w (2 * b + x.toNat) := by
        have := two_xor a b 0 x.toNat (by decide) (toNat_row h'.1)
        rw [Nat.add_zero, Nat.zero_add, Nat.mod_eq_of_lt (toNat_row h'.1)] at this
        rw [← this, red_xor]; rfl
      rw [RF_cons, e, ih h'.2, RF_cons, List.length_cons, pow_succ']
  have := key row h v 0
  rw [Nat.xor_zero] at this
  exact this
theorem R_append (n w : Nat) (a : List Int) {b : List Int} (hb : IsRow b) : R n w (a ++ b) = pow n w b.length (R n w a) ^^^ R n w b := by
  rw [R, RF_append, RF_split n w _ hb]; rfl
theorem R_short (n : Nat) {w : Nat} {row : List Int} (hr : IsRow row) (hl : row.length ≤ w) : R n w row = val row := by
  generalize hn : row.length = k
  induction k generalizing row with
  | zero => rw [List.length_eq_zero_iff.mp hn]; rfl
  | succ k ih =>
    obtain ⟨a, x, rfl⟩ : ∃ a x, row = a ++ [x] := ⟨row.dropLast, row.getLast (by intro e; simp [e] at hn), (List.dropLast_concat_getLast _).symm⟩
    have h' := isRow_append.mp hr
    have hn' : a.length = k := by simpa using hn
    rw [R_snoc, ih h'.1 (by omega) hn', ← val_snoc]
    refine red_of_lt (Nat.lt_of_lt_of_le (val_lt hr) (Nat.pow_le_pow_right (by decide) (by omega)))
theorem R_zeros (n w k : Nat) : R n w (List.replicate k 0) = 0 := by
  induction k with
  | zero => rfl
  | succ k ih => rw [List.replicate_succ', R_snoc, ih]; simp [red_zero]
theorem R_zeros_append (n w k : Nat) {row : List Int} (h : IsRow row) : R n w (List.replicate k 0 ++ row) = R n w row := by
  rw [R_append _ _ _ h, R_zeros, pow_zero', Nat.zero_xor]
theorem R_behind (n w k : Nat) (row : List Int) : R n w (row ++ List.replicate k 0) = pow n w k (R n w row) := by
  rw [R_append _ _ _ (isRow_replicate0 k), R_zeros, Nat.xor_zero, List.length_replicate]
theorem R_sum2 (n w : Nat) {a b : List Int} (ha : IsRow a) (hb : IsRow b) (hl : a.length = b.length) : R n w (sum2 a b) = R n w a ^^^ R n w b := by
  generalize hn : a.length = k
  induction k generalizing a b with
  | zero =>
    have : a = [] := List.length_eq_zero_iff.mp hn
    have : b = [] := List.length_eq_zero_iff.mp (hl ▸ hn)
    subst_vars; simp [sum2, R, RF]
  | succ k ih =>
    have hb' : b.length = k + 1 := by omega
    obtain ⟨a', x, rfl⟩ : ∃ a' x, a = a' ++ [x] := ⟨a.dropLast, a.getLast (by intro e; simp [e] at hn), (List.dropLast_concat_getLast _).symm⟩
    obtain ⟨b', y, rfl⟩ : ∃ b' y, b = b' ++ [y] := ⟨b.dropLast, b.getLast (by intro e; simp [e] at hb'), (List.dropLast_concat_getLast _).symm⟩
    have hl' : a'.length = b'.length := by simpa using hl
    have r1 := isRow_append.mp ha
    have r2 := isRow_append.mp hb
    have hx := r1.2 x (by simp)
    have hy := r2.2 y (by simp)
    rw [sum2_snoc hl', R_snoc, R_snoc, R_snoc, ih r1.1 r2.1 hl' (by simpa using hn), ← red_xor, two_xor _ _ _ _ (toNat_row hx) (toNat_row hy)]
    rcases hx with rfl | rfl <;> rcases hy with rfl | rfl <;> rfl
theorem R_unit (n : Nat) {w : Nat} (hw : 1 ≤ w) (k p : Nat) : R n w (List.replicate k 0 ++ 1 :: List.replicate p 0) = pow n w p 1 := by
  have e : List.replicate k (0 : Int) ++ 1 :: List.replicate p 0 = (List.replicate k 0 ++ [1]) ++ List.replicate p 0 := by simp
  rw [e, R_behind, R_zeros_append _ _ _ (isRow_single (.inr rfl)), R_short n (isRow_single (.inr rfl)) (by simpa using hw)]
  rfl

/-! the rest of a row, as a row -/
def stepBy (rest : List Int) (sign : Int) (d : List Int) : List Int :=
  (if (rest ++ [sign]).head? = some 1 then sum2 (rest ++ [sign]) d else rest ++ [sign]).tail
def restBy (row d : List Int) : List Int := row.foldl (fun rest s => stepBy rest s d) (List.replicate (d.length - 1) 0)
structure IsDiv1 (d : List Int) : Prop where
  row : IsRow d
  head : d.head? = some 1
theorem IsDiv1.cons {d : List Int} (h : IsDiv1 d) : ∃ t, d = 1 :: t ∧ IsRow t := by
  cases d with
  | nil => cases h.head
  | cons x t =>
    have : x = 1 := by simpa using h.head
    exact ⟨t, by rw [this], (isRow_cons.mp h.row).2⟩
theorem IsDiv1.bounds {d : List Int} (h : IsDiv1 d) : 2 ^ (d.length - 1) ≤ val d ∧ val d < 2 ^ (d.length - 1 + 1) := by
  obtain ⟨t, rfl, ht⟩ := h.cons
  have := val_lt ht
  rw [val_cons]
  simp only [List.length_cons, Nat.add_sub_cancel, Nat.pow_succ]
  simp; omega
theorem head_bit {w : Nat} {l : List Int} (hl : l.length = w + 1) (hr : IsRow l) : l.head? = some 1 ↔ (val l).testBit w = true := by
  cases l with
  | nil => simp at hl
  | cons x t =>
    have ht : t.length = w := by simpa using hl
    have h' := isRow_cons.mp hr
    have h1 := val_lt h'.2
    rw [testBit_top_iff (by have := val_lt hr; rwa [hl] at this), val_cons, ht]
    rw [ht] at h1
    rcases h'.1 with rfl | rfl <;> simp <;> omega
theorem stepBy_spec {rest d : List Int} {s : Int} (hd : IsDiv1 d) (hr : IsRow rest) (hs : s = 0 ∨ s = 1) (hl : rest.length = d.length - 1) :
    IsRow (stepBy rest s d) ∧ (stepBy rest s d).length = d.length - 1 ∧ val (stepBy rest s d) = red (val d) (d.length - 1) (2 * val rest + s.toNat) := by
  obtain ⟨t, rfl, ht⟩ := hd.cons
  have hl1 : rest.length = t.length := by simpa using hl
  have hrow : IsRow (rest ++ [s]) := isRow_append.mpr ⟨hr, isRow_single hs⟩
  have hlen : (rest ++ [s]).length = t.length + 1 := by simp [hl1]
  have hb := head_bit hlen hrow
  have hw : (1 :: t : List Int).length - 1 = t.length := by simp
  rw [hw, ← val_snoc]
  unfold stepBy red
  by_cases h1 : (rest ++ [s]).head? = some 1
  · rw [if_pos h1, if_pos (hb.mp h1)]
    have hl2 : (rest ++ [s]).length = (1 :: t : List Int).length := by simp [hl1]
    have hlS := sum2_length hl2
    rw [hlen] at hlS
    have hrS := sum2_isRow (rest ++ [s]) (1 :: t)
    have hv := val_sum2 hrow hd.row hl2
    have hbt : (val (sum2 (rest ++ [s]) (1 :: t))).testBit t.length = false := by
      rw [hv, Nat.testBit_xor, hb.mp h1]
      have := hd.bounds
      rw [hw] at this
      rw [testBit_top this.1 this.2]; rfl
    cases hS : sum2 (rest ++ [s]) (1 :: t) with
    | nil => rw [hS] at hlS; simp at hlS
    | cons x u =>
      rw [hS] at hlS hrS hbt hv
      have hx : x = 0 := by
        rcases (isRow_cons.mp hrS).1 with e | e
        · exact e
        · have := (head_bit hlS hrS).mp (by simp [e])
          rw [this] at hbt; cases hbt
      subst hx
      rw [val_cons] at hv
      refine ⟨(isRow_cons.mp hrS).2, by simpa using hlS, ?_⟩
      rw [← hv]; simp
  · rw [if_neg h1, if_neg (fun h => h1 (hb.mpr h))]
    cases hS : rest ++ [s] with
    | nil => rw [hS] at hlen; simp at hlen
    | cons x u =>
      rw [hS] at hlen hrow h1
      have hx : x = 0 := by
        rcases (isRow_cons.mp hrow).1 with e | e
        · exact e
        · exact absurd (by simp [e]) h1
      subst hx
      refine ⟨(isRow_cons.mp hrow).2, by simpa using hlen, ?_⟩
      rw [val_cons]; simp
theorem restBy_snoc (row d : List Int) (s : Int) : restBy (row ++ [s]) d = stepBy (restBy row d) s d := by simp [restBy, List.foldl_append]
theorem restBy_spec {row d : List Int} (hd : IsDiv1 d) (hr : IsRow row) :
    IsRow (restBy row d) ∧ (restBy row d).length = d.length - 1 ∧ val (restBy row d) = R (val d) (d.length - 1) row := by
  generalize hn : row.length = k
  induction k generalizing row with
  | zero =>
    rw [List.length_eq_zero_iff.mp hn]
    exact ⟨isRow_replicate0 _, by simp [restBy], by simp [restBy, val_replicate0, R, RF]⟩
  | succ k ih =>
    obtain ⟨a, x, rfl⟩ : ∃ a x, row = a ++ [x] := ⟨row.dropLast, row.getLast (by intro e; simp [e] at hn), (List.dropLast_concat_getLast _).symm⟩
    have h' := isRow_append.mp hr
    obtain ⟨i1, i2, i3⟩ := ih h'.1 (by simpa using hn)
    have hx := h'.2 x (by simp)
    obtain ⟨s1, s2, s3⟩ := stepBy_spec hd i1 hx i2
    rw [restBy_snoc]
    exact ⟨s1, s2, by rw [s3, i3, R_snoc]⟩
theorem restBy_eq {row row' d : List Int} (hd : IsDiv1 d) (hr : IsRow row) (hr' : IsRow row') (h : R (val d) (d.length - 1) row = R (val d) (d.length - 1) row') : restBy row d = restBy row' d := by
  obtain ⟨a1, a2, a3⟩ := restBy_spec hd hr
  obtain ⟨b1, b2, b3⟩ := restBy_spec hd hr'
  exact val_inj a1 b1 (a2.trans b2.symm) (by rw [a3, b3, h])
theorem restBy_short {row d : List Int} (hd : IsDiv1 d) (hr : IsRow row) (hl : row.length = d.length - 1) : restBy row d = row := by
  obtain ⟨a1, a2, a3⟩ := restBy_spec hd hr
  exact val_inj a1 hr (a2.trans hl.symm) (by rw [a3, R_short _ hr (by omega)])
theorem restBy_zeros {row d : List Int} (hd : IsDiv1 d) (hr : IsRow row) (k : Nat) : restBy (List.replicate k 0 ++ row) d = restBy row d :=
  restBy_eq hd (isRow_append.mpr ⟨isRow_replicate0 k, hr⟩) hr (R_zeros_append _ _ _ hr)
end Mine

/-! adding a row into a list, place by place -/
namespace Mine
def xorFrom (left : List Int) (p : Nat) : List Int → List Int
  | [] => left
  | m :: ms => xorFrom (left.set p ((left.getD p 0 + m) % 2)) (p + 1) ms
theorem xorFrom_length (left : List Int) (p : Nat) (ms : List Int) : (xorFrom left p ms).length = left.length := by
  induction ms generalizing left p with
  | nil => rfl
  | cons m ms ih => rw [xorFrom, ih, List.length_set]
theorem xorFrom_snoc (left : List Int) (p : Nat) (ms : List Int) (m : Int) :
    xorFrom left p (ms ++ [m]) = (xorFrom left p ms).set (p + ms.length) (((xorFrom left p ms).getD (p + ms.length) 0 + m) % 2) := by
  induction ms generalizing left p with
  | nil => rfl
  | cons x ms ih => rw [List.cons_append, xorFrom, ih, xorFrom, List.length_cons, show p + 1 + ms.length = p + (ms.length + 1) by omega]
theorem xorFrom_isRow {left : List Int} (h : IsRow left) (p : Nat) (ms : List Int) : IsRow (xorFrom left p ms) := by
  induction ms generalizing left p with
  | nil => exact h
  | cons m ms ih => exact ih (h.set (by omega) p) (p + 1)
theorem xorFrom_split : ∀ (ms pre mid post : List Int), mid.length = ms.length → xorFrom (pre ++ mid ++ post) pre.length ms = pre ++ sum2 mid ms ++ post
  | [], pre, mid, post, h => by
    have : mid = [] := List.length_eq_zero_iff.mp h
    subst this; simp [xorFrom, sum2]
  | m :: ms, pre, mid, post, h => by
    cases mid with
    | nil => simp at h
    | cons x mid =>
      have hl : mid.length = ms.length := by simpa using h
      rw [xorFrom]
      have e1 : (pre ++ x :: mid ++ post).getD pre.length 0 = x := by simp [List.getD_eq_getElem?_getD]
      have e2 : (pre ++ x :: mid ++ post).set pre.length ((x + m) % 2) = (pre ++ [(x + m) % 2]) ++ mid ++ post := by simp [List.set_append]
      rw [e1, e2]
      have := xorFrom_split ms (pre ++ [(x + m) % 2]) mid post hl
      rw [List.length_append, List.length_singleton] at this
      rw [this]
      simp [sum2]
theorem getD_ext {a b : List Int} (hl : a.length = b.length) (h : ∀ i, i < a.length → a.getD i 0 = b.getD i 0) : a = b := by
  apply List.ext_getElem hl
  intro i h1 h2
  have := h i h1
  simpa [List.getD_eq_getElem?_getD, h1, h2] using this
/-- the long division's turn: the list and the quotient -/
def partTurn (d : List Int) (st : List Int × List Int) (k : Nat) : List Int × List Int :=
  (if st.1.getD k 0 = 1 then xorFrom st.1 k d else st.1, st.2 ++ [st.1.getD k 0])
def partLoop (d left : List Int) : Nat → List Int × List Int
  | 0 => (left, [])
  | n + 1 => partTurn d (partLoop d left n) n
theorem partLoop_len (d left : List Int) (n : Nat) : (partLoop d left n).1.length = left.length ∧ (partLoop d left n).2.length = n := by
  induction n with
  | zero => exact ⟨rfl, rfl⟩
  | succ n ih =>
    rw [partLoop, partTurn]
    refine ⟨?_, by simp [ih.2]⟩
    show (if _ then _ else _ : List Int).length = _
    split
    · rw [xorFrom_length, ih.1]
    · exact ih.1
theorem partLoop_isRow (d : List Int) {left : List Int} (h : IsRow left) (n : Nat) : IsRow (partLoop d left n).1 ∧ IsRow (partLoop d left n).2 := by
  induction n with
  | zero => exact ⟨h, isRow_nil⟩
  | succ n ih =>
    rw [partLoop, partTurn]
    refine ⟨?_, isRow_append.mpr ⟨ih.2, isRow_single (ih.1.getD n)⟩⟩
    show IsRow (if _ then _ else _)
    split
    · exact xorFrom_isRow ih.1 _ _
    · exact ih.1
theorem partLoop_rest {d left : List Int} (hd : IsDiv1 d) (hr : IsRow left) : ∀ n, n + (d.length - 1) ≤ left.length →
    (partLoop d left n).1 = List.replicate n 0 ++ restBy (left.take (n + (d.length - 1))) d ++ left.drop (n + (d.length - 1)) := by
  intro n
  induction n with
  | zero =>
    intro hn
    rw [Nat.zero_add] at hn ⊢
    rw [restBy_short hd (hr.take _) (by rw [List.length_take]; omega)]
    simp [partLoop]
  | succ n ih =>
    intro hn
    have ih' := ih (by omega)
    have hlt : n + (d.length - 1) < left.length := by omega
    obtain ⟨c1, c2, _⟩ := restBy_spec hd (hr.take (n + (d.length - 1)))
    have hsplit : left.drop (n + (d.length - 1)) = left[n + (d.length - 1)] :: left.drop (n + (d.length - 1) + 1) := List.drop_eq_getElem_cons hlt
    have hs := hr.getElem hlt
    generalize hS : left[n + (d.length - 1)] = s at hsplit hs
    have htake : left.take (n + 1 + (d.length - 1)) = left.take (n + (d.length - 1)) ++ [s] := by
      rw [show n + 1 + (d.length - 1) = (n + (d.length - 1)) + 1 by omega, List.take_add_one, List.getElem?_eq_getElem hlt, hS]; rfl
    rw [htake, restBy_snoc, show n + 1 + (d.length - 1) = (n + (d.length - 1)) + 1 by omega]
    generalize hC : restBy (left.take (n + (d.length - 1))) d = cur at *
    generalize left.drop (n + (d.length - 1) + 1) = more at *
    rw [hsplit] at ih'
    have eL : (partLoop d left n).1 = List.replicate n 0 ++ (cur ++ [s]) ++ more := by rw [ih']; simp
    have eg : (partLoop d left n).1.getD n 0 = (cur ++ [s]).head?.getD 0 := by
      rw [eL, List.getD_eq_getElem?_getD, List.append_assoc, List.getElem?_append_right (by simp)]
      cases cur <;> simp
    have hlen : (cur ++ [s]).length = d.length := by
      have h1 : 1 ≤ d.length := by obtain ⟨t, rfl, _⟩ := hd.cons; simp
      simp [c2]; omega
    obtain ⟨y, u, hyu⟩ : ∃ y u, cur ++ [s] = y :: u := by cases cur <;> simp
    have hy := (isRow_cons.mp (hyu ▸ isRow_append.mpr ⟨c1, isRow_single hs⟩ : IsRow (y :: u))).1
    rw [partLoop, partTurn]
    show (if (partLoop d left n).1.getD n 0 = 1 then xorFrom (partLoop d left n).1 n d else (partLoop d left n).1) = _
    rw [eg, eL]
    unfold stepBy
    rw [hyu]
    show (if y = 1 then _ else _) = _
    have hh : (y :: u).head? = some 1 ↔ y = 1 := by simp
    by_cases h1 : y = 1
    · rw [if_pos h1, if_pos (hh.mpr h1)]
      have hx := xorFrom_split d (List.replicate n 0) (y :: u) more (by rw [← hyu]; exact hlen)
      rw [List.length_replicate] at hx
      rw [hx]
      obtain ⟨t, rfl, ht⟩ := hd.cons
      subst h1
      simp [sum2, List.replicate_succ']
    · rw [if_neg h1, if_neg (fun h => h1 (hh.mp h))]
      have : y = 0 := by omega
      subst this
      simp [List.replicate_succ']

/-- what parted gives -/
def leftOf (row d : List Int) : List Int := List.replicate (d.length - 1 - row.length) 0 ++ row
def quotOf (row d : List Int) : List Int := (partLoop d (leftOf row d) ((leftOf row d).length - (d.length - 1))).2
theorem leftOf_length (row d : List Int) : (leftOf row d).length = max row.length (d.length - 1) := by simp [leftOf]; omega
theorem leftOf_isRow {row : List Int} (h : IsRow row) (d : List Int) : IsRow (leftOf row d) := isRow_append.mpr ⟨isRow_replicate0 _, h⟩
theorem parted_left {row d : List Int} (hd : IsDiv1 d) (hr : IsRow row) :
    (partLoop d (leftOf row d) ((leftOf row d).length - (d.length - 1))).1 = List.replicate ((leftOf row d).length - (d.length - 1)) 0 ++ restBy row d := by
  have hl := leftOf_length row d
  have h := partLoop_rest hd (leftOf_isRow hr d) ((leftOf row d).length - (d.length - 1)) (by omega)
  rw [h, show (leftOf row d).length - (d.length - 1) + (d.length - 1) = (leftOf row d).length by omega, List.take_length, List.drop_length, List.append_nil]
  congr 1
  exact restBy_zeros hd hr _
end Mine

namespace Mine
/-! numbers told as rows -/
/-! a gate's divisor, and what the gate does -/
structure IsDiv (d : List Int) : Prop where
  row : IsRow d
  head : d.head? = some 1
  last : d.getLast? = some 1
  least : 2 ≤ d.length
  most : d.length ≤ 13
theorem IsDiv.one {d : List Int} (h : IsDiv d) : IsDiv1 d := ⟨h.row, h.head⟩
theorem IsDiv.n {d : List Int} (h : IsDiv d) : IsDivN (val d) (d.length - 1) := by
  refine ⟨h.one.bounds.1, h.one.bounds.2, ?_⟩
  obtain ⟨a, rfl⟩ : ∃ a, d = a ++ [1] := by
    have := h.last
    exact ⟨d.dropLast, by
      have hne : d ≠ [] := by intro e; subst e; cases this
      rw [List.getLast?_eq_some_getLast hne] at this
      have h2 := List.dropLast_concat_getLast hne
      rw [Option.some.inj this] at h2
      exact h2.symm⟩
  rw [val_snoc]
  show (2 * val a + 1) % 2 = 1
  omega
theorem IsDiv.w1 {d : List Int} (h : IsDiv d) : 1 ≤ d.length - 1 := by have := h.least; omega
theorem IsDiv.reach {d : List Int} (h : IsDiv d) : ∃ P, IsReach (val d) (d.length - 1) P ∧ P ≤ 4095 := by
  obtain ⟨P, h1, h2⟩ := exists_reach h.n h.w1
  refine ⟨P, h1, Nat.le_trans h2 ?_⟩
  have : 2 ^ (d.length - 1) ≤ 2 ^ 12 := Nat.pow_le_pow_right (by decide) (by have := h.most; omega)
  have e : 2 ^ 12 = 4096 := by decide
  omega
abbrev Reach (d : List Int) (P : Nat) : Prop := IsReach (val d) (d.length - 1) P
/-- noughts put behind, one by one -/
def stepsBy (d : List Int) : Nat → List Int → List Int
  | 0, r => r
  | k + 1, r => stepBy (stepsBy d k r) 0 d
theorem stepsBy_spec {d : List Int} (h : IsDiv1 d) {rest : List Int} (hr : IsRow rest) (hl : rest.length = d.length - 1) (k : Nat) :
    IsRow (stepsBy d k rest) ∧ (stepsBy d k rest).length = d.length - 1 ∧ val (stepsBy d k rest) = pow (val d) (d.length - 1) k (val rest) := by
  induction k with
  | zero => exact ⟨hr, hl, rfl⟩
  | succ k ih =>
    obtain ⟨a, b, c⟩ := ih
    obtain ⟨x, y, z⟩ := stepBy_spec h a (.inl rfl) b
    refine ⟨x, y, ?_⟩
    rw [stepsBy, z, c]; simp [pow, onw]
def beginOf (d : List Int) : List Int := List.replicate (d.length - 2) 0 ++ [1]
theorem beginOf_spec {d : List Int} (h : 2 ≤ d.length) : IsRow (beginOf d) ∧ (beginOf d).length = d.length - 1 ∧ val (beginOf d) = 1 := by
  refine ⟨isRow_append.mpr ⟨isRow_replicate0 _, isRow_single (.inr rfl)⟩, by simp [beginOf]; omega, ?_⟩
  rw [beginOf, val_snoc, val_replicate0]; rfl
theorem stepsBy_begin {d : List Int} (h : IsDiv d) (k : Nat) : stepsBy d k (beginOf d) = beginOf d ↔ pow (val d) (d.length - 1) k 1 = 1 := by
  obtain ⟨a, b, c⟩ := beginOf_spec h.least
  obtain ⟨x, y, z⟩ := stepsBy_spec h.one a b k
  rw [c] at z
  constructor
  · intro e; rw [← z, e, c]
  · intro e; exact val_inj x a (y.trans b.symm) (by rw [z, e, c])
theorem sum_zero_iff {r : List Int} (h : IsRow r) : r.sum = 0 ↔ val r = 0 := by
  have nonneg : ∀ {r : List Int}, IsRow r → 0 ≤ r.sum := by
    intro r
    induction r with
    | nil => intro _; exact Int.le_refl 0
    | cons x r ih => intro h; have h' := isRow_cons.mp h; have := ih h'.2; rw [List.sum_cons]; omega
  induction r with
  | nil => simp [val]
  | cons x r ih =>
    have h' := isRow_cons.mp h
    have := nonneg h'.2
    have ih' := ih h'.2
    rw [List.sum_cons, val_cons]
    rcases h'.1 with rfl | rfl
    · simp; omega
    · have := Nat.two_pow_pos r.length
      constructor
      · intro e; omega
      · intro e; simp at e
theorem one_notMem_iff {r : List Int} (h : IsRow r) : (1 : Int) ∉ r ↔ val r = 0 := by
  rw [val_zero h, List.eq_replicate_iff]
  constructor
  · exact fun e => ⟨rfl, fun b hb => (h b hb).elim id (fun e1 => absurd (e1 ▸ hb) e)⟩
  · intro e h1
    exact absurd (e.2 1 h1) (by decide)
theorem holds_iff {row d : List Int} (hd : IsDiv1 d) (hr : IsRow row) : (restBy row d).sum = 0 ↔ R (val d) (d.length - 1) row = 0 := by
  obtain ⟨a, _, c⟩ := restBy_spec hd hr
  rw [sum_zero_iff a, c]
theorem noOne_iff {row d : List Int} (hd : IsDiv1 d) (hr : IsRow row) : (1 : Int) ∉ restBy row d ↔ R (val d) (d.length - 1) row = 0 := by
  obtain ⟨a, _, c⟩ := restBy_spec hd hr
  rw [one_notMem_iff a, c]

/-! turned signs -/
def flip (r : List Int) (i : Nat) : List Int := r.take i ++ [1 - r.getD i 0] ++ r.drop (i + 1)
theorem flip_isRow {r : List Int} (h : IsRow r) (i : Nat) : IsRow (flip r i) :=
  isRow_append.mpr ⟨isRow_append.mpr ⟨h.take i, isRow_single (by rcases h.getD i with e | e <;> rw [e] <;> simp)⟩, h.drop _⟩
theorem flip_length {r : List Int} {i : Nat} (h : i < r.length) : (flip r i).length = r.length := by simp [flip]; omega
theorem R_flip {d : List Int} (hd : IsDiv d) {r : List Int} (h : IsRow r) {i : Nat} (hi : i < r.length) :
    R (val d) (d.length - 1) (flip r i) = R (val d) (d.length - 1) r ^^^ pow (val d) (d.length - 1) (r.length - 1 - i) 1 := by
  have hu : IsRow (List.replicate i 0 ++ 1 :: List.replicate (r.length - 1 - i) 0) := isRow_append.mpr ⟨isRow_replicate0 _, isRow_cons.mpr ⟨.inr rfl, isRow_replicate0 _⟩⟩
  have hl : r.length = (List.replicate i (0 : Int) ++ 1 :: List.replicate (r.length - 1 - i) 0).length := by simp; omega
  have e : flip r i = sum2 r (List.replicate i 0 ++ 1 :: List.replicate (r.length - 1 - i) 0) := by
    refine getD_ext (by rw [flip_length hi, sum2_length hl]) fun j hj => ?_
    rw [flip_length hi] at hj
    have hjr : r[j]? = some r[j] := List.getElem?_eq_getElem hj
    have hrj := h.getElem hj
    simp only [sum2, flip, List.getD_eq_getElem?_getD]
    rw [List.getElem?_zipWith, hjr]
    rcases Nat.lt_trichotomy j i with c | c | c
    · rw [List.getElem?_append_left (by simp; omega), List.getElem?_append_left (by simp; omega), List.getElem?_append_left (by simp; omega)]
      simp [c, hjr, List.getElem?_take]
      omega
    · subst c
      rw [List.getElem?_append_left (by simp; omega), List.getElem?_append_right (by simp; omega), List.getElem?_append_right (by simp)]
      have : j - min j r.length = 0 := by omega
      simp [hjr, this]
      omega
    · rw [List.getElem?_append_right (by simp; omega), List.getElem?_append_right (by simp; omega)]
      have e1 : j - (List.replicate i (0 : Int)).length = (j - i - 1) + 1 := by simp; omega
      rw [e1, List.getElem?_cons_succ, List.getElem?_replicate, if_pos (by omega), List.getElem?_drop]
      have e2 : i + 1 + (j - (List.take i r ++ [1 - r[i]?.getD 0]).length) = j := by simp; omega
      rw [e2, hjr]
      simp
      omega
  rw [e, R_sum2 _ _ h hu hl, R_unit _ hd.w1]
theorem pow_one_inj {d : List Int} (hd : IsDiv d) {P : Nat} (hP : Reach d P) {a b : Nat} (ha : a < P) (hb : b < P) (e : pow (val d) (d.length - 1) a 1 = pow (val d) (d.length - 1) b 1) : a = b := by
  have key : ∀ a b, a < b → b < P → pow (val d) (d.length - 1) a 1 ≠ pow (val d) (d.length - 1) b 1 := by
    intro a b h1 h2 e
    have h3 : pow (val d) (d.length - 1) a 1 = pow (val d) (d.length - 1) a (pow (val d) (d.length - 1) (b - a) 1) := by
      rw [← pow_add, show a + (b - a) = b by omega]; exact e
    have h4 := pow_inj hd.n (one_lt_pow hd.w1) (pow_lt hd.one.bounds (one_lt_pow hd.w1) _) h3
    exact hP.least (b - a) (by omega) (by omega) h4.symm
  rcases Nat.lt_trichotomy a b with c | c | c
  · exact absurd e (key a b c hb)
  · exact c
  · exact absurd e.symm (key b a c ha)
/-! parity -/
end Mine

namespace Mine
theorem two_and (a b x y : Nat) (hx : x < 2) (hy : y < 2) : (2 * a + x) &&& (2 * b + y) = 2 * (a &&& b) + x * y := by
  apply Nat.eq_of_testBit_eq
  intro i
  rw [Nat.testBit_and]
  have hxy : x * y < 2 := by
    have h1 : x = 0 ∨ x = 1 := by omega
    rcases h1 with rfl | rfl <;> simp <;> omega
  cases i with
  | zero =>
    simp only [Nat.testBit_zero]
    have h1 : x = 0 ∨ x = 1 := by omega
    have h2 : y = 0 ∨ y = 1 := by omega
    rcases h1 with rfl | rfl <;> rcases h2 with rfl | rfl <;> simp <;> omega
  | succ i =>
    simp only [Nat.testBit_succ]
    rw [show (2 * a + x) / 2 = a by omega, show (2 * b + y) / 2 = b by omega, show (2 * (a &&& b) + x * y) / 2 = a &&& b by omega, Nat.testBit_and]
theorem add_eq_xor_and (a b : Nat) : a + b = (a ^^^ b) + 2 * (a &&& b) := by
  induction a using Nat.strongRecOn generalizing b with
  | ind a ih =>
    by_cases h0 : a = 0
    · subst h0; simp
    · have i := ih (a / 2) (by omega) (b / 2)
      have h1 := two_xor (a / 2) (b / 2) (a % 2) (b % 2) (by omega) (by omega)
      have h2 := two_and (a / 2) (b / 2) (a % 2) (b % 2) (by omega) (by omega)
      rw [show 2 * (a / 2) + a % 2 = a by omega, show 2 * (b / 2) + b % 2 = b by omega] at h1 h2
      have c1 : a % 2 = 0 ∨ a % 2 = 1 := by omega
      have c2 : b % 2 = 0 ∨ b % 2 = 1 := by omega
      rcases c1 with e1 | e1 <;> rcases c2 with e2 | e2 <;> rw [e1, e2] at h1 h2 <;> omega

/-! the program's readings, over whole numbers -/
theorem fdiv_pow (v k : Nat) : Int.fdiv (v : Int) (2 ^ k) = ((v >>> k : Nat) : Int) := by
  rw [Nat.shiftRight_eq_div_pow, Int.fdiv_eq_ediv_of_nonneg _ (by exact_mod_cast Nat.zero_le (2 ^ k))]
  simp
theorem testBit_shift (v k : Nat) : (v >>> k) % 2 = 1 ↔ v.testBit k = true := by
  rw [Nat.testBit_eq_decide_div_mod_eq, Nat.shiftRight_eq_div_pow]; simp
/-- a gate's mending -/
def Mends (d row out : List Int) : Prop :=
  (R (val d) (d.length - 1) row = 0 ∧ out = row) ∨ (R (val d) (d.length - 1) row ≠ 0 ∧ ∃ p, p < row.length ∧ pow (val d) (d.length - 1) p 1 = R (val d) (d.length - 1) row ∧ out = flip row (row.length - 1 - p))
theorem Mends.unique {d : List Int} (hd : IsDiv d) {P : Nat} (hP : Reach d P) {row o o' : List Int} (hl : row.length ≤ P) (h : Mends d row o) (h' : Mends d row o') : o = o' := by
  rcases h with ⟨a, b⟩ | ⟨a, p, b, c, e⟩ <;> rcases h' with ⟨a', b'⟩ | ⟨a', p', b', c', e'⟩
  · rw [b, b']
  · exact absurd a a'
  · exact absurd a' a
  · have := pow_one_inj hd hP (by omega) (by omega) (c.trans c'.symm)
    rw [e, e', this]
theorem Mends.holds {d : List Int} (hd : IsDiv d) {row o : List Int} (hr : IsRow row) (h : Mends d row o) : R (val d) (d.length - 1) o = 0 ∧ IsRow o ∧ o.length = row.length := by
  rcases h with ⟨a, rfl⟩ | ⟨_, p, b, c, rfl⟩
  · exact ⟨a, hr, rfl⟩
  · refine ⟨?_, flip_isRow hr _, flip_length (by omega)⟩
    rw [R_flip hd hr (by omega), show row.length - 1 - (row.length - 1 - p) = p by omega, c, Nat.xor_self]
end Mine

namespace Mine
/-! law 01 -/
def padTo (k : Nat) (r : List Int) : List Int := List.replicate (k - r.length) 0 ++ r
def addOf (a b : List Int) : List Int := sum2 (padTo (max a.length b.length) a) (padTo (max a.length b.length) b)
theorem flatten_replicate_single (n : Nat) (x : Int) : (List.replicate n [x]).flatten = List.replicate n x := by
  induction n with
  | zero => rfl
  | succ n ih => rw [List.replicate_succ, List.flatten_cons, ih]; rfl
theorem zipWith_fmod (a b : List Int) : List.zipWith (fun x y => (x + y).fmod 2) a b = sum2 a b := by
  unfold sum2
  congr 1
  funext x y
  exact Int.fmod_eq_emod_of_nonneg _ (by decide)
theorem isRow_map_ite {α : Type} (p : α → Bool) (l : List α) : IsRow (l.map fun k => if p k = true then (1 : Int) else 0) := by
  intro x hx
  obtain ⟨k, _, rfl⟩ := List.mem_map.mp hx
  by_cases h : p k = true
  · rw [if_pos h]; exact .inr rfl
  · rw [if_neg h]; exact .inl rfl
theorem isRow_flat {n : Nat} {x : Int} (h : x = 0 ∨ x = 1) : IsRow (List.replicate n [x]).flatten := by
  rw [flatten_replicate_single]
  intro y hy
  rw [List.eq_of_mem_replicate hy]; exact h
theorem flat_length (n : Nat) (x : Int) : (List.replicate n [x]).flatten.length = n := by rw [flatten_replicate_single, List.length_replicate]
theorem padTo_length (k : Nat) {r : List Int} (h : r.length ≤ k) : (padTo k r).length = k := by simp [padTo]; omega
theorem addOf_length (a b : List Int) : (addOf a b).length = max a.length b.length := by
  rw [addOf, sum2_length (by rw [padTo_length _ (Nat.le_max_left ..), padTo_length _ (Nat.le_max_right ..)]), padTo_length _ (Nat.le_max_left ..)]
theorem addOf_isRow (a b : List Int) : IsRow (addOf a b) := sum2_isRow _ _
theorem fm_ge (a n : Int) (h : 0 < n) : 0 ≤ a.fmod n := by rw [Int.fmod_eq_emod_of_nonneg _ (Int.le_of_lt h)]; exact Int.emod_nonneg _ (by omega)
theorem fm_le (a n k : Int) (h : 0 < n) (hk : n ≤ k + 1) : a.fmod n ≤ k := by
  rw [Int.fmod_eq_emod_of_nonneg _ (Int.le_of_lt h)]
  have := Int.emod_lt_of_pos a h
  omega
end Mine

end

section

namespace Mine
theorem xor_next {rs rs' ms : List Int} {i j : Nat} {x : Int} (h : rs' = xorFrom rs i (ms.take j)) (hx : ms[j]? = some x) :
    rs'.set ((i : Int) + (j : Int)).toNat ((rs'.getD ((i : Int) + (j : Int)).toNat 0 + x).fmod 2) = xorFrom rs i (ms.take (j + 1)) := by
  have hj : j < ms.length := (List.getElem?_eq_some_iff.mp hx).1
  have e : ((i : Int) + (j : Int)).toNat = i + j := by omega
  have ht : ms.take (j + 1) = ms.take j ++ [x] := by rw [List.take_succ, hx]; rfl
  rw [e, ht, xorFrom_snoc, ← h, List.length_take, Nat.min_eq_left (by omega), Int.fmod_eq_emod_of_nonneg _ (by decide)]
end Mine
namespace Mine
end Mine

end

section

namespace Mine
theorem leftOf_eq (ns ms : List Int) (k : Nat) (hk : k = ms.length - 1 - ns.length) : (List.replicate k [(0 : Int)]).flatten ++ ns = leftOf ns ms := by
  rw [flatten_replicate_single, hk]; rfl
theorem isDiv1_of {ms : List Int} (hr : IsRow ms) (h : ¬ (ms.length = 0 ∨ ms.getD 0 0 = 0)) : IsDiv1 ms := by
  refine ⟨hr, ?_⟩
  cases ms with
  | nil => exact absurd (.inl rfl) h
  | cons x t =>
    have := hr x (.head _)
    rcases this with rfl | rfl
    · exact absurd (.inr rfl) h
    · rfl
theorem partLoop_succ (d left : List Int) (n : Nat) : partLoop d left (n + 1) = (if (partLoop d left n).1.getD n 0 = 1 then xorFrom (partLoop d left n).1 n d else (partLoop d left n).1, (partLoop d left n).2 ++ [(partLoop d left n).1.getD n 0]) := rfl
theorem parted_rest {row d : List Int} (hd : IsDiv1 d) (hr : IsRow row) : (partLoop d (leftOf row d) ((leftOf row d).length - (d.length - 1))).1.drop ((leftOf row d).length - (d.length - 1)) = restBy row d := by
  rw [parted_left hd hr, List.drop_append_of_le_length (by simp), List.drop_of_length_le (by simp)]; rfl
theorem restBy_row {row d : List Int} (hd : IsDiv1 d) (hr : IsRow row) : IsRow (restBy row d) := (restBy_spec hd hr).1
theorem restBy_len {row d : List Int} (hd : IsDiv1 d) (hr : IsRow row) : (restBy row d).length = d.length - 1 := (restBy_spec hd hr).2.1
theorem isDiv_of {ms : List Int} (hr : IsRow ms) (h2 : 2 ≤ ms.length) (h13 : ms.length ≤ 13) (h0 : ¬ ms.getD 0 0 = 0) (h1 : ¬ ms.getD (ms.length - 1) 0 = 0) : IsDiv ms := by
  refine ⟨hr, (isDiv1_of hr (by omega)).head, ?_, h2, h13⟩
  rw [List.getLast?_eq_getElem?, List.getElem?_eq_getElem (by omega)]
  have h3 : ms[ms.length - 1] = 0 ∨ ms[ms.length - 1] = 1 := hr.getElem (by omega)
  rw [List.getD_eq_getElem?_getD, List.getElem?_eq_getElem (by omega)] at h1
  rcases h3 with h3 | h3
  · exact absurd h3 h1
  · rw [h3]
theorem IsDiv.first {ms : List Int} (h : IsDiv ms) : ms.getD 0 0 = 1 := by
  have := h.head
  cases ms with
  | nil => cases this
  | cons x t => simpa using this
theorem IsDiv.final {ms : List Int} (h : IsDiv ms) : ms.getD (ms.length - 1) 0 = 1 := by
  have := h.last
  rw [List.getLast?_eq_getElem?] at this
  rw [List.getD_eq_getElem?_getD, this]; rfl
theorem isDiv_wrap {r : List Int} (hr : IsRow r) (hl : r.length ≤ 11) : IsDiv ([1] ++ r ++ [1]) :=
  ⟨isRow_append.mpr ⟨isRow_append.mpr ⟨isRow_single (.inr rfl), hr⟩, isRow_single (.inr rfl)⟩, rfl, by rw [List.getLast?_append]; rfl, by simp, by simp; omega⟩
theorem reach_first {n w k P : Nat} (hP : IsReach n w P) (h1 : 1 ≤ k) (hk : pow n w k 1 = 1) (hm : ∀ j, 1 ≤ j → j < k → pow n w j 1 ≠ 1) : k = P := by
  rcases Nat.lt_trichotomy k P with h | h | h
  · exact absurd hk (hP.least k h1 h)
  · exact h
  · exact absurd hP.back (hm P hP.pos h)
end Mine
namespace Mine
end Mine
namespace Mine
end Mine

end

section

namespace Mine
/-! law 12: signs turned one after another behind a place -/
/-! law 13: a divisor with an even sum, an odd number of marks -/
/-! the rest by steps, for a loop over the row -/
theorem restBy_take (row d : List Int) (i : Nat) (x : Int) (h : row[i]? = some x) : restBy (row.take (i + 1)) d = stepBy (restBy (row.take i) d) x d := by
  rw [List.take_add_one, h, Option.toList_some, restBy_snoc]
theorem restBy_nil (d : List Int) : restBy [] d = List.replicate (d.length - 1) 0 := rfl
end Mine

end

section
open PySem PySem.W PySem.Calls PyProof.Rows
namespace Mine

/-- around a frame, nothing held -/
abbrev arA (dp un : Nat) (gd : Option (List Code)) (fr : List Env) : Around := { handled := none, depth := dp, frames := some fr, guards := gd, units := un }

/-- the ground at a call: the written part, the top, the frames below -/
structure Gd (K : Frag) (p : Program) (loose : List Str) (mean : ExcName → Option Value) (mg mb : Str → Option Value) (base : Heap) (fr : List Env) (h : Heap) : Prop where
  stays : base.StaysIn h
  frames : h.FunFrames base fr
  kin : K.In h
  top : Top p loose mean mg mb h
  kbase : K.In base
  tbase : Top p loose mean mg mb base
  dicts : KtsDicts (fr.filterMap (·.frame)) h

theorem dicts_push {h₀ h : Heap} {L : Addr} {m : Str → Option Value} {env : Env} {fr : List Env} (D : KtsDicts (fr.filterMap (·.frame)) h₀) (F : Fr h₀ L h m) (he : env.frame = some L) : KtsDicts ((env :: fr).filterMap (·.frame)) h := fun b hm => by
  obtain ⟨env', he', hf⟩ := List.mem_filterMap.mp hm
  rcases List.mem_cons.mp he' with rfl | he'
  · rw [he] at hf
    obtain rfl : L = b := Option.some.inj hf
    obtain ⟨o, es, ep, ho, hd, _⟩ := F.ns
    exact ⟨o, es, ep, ho, hd⟩
  · obtain ⟨o, es, n, ho, hd⟩ := D b (List.mem_filterMap.mpr ⟨env', he', hf⟩)
    exact ⟨o, es, n, F.keep _ _ ho, hd⟩

section
variable {prog : Program} {w : World} {K : Frag} {p : Program} {loose : List Str} {mean : ExcName → Option Value} {mg mb : Str → Option Value} {base : Heap} {fr : List Env}

theorem Gd.below {h : Heap} (G : Gd K p loose mean mg mb base fr h) (dp un : Nat) (gd : Option (List Code)) : Below (arA dp un gd fr) base fr h := ⟨rfl, G.stays, G.frames⟩

theorem enter0 {dp un : Nat} {gd : Option (List Code)} {s : Shared} {Q E : Value → Shared → Prop} {name qual : Str} {params : Arguments} {body : List Stmt} {scope : Scope} {dV kV doc pm cdv ct oc : Value} {an od : Option Addr} {osl : Array (Option Value)} {f : Addr} {args : List Value} {binds : List (Str × Value)}
    (G : Gd K p loose mean mg mb base fr s.heap)
    (ho : K.lookup f = some ⟨oc, od, .func (fnOf name qual params body scope dV kV doc pm an cdv ct), osl⟩) (hcd : codeIn K cdv qual = true) (hroom : dp < recursionLimit)
    (hbind : BindsTo s (fnOf name qual params body scope dV kV doc pm an cdv ct) ⟨args, []⟩ binds) (hloc : ∀ y ∈ binds, scope.names.lookup y.1 = some .local)
    (h : ∀ L' h₁ tk, Fr s.heap L' h₁ (fun y => binds.reverse.lookup y) →
      wpAny (model prog w) (arA (dp + 1) (un + 3) gd (envOf qual scope L' f cdv :: fr)) (execs body (envOf qual scope L' f cdv))
        (fun fl s' => Q (match fl with | .ret v => v | _ => .none) s')
        (fun e s' => wpAny (model prog w) (arA (dp + 1) (un + 3) gd (envOf qual scope L' f cdv :: fr)) (leaving (envOf qual scope L' f cdv) e) (fun _ s'' => E e s'') (fun e' s'' => E e' s'') s')
        { s with heap := h₁, toks := tk })
    (hco : scope.isCoroutine = false) (hgen : scope.isGenerator = false) (hk : scope.kind = .function) (hcell : ∀ x ∈ scope.names, x.2 ≠ .cell) :
    wpAny (model prog w) (arA dp un gd fr) (call (.ref f) args) Q E s := by
  refine wpAny_call ?_
  refine codeAny_call_def (fd := fnOf name qual params body scope dV kV doc pm an cdv ct) (body := body) (binds := binds) hroom (G.kin _ _ ho) rfl G.top.nolimit (codeRec_of G.kin hcd) rfl hbind hcell hloc (fun h₁ hns hk₁ => ?_) hco hgen hk
  exact h s.heap.objs.size h₁ _ ⟨hns, hk₁, Nat.le_refl _⟩

theorem Gd.push {h₀ h : Heap} {L a : Addr} {m : Str → Option Value} {name : Str} {scope : Scope} {cd : Value} (G : Gd K p loose mean mg mb base fr h₀) (F : Fr h₀ L h m) (hk : scope.kind = .function) :
    Gd K p loose mean mg mb base (envOf name scope L a cd :: fr) h :=
  let B := (G.below 0 0 none).push (name := name) (a := a) (cd := cd) F hk
  ⟨B.stays, B.frames, G.kin.keeps F.keep, G.top.keeps F.keep, G.kbase, G.tbase, dicts_push G.dicts F rfl⟩

theorem fr_on {h₀ h h' : Heap} {L : Addr} {m : Str → Option Value} (F : Fr h₀ L h m) (k : h.StaysIn h') : Fr h₀ L h' m :=
  ⟨F.ns.at' fun o e => k _ o e, fun b o e => k b o (F.keep b o e), F.above⟩
theorem news_on {h₀ h h' : Heap} {L : Addr} {news : List (Addr × Obj)} (N : News h₀ L h news) (k : h.StaysIn h') : News h₀ L h' news :=
  fun q hq => ⟨k _ _ (N q hq).1, (N q hq).2⟩
theorem news_more {h₀ h h' : Heap} {L : Addr} {m : Str → Option Value} {news : List (Addr × Obj)} (F : Fr h₀ L h m) (N : News h₀ L h news) (k : h.StaysIn h') {r : Addr} {o : Obj} (hn : h.get? r = none) (ho : h'.get? r = some o) :
    News h₀ L h' ((r, o) :: news) := fun q hq => by
  rcases List.mem_cons.mp hq with rfl | hq
  · refine ⟨ho, ?_, ?_⟩
    · rintro rfl
      obtain ⟨oL, _, _, e, _⟩ := F.ns
      rw [hn] at e; cases e
    · cases q : h₀.get? r with
      | none => rfl
      | some o' => have := F.keep r o' q; rw [hn] at this; cases this
  · exact news_on N k q hq
theorem news_ne {h₀ h : Heap} {L : Addr} {news : List (Addr × Obj)} (N : News h₀ L h news) {r : Addr} (hn : h.get? r = none) : ∀ q ∈ news, q.1 ≠ r := fun q hq e => by
  have := (N q hq).1
  rw [e, hn] at this; cases this
end
end Mine
namespace Mine
section
variable {M : Model} {A : Around} {E : Value → Shared → Prop} {s : Shared} {env : Env} {Q : Flow → Shared → Prop}
theorem hide1 {a : Stmt} {rest : List Stmt} (h : ∀ r, r = rest → wpAny M A (execs (a :: r) env) Q E s) : wpAny M A (execs (a :: rest) env) Q E s := h rest rfl
theorem hide2 {a b : Stmt} {rest : List Stmt} (h : ∀ r, r = rest → wpAny M A (execs (a :: b :: r) env) Q E s) : wpAny M A (execs (a :: b :: rest) env) Q E s := h rest rfl
end
section
variable {s : Shared} {Q : Value → Shared → Prop} {h' : Heap} {tk' : Nat}
theorem ret_val {v v' : Value} (ret : ∀ h' tk', s.heap.StaysIn h' → Q v { s with heap := h', toks := tk' }) (e : v' = v) (k : s.heap.StaysIn h') : Q v' { s with heap := h', toks := tk' } := e ▸ ret h' tk' k
end
end Mine
namespace Mine
/-- a turn's end: what the loop keeps, and the iterator's own objects -/
def TEnd (h₀ : Heap) (L : Addr) (P : (Str → Option Value) → List (Addr × Obj) → Prop) (own : List (Addr × Obj)) (adr : List Addr) (s₁ s₂ : Shared) : Prop := InvEndN h₀ L P own adr s₁ s₂
def TPost (h₀ : Heap) (L : Addr) (P : (Str → Option Value) → List (Addr × Obj) → Prop) (own : List (Addr × Obj)) (adr : List Addr) (s₁ : Shared) (Q : Flow → Shared → Prop) (f : Flow) (s₂ : Shared) : Prop :=
  match f with
  | .ret v => Q (.ret v) s₂
  | .brk => Q .next s₂
  | _ => TEnd h₀ L P own adr s₁ s₂
section
variable {prog : Program} {w : World} {A : Around} {E : Value → Shared → Prop} {s : Shared} {h₀ : Heap} {name : Str} {scope : Scope} {L a : Addr} {cd : Value} {m₀ : Str → Option Value} {news : List (Addr × Obj)} {x : Str} {px pos : Pos} {body : List Stmt} {Q : Flow → Shared → Prop}

theorem tpost_of {P : (Str → Option Value) → List (Addr × Obj) → Prop} {own : List (Addr × Obj)} {adr : List Addr} {s₁ : Shared} (f : Flow) (s₂ : Shared) (h : TPost h₀ L P own adr s₁ Q f s₂) : InvPostN h₀ L P own adr s₁ Q f s₂ := by
  cases f <;> exact h
theorem TEnd.intro {P : (Str → Option Value) → List (Addr × Obj) → Prop} {m' : Str → Option Value} {own news' nx : List (Addr × Obj)} {adr : List Addr} {s₁ : Shared} {h' : Heap} {tk : Nat} (F : Fr h₀ L h' m') (N : News h₀ L h' news')
    (hj : P m' nx) (ha : nx.map (·.1) = adr) (hn : ∀ p ∈ nx, p ∈ news') (ho : ∀ p ∈ own, p ∈ news') : TEnd h₀ L P own adr s₁ { s₁ with heap := h', toks := tk } := InvEndN.intro F N hj ha hn ho

theorem for_list {y : Str} {py : Pos} {l : Addr} {vs : List Value} {ns : List Int} (J : Nat → (Str → Option Value) → List (Addr × Obj) → Prop)
    (hh : A.handled = none) (F : Fr h₀ L s.heap m₀) (N : News h₀ L s.heap news) (hy : m₀ y = some (.ref l)) (hl : h₀.IsList l vs.toArray) (hi : IntsAre vs ns) (hj : J 0 m₀ news)
    (turn : ∀ i n t m₁ news₁ h tk own, ns[i]? = some n → news₁.map (·.1) = news.map (·.1) → OwnOff own (news.map (·.1)) → J i m₁ news₁ → Fr h₀ L h (fun y => if y = x then some (.int n t) else m₁ y) → News h₀ L h (news₁ ++ own) →
      wpAny (model prog w) A (execs body (envOf name scope L a cd)) (TPost h₀ L (J (i + 1)) own (news.map (·.1)) { s with heap := h, toks := tk } Q) E { s with heap := h, toks := tk })
    (done : ∀ m₁ news₁ h tk, J ns.length m₁ news₁ → Fr h₀ L h m₁ → News h₀ L h news₁ → Q .next { s with heap := h, toks := tk })
    (hx : scope.names.lookup x = some .local) (hy' : scope.names.lookup y = some .local) (hk : scope.kind = .function) (hd : (y == ("__debug__" : Str)) = false)
    (hE : PassesOwn (model prog w) A (envOf name scope L a cd) E) :
    wpAny (model prog w) A (exec (.For (.Name x px) (.Name y py) body [] pos) (envOf name scope L a cd)) Q E s := by
  refine For_invVF F hx (by show (scope.kind == .class || (scope.kind == .module && L != mainGlobals)) = false; rw [hk]; rfl) ?_ (fun _ => rfl) hE
  refine ld F hy ?_ hk hy' hd
  refine iter_invN J hh hl hi F N hj (fun i n t m₁ news₁ h tk own a b c d F' N' => ?_) done
  exact wpAny_mono (turn i n t m₁ news₁ h tk own a b c d F' N') (fun f s₂ q => tpost_of f s₂ q) fun _ _ e => e
end
end Mine
namespace Mine
def AllNe (d : Nat) : List (Addr × Obj) → Prop
  | [] => True
  | p :: r => (@Ne Nat p.1 d) ∧ AllNe d r
theorem allNe_of {d : Addr} : ∀ {l : List (Addr × Obj)}, (∀ p ∈ l, p.1 ≠ d) → AllNe d l
  | [], _ => trivial
  | p :: _, h => ⟨h p (.head _), allNe_of fun q hq => h q (.tail _ hq)⟩
section
variable {prog : Program} {w : World} {A : Around} {E : Value → Shared → Prop} {s : Shared} {h₀ : Heap} {L : Addr} {m : Str → Option Value} {news : List (Addr × Obj)} {Q : Value → Shared → Prop}
theorem lst_base {h : Heap} {l : Addr} {its : Array Value} (F : Fr h₀ L h m) (hl : h₀.IsList l its) : h.IsList l its := hl.at fun o e => F.keep l o e
theorem lst_led {h : Heap} {l : Addr} {its : Array Value} {n : Nat} (N : News h₀ L h news) (hm : (l, listOf its n) ∈ news) : h.IsList l its := ⟨_, (N _ hm).1, rfl, n, rfl⟩
/-- a new list of ints handed back -/
theorem ret_list {s : Shared} {Q : Value → Shared → Prop} {ns ms : List Int} {h' : Heap} {tk' : Nat} {D : Addr} {vs : List Value} {c : Nat} {L : Addr} {m : Str → Option Value} {news : List (Addr × Obj)}
    (ret : ∀ h' tk' D vs c, s.heap.StaysIn h' → s.heap.get? D = none → h'.get? D = some (listOf (List.toArray vs) c) → IntsAre vs ns → Q (.ref D) { s with heap := h', toks := tk' })
    (F : Fr s.heap L h' m) (N : News s.heap L h' news) (hm : (D, listOf vs.toArray c) ∈ news) (hi : IntsAre vs ms) (e : ms = ns) : Q (.ref D) { s with heap := h', toks := tk' } := by
  subst e
  exact ret h' tk' D vs c F.keep (N _ hm).2.2 (N _ hm).1 hi
end
end Mine
namespace Mine
section
variable {s : Shared} {Q : Value → Shared → Prop} {h' : Heap} {tk' : Nat}
theorem ret_int {x y : Int} {t : Tok} (ret : ∀ h' tk' t', s.heap.StaysIn h' → Q (.int x t') { s with heap := h', toks := tk' }) (e : y = x) (k : s.heap.StaysIn h') : Q (.int y t) { s with heap := h', toks := tk' } := e ▸ ret h' tk' t k
theorem ret_bool {x y : Bool} (ret : ∀ h' tk', s.heap.StaysIn h' → Q (.bool x) { s with heap := h', toks := tk' }) (e : y = x) (k : s.heap.StaysIn h') : Q (.bool y) { s with heap := h', toks := tk' } := e ▸ ret h' tk' k
end
end Mine
namespace Mine
/-- a place where the walk rests -/
def Stop (P : Prop) : Prop := P
theorem stop_of {P : Prop} (h : Stop P) : P := h
theorem go_on {P : Prop} (h : P) : Stop P := h
end Mine
namespace Mine
section
variable {prog : Program} {w : World} {K : Frag} {p : Program} {loose : List Str} {mean : ExcName → Option Value} {mg mb : Str → Option Value} {base : Heap} {fr : List Env}
/-- a def some of whose names are cells -/
theorem enter0C {dp un : Nat} {gd : Option (List Code)} {s : Shared} {Q E : Value → Shared → Prop} {name qual : Str} {params : Arguments} {body : List Stmt} {scope : Scope} {dV kV doc pm cdv ct oc : Value} {an od : Option Addr} {osl : Array (Option Value)} {f : Addr} {args : List Value} {binds : List (Str × Value)}
    (G : Gd K p loose mean mg mb base fr s.heap)
    (ho : K.lookup f = some ⟨oc, od, .func (fnOf name qual params body scope dV kV doc pm an cdv ct), osl⟩) (hcd : codeIn K cdv qual = true) (hroom : dp < recursionLimit)
    (hbind : BindsTo s (fnOf name qual params body scope dV kV doc pm an cdv ct) ⟨args, []⟩ binds) (hkind : (binds.all fun y => scope.names.lookup y.1 == some .local || scope.names.lookup y.1 == some .cell) = true)
    (hnd : ((cellsFrom 0 scope.names []).map (·.1)).Nodup)
    (h : ∀ L' h₁ tk cells, Fr s.heap L' h₁ (bindL (envOfC qual scope L' f cdv).kindOf binds fun _ => none) → News s.heap L' h₁ cells →
      CellsAre (bindC (envOfC qual scope L' f cdv).kindOf binds fun _ => none) (cellsFrom (L' + 1) scope.names []) cells →
      wpAny (model prog w) (arA (dp + 1) (un + 3) gd (envOfC qual scope L' f cdv :: fr)) (execs body (envOfC qual scope L' f cdv))
        (fun fl s' => Q (match fl with | .ret v => v | _ => .none) s')
        (fun e s' => wpAny (model prog w) (arA (dp + 1) (un + 3) gd (envOfC qual scope L' f cdv :: fr)) (leaving (envOfC qual scope L' f cdv) e) (fun _ s'' => E e s'') (fun e' s'' => E e' s'') s')
        { s with heap := h₁, toks := tk })
    (hco : scope.isCoroutine = false) (hgen : scope.isGenerator = false) (hk : scope.kind = .function) :
    wpAny (model prog w) (arA dp un gd fr) (call (.ref f) args) Q E s := by
  refine wpAny_call ?_
  refine codeAny_call_function (o := ⟨oc, od, .func (fnOf name qual params body scope dV kV doc pm an cdv ct), osl⟩) (fd := fnOf name qual params body scope dV kV doc pm an cdv ct) hroom (G.kin _ _ ho) rfl hco hgen rfl (codeRec_of G.kin hcd) (hbind _ _ _ _ ?_)
  refine wpAny_newFunctionEnv_cells hk (kindsX hkind _) fun env' he s' x => ?_
  subst he
  refine ⟨G.top.nolimit.keeps x.toInCall.keep, codeAny_func ?_⟩
  obtain ⟨h₁, tk, rfl, _⟩ := x.done
  have hk₁ := x.toInCall.keep
  obtain ⟨cells, NC, Y⟩ := Cl.news (h₀ := s.heap) (Nat.le_refl _) fun n c hm => ⟨x.cell n c (lookup_of_mem_nodup (cellsFrom_names scope.names 0 (s.heap.objs.size + 1) [] [] rfl ▸ hnd) hm), x.above n c hm⟩
  exact h s.heap.objs.size h₁ tk cells ⟨x.toInCall.ns, fun b o e => hk₁ b o e, Nat.le_refl _⟩ NC Y
end
end Mine
namespace Mine
section
variable {prog : Program} {w : World} {A : Around} {E : Value → Shared → Prop} {s : Shared} {h₀ : Heap} {env : Env} {L : Addr} {m₀ : Str → Option Value} {news : List (Addr × Obj)} {x : Str} {px pos : Pos} {body : List Stmt} {Q : Flow → Shared → Prop} {iter : Expr}

theorem for_range {n : Nat} {a₀ b₀ : Int} (J : Nat → (Str → Option Value) → List (Addr × Obj) → Prop) (hL : env.locals = L)
    (hh : A.handled = none) (F : Fr h₀ L s.heap m₀) (N : News h₀ L s.heap news) (hb : n = (b₀ - a₀).toNat) (ha : -1000000000 ≤ a₀ ∧ a₀ ≤ 1000000000 ∧ -1000000000 ≤ b₀ ∧ b₀ ≤ 1000000000)
    (hiter : ∀ Q' : Value → Shared → Prop, (∀ r h' tk t u v, IsRange h' r a₀ b₀ 1 t u v → Fr h₀ L h' m₀ → News h₀ L h' news → Q' (.ref r) { s with heap := h', toks := tk }) → wpAny (model prog w) A (eval iter env) Q' E s)
    (hj : J 0 m₀ news)
    (turn : ∀ i t m₁ news₁ h tk own, i < n → news₁.map (·.1) = news.map (·.1) → OwnOff own (news.map (·.1)) → J i m₁ news₁ → Fr h₀ L h (fun y => if y = x then some (.int (a₀ + (i : Int)) t) else m₁ y) → News h₀ L h (news₁ ++ own) →
      wpAny (model prog w) A (execs body env) (TPost h₀ L (J (i + 1)) own (news.map (·.1)) { s with heap := h, toks := tk } Q) E { s with heap := h, toks := tk })
    (done : ∀ m₁ news₁ h tk, J n m₁ news₁ → Fr h₀ L h m₁ → News h₀ L h news₁ → Q .next { s with heap := h, toks := tk })
    (hx : env.kindOf x = some .local) (hp : (env.scope.kind == .class || (env.scope.kind == .module && env.locals != env.globals)) = false) (hs : ∀ x, foldedSetIterable iter env x = pure x)
    (hE : PassesOwn (model prog w) A env E) :
    wpAny (model prog w) A (exec (.For (.Name x px) iter body [] pos) env) Q E s := by
  subst hL
  refine For_invVF F hx hp ?_ hs hE
  refine hiter _ fun r h₁ tk₁ t₁ u₁ v₁ hr F₁ N₁ => ?_
  refine wpAny_pyIter_range hr (small_one (by omega) (by omega) (by omega) (by omega)) ?_
  have hn : Builtin.Range.rangeSize a₀ b₀ 1 = (n : Int) := by rw [hb]; exact rangeSize_nat _ _
  have W : Walks prog w A h₁.objs.size [h₁.objs.size] [h₁.objs.size] n (fun i v => i < n ∧ ∃ t, v = .int (a₀ + i * 1) t)
      (fun i h => IsRangeIter h h₁.objs.size (a₀ + (i : Nat) * 1) ((n : Int) - (i : Nat)) 1) := (Walks.range hh _ a₀ 1 n).bound
  refine loop_invN (s := { s with heap := h₁.push _, toks := tk₁ }) J W ?_ ?_ ?_ ?_ (by show IsRangeIter _ _ _ _ _; rw [hn]; simpa using Heap.get?_push_size _ rfl) (F₁.push _) (fun p hp => ⟨Heap.get?_push_of_some _ (N₁ p hp).1, (N₁ p hp).2⟩) hj ?_ ?_
  · intro hm
    exact absurd F₁.ns.lt ((List.mem_singleton.mp hm) ▸ Nat.lt_irrefl _)
  · intro b hb
    rw [List.mem_singleton.mp hb]
    exact next_is_new F₁
  · intro p hp hI
    exact absurd (Heap.lt_size (N₁ p hp).1) ((List.mem_singleton.mp hI) ▸ Nat.lt_irrefl _)
  · intro p hp hI
    exact absurd (Heap.lt_size (N₁ p hp).1) ((List.mem_singleton.mp hI) ▸ Nat.lt_irrefl _)
  · rintro i v m₁ news₁ h tk own hi ⟨_, t, rfl⟩ hadr hoff hJ F' N'
    have e1 : a₀ + (i : Int) * 1 = a₀ + (i : Int) := by omega
    rw [e1] at F'
    exact wpAny_mono (turn i t m₁ news₁ h tk own hi hadr hoff hJ F' N') (fun f s₂ q => tpost_of f s₂ q) fun _ _ e => e
  · exact done
end
end Mine
namespace Mine
theorem fr_know {h₀ h : Heap} {L : Addr} {m : Str → Option Value} {v : Value} (x : Str) (F : Fr h₀ L h m) (e : m x = some v) : Fr h₀ L h (fun y => if y = x then some v else m y) := by
  have : (fun y => if y = x then some v else m y) = m := by
    funext y
    by_cases hy : y = x
    · rw [if_pos hy, hy, e]
    · rw [if_neg hy]
  rw [this]; exact F
end Mine
namespace Mine
def Cut (I : Shared → Prop) (f : Flow) (s : Shared) : Prop := f = .next ∧ I s
section
variable {M : Model} {A : Around} {E : Value → Shared → Prop} {s : Shared} {env : Env} {Q : Flow → Shared → Prop}
/-- a statement by what holds behind it -/
theorem cut {st : Stmt} {rest : List Stmt} (I : Shared → Prop) (h1 : wpAny M A (exec st env) (Cut I) E s) (h2 : ∀ s', I s' → wpAny M A (execs rest env) Q E s') : wpAny M A (execs (st :: rest) env) Q E s :=
  wpAny_execs_cons (wpAny_mono h1 (fun f s' h => by obtain ⟨rfl, h⟩ := h; exact h2 s' h) fun _ _ e => e)
end
/-- a list of signs under a name -/
def RowI (s₀ : Shared) (g : Heap) (L : Addr) (cs : List (Addr × Obj)) (x : Str) (n : Nat) (s' : Shared) : Prop :=
  ∃ h tk D vs cc rs m, s' = { s₀ with heap := h, toks := tk } ∧ Fr g L h m ∧ News g L h ((D, listOf (List.toArray vs) cc) :: cs) ∧ m x = some (.ref D) ∧ IntsAre vs rs ∧ (∀ y ∈ rs, y = 0 ∨ y = 1) ∧ rs.length = n
theorem RowI.of {s₀ : Shared} {g : Heap} {L : Addr} {cs news : List (Addr × Obj)} {x : Str} {n : Nat} {h : Heap} {tk : Nat} {D : Addr} {vs : List Value} {cc : Nat} {rs : List Int} {m : Str → Option Value} (F : Fr g L h m) (N : News g L h news) (hm : m x = some (.ref D)) (hD : (D, listOf (List.toArray vs) cc) ∈ news) (hc : ∀ p ∈ cs, p ∈ news)
    (hi : IntsAre vs rs) (hr : ∀ y ∈ rs, y = 0 ∨ y = 1) (hl : rs.length = n) : Cut (RowI s₀ g L cs x n) .next { s₀ with heap := h, toks := tk } :=
  ⟨rfl, h, tk, D, vs, cc, rs, m, rfl, F, fun p hp => by
    rcases List.mem_cons.mp hp with rfl | hp
    · exact N _ hD
    · exact N _ (hc p hp), hm, hi, hr, hl⟩
end Mine
namespace Mine
/-- a turn's end where the loop's own name alone was bound -/
def T0 (h₀ : Heap) (L : Addr) (x : Str) (m₀ : Str → Option Value) (led : List (Addr × Obj)) (s₁ s₂ : Shared) : Prop :=
  ∃ h' tk m', s₂ = { s₁ with heap := h', toks := tk } ∧ Fr h₀ L h' m' ∧ (∀ z, z ≠ x → m' z = m₀ z) ∧ News h₀ L h' led
theorem T0.intro {h₀ : Heap} {L : Addr} {x : Str} {m₀ m' : Str → Option Value} {led news' : List (Addr × Obj)} {s₁ : Shared} {h' : Heap} {tk : Nat} (F : Fr h₀ L h' m') (N : News h₀ L h' news') (hm : ∀ z, z ≠ x → m' z = m₀ z) (hs : ∀ p ∈ led, p ∈ news') : T0 h₀ L x m₀ led s₁ { s₁ with heap := h', toks := tk } :=
  ⟨h', tk, m', rfl, F, hm, fun p hp => N p (hs p hp)⟩
section
variable {prog : Program} {w : World} {A : Around} {E : Value → Shared → Prop} {s : Shared} {h₀ : Heap} {env : Env} {L : Addr} {m₀ : Str → Option Value} {news : List (Addr × Obj)} {x : Str} {px pos : Pos} {body : List Stmt} {Q : Flow → Shared → Prop} {iter : Expr}
end
end Mine

end

section
open PySem PySem.W PySem.Calls PyProof.Rows PyProof.V PySem.Spec PyProof.Rows.LCg
namespace Mine
section
variable {prog : Program} {w : World} {A : Around} {E : Value → Shared → Prop} {s₂ : Shared} {env : Env}

/-- a list comprehension over pairs, its elements reckoned without a trace -/
theorem comp_pairs {elt iter : PySem.Expr} {a b : Str} {pa pb tp : Pos} {kk : Nat} {scope : Scope} {cl : List (Str × Addr)} {pos : Pos} {I : Addr} {fp wr : List Addr} {n : Nat} {Pt : Nat → Array Value → Prop} {St : Nat → Heap → Prop} {Mid : Nat → Addr → Heap → Prop}
    {RR : Value → Addr → Result → Shared → Prop} (P : Nat → Value → Prop)
    (hh : A.handled = none) (W : WalksT prog w A I fp wr n Pt St Mid) (hst : St 0 s₂.heap) (hfp : ∀ c ∈ fp, c < s₂.heap.objs.size) (hn : n ≤ sizeLine)
    (hPt : ∀ i vals, Pt i vals → ∃ x y, vals = #[x, y])
    (hcell : ∀ y ∈ scope.names, y.2 ≠ .cell) (hkind : scope.kind = .function) (hxa : scope.names.lookup a = some .local) (hxb : scope.names.lookup b = some .local) (hab : ¬ a = b)
    (elt_ok : ∀ i x y C h tk m₂ (E' : Value → Shared → Prop), i < n → Pt i #[x, y] → h.Ns C m₂ → m₂ a = some x → m₂ b = some y → (∀ c o, c ∉ wr → s₂.heap.get? c = some o → h.get? c = some o) →
      wpAny (model prog w) A (eval elt (compEnvC scope cl C env)) (fun v s' => P i v ∧ ∃ h' tk', s' = { s₂ with heap := h', toks := tk' } ∧ h.StaysIn h') E' { s₂ with heap := h, toks := tk })
    (hRR : ∀ D C h tk m' ys, ys.length = n → (∀ i v, ys[i]? = some v → P i v) → s₂.heap.objs.size ≤ D → s₂.heap.objs.size ≤ C → C ≠ D → h.get? D = some (lst ys) → h.Ns C m' → (∀ c o, c ∉ wr → s₂.heap.get? c = some o → h.get? c = some o) → RR (.ref D) C (.ok .next) { s₂ with heap := h, toks := tk }) :
    wpAny (model prog w) A (newList []) (fun acc s₃ => wpAny (model prog w) A (newFunctionEnv scope env.globals cl [] env.qual none .none (some env)) (fun cenv s₄ =>
      codeAny (model prog w) A (.compStart (.ListComp elt [⟨.Tuple [.Name a pa, .Name b pb] kk tp, iter, [], 0⟩] scope pos) 0 (.ref I) acc { cenv with scope := relabel scope env }) (RR acc cenv.locals) s₄) E s₃) E s₂ := by
  refine wpAny_newObj_type (wpAny_newFunctionEnv hcell (by intro y hy; simp at hy) (fun h₁ hns₁ hsb₁ => ?_) hkind)
  dsimp only at hns₁ hsb₁ ⊢
  generalize hH2 : s₂.heap.push { cls := .type "list", dict := none, data := .seq ([] : List Value).toArray } = H2 at hns₁ hsb₁ ⊢
  have hC : H2.objs.size = s₂.heap.objs.size + 1 := by rw [← hH2, Heap.size_push]
  have hDC : s₂.heap.objs.size ≠ H2.objs.size := by rw [hC]; exact Nat.ne_of_lt (Nat.lt_succ_self _)
  have below : ∀ b, b < s₂.heap.objs.size → b ≠ H2.objs.size ∧ b ≠ s₂.heap.objs.size := fun b hb => ⟨by rw [hC]; exact Nat.ne_of_lt (Nat.lt_succ_of_lt hb), Nat.ne_of_lt hb⟩
  have old : ∀ b o, s₂.heap.get? b = some o → h₁.get? b = some o := fun b o e => hsb₁.extBut b o (below b (Heap.lt_size e)).1 (Heap.get?_push_of_some _ (hH2 ▸ Heap.get?_push_of_some _ e))
  have hacc : h₁.get? s₂.heap.objs.size = some (lst []) := hsb₁.extBut _ _ hDC (Heap.get?_push_of_some _ (hH2 ▸ Heap.get?_push_size _ rfl))
  have hst₁ : St 0 h₁ := W.frame _ _ _ hst fun b hb o e => old b o e
  have loop : ∀ s₃ : Shared, s₃ = { s₂ with heap := h₁, toks := s₂.toks + ([] : List (Str × Value)).length } →
      codeAny (model prog w) A (.compLoop (.ListComp elt [⟨.Tuple [.Name a pa, .Name b pb] kk tp, iter, [], 0⟩] scope pos) 0 (.ref I) (.ref s₂.heap.objs.size) (compEnvC scope cl H2.objs.size env))
        (RR (.ref s₂.heap.objs.size) H2.objs.size) s₃ := by
    rintro s₃ rfl
    refine kcp_loop
      (fun k s' => ∃ h' tk i ys m', s' = { s₂ with heap := h', toks := tk } ∧ i ≤ n ∧ k = n + 1 - i ∧ ys.length = i ∧ St i h' ∧ h'.Ns H2.objs.size m' ∧ h'.get? s₂.heap.objs.size = some (lst ys) ∧
        (∀ c o, c ∉ wr → s₂.heap.get? c = some o → h'.get? c = some o) ∧ ∀ j v, ys[j]? = some v → P j v) ?_ (n + 1)
      ⟨h₁, _, 0, [], _, rfl, Nat.zero_le _, rfl, rfl, hst₁, hns₁, hacc, fun c o _ e => old c o e, fun j v e => by simp at e⟩
    rintro k s' ⟨h', tk, i, ys, m', rfl, hi, rfl, hyl, hst', hn', hD', hk', hP'⟩
    have wrfp : ∀ c, s₂.heap.objs.size ≤ c → c ∉ wr := fun c hc hm => absurd (hfp c (W.sub c hm)) (Nat.not_lt.mpr hc)
    have hDw := wrfp s₂.heap.objs.size (Nat.le_refl _)
    have hCw := wrfp H2.objs.size (by rw [hC]; exact Nat.le_succ _)
    by_cases hlt : i < n
    · refine W.item i _ _ _ hlt hst' fun T vals h₂ tk₂ hPt' hT₀ hT hMd hk₂ => ?_
      obtain ⟨x, y, rfl⟩ := hPt i vals hPt'
      have hTw := W.apart i T _ hMd
      refine W.go _ _ _ i T _ _ _ hMd fun h₃ hst₃ hk₃ => ?_
      have hT₃ : h₃.IsTuple T #[x, y] := hT.at fun o e => hk₃ T o hTw e
      have up₃ : ∀ c o, c ∉ wr → h'.get? c = some o → h₃.get? c = some o := fun c o hc e => hk₃ c o hc (hk₂ c o hc e)
      refine kcp_assign (env := compEnvC scope cl H2.objs.size env) hh hT₃ (lookup_relabel_local hxa) (lookup_relabel_local hxb) (by simp [compEnvC, relabel, hkind]) (hn'.at' fun o e => up₃ _ o hCw e) fun h₄ tk₄ hn₄ hs₄ => ?_
      have hst₄ : St (i + 1) h₄ := W.frame _ _ _ hst₃ fun c hc o e => hs₄ c o (below c (hfp c hc)).1 e
      have up₄ : ∀ c o, c ∉ wr → s₂.heap.get? c = some o → h₄.get? c = some o := fun c o hc e => hs₄ c o (below c (Heap.lt_size e)).1 (up₃ c o hc (hk' c o hc e))
      have hD₄ : h₄.get? s₂.heap.objs.size = some (lst ys) := hs₄ _ _ hDC (up₃ _ _ hDw hD')
      refine wpAny_mono (elt_ok i x y H2.objs.size h₄ _ _ _ hlt hPt' hn₄ (by simp [hab]) (by simp) up₄) (fun v s₅ h₅ => ?_) fun _ _ e => e
      obtain ⟨hPv, h₅, tk₅, rfl, st₅⟩ := h₅
      refine append_at (hsz := by show ys.toArray.size ≤ sizeLine; rw [List.size_toArray, hyl]; exact Nat.le_trans hi hn) (st₅ _ _ hD₄) fun h₆ hs₆ hD₆ => ?_
      refine ⟨n + 1 - (i + 1), by omega, h₆, tk₅, i + 1, ys ++ [v], _, rfl, hlt, rfl, by rw [List.length_append, List.length_singleton, hyl],
        W.frame _ _ _ hst₄ (fun c hc o e => hs₆.extBut _ _ (below c (hfp c hc)).2 (st₅ c o e)), (hn₄.at' fun o e => hs₆.extBut _ _ (Ne.symm hDC) (st₅ _ o e)), hD₆.trans (congrArg some (lst_snoc ys v)),
        fun c o hc e => hs₆.extBut _ _ (below c (Heap.lt_size e)).2 (st₅ _ _ (up₄ c o hc e)), fun j u e => ?_⟩
      by_cases hj : j < ys.length
      · rw [List.getElem?_append_left hj] at e; exact hP' j u e
      · rw [List.getElem?_append_right (Nat.not_lt.mp hj)] at e
        have hj0 : j - ys.length = 0 := by
          rcases Nat.eq_zero_or_pos (j - ys.length) with h | h
          · exact h
          · rw [List.getElem?_eq_none (by simp; omega)] at e; cases e
        rw [hj0] at e
        have hji : j = i := by omega
        have : u = v := by simpa using e.symm
        rw [hji, this]; exact hPv
    · have hin : i = n := Nat.le_antisymm hi (Nat.not_lt.mp hlt)
      subst hin
      refine W.done _ _ _ hst' fun h₂ tk₂ hk₂ => ?_
      exact hRR _ _ h₂ tk₂ _ ys hyl hP' (Nat.le_refl _) (by rw [hC]; exact Nat.le_succ _) (Ne.symm hDC) (hk₂ _ _ hDw hD') (hn'.at' fun o e => hk₂ _ o hCw e) fun c o hc e => hk₂ c o hc (hk' c o hc e)
  exact codeAny_compStart_list (loop _ rfl) (W.self 0 _ _ _ (by exact hst₁) (loop _ rfl))

/-- a list comprehension over one name, its elements reckoned without a trace -/
theorem comp_one {elt iter : PySem.Expr} {a : Str} {pa : Pos} {scope : Scope} {cl : List (Str × Addr)} {pos : Pos} {I : Addr} {fp wr : List Addr} {n : Nat} {Pt : Nat → Value → Prop} {St : Nat → Heap → Prop}
    {RR : Value → Addr → Result → Shared → Prop} (P : Nat → Value → Prop)
    (hh : A.handled = none) (W : Walks prog w A I fp wr n Pt St) (hst : St 0 s₂.heap) (hfp : ∀ c ∈ fp, c < s₂.heap.objs.size) (hn : n ≤ sizeLine)
    (hcell : ∀ y ∈ scope.names, y.2 ≠ .cell) (hkind : scope.kind = .function) (hxa : scope.names.lookup a = some .local)
    (elt_ok : ∀ i x C h tk m₂ (E' : Value → Shared → Prop), i < n → Pt i x → s₂.heap.objs.size ≤ C → h.Ns C m₂ → m₂ a = some x → (∀ c o, c ∉ wr → s₂.heap.get? c = some o → h.get? c = some o) →
      wpAny (model prog w) A (eval elt (compEnvC scope cl C env)) (fun v s' => P i v ∧ ∃ h' tk', s' = { s₂ with heap := h', toks := tk' } ∧ h.StaysIn h') E' { s₂ with heap := h, toks := tk })
    (hRR : ∀ D C h tk m' ys, ys.length = n → (∀ i v, ys[i]? = some v → P i v) → s₂.heap.objs.size ≤ D → s₂.heap.objs.size ≤ C → C ≠ D → h.get? D = some (lst ys) → h.Ns C m' → (∀ c o, c ∉ wr → s₂.heap.get? c = some o → h.get? c = some o) → RR (.ref D) C (.ok .next) { s₂ with heap := h, toks := tk }) :
    wpAny (model prog w) A (newList []) (fun acc s₃ => wpAny (model prog w) A (newFunctionEnv scope env.globals cl [] env.qual none .none (some env)) (fun cenv s₄ =>
      codeAny (model prog w) A (.compStart (.ListComp elt [⟨.Name a pa, iter, [], 0⟩] scope pos) 0 (.ref I) acc { cenv with scope := relabel scope env }) (RR acc cenv.locals) s₄) E s₃) E s₂ := by
  refine wpAny_newObj_type (wpAny_newFunctionEnv hcell (by intro y hy; simp at hy) (fun h₁ hns₁ hsb₁ => ?_) hkind)
  dsimp only at hns₁ hsb₁ ⊢
  generalize hH2 : s₂.heap.push { cls := .type "list", dict := none, data := .seq ([] : List Value).toArray } = H2 at hns₁ hsb₁ ⊢
  have hC : H2.objs.size = s₂.heap.objs.size + 1 := by rw [← hH2, Heap.size_push]
  have hDC : s₂.heap.objs.size ≠ H2.objs.size := by rw [hC]; exact Nat.ne_of_lt (Nat.lt_succ_self _)
  have below : ∀ b, b < s₂.heap.objs.size → b ≠ H2.objs.size ∧ b ≠ s₂.heap.objs.size := fun b hb => ⟨by rw [hC]; exact Nat.ne_of_lt (Nat.lt_succ_of_lt hb), Nat.ne_of_lt hb⟩
  have old : ∀ b o, s₂.heap.get? b = some o → h₁.get? b = some o := fun b o e => hsb₁.extBut b o (below b (Heap.lt_size e)).1 (Heap.get?_push_of_some _ (hH2 ▸ Heap.get?_push_of_some _ e))
  have hacc : h₁.get? s₂.heap.objs.size = some (lst []) := hsb₁.extBut _ _ hDC (Heap.get?_push_of_some _ (hH2 ▸ Heap.get?_push_size _ rfl))
  have hst₁ : St 0 h₁ := W.frame _ _ _ hst fun b hb o e => old b o e
  have loop : ∀ s₃ : Shared, s₃ = { s₂ with heap := h₁, toks := s₂.toks + ([] : List (Str × Value)).length } →
      codeAny (model prog w) A (.compLoop (.ListComp elt [⟨.Name a pa, iter, [], 0⟩] scope pos) 0 (.ref I) (.ref s₂.heap.objs.size) (compEnvC scope cl H2.objs.size env))
        (RR (.ref s₂.heap.objs.size) H2.objs.size) s₃ := by
    rintro s₃ rfl
    refine codeAny_compLoop_list
      (fun k s' => ∃ h' tk i ys m', s' = { s₂ with heap := h', toks := tk } ∧ i ≤ n ∧ k = n + 1 - i ∧ ys.length = i ∧ St i h' ∧ h'.Ns H2.objs.size m' ∧ h'.get? s₂.heap.objs.size = some (lst ys) ∧
        (∀ c o, c ∉ wr → s₂.heap.get? c = some o → h'.get? c = some o) ∧ ∀ j v, ys[j]? = some v → P j v) ?_ (n + 1)
      ⟨h₁, _, 0, [], _, rfl, Nat.zero_le _, rfl, rfl, hst₁, hns₁, hacc, fun c o _ e => old c o e, fun j v e => by simp at e⟩
    rintro k s' ⟨h', tk, i, ys, m', rfl, hi, rfl, hyl, hst', hn', hD', hk', hP'⟩
    have wrfp : ∀ c, s₂.heap.objs.size ≤ c → c ∉ wr := fun c hc hm => absurd (hfp c (W.sub c hm)) (Nat.not_lt.mpr hc)
    have hDw := wrfp s₂.heap.objs.size (Nat.le_refl _)
    have hCw := wrfp H2.objs.size (by rw [hC]; exact Nat.le_succ _)
    by_cases hlt : i < n
    · refine W.item i _ _ _ hlt hst' fun x h₃ tk₂ hPt' hst₃ up₃ => ?_
      refine wpAny_assign_Name (wpAny_storeName_local (lookup_relabel_local hxa) (hn'.at' fun o e => up₃ _ o hCw e) (fun h₄ hn₄ hs₄' => ?_) (by simp [compEnvC, relabel, hkind]))
      have hs₄ : ∀ c o, c ≠ H2.objs.size → h₃.get? c = some o → h₄.get? c = some o := fun c o hc e => hs₄'.extBut c o hc e
      have hst₄ : St (i + 1) h₄ := W.frame _ _ _ hst₃ fun c hc o e => hs₄ c o (below c (hfp c hc)).1 e
      have up₄ : ∀ c o, c ∉ wr → s₂.heap.get? c = some o → h₄.get? c = some o := fun c o hc e => hs₄ c o (below c (Heap.lt_size e)).1 (up₃ c o hc (hk' c o hc e))
      have hD₄ : h₄.get? s₂.heap.objs.size = some (lst ys) := hs₄ _ _ hDC (up₃ _ _ hDw hD')
      refine wpAny_mono (elt_ok i x H2.objs.size h₄ _ _ _ hlt hPt' (by rw [hC]; exact Nat.le_succ _) hn₄ (by simp) up₄) (fun v s₅ h₅ => ?_) fun _ _ e => e
      obtain ⟨hPv, h₅, tk₅, rfl, st₅⟩ := h₅
      refine append_at (hsz := by show ys.toArray.size ≤ sizeLine; rw [List.size_toArray, hyl]; exact Nat.le_trans hi hn) (st₅ _ _ hD₄) fun h₆ hs₆ hD₆ => ?_
      refine ⟨n + 1 - (i + 1), by omega, h₆, tk₅, i + 1, ys ++ [v], _, rfl, hlt, rfl, by rw [List.length_append, List.length_singleton, hyl],
        W.frame _ _ _ hst₄ (fun c hc o e => hs₆.extBut _ _ (below c (hfp c hc)).2 (st₅ c o e)), (hn₄.at' fun o e => hs₆.extBut _ _ (Ne.symm hDC) (st₅ _ o e)), hD₆.trans (congrArg some (lst_snoc ys v)),
        fun c o hc e => hs₆.extBut _ _ (below c (Heap.lt_size e)).2 (st₅ _ _ (up₄ c o hc e)), fun j u e => ?_⟩
      by_cases hj : j < ys.length
      · rw [List.getElem?_append_left hj] at e; exact hP' j u e
      · rw [List.getElem?_append_right (Nat.not_lt.mp hj)] at e
        have hj0 : j - ys.length = 0 := by
          rcases Nat.eq_zero_or_pos (j - ys.length) with h | h
          · exact h
          · rw [List.getElem?_eq_none (by simp; omega)] at e; cases e
        rw [hj0] at e
        have hji : j = i := by omega
        have : u = v := by simpa using e.symm
        rw [hji, this]; exact hPv
    · have hin : i = n := Nat.le_antisymm hi (Nat.not_lt.mp hlt)
      subst hin
      refine W.done _ _ _ hst' fun h₂ tk₂ hk₂ => ?_
      exact hRR _ _ h₂ tk₂ _ ys hyl hP' (Nat.le_refl _) (by rw [hC]; exact Nat.le_succ _) (Ne.symm hDC) (hk₂ _ _ hDw hD') (hn'.at' fun o e => hk₂ _ o hCw e) fun c o hc e => hk₂ c o hc (hk' c o hc e)
  exact codeAny_compStart_list (loop _ rfl) (W.self 0 _ _ _ (by exact hst₁) (loop _ rfl))

theorem ints_of_get {zs : List Value} {ns : List Int} (hl : zs.length = ns.length) (h : ∀ (i : Nat) (v : Value), zs[i]? = some v → ∃ t, v = Value.int (ns.getD i 0) t) : IntsAre zs ns := by
  induction zs generalizing ns with
  | nil =>
    have : ns = [] := List.length_eq_zero_iff.mp hl.symm
    subst this; exact .nil
  | cons z zs ih =>
    cases ns with
    | nil => simp at hl
    | cons n ns =>
      obtain ⟨t, rfl⟩ := h 0 z rfl
      have : (n :: ns).getD 0 0 = n := rfl
      rw [this]
      exact .cons n t (ih (by simpa using hl) fun i v e => by
        have := h (i + 1) v (by simpa using e)
        simpa using this)

theorem get_none {h : Heap} {c : Addr} (hc : h.objs.size ≤ c) : h.get? c = none := by
  cases q : h.get? c with
  | none => rfl
  | some o => exact absurd (Heap.lt_size q) (Nat.not_lt.mpr hc)

/-- what a comprehension leaves: the new list on the ledger -/
theorem comp_fin {h₀ : Heap} {L : Addr} {m : Str → Option Value} {news : List (Addr × Obj)} {s : Shared} {h h'' : Heap} {D C : Addr} {ys : List Value} (F : Fr h₀ L s.heap m) (N : News h₀ L s.heap news) (hD : s.heap.objs.size ≤ D) (hC : s.heap.objs.size ≤ C) (hCD : C ≠ D)
    (hDl : h.get? D = some (lst ys)) (upS : ∀ c o, s.heap.get? c = some o → h.get? c = some o) (hs'' : Heap.SameBut C h h'') :
    Fr h₀ L h'' m ∧ News h₀ L h'' ((D, lst ys) :: news) ∧ ∀ p ∈ news, p.1 < D := by
  have upS' : ∀ c o, s.heap.get? c = some o → h''.get? c = some o := fun c o e => hs''.extBut c o (Nat.ne_of_lt (Nat.lt_of_lt_of_le (Heap.lt_size e) hC)) (upS c o e)
  refine ⟨⟨F.ns.at' fun o e => upS' _ o e, fun c o e => upS' c o (F.keep c o e), F.above⟩, fun q hq => ?_, fun q hq => Nat.lt_of_lt_of_le (Heap.lt_size (N q hq).1) hD⟩
  rcases List.mem_cons.mp hq with rfl | hq
  · refine ⟨hs''.extBut _ _ (Ne.symm hCD) hDl, ?_, ?_⟩
    · exact Nat.ne_of_gt (Nat.lt_of_lt_of_le F.ns.lt hD)
    · cases q : h₀.get? D with
      | none => rfl
      | some o => exact absurd (Heap.lt_size (F.keep _ _ q)) (Nat.not_lt.mpr hD)
  · exact ⟨upS' _ _ (N q hq).1, (N q hq).2⟩

theorem comp_list {h₀ : Heap} {L : Addr} {m : Str → Option Value} {news : List (Addr × Obj)} {s : Shared} {elt iter : PySem.Expr} {a : Str} {pa : Pos} {scope : Scope} {cl : List (Str × Addr)} {pos : Pos} {l : Addr} {vs : List Value} {Q : Value → Shared → Prop} (P : Nat → Value → Prop)
    (hh : A.handled = none) (F : Fr h₀ L s.heap m) (N : News h₀ L s.heap news) (ha : s.heap.IsList l vs.toArray) (hz : vs.length ≤ sizeLine)
    (hiter : ∀ Q' : Value → Shared → Prop, Q' (.ref l) s → wpAny (model prog w) A (eval iter env) Q' E s)
    (elt_ok : ∀ i x C h tk m₂ (E' : Value → Shared → Prop), vs[i]? = some x → s.heap.get? C = none → h.Ns C m₂ → m₂ a = some x → (∀ c o, s.heap.get? c = some o → h.get? c = some o) →
      wpAny (model prog w) A (eval elt (compEnvC scope cl C env)) (fun v s' => P i v ∧ ∃ h' tk', s' = { s with heap := h', toks := tk' } ∧ h.StaysIn h') E' { s with heap := h, toks := tk })
    (fin : ∀ D h' tk zs, Fr h₀ L h' m → News h₀ L h' ((D, lst zs) :: news) → (∀ p ∈ news, p.1 < D) → zs.length = vs.length → (∀ (i : Nat) v, zs[i]? = some v → P i v) → Q (.ref D) { s with heap := h', toks := tk })
    (hclos : closureFor scope env = pure cl) (hcell : ∀ y ∈ scope.names, y.2 ≠ .cell) (hkind : scope.kind = .function)
    (hnames : ∀ y ∈ scope.names, y.2 = .local → scope.names.lookup y.1 = some .local) (hxa : scope.names.lookup a = some .local)
    (hs : ∀ x, foldedSetIterable iter env x = pure x) :
    wpAny (model prog w) A (eval (.ListComp elt [⟨.Name a pa, iter, [], 0⟩] scope pos) env) Q E s := by
  rw [eval_ListComp]
  refine wpAny_comprehension_free (use := none) rfl hs hclos hkind hnames (hiter _ ?_)
  obtain ⟨o1, ho1, _⟩ := id ha
  have a1 := Heap.lt_size ho1
  refine wpAny_pyIter_list ha ?_
  have W := Walks.list (prog := prog) (w := w) (A := A) hh s.heap.objs.size l (Nat.ne_of_lt a1) vs.toArray
  have hk : ∀ c o, s.heap.get? c = some o → (s.heap.push { cls := .type "list_iterator", data := .fields #[.ref l, .int 0 0] }).get? c = some o := fun c o e => Heap.get?_push_of_some _ e
  have hsz : (s.heap.push { cls := .type "list_iterator", data := .fields #[.ref l, .int 0 0] }).objs.size = s.heap.objs.size + 1 := Heap.size_push ..
  have nw : ∀ c o, s.heap.get? c = some o → c ∉ [s.heap.objs.size] := fun c o e hm => Nat.lt_irrefl _ ((List.mem_singleton.mp hm) ▸ Heap.lt_size e)
  refine comp_one P hh W ⟨⟨_, Heap.get?_push_size _ rfl, rfl, rfl⟩, ha.at fun o e => hk l o e⟩ ?_ ?_ hcell hkind hxa ?_ ?_
  · intro c hc
    show c < (s.heap.push _).objs.size
    rw [hsz]
    simp only [List.mem_cons, List.not_mem_nil, or_false] at hc
    rcases hc with rfl | rfl
    · exact Nat.lt_succ_self _
    · exact Nat.lt_succ_of_lt a1
  · rw [List.size_toArray]; exact hz
  · intro i x C h tk m₂ E' hlt hx hCs hns hma hup
    exact elt_ok i x C h tk m₂ E' (by simpa using hx) (get_none (Nat.le_trans (Nat.le_succ _) (Nat.le_trans (Nat.le_of_eq hsz.symm) hCs))) hns hma fun c o e => hup c o (nw c o e) (hk c o e)
  · intro D C h tk m' ys hyl hP hD hC hCD hDl hns hup
    have hD' : s.heap.objs.size ≤ D := Nat.le_trans (Nat.le_succ _) (Nat.le_trans (Nat.le_of_eq hsz.symm) hD)
    have hC' : s.heap.objs.size ≤ C := Nat.le_trans (Nat.le_succ _) (Nat.le_trans (Nat.le_of_eq hsz.symm) hC)
    refine ⟨m', hns, fun h'' hs'' => ?_⟩
    obtain ⟨F'', N'', l''⟩ := comp_fin F N hD' hC' hCD hDl (fun c o e => hup c o (nw c o e) (hk c o e)) hs''
    exact fin D h'' tk ys F'' N'' l'' (by rw [hyl, List.size_toArray]) hP

end
theorem bools_true : ∀ {zs : List Value}, (∀ (i : Nat) v, zs[i]? = some v → v = Value.bool true) → LSm.BoolsAre zs (List.replicate zs.length true)
  | [], _ => .nil
  | z :: zs, h => by
    have : z = .bool true := h 0 z rfl
    subst this
    exact .cons true (bools_true fun i v e => h (i + 1) v (by simpa using e))
theorem all_true (n : Nat) : (List.replicate n true).all id = true := by simp

section
variable {prog : Program} {w : World} {A : Around} {E : Value → Shared → Prop} {s : Shared} {env : Env}
theorem ldC {M : Model} {scope : Scope} {cl : List (Str × Addr)} {C : Addr} {m₂ : Str → Option Value} {x : Str} {pos : Pos} {v : Value} {Q : Value → Shared → Prop} (hns : s.heap.Ns C m₂) (hv : m₂ x = some v) (h : Q v s)
    (hk : scope.kind = .function) (hl : scope.names.lookup x = some .local) (hd : (x == ("__debug__" : Str)) = false) : wpAny M A (eval (.Name x pos) (compEnvC scope cl C env)) Q E s :=
  wpAny_Name (wpAny_loadName_local (by simp [compEnvC, relabel, hk]) (lookup_relabel_local hl) hns hv h) hd
/-- (a + b) % 2 -/
theorem elt_sum {scope : Scope} {cl : List (Str × Addr)} {C : Addr} {m₂ : Str → Option Value} {a b : Str} {p1 p2 p3 p4 p5 : Pos} {kk : Nat} {x y : Int} {tx ty : Tok} {h : Heap} {tk : Nat} (hns : h.Ns C m₂) (hx : m₂ a = some (.int x tx)) (hy : m₂ b = some (.int y ty))
    (hk : scope.kind = .function) (ha : scope.names.lookup a = some .local) (hb : scope.names.lookup b = some .local) (hda : (a == ("__debug__" : Str)) = false) (hdb : (b == ("__debug__" : Str)) = false) :
    wpAny (model prog w) A (eval (.BinOp (.BinOp (.Name a p1) .Add (.Name b p2) p3) .Mod (.Constant (.int 2) kk p4) p5) (compEnvC scope cl C env))
      (fun v s' => (∃ t, v = .int ((x + y).fmod 2) t) ∧ ∃ h' tk', s' = { s with heap := h', toks := tk' } ∧ h.StaysIn h') E { s with heap := h, toks := tk } := by
  refine wpAny_BinOp (wpAny_BinOp (ldC hns hx (ldC hns hy (P.add_int (wpAny_Constant_int ?_)) hk hb hdb) hk ha hda))
  exact mod_int' (by decide) ⟨⟨_, rfl⟩, _, _, rfl, fun _ _ e => e⟩
end
end Mine

end

section
open PySem PySem.W PySem.Calls PyProof.Rows PyProof.V PySem.Spec PyProof.Rows.LCg
namespace Mine
section
variable {prog : Program} {w : World} {A : Around} {E : Value → Shared → Prop} {s₂ : Shared} {env : Env}
/-- a name given a list comprehension over zip; the comprehension's own names go behind the store -/
theorem comp_zipA {h₀ : Heap} {L : Addr} {m : Str → Option Value} {news : List (Addr × Obj)} {s : Shared} {elt iter : PySem.Expr} {a b : Str} {pa pb tp : Pos} {kk : Nat} {scope : Scope} {cl : List (Str × Addr)} {pos py spos : Pos} {y : Str} {l1 l2 : Addr} {vs ws : List Value} {ns ms : List Int} {Q : Flow → Shared → Prop} (f : Int → Int → Int) (hL : env.locals = L)
    (hsw : swapsWith (.ListComp elt [⟨.Tuple [.Name a pa, .Name b pb] kk tp, iter, [], 0⟩] scope pos) (some (.Name y py)) spos.line env = pure true)
    (hh : A.handled = none) (F : Fr h₀ L s.heap m) (N : News h₀ L s.heap news) (ha : s.heap.IsList l1 vs.toArray) (hb : s.heap.IsList l2 ws.toArray) (hi : IntsAre vs ns) (hj : IntsAre ws ms) (hz : ns.length ≤ sizeLine)
    (hiter : ∀ Q' : Value → Shared → Prop, wpAny (model prog w) A (call (.type "zip") [.ref l1, .ref l2]) Q' E s → wpAny (model prog w) A (eval iter env) Q' E s)
    (elt_ok : ∀ x y tx ty C h tk m₂ (E' : Value → Shared → Prop), h.Ns C m₂ → m₂ a = some (.int x tx) → m₂ b = some (.int y ty) →
      wpAny (model prog w) A (eval elt (compEnvC scope cl C env)) (fun v s' => (∃ t, v = .int (f x y) t) ∧ ∃ h' tk', s' = { s with heap := h', toks := tk' } ∧ h.StaysIn h') E' { s with heap := h, toks := tk })
    (fin : ∀ D h' tk zs, Fr h₀ L h' (fun z => if z = y then some (.ref D) else m z) → News h₀ L h' ((D, lst zs) :: news) → (∀ p ∈ news, p.1 < D) → IntsAre zs (List.zipWith f ns ms) → Q .next { s with heap := h', toks := tk })
    (hclos : closureFor scope env = pure cl) (hcell : ∀ y ∈ scope.names, y.2 ≠ .cell) (hkind : scope.kind = .function)
    (hnames : ∀ y ∈ scope.names, y.2 = .local → scope.names.lookup y.1 = some .local) (hxa : scope.names.lookup a = some .local) (hxb : scope.names.lookup b = some .local) (hab : ¬ a = b)
    (hs : ∀ x, foldedSetIterable iter env x = pure x) (hy : env.kindOf y = some .local) (hp : (env.scope.kind == .class || (env.scope.kind == .module && env.locals != env.globals)) = false) :
    wpAny (model prog w) A (exec (.Assign [.Name y py] (.ListComp elt [⟨.Tuple [.Name a pa, .Name b pb] kk tp, iter, [], 0⟩] scope pos) spos) env) Q E s := by
  subst hL
  rw [exec_Assign_Name_used _ _ _ _ hsw]
  refine wpAny_bind (wpAny_standAt (wpAny_bind ?_))
  show wpAny _ A (do let _ ← comprehension (.ListComp elt [⟨.Tuple [.Name a pa, .Name b pb] kk tp, iter, [], 0⟩] scope pos) scope env _ (newList []) false (eval iter env) (some (assign (.Name y py) env))) _ _ s
  refine wpAny_bind (wpAny_mono (wpAny_comprehension_free (use := some (assign (.Name y py) env)) (Q := fun _ s' => Q .next s') rfl hs hclos hkind hnames (hiter _ ?_)) (fun _ s' hq => wpAny_pure (wpAny_pure hq)) fun _ _ e => e)
  refine call_zip_2 ha hb fun h' hz' hTI hTO hit1 hit2 hsz hk => ?_
  refine wpAny_pyIter_zip hz' ?_
  obtain ⟨o1, ho1, _⟩ := id ha
  obtain ⟨o2, ho2, _⟩ := id hb
  have a1 := ltN (Heap.lt_size ho1)
  have a2 := ltN (Heap.lt_size ho2)
  have D : ZipApart (s.heap.objs.size + 4) (s.heap.objs.size + 2) (s.heap.objs.size + 3) s.heap.objs.size (s.heap.objs.size + 1) l1 l2 := by
    constructor <;> (refine neN ?_; omega)
  have W := WalksT.zip2 (prog := prog) (w := w) (A := A) hh _ _ _ _ _ l1 l2 D vs.toArray ws.toArray
  have hl1 : h'.IsList l1 vs.toArray := ha.at fun o e => hk l1 o e
  have hl2 : h'.IsList l2 ws.toArray := hb.at fun o e => hk l2 o e
  have hnN : min vs.toArray.size ws.toArray.size = (List.zipWith f ns ms).length := by
    rw [List.size_toArray, List.size_toArray, hi.length, hj.length, List.length_zipWith]
  refine comp_pairs (fun i v => ∃ t, v = .int ((List.zipWith f ns ms).getD i 0) t) hh W ⟨hz', hTI, ⟨_, _, hTO⟩, hit1, hit2, hl1, hl2⟩ ?_ ?_ ?_ hcell hkind hxa hxb hab ?_ ?_
  · intro c hc
    show c < h'.objs.size
    rw [hsz]
    simp only [List.mem_cons, List.not_mem_nil, or_false] at hc
    rcases hc with rfl | rfl | rfl | rfl | rfl | rfl | rfl <;> (refine ltN ?_; omega)
  · refine Nat.le_trans (Nat.min_le_left _ _) ?_
    rw [List.size_toArray, hi.length]; exact hz
  · rintro i vals ⟨x, y', _, _, rfl⟩; exact ⟨x, y', rfl⟩
  · rintro i x y₁ C h tk m₂ E' hlt ⟨x', y', hx, hy₁, he⟩ hns hma hmb hup
    have e1 : x = x' := by have := congrArg (·[0]?) he; simpa using this
    have e2 : y₁ = y' := by have := congrArg (·[1]?) he; simpa using this
    subst e1 e2
    have hlt' : i < (List.zipWith f ns ms).length := hnN ▸ hlt
    have hin : i < ns.length := by rw [List.length_zipWith] at hlt'; omega
    have hjn : i < ms.length := by rw [List.length_zipWith] at hlt'; omega
    obtain ⟨tx, hx'⟩ := hi.get i ns[i] (List.getElem?_eq_getElem hin)
    obtain ⟨ty, hy'⟩ := hj.get i ms[i] (List.getElem?_eq_getElem hjn)
    have ex : x = .int ns[i] tx := by
      have q : vs[i]? = some x := by simpa using hx
      rw [hx'] at q; exact (Option.some.inj q).symm
    have ey : y₁ = .int ms[i] ty := by
      have q : ws[i]? = some y₁ := by simpa using hy₁
      rw [hy'] at q; exact (Option.some.inj q).symm
    subst ex ey
    refine wpAny_mono (elt_ok _ _ tx ty C h tk m₂ E' hns hma hmb) (fun v s' hv => ?_) fun _ _ e => e
    obtain ⟨⟨t, rfl⟩, h5, tk5, rfl, st5⟩ := hv
    refine ⟨⟨t, ?_⟩, h5, tk5, rfl, st5⟩
    rw [List.getD_eq_getElem?_getD, List.getElem?_eq_getElem hlt']
    simp
  · intro D C h tk m' ys hyl hP hD hC hCD hDl hns hup
    have hwr : ∀ c, c < s.heap.objs.size → c ∉ [s.heap.objs.size + 4, s.heap.objs.size + 3, s.heap.objs.size, s.heap.objs.size + 1] := by
      intro c hc hm
      simp only [List.mem_cons, List.not_mem_nil, or_false] at hm
      rcases hm with rfl | rfl | rfl | rfl <;> (have hc' := ltN hc; omega)
    have hsz' : h'.objs.size = s.heap.objs.size + 5 := hsz
    have upS : ∀ c o, s.heap.get? c = some o → h.get? c = some o := fun c o e => hup c o (hwr c (Heap.lt_size e)) (hk c o e)
    have hD5 : s.heap.objs.size + 5 ≤ D := by rw [← hsz']; exact hD
    have hC5 : s.heap.objs.size + 5 ≤ C := by rw [← hsz']; exact hC
    have hLt := F.ns.lt
    have hCL : C ≠ env.locals := Nat.ne_of_gt (Nat.lt_of_lt_of_le hLt (by show s.heap.objs.size ≤ C; omega))
    have hDL : D ≠ env.locals := Nat.ne_of_gt (Nat.lt_of_lt_of_le hLt (by show s.heap.objs.size ≤ D; omega))
    have hnone : ∀ c : Addr, s.heap.objs.size ≤ c → h₀.get? c = none := fun c hc => by
      cases q : h₀.get? c with
      | none => rfl
      | some o => exact absurd (Heap.lt_size (F.keep _ _ q)) (Nat.not_lt.mpr hc)
    have F₁ : Fr h₀ env.locals h m := ⟨F.ns.at' fun o e => upS _ o e, fun c o e => upS c o (F.keep c o e), F.above⟩
    show wpAny _ A (assign (.Name y py) env (.ref D)) _ _ _
    refine wpAny_assign_Name (wpAny_storeName_local hy F₁.ns (fun h₂ hn₂ hs₂ => ?_) hp)
    have F₂ := F₁.set hn₂ hs₂
    refine ⟨m', hns.sameBut hs₂ hCL, fun h'' hs'' => ?_⟩
    refine fin D h'' _ ys (F₂.change hs'' hCL (hnone C (by show s.heap.objs.size ≤ C; omega))) (fun q hq => ?_) (fun q hq => Nat.lt_of_lt_of_le (Heap.lt_size (N q hq).1) (by omega)) (ints_of_get (hyl.trans hnN) hP)
    rcases List.mem_cons.mp hq with rfl | hq
    · exact ⟨hs''.extBut _ _ (Ne.symm hCD) (hs₂.extBut _ _ hDL hDl), hDL, hnone D (by show s.heap.objs.size ≤ D; omega)⟩
    · exact ⟨hs''.extBut _ _ (Nat.ne_of_lt (Nat.lt_of_lt_of_le (Heap.lt_size (N q hq).1) (by show s.heap.objs.size ≤ C; omega))) (hs₂.extBut _ _ (N q hq).2.1 (upS _ _ (N q hq).1)), (N q hq).2⟩
end
end Mine

end

section
open PySem PySem.W PySem.Calls PyProof.Rows
namespace Mine
section
variable {prog : Program} {w : World} {A : Around} {E : Value → Shared → Prop} {s : Shared} {h₀ : Heap} {env : Env} {L : Addr} {m₀ : Str → Option Value} {news : List (Addr × Obj)} {a b : Str} {pa pb tp pos : Pos} {kk : Nat} {body : List Stmt} {Q : Flow → Shared → Prop} {iter : Expr}

theorem news_head {h : Heap} {p : Addr × Obj} {r : List (Addr × Obj)} (N : News h₀ L h (p :: r)) : News h₀ L h [p] := fun q hq => N q (by rw [List.mem_singleton.mp hq]; exact .head _)
theorem tpost_step {J : (Str → Option Value) → List (Addr × Obj) → Prop} {own : List (Addr × Obj)} {wr : List Addr} {adr : List Addr} {s₁ : Shared} (hadr : ∀ b ∈ adr, b ∉ wr) (f : Flow) (s₂ : Shared) (h : TPost h₀ L J own adr s₁ Q f s₂) :
    LoopStepV h₀ L wr own (fun m nx => J m nx ∧ nx.map (·.1) = adr) s₁ (fun v s' => Q (.ret v) s') (fun s' => Q .next s') f s₂ := by
  have fin : TEnd h₀ L J own adr s₁ s₂ → LoopStepU h₀ L wr own (fun m nx => J m nx ∧ nx.map (·.1) = adr) s₁ .next s₂ := by
    rintro ⟨h', tk, m', news', nx, rfl, F, N, hn, ho, ha, hJ⟩
    refine ⟨rfl, h', tk, m', nx, rfl, F, fun p hp => ?_, fun p hp => ?_, hJ, ha⟩
    · rcases List.mem_append.mp hp with hp | hp
      · exact N p (ho p hp)
      · exact N p (hn p hp)
    · exact hadr _ (ha ▸ List.mem_map_of_mem hp)
  cases f with
  | ret v => exact h
  | brk => exact h
  | next => exact fin h
  | cont => exact fin h

theorem for_enum {l : Addr} {vs : List Value} {ns : List Int} (J : Nat → (Str → Option Value) → List (Addr × Obj) → Prop) (hL : env.locals = L)
    (hh : A.handled = none) (F : Fr h₀ L s.heap m₀) (N : News h₀ L s.heap news) (hl : h₀.IsList l vs.toArray) (hi : IntsAre vs ns)
    (hiter : ∀ Q' : Value → Shared → Prop, wpAny (model prog w) A (call (.type "enumerate") [.ref l]) Q' E s → wpAny (model prog w) A (eval iter env) Q' E s)
    (hj : J 0 m₀ news)
    (turn : ∀ i n t t' m₁ news₁ h tk own, ns[i]? = some n → news₁.map (·.1) = news.map (·.1) → OwnOff own (news.map (·.1)) → J i m₁ news₁ → Fr h₀ L h (fun y => if y = b then some (.int n t) else if y = a then some (.int (i : Int) t') else m₁ y) → News h₀ L h (news₁ ++ own) →
      wpAny (model prog w) A (execs body env) (TPost h₀ L (J (i + 1)) own (news.map (·.1)) { s with heap := h, toks := tk } Q) E { s with heap := h, toks := tk })
    (done : ∀ m₁ news₁ h tk, J ns.length m₁ news₁ → news₁.map (·.1) = news.map (·.1) → Fr h₀ L h m₁ → News h₀ L h news₁ → Q .next { s with heap := h, toks := tk })
    (ha : env.kindOf a = some .local) (hb : env.kindOf b = some .local) (hp : (env.scope.kind == .class || (env.scope.kind == .module && env.locals != env.globals)) = false) (hs : ∀ x, foldedSetIterable iter env x = pure x)
    (hE : PassesOwn (model prog w) A env E) :
    wpAny (model prog w) A (exec (.For (.Tuple [.Name a pa, .Name b pb] kk tp) iter body [] pos) env) Q E s := by
  subst hL
  have hls : s.heap.IsList l vs.toArray := lst_base F hl
  obtain ⟨ol, hol, _⟩ := id hls
  have hlt := ltN (Heap.lt_size hol)
  refine For_turns F (hiter _ (call_enumerate_list hls fun h₁ he hit hsz hk => ?_)) hs hE
  refine wpAny_pyIter_enum he ?_
  have hLl := ltN F.ns.lt
  have W := WalksT.enumerate (prog := prog) (w := w) (A := A) hh (s.heap.objs.size + 1) s.heap.objs.size l (neN (by omega)) (neN (by omega)) (neN (by omega)) vs.toArray
  have F₁ : Fr h₀ env.locals h₁ m₀ := fr_on F hk
  have N₁ : News h₀ env.locals h₁ news := news_on N hk
  have hnone : ∀ c : Addr, s.heap.objs.size ≤ c → h₀.get? c = none := fun c hc => by
    cases q : h₀.get? c with
    | none => rfl
    | some o => exact absurd (Heap.lt_size (F.keep _ _ q)) (Nat.not_lt.mpr hc)
  have hnwr : ∀ c : Addr, c < s.heap.objs.size → c ∉ [s.heap.objs.size + 1, s.heap.objs.size] := fun c hc hm => by
    have hc' := ltN hc
    simp only [List.mem_cons, List.not_mem_nil, or_false] at hm
    rcases hm with rfl | rfl <;> omega
  have hadr : ∀ c ∈ news.map (·.1), c < s.heap.objs.size := fun c hc => by
    obtain ⟨p, hp, rfl⟩ := List.mem_map.mp hc
    exact Heap.lt_size (N p hp).1
  refine ⟨_, _, _, _, _, _, _, m₀, news, fun i m nx => J i m nx ∧ nx.map (·.1) = news.map (·.1), rfl, KTurns.ofWalksU W.toU, ?_, ?_, ?_, ⟨⟨_, he⟩, hit, hls.at fun o e => hk l o e⟩, F₁, N₁, ⟨hj, rfl⟩, ?_, ?_⟩
  · intro hm
    simp only [List.mem_cons, List.not_mem_nil, or_false] at hm
    rcases hm with e | e | e
    · have := e ▸ hLl; omega
    · have := e ▸ hLl; omega
    · obtain ⟨o', ho', _⟩ := hl
      exact absurd (Heap.lt_size ho') (Nat.not_lt.mpr (e ▸ F.above))
  · intro c hc
    simp only [List.mem_cons, List.not_mem_nil, or_false] at hc
    rcases hc with rfl | rfl
    · exact hnone _ (Nat.le_succ _)
    · exact hnone _ (Nat.le_refl _)
  · intro p hp
    exact hnwr _ (Heap.lt_size (N p hp).1)
  · rintro i v m₁ news₁ h₂ tk₂ own hin ⟨T, vals, rfl, ⟨t, x, hx, rfl⟩, hT⟩ ⟨hJ, hma⟩ hnw hown hget _ _ F₂ N₂
    have hx' : vs[i]? = some x := by simpa using hx
    have hlt' : i < ns.length := by rw [← hi.length]; exact (List.getElem?_eq_some_iff.mp hx').1
    obtain ⟨t₂, e₂⟩ := hi.get i ns[i] (List.getElem?_eq_getElem hlt')
    obtain rfl : x = .int ns[i] t₂ := Option.some.inj (hx'.symm.trans e₂)
    refine kcp_assign hh hT ha hb hp F₂.ns fun h₃ tk₃ hn₃ hs₃ => ?_
    have F₃ : Fr h₀ env.locals h₃ (fun z => if z = b then some (.int ns[i] t₂) else if z = a then some (.int (i : Int) t) else m₁ z) := ⟨hn₃, fun c o e => hs₃ c o (fun q => by subst q; exact absurd (Heap.lt_size e) (Nat.not_lt.mpr F₂.above)) (F₂.keep c o e), F₂.above⟩
    have N₃ : News h₀ env.locals h₃ (news₁ ++ own) := fun p hp => by
      have hp' : p ∈ own ++ news₁ := by
        rcases List.mem_append.mp hp with h | h
        · exact List.mem_append_right _ h
        · exact List.mem_append_left _ h
      exact ⟨hs₃ _ _ (N₂ p hp').2.1 (N₂ p hp').1, (N₂ p hp').2⟩
    refine wpAny_mono (turn i ns[i] t₂ t m₁ news₁ h₃ tk₃ own (List.getElem?_eq_getElem hlt') hma ?_ hJ F₃ N₃) (fun f s₂ q => tpost_step (fun c hc => hnwr c (hadr c hc)) f s₂ q) fun _ _ e => e
    intro p hp c hc e
    have h1 := hown p hp
    have h2 := (N₂ p (List.mem_append_left _ hp)).2.2
    have h3 := ltN (hadr c hc)
    simp only [List.mem_cons, List.not_mem_nil, or_false] at h1
    rcases h1 with q | q | q
    · have := (e.symm.trans q) ▸ h3; omega
    · have := (e.symm.trans q) ▸ h3; omega
    · obtain ⟨o', ho', _⟩ := hl
      rw [q, ho'] at h2; cases h2
  · rintro h' tk m' news' F' N' _ ⟨hJ, hma⟩
    rw [List.size_toArray, hi.length] at hJ
    exact done m' news' h' tk hJ hma F' N'

theorem keep_turn {J : (Str → Option Value) → List (Addr × Obj) → Prop} {own keep : List (Addr × Obj)} {adr : List Addr} {s₁ : Shared} (f : Flow) (s₂ : Shared) (h : TPost h₀ L J (keep ++ own) adr s₁ Q f s₂) :
    TPost h₀ L (fun m nx => ∃ n1, nx = n1 ++ keep ∧ J m n1 ∧ n1.map (·.1) = adr) own (adr ++ keep.map (·.1)) s₁ Q f s₂ := by
  have fin : TEnd h₀ L J (keep ++ own) adr s₁ s₂ → TEnd h₀ L (fun m nx => ∃ n1, nx = n1 ++ keep ∧ J m n1 ∧ n1.map (·.1) = adr) own (adr ++ keep.map (·.1)) s₁ s₂ := by
    rintro ⟨h', tk, m', news', nx, rfl, F, N, hn, ho, ha, hJ⟩
    refine ⟨h', tk, m', news', nx ++ keep, rfl, F, N, fun p hp => ?_, fun p hp => ho p (List.mem_append_right _ hp), by rw [List.map_append, ha], nx, rfl, hJ, ha⟩
    rcases List.mem_append.mp hp with hp | hp
    · exact hn p hp
    · exact ho p (List.mem_append_left _ hp)
  cases f with
  | ret v => exact h
  | brk => exact h
  | next => exact fin h
  | cont => exact fin h
theorem keep_off {own keep : List (Addr × Obj)} {adr : List Addr} (h1 : OwnOff keep adr) (h2 : OwnOff own (adr ++ keep.map (·.1))) : OwnOff (keep ++ own) adr := fun p hp c hc => by
  rcases List.mem_append.mp hp with hp | hp
  · exact h1 p hp c hc
  · exact h2 p hp c (List.mem_append_left _ hc)

/-- for_enum inside another loop: the outer loop's own objects are carried along -/
theorem for_enumK {keep : List (Addr × Obj)} {l : Addr} {vs : List Value} {ns : List Int} (J : Nat → (Str → Option Value) → List (Addr × Obj) → Prop) (hL : env.locals = L)
    (hh : A.handled = none) (F : Fr h₀ L s.heap m₀) (N : News h₀ L s.heap (news ++ keep)) (hoff : OwnOff keep (news.map (·.1))) (hl : h₀.IsList l vs.toArray) (hi : IntsAre vs ns)
    (hiter : ∀ Q' : Value → Shared → Prop, wpAny (model prog w) A (call (.type "enumerate") [.ref l]) Q' E s → wpAny (model prog w) A (eval iter env) Q' E s)
    (hj : J 0 m₀ news)
    (turn : ∀ i n t t' m₁ news₁ h tk own, ns[i]? = some n → news₁.map (·.1) = news.map (·.1) → OwnOff own (news.map (·.1)) → J i m₁ news₁ → Fr h₀ L h (fun y => if y = b then some (.int n t) else if y = a then some (.int (i : Int) t') else m₁ y) → News h₀ L h (news₁ ++ own) →
      wpAny (model prog w) A (execs body env) (TPost h₀ L (J (i + 1)) own (news.map (·.1)) { s with heap := h, toks := tk } Q) E { s with heap := h, toks := tk })
    (done : ∀ m₁ news₁ h tk, J ns.length m₁ news₁ → news₁.map (·.1) = news.map (·.1) → Fr h₀ L h m₁ → News h₀ L h (news₁ ++ keep) → Q .next { s with heap := h, toks := tk })
    (ha : env.kindOf a = some .local) (hb : env.kindOf b = some .local) (hp : (env.scope.kind == .class || (env.scope.kind == .module && env.locals != env.globals)) = false) (hs : ∀ x, foldedSetIterable iter env x = pure x)
    (hE : PassesOwn (model prog w) A env E) :
    wpAny (model prog w) A (exec (.For (.Tuple [.Name a pa, .Name b pb] kk tp) iter body [] pos) env) Q E s := by
  refine for_enum (fun i m nx => ∃ n1, nx = n1 ++ keep ∧ J i m n1 ∧ n1.map (·.1) = news.map (·.1)) hL hh F N hl hi hiter ⟨news, rfl, hj, rfl⟩ ?_ ?_ ha hb hp hs hE
  · rintro i n t t' m₁ news₁ h tk own hn _ ho ⟨n1, rfl, hJ, hm⟩ F₁ N₁
    rw [List.map_append] at ho ⊢
    rw [List.append_assoc] at N₁
    exact wpAny_mono (turn i n t t' m₁ n1 h tk (keep ++ own) hn hm (keep_off hoff ho) hJ F₁ N₁) (fun f s₂ q => keep_turn f s₂ q) fun _ _ e => e
  · rintro m₁ news₁ h tk ⟨n1, rfl, hJ, hm⟩ _ F₁ N₁
    exact done m₁ n1 h tk hJ hm F₁ N₁
end
end Mine

namespace Mine
open PyProof.Rows.LCg PyProof.Rows.LCt
section
variable {prog : Program} {w : World} {A : Around} {E : Value → Shared → Prop} {s : Shared} {h₀ : Heap} {env : Env} {L : Addr} {m : Str → Option Value} {news : List (Addr × Obj)}
end
end Mine

namespace Mine
section
variable {prog : Program} {w : World} {K : Frag} {p : Program} {loose : List Str} {mean : ExcName → Option Value} {mg mb : Str → Option Value} {base : Heap} {fr : List Env}
theorem Gd.pushC {h₀ h : Heap} {L a : Addr} {m : Str → Option Value} {name : Str} {scope : Scope} {cd : Value} (G : Gd K p loose mean mg mb base fr h₀) (F : Fr h₀ L h m) (hk : scope.kind = .function) :
    Gd K p loose mean mg mb base (envOfC name scope L a cd :: fr) h := by
  have hnew : base.get? L = none := by
    cases hq : base.get? L with
    | none => rfl
    | some o => exact absurd (Nat.lt_of_lt_of_le (Heap.lt_size (G.stays L o hq)) F.above) (Nat.lt_irrefl _)
  exact ⟨fun b o e => F.keep b o (G.stays b o e), .cons (by show scope.kind ≠ .module; rw [hk]; decide) rfl F.ns hnew (G.frames.of_keeps fun b o e _ => ⟨o, F.keep b o e, rfl⟩), G.kin.keeps F.keep, G.top.keeps F.keep, G.kbase, G.tbase, dicts_push G.dicts F rfl⟩
end
end Mine

end

section
open PySem PySem.W PySem.Calls PyProof.Rows
namespace Mine
abbrev frs (fr : List Env) : List Addr := fr.filterMap (·.frame)
/-- around a suite that handles an exception -/
abbrev arH (v : Value) (dp un : Nat) (gd : Option (List Code)) (fr : List Env) : Around := { handled := some v, depth := dp, frames := some fr, guards := gd, units := un }
section
variable {prog : Program} {w : World} {K : Frag} {p : Program} {loose : List Str} {mean : ExcName → Option Value} {mg mb : Str → Option Value} {base : Heap} {fr : List Env}

theorem Gd.turn {g g' : Heap} (G : Gd K p loose mean mg mb base fr g) (T : KtsTurn (frs fr) g g') : Gd K p loose mean mg mb base fr g' := by
  have st : base.StaysIn g' := fun b o e => T.other b o (G.stays b o e) fun hm => by
    rw [(G.frames.mem hm).1] at e; cases e
  refine ⟨st, G.frames.of_keeps fun b o e _ => ?_, G.kbase.keeps st, G.tbase.keeps st, G.kbase, G.tbase, G.dicts.turn T⟩
  obtain ⟨sl, hs⟩ := T.up e
  exact ⟨_, hs, rfl⟩

theorem frs_cons {L : Addr} {env : Env} (he : env.frame = some L) {b : Addr} (hm : b ∈ frs (env :: fr)) : b = L ∨ b ∈ frs fr := by
  obtain ⟨env', h1, h2⟩ := List.mem_filterMap.mp hm
  rcases List.mem_cons.mp h1 with rfl | h1
  · rw [he] at h2; exact .inl (Option.some.inj h2).symm
  · exact .inr (List.mem_filterMap.mpr ⟨env', h1, h2⟩)

/-- behind a call that has turned the frames' slots: the ground anew -/
theorem turn_call {g g₁ h h' : Heap} {L : Addr} {m : Str → Option Value} {news : List (Addr × Obj)} {env : Env} (G : Gd K p loose mean mg mb base fr g) (F : Fr g L h m) (N : News g L h news) (he : env.frame = some L)
    (T : KtsTurn (frs (env :: fr)) h g₁) (k : g₁.StaysIn h') : ∃ g', KtsTurn (frs fr) g g' ∧ Fr g' L h' m ∧ News g' L h' news := by
  have hLg : g.get? L = none := kts_self F
  obtain ⟨T', S⟩ := kts_turn_at (h := h') (fs := frs fr) (g := g)
    (fun b hb => by obtain ⟨_, o, ho, _⟩ := G.frames.mem hb; exact ⟨o, ho⟩)
    (fun b o e nm => k _ _ (T.other b o (F.keep b o e) fun hm => by
      rcases frs_cons he hm with z | z
      · rw [z, hLg] at e; cases e
      · exact nm z))
    (fun b o e hm => by obtain ⟨sl, hs⟩ := T.up (F.keep b o e); exact ⟨sl, k _ _ hs⟩)
  refine ⟨_, T', ⟨?_, S, by rw [T'.size]; exact F.above⟩, fun q hq => ⟨?_, (N q hq).2.1, T'.none_ _ (N q hq).2.2⟩⟩
  · obtain ⟨o, es, ep, ho, hd, r⟩ := F.ns
    obtain ⟨sl, hs⟩ := T.up ho
    exact ⟨_, es, ep, k _ _ hs, hd, r⟩
  · refine k _ _ (T.other _ _ (N q hq).1 fun hm => ?_)
    rcases frs_cons he hm with z | z
    · exact (N q hq).2.1 z
    · obtain ⟨_, o, ho, _⟩ := G.frames.mem z
      rw [(N q hq).2.2] at ho; cases ho

theorem list_turn {fs : List Addr} {g g' : Heap} {l : Addr} {its : Array Value} (T : KtsTurn fs g g') (hl : g.IsList l its) : g'.IsList l its := by
  obtain ⟨o, ho, hc, n, hd⟩ := hl
  obtain ⟨sl, hs⟩ := T.up ho
  exact ⟨_, hs, hc, n, hd⟩
theorem turn_nil {g g' : Heap} (T : KtsTurn [] g g') : g.StaysIn g' := fun b o e => T.other b o e (fun h => nomatch h)

section
variable {dp un : Nat} {gd : Option (List Code)} {s' : Shared} {g h : Heap} {L a e t : Addr} {m : Str → Option Value} {name : Str} {scope : Scope} {cd cls : Value} {vs : List Value} {news : List (Addr × Obj)}

theorem A_raise {M : Model} {E : Value → Shared → Prop} {Q : Unit → Shared → Prop} (G : Gd K p loose mean mg mb base fr g) (hx : Heap.MadeExcOf h s'.heap e cls vs) (F : Fr g L h m)
    (hQ : ∀ h' t, RaisedS base g fr e cls t vs [] h' → g.UpToSlots h' → Q () { s' with heap := h' }) (hk : scope.kind = .function) :
    wpAny M (arA (dp + 1) (un + 3) gd (envOf name scope L a cd :: fr)) (leaving (envOf name scope L a cd) (.ref e)) Q E s' :=
  leave_raiseS (A := arA dp un gd fr) (G.below dp un gd) hx F News.nil (fun h' t R _ U => hQ h' t R U) hk

theorem A_on {M : Model} {E : Value → Shared → Prop} {Q : Unit → Shared → Prop} (G : Gd K p loose mean mg mb base fr g) (F : Fr g L h m) (R : RaisedS base h (envOf name scope L a cd :: fr) e cls t vs [] s'.heap) (U : h.UpToSlots s'.heap)
    (hQ : ∀ h', RaisedS base g fr e cls t vs [] h' → g.UpToSlots h' → Q () { s' with heap := h' }) :
    wpAny M (arA (dp + 1) (un + 3) gd (envOf name scope L a cd :: fr)) (leaving (envOf name scope L a cd) (.ref e)) Q E s' :=
  leave_onS (A := arA dp un gd fr) (G.below dp un gd) F R U (fun h' R _ U => hQ h' R U)

/-- the ledger is taken out of the ground, so that it comes through the catching -/
theorem raised_news {h' : Heap} (G : Gd K p loose mean mg mb base fr g) (F : Fr g L h m) (N : News g L h news) (R : RaisedS base h (envOf name scope L a cd :: fr) e cls t vs [] h') (U : h.UpToSlots h') :
    Fr g L (hideAll h (news.map (·.1))) m ∧ RaisedS base (hideAll h (news.map (·.1))) (envOf name scope L a cd :: fr) e cls t vs news h' ∧ (hideAll h (news.map (·.1))).UpToSlots h' := by
  have nm : ∀ b o, g.get? b = some o → b ∉ news.map (·.1) := fun b o e q => by
    obtain ⟨p, hp, rfl⟩ := List.mem_map.mp q
    rw [(N p hp).2.2] at e; cases e
  have nL : L ∉ news.map (·.1) := fun q => by
    obtain ⟨p, hp, e⟩ := List.mem_map.mp q
    exact (N p hp).2.1 e
  obtain ⟨oL, es, ep, hL, r⟩ := F.ns
  obtain ⟨⟨B, hB, hBG, _, hfl, hnew⟩, htup⟩ := R
  refine ⟨⟨⟨oL, es, ep, hideAll_get _ hL nL, r⟩, fun b o e => hideAll_get _ (F.keep b o e) (nm b o e), F.above⟩, ⟨⟨B, hB, fun b o e n => hBG b o (of_hideAll _ e) n, fun q hq => ⟨hBG _ _ (N q hq).1 fun hm => ?_, hideAll_none _ (List.mem_map_of_mem hq), fresh_of_stays G.stays (N q hq).2.2⟩, hfl, hnew⟩, htup⟩, fun b o e n => U b o (of_hideAll _ e) n⟩
  rcases kts_mem hm with z | z
  · exact (N q hq).2.1 z
  · obtain ⟨_, o, ho, _⟩ := G.frames.mem z
    rw [(N q hq).2.2] at ho; cases ho

variable {E : Value → Shared → Prop} {n : Str} {b₀ : Stmt} {suite : List Stmt} {pos : Pos} {rest hs : List ExceptHandler} {Q : Flow → Shared → Prop} {tt : Expr} {nn : Option Str} {body : List Stmt}

theorem A_look (G : Gd K p loose mean mg mb base fr g) (F : Fr g L h m) (N : News g L h news) (R : RaisedS base h (envOf name scope L a cd :: fr) e cls t vs [] s'.heap) (U : h.UpToSlots s'.heap)
    (k : ∀ h₂ h₃, Fr g L h₂ m → RaisedS base h₂ (envOf name scope L a cd :: fr) e cls t vs news h₃ → h₂.UpToSlots h₃ →
      wpAny (model prog w) (arA (dp + 1) (un + 3) gd (envOf name scope L a cd :: fr)) (handleBy (.ref e) (envOf name scope L a cd) hs) Q E { s' with heap := h₃ }) :
    wpAny (model prog w) (arA (dp + 1) (un + 3) gd (envOf name scope L a cd :: fr)) (noteFrame (.ref e) (envOf name scope L a cd))
      (fun _ s₂ => wpAny (model prog w) (arA (dp + 1) (un + 3) gd (envOf name scope L a cd :: fr)) (setFlight (.ref e) none) (fun _ s₃ =>
        wpAny (model prog w) (arA (dp + 1) (un + 3) gd (envOf name scope L a cd :: fr)) (handleBy (.ref e) (envOf name scope L a cd) hs) Q E s₃) E s₂) E s' := by
  obtain ⟨F', R', U'⟩ := raised_news G F N R U
  exact kts_lookS (A₀ := arA dp un gd fr) R' F' (G.below dp un gd) U' G.dicts fun h₃ R₃ U₃ => k _ h₃ F' R₃ U₃

theorem A_pass (G : Gd K p loose mean mg mb base fr g) (F : Fr g L h m) (R : RaisedS base h (envOf name scope L a cd :: fr) e cls t vs news s'.heap) (U : h.UpToSlots s'.heap)
    (T : KtsTest prog w K p loose mg mb name scope L a cd cls tt false)
    (k : ∀ h₃, RaisedS base h (envOf name scope L a cd :: fr) e cls t vs news h₃ → h.UpToSlots h₃ → wpAny (model prog w) (arA (dp + 1) (un + 3) gd (envOf name scope L a cd :: fr)) (handleBy (.ref e) (envOf name scope L a cd) rest) Q E { s' with heap := h₃ }) :
    wpAny (model prog w) (arA (dp + 1) (un + 3) gd (envOf name scope L a cd :: fr)) (handleBy (.ref e) (envOf name scope L a cd) (.ExceptHandler (some tt) nn body pos :: rest)) Q E s' :=
  pass_S (A₀ := arA dp un gd fr) R F (G.below dp un gd) U G.kbase G.tbase G.dicts T k

theorem A_hit0 (G : Gd K p loose mean mg mb base fr g) (F : Fr g L h m) (R : RaisedS base h (envOf name scope L a cd :: fr) e cls t vs news s'.heap) (U : h.UpToSlots s'.heap)
    (T : KtsTest prog w K p loose mg mb name scope L a cd cls tt true)
    (k : ∀ h' g', KtsTurn (frs fr) g g' → Fr g' L h' m → News g' L h' news → Gd K p loose mean mg mb base fr g' →
      wpAny (model prog w) (arH (.ref e) (dp + 1) (un + 3) gd (envOf name scope L a cd :: fr)) (execs (b₀ :: suite) (envOf name scope L a cd)) Q E { s' with heap := h' })
    (hE : PassesOwnAt (model prog w) ((arA (dp + 1) (un + 3) gd (envOf name scope L a cd :: fr)).mark (some (.ref e))) (arA (dp + 1) (un + 3) gd (envOf name scope L a cd :: fr)) (envOf name scope L a cd) E) :
    wpAny (model prog w) (arA (dp + 1) (un + 3) gd (envOf name scope L a cd :: fr)) (handleBy (.ref e) (envOf name scope L a cd) (.ExceptHandler (some tt) none (b₀ :: suite) pos :: rest)) Q E s' :=
  hit_S0 (A₀ := arA dp un gd fr) R F (G.below dp un gd) U G.kbase G.tbase G.dicts KtsTurn.refl T (fun h' g' _ T' F' _ _ N' _ _ _ _ => k h' g' T' F' N' (G.turn T')) hE

theorem A_hitB (G : Gd K p loose mean mg mb base fr g) (F : Fr g L h m) (R : RaisedS base h (envOf name scope L a cd :: fr) e cls t vs news s'.heap) (U : h.UpToSlots s'.heap)
    (T : KtsTest prog w K p loose mg mb name scope L a cd cls tt true)
    (k : ∀ h' g' tk oe ot, KtsTurn (frs fr) g g' → Fr g' L h' (fun y => if y = n then some (.ref e) else m y) → News g' L h' ((e, oe) :: (t, ot) :: news) → oe.cls = cls → (∃ ws, oe.data = .fields ws) → Gd K p loose mean mg mb base fr g' →
      wpAny (model prog w) (arH (.ref e) (dp + 1) (un + 3) gd (envOf name scope L a cd :: fr)) (execs (b₀ :: suite) (envOf name scope L a cd))
        (fun f s₄ => wpAny (model prog w) (arA (dp + 1) (un + 3) gd (envOf name scope L a cd :: fr)) (do bindName (envOf name scope L a cd) n .none; unbindBehindTheSuite (envOf name scope L a cd) n pos) (fun _ s₅ => Q f s₅) E s₄)
        (AsSuiteRaised (model prog w) (arH (.ref e) (dp + 1) (un + 3) gd (envOf name scope L a cd :: fr)) (envOf name scope L a cd) n pos (notedBy (model prog w) (arH (.ref e) (dp + 1) (un + 3) gd (envOf name scope L a cd :: fr)) (envOf name scope L a cd) (cameBackBy (model prog w) (arA (dp + 1) (un + 3) gd (envOf name scope L a cd :: fr)) (envOf name scope L a cd) E)))
        { s' with heap := h', toks := tk })
    (hk : scope.kind = .function) (hlo : (envOf name scope L a cd).kindOf n = some .local) :
    wpAny (model prog w) (arA (dp + 1) (un + 3) gd (envOf name scope L a cd :: fr)) (handleBy (.ref e) (envOf name scope L a cd) (.ExceptHandler (some tt) (some n) (b₀ :: suite) pos :: rest)) Q E s' :=
  hit_SB (A₀ := arA dp un gd fr) R F (G.below dp un gd) U G.kbase G.tbase G.dicts KtsTurn.refl T (fun h' g' news₂ tk T' F' N₂ Gt N' _ _ _ _ => by
    obtain ⟨oe, ot, ws, nt, m1, m2, c1, d1, _⟩ := Gt
    refine k h' g' tk oe ot T' F' (fun q hq => ?_) c1 ⟨ws, d1⟩ (G.turn T')
    rcases List.mem_cons.mp hq with rfl | hq
    · exact N₂ _ m1
    · rcases List.mem_cons.mp hq with rfl | hq
      · exact N₂ _ m2
      · exact N' _ hq) hk hlo
end
end
end Mine
namespace Mine
theorem exc_type {M : Model} {g h : Heap} {L e : Addr} {oe : Obj} {news : List (Addr × Obj)} {cls : Value} (N : News g L h news) (hm : (e, oe) ∈ news) (hc : oe.cls = cls) : Looks M h (typeOf (.ref e)) cls := hc ▸ (Looks.ld (N _ hm).1).andThen .now
theorem isDiv1_not {ms : List Int} (h : IsDiv1 ms) : ¬ (ms.length = 0 ∨ ms.getD 0 0 = 0) := by
  obtain ⟨t, rfl, _⟩ := h.cons
  simp
end Mine
namespace Mine
section
variable {K : Frag} {s : Shared} {v c t : Value} {E : Value → Shared → Prop} {A : Around}
theorem isi_nested2 {dep : Int} {tk : Tok} {Q : Fin → Shared → Prop} {M : Model} (X : K.In s.heap) (ht : Looks M s.heap (typeOf v) t) (e : kitCls K t c = some true) (h : Q (.done (.ret (.bool true))) s) :
    wpAny M A (Builtin.«isinstance.nested» ⟨[v, c, .int dep tk], []⟩) Q E s := by
  obtain ⟨hh, g, d, tt, os⟩ := s
  obtain ⟨L1, L2, L3'⟩ := kit_cls (M := M) X e
  have L3 : Looks M hh (isInstance v c) true := ht.andThen L3'
  unfold Builtin.«isinstance.nested»
  refine wpAny_bind (ht.at ?_)
  by_cases q : (t == c) = true
  · rw [if_pos q]
    exact wpAny_bind (wpAny_rule (wpAny_bind (wpAny_pure (wpAny_pure h))))
  · rw [if_neg q]
    refine wpAny_bind (L1.at ?_)
    rw [if_pos (by decide)]
    k_delta "plainIsInstance"
    repeat (first | simp only [Bool.not_true, Bool.false_eq_true, if_false, if_true] | lk)
    exact h
theorem isi_true {prog : Program} {w : World} {Q : Value → Shared → Prop} (X : K.In s.heap) (ht : ∀ M, Looks M s.heap (typeOf v) t) (e : kitCls K t c = some true) (hx : v ≠ .builtin "__main__.__loader__#opaque") (h : Q (.bool true) s) :
    wpAny (model prog w) A (call (.builtin "isinstance") [v, c]) Q E s :=
  call_isinstance (S := fun _ R s => (K.In s.heap ∧ ∀ M, Looks M s.heap (typeOf v) t) ∧ R (.ok (.ret (.bool true))) s) (fun _ _ _ _ _ hs => isinstance_outer (isi_nested2 hs.1.1 (hs.1.2 _) e hs.2) hx) ⟨⟨X, ht⟩, h⟩
theorem isi_exc {prog : Program} {w : World} {Q : Value → Shared → Prop} (X : K.In s.heap) (ht : ∀ M, Looks M s.heap (typeOf v) t) (e : exmOne K t c = some true) (hx : v ≠ .builtin "__main__.__loader__#opaque") (h : Q (.bool true) s) :
    wpAny (model prog w) A (call (.builtin "isinstance") [v, c]) Q E s := by
  refine isi_true X ht ?_ hx h
  unfold exmOne at e
  split at e
  · exact e
  · cases e
end
end Mine

end

section
open PySem PySem.W PySem.Calls PyProof.Rows
namespace Mine
/-! loops whose turns put new objects under the names -/
def GEnd (h₀ : Heap) (L : Addr) (P : (Str → Option Value) → List (Addr × Obj) → Prop) (own : List (Addr × Obj)) (s₁ s₂ : Shared) : Prop :=
  ∃ h' tk m' news' nx, s₂ = { s₁ with heap := h', toks := tk } ∧ Fr h₀ L h' m' ∧ News h₀ L h' news' ∧ (∀ p ∈ nx, p ∈ news') ∧ (∀ p ∈ own, p ∈ news') ∧ OwnOff own (nx.map (·.1)) ∧ P m' nx
def GPost (h₀ : Heap) (L : Addr) (P : (Str → Option Value) → List (Addr × Obj) → Prop) (own : List (Addr × Obj)) (s₁ : Shared) (Q : Flow → Shared → Prop) (f : Flow) (s₂ : Shared) : Prop :=
  match f with
  | .ret v => Q (.ret v) s₂
  | .brk => Q .next s₂
  | _ => GEnd h₀ L P own s₁ s₂
theorem GEnd.intro {h₀ : Heap} {L : Addr} {P : (Str → Option Value) → List (Addr × Obj) → Prop} {m' : Str → Option Value} {own news' nx : List (Addr × Obj)} {s₁ : Shared} {h' : Heap} {tk : Nat} (F : Fr h₀ L h' m') (N : News h₀ L h' news')
    (hj : P m' nx) (hn : ∀ p ∈ nx, p ∈ news') (ho : ∀ p ∈ own, p ∈ news') (hoff : OwnOff own (nx.map (·.1))) : GEnd h₀ L P own s₁ { s₁ with heap := h', toks := tk } := ⟨h', tk, m', news', nx, rfl, F, N, hn, ho, hoff, hj⟩
theorem allNe_mem {d : Addr} {l : List (Addr × Obj)} (h : AllNe d l) : ∀ p ∈ l, p.1 ≠ d := by
  induction l with
  | nil => exact fun _ hp => nomatch hp
  | cons q r ih =>
    intro p hp
    rcases List.mem_cons.mp hp with rfl | hp
    · exact h.1
    · exact ih h.2 p hp
theorem off_nil {own : List (Addr × Obj)} : OwnOff own [] := fun _ _ _ h => nomatch h
theorem off_cons {own : List (Addr × Obj)} {d : Addr} {r : List Addr} (h : AllNe d own) (hr : OwnOff own r) : OwnOff own (d :: r) := fun p hp c hc => by
  rcases List.mem_cons.mp hc with rfl | hc
  · exact allNe_mem h p hp
  · exact hr p hp c hc
section
variable {prog : Program} {w : World} {A : Around} {E : Value → Shared → Prop} {s : Shared} {h₀ : Heap} {env : Env} {L : Addr} {m : Str → Option Value} {news : List (Addr × Obj)} {x : Str} {px pos : Pos} {body : List Stmt} {Q : Flow → Shared → Prop} {iter : Expr}

theorem gpost_step {J : (Str → Option Value) → List (Addr × Obj) → Prop} {own : List (Addr × Obj)} {wr : List Addr} {s₁ : Shared} (hcov : ∀ b ∈ wr, ∃ o, (b, o) ∈ own) (f : Flow) (s₂ : Shared) (h : GPost h₀ L J own s₁ Q f s₂) :
    LoopStepV h₀ L wr own J s₁ (fun v s' => Q (.ret v) s') (fun s' => Q .next s') f s₂ := by
  have fin : GEnd h₀ L J own s₁ s₂ → LoopStepU h₀ L wr own J s₁ .next s₂ := by
    rintro ⟨h', tk, m', news', nx, rfl, F, N, hn, ho, hoff, hJ⟩
    refine ⟨rfl, h', tk, m', nx, rfl, F, fun p hp => ?_, fun p hp hw => ?_, hJ⟩
    · rcases List.mem_append.mp hp with hp | hp
      · exact N p (ho p hp)
      · exact N p (hn p hp)
    · obtain ⟨o, hm⟩ := hcov _ hw
      exact hoff _ hm _ (List.mem_map_of_mem hp) rfl
  cases f with
  | ret v => exact h
  | brk => exact h
  | next => exact fin h
  | cont => exact fin h

theorem swap_news {h : Heap} {a b : List (Addr × Obj)} (N : News h₀ L h (a ++ b)) : News h₀ L h (b ++ a) := fun p hp => N p (by
  rcases List.mem_append.mp hp with h | h
  · exact List.mem_append_right _ h
  · exact List.mem_append_left _ h)

theorem for_rangeG {n : Nat} {a₀ b₀ : Int} (J : Nat → (Str → Option Value) → List (Addr × Obj) → Prop) (hL : env.locals = L)
    (hh : A.handled = none) (F : Fr h₀ L s.heap m) (N : News h₀ L s.heap news) (hb : n = (b₀ - a₀).toNat) (ha : -1000000000 ≤ a₀ ∧ a₀ ≤ 1000000000 ∧ -1000000000 ≤ b₀ ∧ b₀ ≤ 1000000000)
    (hiter : ∀ Q' : Value → Shared → Prop, (∀ r h' tk t u v, IsRange h' r a₀ b₀ 1 t u v → Fr h₀ L h' m → News h₀ L h' news → Q' (.ref r) { s with heap := h', toks := tk }) → wpAny (model prog w) A (eval iter env) Q' E s)
    (hj : J 0 m news)
    (turn : ∀ i t m₁ news₁ h tk own, i < n → OwnOff own (news₁.map (·.1)) → J i m₁ news₁ → Fr h₀ L h (fun y => if y = x then some (.int (a₀ + (i : Int)) t) else m₁ y) → News h₀ L h (news₁ ++ own) →
      wpAny (model prog w) A (execs body env) (GPost h₀ L (J (i + 1)) own { s with heap := h, toks := tk } Q) E { s with heap := h, toks := tk })
    (done : ∀ m₁ news₁ h tk, J n m₁ news₁ → Fr h₀ L h m₁ → News h₀ L h news₁ → Q .next { s with heap := h, toks := tk })
    (hx : env.kindOf x = some .local) (hp : (env.scope.kind == .class || (env.scope.kind == .module && env.locals != env.globals)) = false) (hs : ∀ x, foldedSetIterable iter env x = pure x)
    (hE : PassesOwn (model prog w) A env E) :
    wpAny (model prog w) A (exec (.For (.Name x px) iter body [] pos) env) Q E s := by
  subst hL
  refine For_turns F (hiter _ fun r h₁ tk₁ t₁ u₁ v₁ hr F₁ N₁ => ?_) hs hE
  refine wpAny_pyIter_range hr (small_one (by omega) (by omega) (by omega) (by omega)) ?_
  have hn : Builtin.Range.rangeSize a₀ b₀ 1 = (n : Int) := by rw [hb]; exact rangeSize_nat _ _
  have W : Walks prog w A h₁.objs.size [h₁.objs.size] [h₁.objs.size] n (fun i v => i < n ∧ ∃ t, v = .int (a₀ + i * 1) t)
      (fun i h => IsRangeIter h h₁.objs.size (a₀ + (i : Nat) * 1) ((n : Int) - (i : Nat)) 1) := (Walks.range hh _ a₀ 1 n).bound
  have hne : ∀ p ∈ news, p.1 ≠ h₁.objs.size := fun p hp e => absurd (Heap.lt_size (N₁ p hp).1) (e ▸ Nat.lt_irrefl _)
  have hnone : h₀.get? h₁.objs.size = none := next_is_new F₁
  refine ⟨_, _, _, _, _, _, _, m, news, J, rfl, KTurns.ofWalks W fun i v s Q E st q => wpAny_pure q, ?_, ?_, ?_, (by show IsRangeIter _ _ _ _ _; rw [hn]; simpa using Heap.get?_push_size _ rfl), F₁.push _, (fun p hp => ⟨Heap.get?_push_of_some _ (N₁ p hp).1, (N₁ p hp).2⟩), hj, ?_, ?_⟩
  · intro hm
    exact absurd F₁.ns.lt ((List.mem_singleton.mp hm) ▸ Nat.lt_irrefl _)
  · intro b hb
    rw [List.mem_singleton.mp hb]
    exact hnone
  · intro p hp hI
    exact hne p hp (List.mem_singleton.mp hI)
  · rintro i v m₁ news₁ h₂ tk₂ own hin ⟨_, t, rfl⟩ hJ hnw hown hget hcov hst F₂ N₂
    have e1 : a₀ + (i : Int) * 1 = a₀ + (i : Int) := by omega
    rw [e1]
    refine wpAny_assign_Name (wpAny_storeName_local hx F₂.ns (fun h₃ hn₃ hs₃ => ?_) hp)
    have F₃ := F₂.set hn₃ hs₃
    have N₃ := swap_news (N₂.set hs₃)
    have hI : ∃ o, h₂.get? h₁.objs.size = some o := ⟨_, hst⟩
    obtain ⟨oI, hoI⟩ := hI
    have hc : ∀ b ∈ [h₁.objs.size], ∃ o, (b, o) ∈ own := fun b hb => ⟨oI, (List.mem_singleton.mp hb) ▸ hcov _ (.head _) hnone _ hoI⟩
    refine wpAny_mono (turn i t m₁ news₁ h₃ _ own hin ?_ hJ F₃ N₃) (fun f s₂ q => gpost_step hc f s₂ q) fun _ _ e => e
    intro p hp c hc' e
    obtain ⟨q, hq, rfl⟩ := List.mem_map.mp hc'
    exact hnw q hq (e ▸ hown p hp)
  · rintro h' tk m' news' F' N' _ hJ
    exact done m' news' h' tk hJ F' N'

theorem for_listG {l : Addr} {vs : List Value} {ns : List Int} (J : Nat → (Str → Option Value) → List (Addr × Obj) → Prop) (hL : env.locals = L)
    (hh : A.handled = none) (F : Fr h₀ L s.heap m) (N : News h₀ L s.heap news) (hl : h₀.IsList l vs.toArray) (hi : IntsAre vs ns)
    (hiter : ∀ Q' : Value → Shared → Prop, Q' (.ref l) s → wpAny (model prog w) A (eval iter env) Q' E s)
    (hj : J 0 m news)
    (turn : ∀ i n t m₁ news₁ h tk own, ns[i]? = some n → OwnOff own (news₁.map (·.1)) → J i m₁ news₁ → Fr h₀ L h (fun y => if y = x then some (.int n t) else m₁ y) → News h₀ L h (news₁ ++ own) →
      wpAny (model prog w) A (execs body env) (GPost h₀ L (J (i + 1)) own { s with heap := h, toks := tk } Q) E { s with heap := h, toks := tk })
    (done : ∀ m₁ news₁ h tk, J ns.length m₁ news₁ → Fr h₀ L h m₁ → News h₀ L h news₁ → Q .next { s with heap := h, toks := tk })
    (hx : env.kindOf x = some .local) (hp : (env.scope.kind == .class || (env.scope.kind == .module && env.locals != env.globals)) = false) (hs : ∀ x, foldedSetIterable iter env x = pure x)
    (hE : PassesOwn (model prog w) A env E) :
    wpAny (model prog w) A (exec (.For (.Name x px) iter body [] pos) env) Q E s := by
  subst hL
  have hls : s.heap.IsList l vs.toArray := lst_base F hl
  obtain ⟨ol, hol, _⟩ := id hls
  refine For_turns F (hiter _ (wpAny_pyIter_list hls ?_)) hs hE
  have hne : l ≠ s.heap.objs.size := Nat.ne_of_lt (Heap.lt_size hol)
  have W := Walks.list (prog := prog) (w := w) hh s.heap.objs.size l hne vs.toArray
  have hlen : vs.toArray.size = ns.length := by simp [hi.length]
  rw [hlen] at W
  have hnone : h₀.get? s.heap.objs.size = none := next_is_new F
  have hnn : ∀ p ∈ news, p.1 ≠ s.heap.objs.size := fun p hp e => absurd (Heap.lt_size (N p hp).1) (e ▸ Nat.lt_irrefl _)
  obtain ⟨ol₀, hol₀, _⟩ := id hl
  refine ⟨_, _, _, _, _, _, _, m, news, J, rfl, KTurns.ofWalks W fun i v s Q E st q => wpAny_pure q, ?_, ?_, ?_, ⟨⟨_, Heap.get?_push_size _ rfl, rfl, rfl⟩, hls.at fun o e => Heap.get?_push_of_some _ e⟩, F.push _, (fun p hp => ⟨Heap.get?_push_of_some _ (N p hp).1, (N p hp).2⟩), hj, ?_, ?_⟩
  · intro hm
    rcases List.mem_cons.mp hm with hm | hm
    · exact absurd F.ns.lt (hm ▸ Nat.lt_irrefl _)
    · have h1 := List.mem_singleton.mp hm
      have h2 := Heap.lt_size hol₀
      exact absurd (Nat.lt_of_lt_of_le h2 F.above) (h1 ▸ Nat.lt_irrefl _)
  · intro b hb
    rw [List.mem_singleton.mp hb]
    exact hnone
  · intro p hp hI
    exact hnn p hp (List.mem_singleton.mp hI)
  · rintro i v m₁ news₁ h₂ tk₂ own hin hv hJ hnw hown hget hcov hst F₂ N₂
    obtain ⟨n, hn⟩ : ∃ n, ns[i]? = some n := ⟨ns[i], List.getElem?_eq_getElem hin⟩
    obtain ⟨t, et⟩ := hi.get i n hn
    obtain rfl : v = .int n t := by
      have h1 : vs.toArray[i]? = some v := hv
      rw [List.getElem?_toArray, et] at h1
      exact (Option.some.inj h1).symm
    refine wpAny_assign_Name (wpAny_storeName_local hx F₂.ns (fun h₃ hn₃ hs₃ => ?_) hp)
    have F₃ := F₂.set hn₃ hs₃
    have N₃ := swap_news (N₂.set hs₃)
    obtain ⟨⟨oI, hoI, _⟩, _⟩ := id hst
    have hc : ∀ b ∈ [s.heap.objs.size], ∃ o, (b, o) ∈ own := fun b hb => ⟨oI, (List.mem_singleton.mp hb) ▸ hcov _ (.head _) hnone _ hoI⟩
    refine wpAny_mono (turn i n t m₁ news₁ h₃ _ own hn ?_ hJ F₃ N₃) (fun f s₂ q => gpost_step hc f s₂ q) fun _ _ e => e
    intro p hp c hc' e
    obtain ⟨q, hq, rfl⟩ := List.mem_map.mp hc'
    have h1 := hown p hp
    rcases List.mem_cons.mp h1 with h1 | h1
    · exact hnw q hq (List.mem_singleton.mpr (e ▸ h1))
    · have h2 : q.1 = l := e ▸ List.mem_singleton.mp h1
      have h3 := (N₂ q (List.mem_append_right _ hq)).2.2
      rw [h2, hol₀] at h3; cases h3
  · rintro h' tk m' news' F' N' _ hJ
    exact done m' news' h' tk hJ F' N'
end
abbrev tupO (vs : List Value) : Obj := { cls := .type "tuple", data := .seq vs.toArray }
theorem news_pick2 {h₀ h : Heap} {L : Addr} {news : List (Addr × Obj)} {p q : Addr × Obj} (N : News h₀ L h news) (h1 : p ∈ news) (h2 : q ∈ news) : News h₀ L h [p, q] := fun r hr => by
  rcases List.mem_cons.mp hr with rfl | hr
  · exact N _ h1
  · rw [List.mem_singleton.mp hr]; exact N _ h2
end Mine
namespace Mine
end Mine
namespace Mine
theorem bit_val (v wd : Nat) : Builtin.bitAnd (((v : Int) * 2).fdiv (2 ^ ((wd : Int)).toNat)) 1 = (((2 * v) >>> wd % 2 : Nat) : Int) := by
  have h1 : ((v : Int) * 2) = ((2 * v : Nat) : Int) := by omega
  have h2 : ((wd : Int)).toNat = wd := by omega
  rw [h1, h2, fdiv_pow]
  have h3 := kbt_maskF (((2 * v) >>> wd : Nat) : Int) 1
  have h4 : ((2 : Int) ^ 1 - 1) = 1 := by decide
  have h5 : ((2 : Int) ^ 1) = 2 := by decide
  rw [h4, h5] at h3
  rw [h3, Int.fmod_eq_emod_of_nonneg _ (by decide)]
  omega
theorem xor_val (a b : Nat) : Builtin.bitXor (a : Int) (b : Int) = ((a ^^^ b : Nat) : Int) := by
  rw [bitXor_and]
  have h1 : Builtin.bitAnd (a : Int) (b : Int) = ((a &&& b : Nat) : Int) := by
    unfold Builtin.bitAnd
    rw [decide_eq_true (show (0 : Int) ≤ (a : Int) by omega), decide_eq_true (show (0 : Int) ≤ (b : Int) by omega)]
    rfl
  rw [h1]
  have := add_eq_xor_and a b
  omega
theorem onward_yes {v n wd : Nat} (h : Builtin.bitAnd (((v : Int) * 2).fdiv (2 ^ ((wd : Int)).toNat)) 1 ≠ 0) : Builtin.bitXor ((v : Int) * 2) (n : Int) = ((onw n wd v : Nat) : Int) := by
  rw [bit_val] at h
  have h1 : (2 * v) >>> wd % 2 = 1 := by omega
  rw [onw, red, if_pos ((testBit_shift (2 * v) wd).mp h1), show ((v : Int) * 2) = ((2 * v : Nat) : Int) by omega, xor_val]
theorem onward_no {v n wd : Nat} (h : Builtin.bitAnd (((v : Int) * 2).fdiv (2 ^ ((wd : Int)).toNat)) 1 = 0) : ((v : Int) * 2) = ((onw n wd v : Nat) : Int) := by
  rw [bit_val] at h
  have h1 : ¬ (2 * v).testBit wd = true := fun h2 => by have := (testBit_shift (2 * v) wd).mpr h2; omega
  rw [onw, red, if_neg h1]; omega
end Mine
namespace Mine
/-- a list of given ints under a name -/
def IntsI (s₀ : Shared) (g : Heap) (L : Addr) (x : Str) (ns : List Int) (s' : Shared) : Prop :=
  ∃ h tk D vs cc m, s' = { s₀ with heap := h, toks := tk } ∧ Fr g L h m ∧ News g L h [(D, listOf (List.toArray vs) cc)] ∧ m x = some (.ref D) ∧ IntsAre vs ns
theorem IntsI.of {s₀ : Shared} {g : Heap} {L : Addr} {news : List (Addr × Obj)} {x : Str} {h : Heap} {tk : Nat} {D : Addr} {vs : List Value} {cc : Nat} {rs ns : List Int} {m : Str → Option Value} (F : Fr g L h m) (N : News g L h news) (hm : m x = some (.ref D)) (hD : (D, listOf (List.toArray vs) cc) ∈ news)
    (hi : IntsAre vs rs) (e : rs = ns) : Cut (IntsI s₀ g L x ns) .next { s₀ with heap := h, toks := tk } :=
  ⟨rfl, h, tk, D, vs, cc, m, rfl, F, fun p hp => by rw [List.mem_singleton.mp hp]; exact N _ hD, hm, e ▸ hi⟩
end Mine
namespace Mine
theorem news_add {h₀ h h' : Heap} {L : Addr} {m : Str → Option Value} {news : List (Addr × Obj)} (F : Fr h₀ L h m) (N : News h₀ L h' news) {r : Addr} {o : Obj} (hn : h.get? r = none) (ho : h'.get? r = some o) : News h₀ L h' ((r, o) :: news) := fun q hq => by
  rcases List.mem_cons.mp hq with rfl | hq
  · refine ⟨ho, ?_, ?_⟩
    · rintro rfl
      obtain ⟨oL, _, _, e, _⟩ := F.ns
      rw [hn] at e; cases e
    · cases q : h₀.get? r with
      | none => rfl
      | some o' => have := F.keep r o' q; rw [hn] at this; cases this
  · exact N q hq
end Mine
namespace Mine
end Mine
namespace Mine
end Mine

end

section
open PySem PySem.W PySem.Calls PyProof.Rows
namespace Mine
section
variable {prog : Program} {w : World} {K : Frag} {p : Program} {loose : List Str} {mean : ExcName → Option Value} {mg mb : Str → Option Value} {base : Heap} {fr : List Env}
theorem under_make (dp un : Nat) (gd : Option (List Code)) (C : Addr) (args : List Value) : (arA dp un gd fr).under (.builtin "type.__call__" ⟨.ref C :: args, []⟩) = arA (dp + 1) (un + 1) gd fr := rfl
/-- a class called: the instance made, its __init__ entered -/
theorem enterInit {dp un : Nat} {gd : Option (List Code)} {s : Shared} {Q E : Value → Shared → Prop} {name qual : Str} {params : Arguments} {body : List Stmt} {scope : Scope} {dV kV doc pm cdv ct oc : Value} {an od : Option Addr} {osl : Array (Option Value)} {f C : Addr} {args : List Value} (binds : Addr → List (Str × Value))
    (G : Gd K p loose mean mg mb base fr s.heap) (hm : makesIn K C = true) (hi : findIn K (.ref C) "__init__" = some (some (.ref f))) (hf : typeIn K (.ref f) = some (.type "function"))
    (ho : K.lookup f = some ⟨oc, od, .func (fnOf name qual params body scope dV kV doc pm an cdv ct), osl⟩) (hcd : codeIn K cdv qual = true) (hroom : dp + 1 < recursionLimit)
    (hbind : ∀ x s, BindsTo s (fnOf name qual params body scope dV kV doc pm an cdv ct) ⟨.ref x :: args, []⟩ (binds x)) (hloc : ∀ x, ∀ y ∈ binds x, scope.names.lookup y.1 = some .local)
    (h : ∀ x dx L' h₁ tk, dx < x → Fr s.heap L' h₁ (fun y => (binds x).reverse.lookup y) → News s.heap L' h₁ [(x, instObj C dx), (dx, emptyDict)] →
      wpAny (model prog w) (arA (dp + 2) (un + 4) gd (envOf qual scope L' f cdv :: fr)) (execs body (envOf qual scope L' f cdv))
        (fun fl s' => (match fl with | .ret v => v | _ => .none) = .none ∧ Q (.ref x) s')
        (fun e s' => wpAny (model prog w) (arA (dp + 2) (un + 4) gd (envOf qual scope L' f cdv :: fr)) (leaving (envOf qual scope L' f cdv) e) (fun _ s'' => E e s'') (fun e' s'' => E e' s'') s')
        { s with heap := h₁, toks := tk })
    (hco : scope.isCoroutine = false) (hgen : scope.isGenerator = false) (hk : scope.kind = .function) (hcell : ∀ x ∈ scope.names, x.2 ≠ .cell) :
    wpAny (model prog w) (arA dp un gd fr) (call (.ref C) args) Q E s := by
  obtain ⟨hh, gg, dd, tt, os⟩ := s
  refine wpAny_call (make_core (makes_of G.kin hm) (looks_findIn G.kin hi) (fun self => bind_fn G.kin self hf) (.inl rfl) ?_)
  rw [under_make]
  have k : hh.StaysIn ((hh.push emptyDict).push (instObj C hh.objs.size)) := fun b o e => Heap.get?_push_of_some _ (Heap.get?_push_of_some _ e)
  have hsz : ((hh.push emptyDict).push (instObj C hh.objs.size)).objs.size = hh.objs.size + 2 := by rw [Heap.size_push, Heap.size_push]
  have hx : ((hh.push emptyDict).push (instObj C hh.objs.size)).get? (hh.objs.size + 1) = some (instObj C hh.objs.size) := by
    have := Heap.get?_push_size (hh.push emptyDict) (o := instObj C hh.objs.size) rfl
    rwa [Heap.size_push] at this
  have hdx : ((hh.push emptyDict).push (instObj C hh.objs.size)).get? hh.objs.size = some emptyDict := Heap.get?_push_of_some _ (Heap.get?_push_size hh (o := emptyDict) rfl)
  refine codeAny_call_def (fd := fnOf name qual params body scope dV kV doc pm an cdv ct) (body := body) (binds := binds (hh.objs.size + 1)) hroom (k _ _ (G.kin _ _ ho)) rfl (G.top.nolimit.keeps k) (codeRec_of (G.kin.keeps k) hcd) rfl (hbind _ _) hcell (hloc _) (fun h₁ hns hk₁ => ?_) hco hgen hk
  rw [hsz] at hns ⊢
  exact h (hh.objs.size + 1) hh.objs.size (hh.objs.size + 2) h₁ _ (Nat.lt_succ_self _) ⟨hns, fun b o e => hk₁ b o (k b o e), Nat.le_add_right _ _⟩ (fun q hq => by
    rcases List.mem_cons.mp hq with rfl | hq
    · exact ⟨hk₁ _ _ hx, Nat.ne_of_lt (Nat.lt_succ_self _), get_none (Nat.le_succ _)⟩
    · rw [List.mem_singleton.mp hq]
      exact ⟨hk₁ _ _ hdx, Nat.ne_of_lt (Nat.lt_succ_of_lt (Nat.lt_succ_self _)), get_none (Nat.le_refl _)⟩)
theorem inst_keeps {h₀ h : Heap} {x C : Addr} {ox : Obj} {od : Option Obj} (k : h₀.StaysIn h) (I : PySem.W.InstAt h₀ x ox C od) : PySem.W.InstAt h x ox C od := by
  refine ⟨k _ _ I.at_, I.cls, I.no, ?_⟩
  have hd := I.dict
  revert hd
  cases ox.dict with
  | none => cases od <;> exact id
  | some dx =>
    cases od with
    | none => exact id
    | some o => exact fun e => k _ _ e
theorem inst_base {h₀ h : Heap} {L : Addr} {m : Str → Option Value} {x C : Addr} {ox : Obj} {od : Option Obj} (F : Fr h₀ L h m) (I : PySem.W.InstAt h₀ x ox C od) : PySem.W.InstAt h x ox C od := inst_keeps F.keep I
end
end Mine
namespace Mine
/-- the dict of a gate -/
abbrev gateD (pr : Params) (t0 t1 t2 t3 : Tok) (P : Int) (tP : Tok) (lD : Addr) (wd : Int) (tw : Tok) (ev : Bool) : Obj :=
  { cls := .type "dict", data := .dict [⟨PyData.keyHash pr (Str.ofString "reach"), .str (Str.ofString "reach") t0, .int P tP⟩, ⟨PyData.keyHash pr (Str.ofString "divisor"), .str (Str.ofString "divisor") t1, .ref lD⟩, ⟨PyData.keyHash pr (Str.ofString "width"), .str (Str.ofString "width") t2, .int wd tw⟩, ⟨PyData.keyHash pr (Str.ofString "even"), .str (Str.ofString "even") t3, .bool ev⟩].toArray 4 }
end Mine
namespace Mine
abbrev gateS (pr : Params) (sl : Array (Option Value)) (t0 t1 t2 t3 : Tok) (P : Int) (tP : Tok) (lD : Addr) (wd : Int) (tw : Tok) (ev : Bool) : Obj :=
  ⟨.type "dict", none, .dict [⟨PyData.keyHash pr (Str.ofString "reach"), .str (Str.ofString "reach") t0, .int P tP⟩, ⟨PyData.keyHash pr (Str.ofString "divisor"), .str (Str.ofString "divisor") t1, .ref lD⟩, ⟨PyData.keyHash pr (Str.ofString "width"), .str (Str.ofString "width") t2, .int wd tw⟩, ⟨PyData.keyHash pr (Str.ofString "even"), .str (Str.ofString "even") t3, .bool ev⟩].toArray 4, sl⟩
/-- a gate stands in the heap -/
def GateAt (pr : Params) (C : Addr) (h : Heap) (x : Addr) (P : Nat) (ds : List Int) : Prop :=
  ∃ (dx lD : Addr) (sl1 sl2 : Array (Option Value)) (vs : List Value) (t0 t1 t2 t3 tP tw : Tok), PySem.W.InstAt h x ⟨.ref C, some dx, .plain, sl1⟩ C (some (gateS pr sl2 t0 t1 t2 t3 P tP lD ((ds.length : Int) - 1) tw (ds.sum.fmod 2 == 0))) ∧ h.IsList lD vs.toArray ∧ IntsAre vs ds
section
variable {pr : Params} {C x : Addr} {P : Nat} {ds : List Int}
theorem gate_keeps {h h' : Heap} (k : h.StaysIn h') (H : GateAt pr C h x P ds) : GateAt pr C h' x P ds := by
  obtain ⟨dx, lD, sl1, sl2, vs, t0, t1, t2, t3, tP, tw, I, hl, hi⟩ := H
  exact ⟨dx, lD, sl1, sl2, vs, t0, t1, t2, t3, tP, tw, inst_keeps k I, hl.at fun o e => k _ o e, hi⟩
theorem gate_base {h₀ h : Heap} {L : Addr} {m : Str → Option Value} (F : Fr h₀ L h m) (H : GateAt pr C h₀ x P ds) : GateAt pr C h x P ds := gate_keeps F.keep H
theorem gate_turn {fs : List Addr} {g g' : Heap} (T : KtsTurn fs g g') (H : GateAt pr C g x P ds) : GateAt pr C g' x P ds := by
  obtain ⟨dx, lD, sl1, sl2, vs, t0, t1, t2, t3, tP, tw, I, hl, hi⟩ := H
  obtain ⟨sx, hx⟩ := T.up I.at_
  have hd : g.get? dx = some (gateS pr sl2 t0 t1 t2 t3 P tP lD ((ds.length : Int) - 1) tw (ds.sum.fmod 2 == 0)) := I.dict
  obtain ⟨sd, hd'⟩ := T.up hd
  exact ⟨dx, lD, sx, sd, vs, t0, t1, t2, t3, tP, tw, ⟨hx, rfl, rfl, hd'⟩, list_turn T hl, hi⟩
theorem gate_led {g h : Heap} {L dx lD : Addr} {news : List (Addr × Obj)} {vs : List Value} {c : Nat} {t0 t1 t2 t3 tP tw : Tok} (N : News g L h news) (m1 : (x, instObj C dx) ∈ news) (m2 : (dx, gateD pr t0 t1 t2 t3 P tP lD ((ds.length : Int) - 1) tw (ds.sum.fmod 2 == 0)) ∈ news) (m3 : (lD, listOf vs.toArray c) ∈ news) (hi : IntsAre vs ds) : GateAt pr C h x P ds :=
  ⟨dx, lD, #[], #[], vs, t0, t1, t2, t3, tP, tw, ⟨(N _ m1).1, rfl, rfl, (N _ m2).1⟩, lst_led N m3, hi⟩
end
end Mine
namespace Mine
section
variable {prog : Program} {w : World} {A : Around} {E : Value → Shared → Prop} {s : Shared} {K : Frag} {x C L : Addr} {h₀ : Heap} {m : Str → Option Value} {ox : Obj} {es : List DictEntry} {n : Nat} {sl : Array (Option Value)} {name : Str} {v : Value}
theorem get_ownS {expr : Bool} {Q : Value → Shared → Prop} {attr : Option Value} (F : Fr h₀ L s.heap m) (X₀ : K.In h₀) (I : PySem.W.InstAt s.heap x ox C (some ⟨.type "dict", none, .dict es.toArray n, sl⟩)) (hg : plainGet K C name = true) (hh : hasDictIn K C = true)
    (ha : findIn K (.ref C) name = some attr) (hn : noGet K attr = true) (hl : getL name es = some (some v)) (hv : handedIn v = true) (h : Q v { s with toks := s.toks + 1 }) :
    wpAny (model prog w) A (getAttr (.ref x) name expr) Q E s := by
  have hl' : lookIn name ⟨.type "dict", none, .dict es.toArray n, sl⟩ = some (some v) := by
    show lookIn name (dictOf es n) = _
    rw [lookIn_dict]; exact hl
  exact get_value (X₀.keeps F.keep) I (plainGet_of hg).1 (findObj_own hh ha hn hl') hv h
theorem method_instS {pl : Sem Bool} {Q : Value × List Value → Shared → Prop} {f : Addr} (F : Fr h₀ L s.heap m) (X₀ : K.In h₀) (I : PySem.W.InstAt s.heap x ox C (some ⟨.type "dict", none, .dict es.toArray n, sl⟩)) (hg : plainGet K C name = true)
    (hf : findIn K (.ref C) name = some (some (.ref f))) (ht : isFn K (.ref f) = true) (hl : getL name es = some none) (h : Q (.ref f, [.ref x]) s) : wpAny (model prog w) A (getMethod (.ref x) name pl) Q E s :=
  method_fn (X₀.keeps F.keep) I (plainGet_of hg).1 (plainGet_of hg).2 hf (beq_iff_eq.mp ht) (by show (lookIn name (dictOf es n)).map _ = _; rw [lookIn_dict, hl]; rfl) h
end
end Mine
namespace Mine
theorem news_sub {h₀ h : Heap} {L : Addr} {news small : List (Addr × Obj)} (N : News h₀ L h news) (hs : ∀ p ∈ small, p ∈ news) : News h₀ L h small := fun p hp => N p (hs p hp)
end Mine

end

section
open PySem PySem.W PySem.Calls PyProof.Rows
namespace Mine
/-- turns beside which other objects stand still -/
theorem turns_with {prog : Program} {w : World} {A : Around} {target : Expr} {I : Addr} {fp wr : List Addr} {n : Nat} {P Md : Nat → Value → Heap → Prop} {St : Nat → Heap → Prop} (W : KTurns prog w A target I fp wr n P Md St) (still : List (Addr × Obj)) (hoff : ∀ p ∈ still, p.1 ∉ wr) :
    KTurns prog w A target I (fp ++ still.map (·.1)) wr n (fun i v h => P i v h ∧ ∀ p ∈ still, h.get? p.1 = some p.2) (fun i v h => Md i v h ∧ ∀ p ∈ still, h.get? p.1 = some p.2) (fun i h => St i h ∧ ∀ p ∈ still, h.get? p.1 = some p.2) where
  sub := fun b hb => List.mem_append_left _ (W.sub b hb)
  frame := fun i h h' st hk => ⟨W.frame i h h' st.1 fun b hb o e => hk b (List.mem_append_left _ hb) o e, fun p hp => hk _ (List.mem_append_right _ (List.mem_map_of_mem hp)) _ (st.2 p hp)⟩
  item := fun i s Q E hi st hQ => W.item i s Q E hi st.1 fun v h' tk hm hk => hQ v h' tk ⟨hm, fun p hp => hk _ _ (hoff p hp) (st.2 p hp)⟩ hk
  go := fun i v s Q E hm hQ => W.go i v s Q E hm.1 fun h' hP st hk => hQ h' ⟨hP, fun p hp => hk _ _ (hoff p hp) (hm.2 p hp)⟩ ⟨st, fun p hp => hk _ _ (hoff p hp) (hm.2 p hp)⟩ hk
  done := fun s Q E st hQ => W.done s Q E st.1 hQ
def LoopIn (prog : Program) (w : World) (A : Around) (h₀ : Heap) (env : Env) (target : Expr) (body : List Stmt) (Q : Flow → Shared → Prop) (E : Value → Shared → Prop) (xv : Value) (s₁ : Shared) : Prop :=
  wpAny (model prog w) A (pyIter xv) (fun it s₂ => TurnsAt prog w A h₀ env target body Q E it s₂) E s₁
section
variable {prog : Program} {w : World} {A : Around} {E : Value → Shared → Prop} {s : Shared} {h₀ : Heap} {env : Env} {m : Str → Option Value} {news : List (Addr × Obj)} {target iter : Expr} {pos : Pos} {body : List Stmt} {Q : Flow → Shared → Prop}
theorem for_in (F : Fr h₀ env.locals s.heap m) (h : ∀ Q' : Value → Shared → Prop, (∀ xv s₁, LoopIn prog w A h₀ env target body Q E xv s₁ → Q' xv s₁) → wpAny (model prog w) A (eval iter env) Q' E s)
    (hs : ∀ x, foldedSetIterable iter env x = pure x) (hE : PassesOwn (model prog w) A env E) :
    wpAny (model prog w) A (exec (.For target iter body [] pos) env) Q E s := For_turns F (h _ fun _ _ q => q) hs hE
theorem gpost_mono {L : Addr} {J J' : (Str → Option Value) → List (Addr × Obj) → Prop} {own : List (Addr × Obj)} {s₁ : Shared} (f : Flow) (s₂ : Shared) (hJ : ∀ m nx, OwnOff own (nx.map (·.1)) → J m nx → J' m nx) (h : GPost h₀ L J own s₁ Q f s₂) : GPost h₀ L J' own s₁ Q f s₂ := by
  have fin : GEnd h₀ L J own s₁ s₂ → GEnd h₀ L J' own s₁ s₂ := by
    rintro ⟨h', tk, m', news', nx, e, F, N, hn, ho, hoff, j⟩
    exact ⟨h', tk, m', news', nx, e, F, N, hn, ho, hoff, hJ _ _ hoff j⟩
  cases f with
  | ret v => exact h
  | brk => exact h
  | next => exact fin h
  | cont => exact fin h
/-- a loop over a list that stands still; any target -/
theorem loop_list {l : Addr} {vs : List Value} {still : List (Addr × Obj)} (J : Nat → (Str → Option Value) → List (Addr × Obj) → Prop)
    (hh : A.handled = none) (F : Fr h₀ env.locals s.heap m) (N : News h₀ env.locals s.heap (news ++ still)) (hl : s.heap.IsList l vs.toArray) (hl' : (∃ o, (l, o) ∈ still) ∨ (∃ o, h₀.get? l = some o)) (hoff : OwnOff still (news.map (·.1)))
    (hj : J 0 m news)
    (turn : ∀ i v m₁ news₁ h tk own, vs[i]? = some v → OwnOff own (news₁.map (·.1)) → J i m₁ news₁ → (∀ p ∈ still, p ∈ own) → Fr h₀ env.locals h m₁ → News h₀ env.locals h (news₁ ++ own) →
      wpAny (model prog w) A (assign target env v) (fun _ s₃ => wpAny (model prog w) A (execs body env) (GPost h₀ env.locals (J (i + 1)) own { s with heap := h, toks := tk } Q) E s₃) E { s with heap := h, toks := tk })
    (done : ∀ m₁ news₁ h tk, J vs.length m₁ news₁ → Fr h₀ env.locals h m₁ → News h₀ env.locals h news₁ → Q .next { s with heap := h, toks := tk }) :
    LoopIn prog w A h₀ env target body Q E (.ref l) s := by
  obtain ⟨ol, hol, hcl, hdl⟩ := id hl
  unfold LoopIn
  refine wpAny_pyIter_list hl ?_
  have hne : l ≠ s.heap.objs.size := Nat.ne_of_lt (Heap.lt_size hol)
  have hnone : h₀.get? s.heap.objs.size = none := next_is_new F
  have hnn : ∀ p ∈ news ++ still, p.1 ≠ s.heap.objs.size := fun p hp e => absurd (Heap.lt_size (N p hp).1) (e ▸ Nat.lt_irrefl _)
  have W := turns_with (KTurns.ofWalks (target := target) (Walks.list (prog := prog) (w := w) hh s.heap.objs.size l hne vs.toArray) fun i v s Q E st q => letGo_listiter st.1 q) still (fun p hp hm => hnn p (List.mem_append_right _ hp) (List.mem_singleton.mp hm))
  have hLl : env.locals ≠ l := by
    rcases hl' with ⟨o, ho⟩ | ⟨o, ho⟩
    · exact fun e => (N _ (List.mem_append_right _ ho)).2.1 e.symm
    · exact fun e => absurd (Nat.lt_of_lt_of_le (Heap.lt_size ho) F.above) (e ▸ Nat.lt_irrefl _)
  refine ⟨_, _, _, _, _, _, _, m, news, fun i m nx => J i m nx ∧ OwnOff still (nx.map (·.1)), rfl, W, ?_, ?_, ?_, ⟨⟨⟨_, Heap.get?_push_size _ rfl, rfl, rfl⟩, hl.at fun o e => Heap.get?_push_of_some _ e⟩, fun p hp => Heap.get?_push_of_some _ (N p (List.mem_append_right _ hp)).1⟩, F.push _, (fun p hp => ⟨Heap.get?_push_of_some _ (N p (List.mem_append_left _ hp)).1, (N p (List.mem_append_left _ hp)).2⟩), ⟨hj, hoff⟩, ?_, ?_⟩
  · intro hm
    rcases List.mem_append.mp hm with hm | hm
    · rcases List.mem_cons.mp hm with hm | hm
      · exact absurd F.ns.lt (hm ▸ Nat.lt_irrefl _)
      · exact hLl (List.mem_singleton.mp hm)
    · obtain ⟨p, hp, e⟩ := List.mem_map.mp hm
      exact (N p (List.mem_append_right _ hp)).2.1 e
  · intro b hb
    rw [List.mem_singleton.mp hb]
    exact hnone
  · intro p hp hI
    exact hnn p (List.mem_append_left _ hp) (List.mem_singleton.mp hI)
  · rintro i v m₁ news₁ h₂ tk₂ own hin ⟨hv, hpres⟩ ⟨hJ, hjo⟩ hnw hown hget hcov ⟨hst, _⟩ F₂ N₂
    have hv' : vs[i]? = some v := by
      have h1 : vs.toArray[i]? = some v := hv
      rwa [List.getElem?_toArray] at h1
    have hso : ∀ p ∈ still, p ∈ own := fun p hp => hcov p.1 (List.mem_append_right _ (List.mem_map_of_mem hp)) (N p (List.mem_append_right _ hp)).2.2 p.2 (hpres p hp)
    obtain ⟨⟨oI, hoI, _⟩, _⟩ := id hst
    have hc : ∀ b ∈ [s.heap.objs.size], ∃ o, (b, o) ∈ own := fun b hb => ⟨oI, (List.mem_singleton.mp hb) ▸ hcov _ (List.mem_append_left _ (.head _)) hnone _ hoI⟩
    refine wpAny_mono (turn i v m₁ news₁ h₂ tk₂ own hv' ?_ hJ hso F₂ (swap_news N₂)) (fun _ s₃ q => wpAny_mono q (fun f s₄ q => gpost_step hc f s₄ (gpost_mono f s₄ (fun m nx ho j => ⟨j, fun p hp c hc' => ho p (hso p hp) c hc'⟩) q)) fun _ _ e => e) fun _ _ e => e
    intro p hp c hc' e
    obtain ⟨q, hq, rfl⟩ := List.mem_map.mp hc'
    have h1 := hown p hp
    rcases List.mem_append.mp h1 with h1 | h1
    · rcases List.mem_cons.mp h1 with h1 | h1
      · exact hnw q hq (List.mem_singleton.mpr (e ▸ h1))
      · have h2 : q.1 = l := e ▸ List.mem_singleton.mp h1
        rcases hl' with ⟨o, ho⟩ | ⟨o, ho⟩
        · exact hjo _ ho _ (List.mem_map_of_mem hq) h2.symm
        · have h3 := (N₂ q (List.mem_append_right _ hq)).2.2
          rw [h2, ho] at h3; cases h3
    · obtain ⟨r, hr, e2⟩ := List.mem_map.mp h1
      exact hjo r hr _ (List.mem_map_of_mem hq) (e2.trans e)
  · rintro h' tk m' news' F' N' _ ⟨hJ, _⟩
    exact done m' news' h' tk hJ F' N'
/-- a loop over a list of pairs -/
theorem loop_pairs {a b : Str} {pa pb tp : Pos} {kk : Nat} {l : Addr} {vs : List Value} {still : List (Addr × Obj)} (J : Nat → (Str → Option Value) → List (Addr × Obj) → Prop) (R : Nat → Value → Value → Prop)
    (hh : A.handled = none) (F : Fr h₀ env.locals s.heap m) (N : News h₀ env.locals s.heap (news ++ still)) (hl : s.heap.IsList l vs.toArray) (hl' : (∃ o, (l, o) ∈ still) ∨ (∃ o, h₀.get? l = some o)) (hoff : OwnOff still (news.map (·.1)))
    (hR : ∀ i v h, vs[i]? = some v → h₀.StaysIn h → (∀ p ∈ still, h.get? p.1 = some p.2) → ∃ T x y, v = .ref T ∧ h.IsTuple T #[x, y] ∧ R i x y)
    (hj : J 0 m news)
    (turn : ∀ i x y m₁ news₁ h tk own, i < vs.length → R i x y → OwnOff own (news₁.map (·.1)) → J i m₁ news₁ → (∀ p ∈ still, p ∈ own) → Fr h₀ env.locals h (fun z => if z = b then some y else if z = a then some x else m₁ z) → News h₀ env.locals h (news₁ ++ own) →
      wpAny (model prog w) A (execs body env) (GPost h₀ env.locals (J (i + 1)) own { s with heap := h, toks := tk } Q) E { s with heap := h, toks := tk })
    (done : ∀ m₁ news₁ h tk, J vs.length m₁ news₁ → Fr h₀ env.locals h m₁ → News h₀ env.locals h news₁ → Q .next { s with heap := h, toks := tk })
    (ha : env.kindOf a = some .local) (hb : env.kindOf b = some .local) (hp : (env.scope.kind == .class || (env.scope.kind == .module && env.locals != env.globals)) = false) :
    LoopIn prog w A h₀ env (.Tuple [.Name a pa, .Name b pb] kk tp) body Q E (.ref l) s := by
  refine loop_list J hh F N hl hl' hoff hj (fun i v m₁ news₁ h₂ tk₂ own hv hoff₂ hJ hso F₂ N₂ => ?_) done
  obtain ⟨T, x, y, rfl, hT, hRi⟩ := hR i v h₂ hv F₂.keep (fun p hp => (N₂ p (List.mem_append_right _ (hso p hp))).1)
  refine kcp_assign hh hT ha hb hp F₂.ns fun h₃ tk₃ hn₃ hs₃ => ?_
  have F₃ : Fr h₀ env.locals h₃ (fun z => if z = b then some y else if z = a then some x else m₁ z) := ⟨hn₃, fun c o e => hs₃ c o (fun q => by subst q; exact absurd (Heap.lt_size e) (Nat.not_lt.mpr F₂.above)) (F₂.keep c o e), F₂.above⟩
  have N₃ : News h₀ env.locals h₃ (news₁ ++ own) := fun p hp => ⟨hs₃ _ _ (N₂ p hp).2.1 (N₂ p hp).1, (N₂ p hp).2⟩
  refine wpAny_mono (turn i x y m₁ news₁ h₃ tk₃ own (List.getElem?_eq_some_iff.mp hv).1 hRi hoff₂ hJ hso F₃ N₃) (fun f s₂ q => ?_) fun _ _ e => e
  cases f <;> exact q
end
end Mine
namespace Mine
/-! a list of the caller's that a callee appends to: it is taken out of the ground -/
section
variable {prog : Program} {w : World} {K : Frag} {p : Program} {loose : List Str} {mean : ExcName → Option Value} {mg mb : Str → Option Value} {base : Heap} {fr : List Env}
theorem enter0H {dp un : Nat} {gd : Option (List Code)} {s : Shared} {g : Heap} {news : List (Addr × Obj)} {Q E : Value → Shared → Prop} {name qual : Str} {params : Arguments} {body : List Stmt} {scope : Scope} {dV kV doc pm cdv ct oc : Value} {an od : Option Addr} {osl : Array (Option Value)} {f : Addr} {args : List Value} {binds : List (Str × Value)}
    (G : Gd K p loose mean mg mb base fr g) (hk : g.StaysIn s.heap) (hsz : g.objs.size ≤ s.heap.objs.size) (hN : ∀ q ∈ news, s.heap.get? q.1 = some q.2 ∧ g.get? q.1 = none)
    (ho : K.lookup f = some ⟨oc, od, .func (fnOf name qual params body scope dV kV doc pm an cdv ct), osl⟩) (hcd : codeIn K cdv qual = true) (hroom : dp < recursionLimit)
    (hbind : BindsTo s (fnOf name qual params body scope dV kV doc pm an cdv ct) ⟨args, []⟩ binds) (hloc : ∀ y ∈ binds, scope.names.lookup y.1 = some .local)
    (h : ∀ L' h₁ tk, Fr g L' h₁ (fun y => binds.reverse.lookup y) → News g L' h₁ news →
      wpAny (model prog w) (arA (dp + 1) (un + 3) gd (envOf qual scope L' f cdv :: fr)) (execs body (envOf qual scope L' f cdv))
        (fun fl s' => Q (match fl with | .ret v => v | _ => .none) s')
        (fun e s' => wpAny (model prog w) (arA (dp + 1) (un + 3) gd (envOf qual scope L' f cdv :: fr)) (leaving (envOf qual scope L' f cdv) e) (fun _ s'' => E e s'') (fun e' s'' => E e' s'') s')
        { s with heap := h₁, toks := tk })
    (hco : scope.isCoroutine = false) (hgen : scope.isGenerator = false) (hkd : scope.kind = .function) (hcell : ∀ x ∈ scope.names, x.2 ≠ .cell) :
    wpAny (model prog w) (arA dp un gd fr) (call (.ref f) args) Q E s := by
  refine wpAny_call ?_
  refine codeAny_call_def (fd := fnOf name qual params body scope dV kV doc pm an cdv ct) (body := body) (binds := binds) hroom (hk _ _ (G.kin _ _ ho)) rfl (G.top.nolimit.keeps hk) (codeRec_of (G.kin.keeps hk) hcd) rfl hbind hcell hloc (fun h₁ hns hk₁ => ?_) hco hgen hkd
  exact h s.heap.objs.size h₁ _ ⟨hns, fun b o e => hk₁ b o (hk b o e), hsz⟩ (fun q hq => ⟨hk₁ _ _ (hN q hq).1, Nat.ne_of_lt (Heap.lt_size (hN q hq).1), (hN q hq).2⟩)
/-- the ground for a callee that writes to one of this frame's objects -/
theorem Gd.pushH {h₀ h : Heap} {L a : Addr} {m : Str → Option Value} {name : Str} {scope : Scope} {cd : Value} {led : List (Addr × Obj)} (G : Gd K p loose mean mg mb base fr h₀) (F : Fr h₀ L h m) (N : News h₀ L h led) (hk : scope.kind = .function) :
    Gd K p loose mean mg mb base (envOf name scope L a cd :: fr) (hideAll h (led.map (·.1))) := by
  have G' := G.push (name := name) (a := a) (cd := cd) F hk
  have nm : ∀ b o, h₀.get? b = some o → b ∉ led.map (·.1) := fun b o e q => by
    obtain ⟨p, hp, rfl⟩ := List.mem_map.mp q
    rw [(N p hp).2.2] at e; cases e
  have nL : L ∉ led.map (·.1) := fun q => by
    obtain ⟨p, hp, e⟩ := List.mem_map.mp q
    exact (N p hp).2.1 e
  have st : h₀.StaysIn (hideAll h (led.map (·.1))) := fun b o e => hideAll_get _ (F.keep b o e) (nm b o e)
  refine ⟨fun b o e => st b o (G.stays b o e), funFrames_hideAll G'.frames fun env he b hb hf => ?_, G.kin.keeps st, G.top.keeps st, G.kbase, G.tbase, fun b hm => ?_⟩
  · cases he with
    | head => exact nL ((Option.some.inj hf : L = b) ▸ hb)
    | tail _ he =>
      obtain ⟨L₁, o₁, hf₁, ho₁⟩ := funFrames_in G.frames env he
      rw [hf₁] at hf
      exact nm L₁ o₁ ho₁ ((Option.some.inj hf : L₁ = b) ▸ hb)
  · obtain ⟨o, es, n, ho, hd⟩ := G'.dicts b hm
    refine ⟨o, es, n, hideAll_get _ ho fun q => ?_, hd⟩
    rcases frs_cons (L := L) rfl hm with z | z
    · exact nL (z ▸ q)
    · obtain ⟨_, o', ho', _⟩ := G.frames.mem z
      exact nm b o' ho' q
theorem size_hide {h : Heap} {led : List (Addr × Obj)} : (hideAll h (led.map (·.1))).objs.size ≤ h.objs.size := Nat.le_of_eq (hideAll_size _ _)
theorem stays_hide {h : Heap} {as : List Addr} : (hideAll h as).StaysIn h := fun _ _ e => of_hideAll _ e
theorem led_hide {h₀ h : Heap} {L : Addr} {led : List (Addr × Obj)} (N : News h₀ L h led) : ∀ q ∈ led, h.get? q.1 = some q.2 ∧ (hideAll h (led.map (·.1))).get? q.1 = none := fun q hq => ⟨(N q hq).1, hideAll_none _ (List.mem_map_of_mem hq)⟩
theorem news_hide {h₀ h : Heap} {L : Addr} {led rest : List (Addr × Obj)} (N : News h₀ L h (led ++ rest)) (hoff : ∀ p ∈ rest, p.1 ∉ led.map (·.1)) : News h₀ L (hideAll h (led.map (·.1))) rest := fun q hq => ⟨hideAll_get _ (N q (List.mem_append_right _ hq)).1 (hoff q hq), (N q (List.mem_append_right _ hq)).2⟩
/-- behind such a call -/
theorem back_H {g g₁ h h' : Heap} {L : Addr} {m : Str → Option Value} {led led' rest : List (Addr × Obj)} {env : Env} (G : Gd K p loose mean mg mb base fr g) (F : Fr g L h m) (N : News g L h (led ++ rest)) (hoff : ∀ p ∈ rest, p.1 ∉ led.map (·.1)) (he : env.frame = some L)
    (T : KtsTurn (frs (env :: fr)) (hideAll h (led.map (·.1))) g₁) (k : g₁.StaysIn h') (N' : ∀ q ∈ led', h'.get? q.1 = some q.2 ∧ g₁.get? q.1 = none) : ∃ g', KtsTurn (frs fr) g g' ∧ Fr g' L h' m ∧ News g' L h' (led' ++ rest) ∧ ∀ q ∈ led', ∀ p ∈ rest, p.1 ≠ q.1 := by
  have hLg : g.get? L = none := kts_self F
  have Nl : News g L h led := fun q hq => N q (List.mem_append_left _ hq)
  have nm : ∀ b o, g.get? b = some o → b ∉ led.map (·.1) := fun b o e q => by
    obtain ⟨p, hp, rfl⟩ := List.mem_map.mp q
    rw [(Nl p hp).2.2] at e; cases e
  have nL : L ∉ led.map (·.1) := fun q => by
    obtain ⟨p, hp, e⟩ := List.mem_map.mp q
    exact (Nl p hp).2.1 e
  have st : g.StaysIn (hideAll h (led.map (·.1))) := fun b o e => hideAll_get _ (F.keep b o e) (nm b o e)
  obtain ⟨T', S⟩ := kts_turn_at (h := h') (fs := frs fr) (g := g)
    (fun b hb => by obtain ⟨_, o, ho, _⟩ := G.frames.mem hb; exact ⟨o, ho⟩)
    (fun b o e n => k _ _ (T.other b o (st b o e) fun hm => by
      rcases frs_cons he hm with z | z
      · rw [z, hLg] at e; cases e
      · exact n z))
    (fun b o e hm => by obtain ⟨sl, hs⟩ := T.up (st b o e); exact ⟨sl, k _ _ hs⟩)
  obtain ⟨o, es, ep, ho, hd, r⟩ := F.ns
  obtain ⟨sl, hs⟩ := T.up (hideAll_get _ ho nL)
  refine ⟨_, T', ⟨⟨_, es, ep, k _ _ hs, hd, r⟩, S, by rw [T'.size]; exact F.above⟩, fun q hq => ?_, fun q hq p hp e => ?_⟩
  rotate_left
  · obtain ⟨s2, h2⟩ := T.up (hideAll_get _ (N p (List.mem_append_right _ hp)).1 (hoff p hp))
    rw [e, (N' q hq).2] at h2; cases h2
  rcases List.mem_append.mp hq with hq | hq
  · have h1 := N' q hq
    refine ⟨h1.1, fun e => ?_, T'.none_ _ ?_⟩
    · rw [e, hs] at h1; cases h1.2
    · cases z : g.get? q.1 with
      | none => rfl
      | some o' =>
        obtain ⟨s2, h2⟩ := T.up (st _ _ z)
        rw [h1.2] at h2; cases h2
  · have h1 := N q (List.mem_append_right _ hq)
    refine ⟨k _ _ (T.other _ _ (hideAll_get _ h1.1 (hoff q hq)) fun hm => ?_), h1.2.1, T'.none_ _ h1.2.2⟩
    rcases frs_cons he hm with z | z
    · exact h1.2.1 z
    · obtain ⟨_, o, ho, _⟩ := G.frames.mem z
      rw [h1.2.2] at ho; cases ho
end
/-! at the bottom no frame turns -/
theorem fr_nil {g g' h : Heap} {L : Addr} {m : Str → Option Value} (T : KtsTurn [] g g') (F : Fr g' L h m) : Fr g L h m := ⟨F.ns, fun b o e => F.keep b o (turn_nil T b o e), by rw [← T.size]; exact F.above⟩
theorem news_nil {g g' h : Heap} {L : Addr} {news : List (Addr × Obj)} (T : KtsTurn [] g g') (N : News g' L h news) : News g L h news := fun q hq => ⟨(N q hq).1, (N q hq).2.1, by
  cases z : g.get? q.1 with
  | none => rfl
  | some o => have := turn_nil T _ _ z; rw [(N q hq).2.2] at this; cases this⟩
end Mine
namespace Mine
/-! pairs of a found list and its copy -/
def PairIn (led : List (Addr × Obj)) (v : Value) : Prop := ∃ (T A B : Addr) (ws us : List Value) (c d : Nat) (ns : List Int), v = .ref T ∧ (T, tupO [.ref A, .ref B]) ∈ led ∧ (A, listOf ws.toArray c) ∈ led ∧ (B, listOf us.toArray d) ∈ led ∧ IntsAre ws ns ∧ IntsAre us ns ∧ ns.length ≤ 100000
def HeldIn (led : List (Addr × Obj)) (hv : List Value) : Prop := ∀ v ∈ hv, PairIn led v
theorem held_nil (led : List (Addr × Obj)) : HeldIn led [] := fun _ h => nomatch h
theorem PairIn.sub {led led' : List (Addr × Obj)} {v : Value} (h : PairIn led v) (hs : ∀ p ∈ led, p ∈ led') : PairIn led' v := by
  obtain ⟨T, A, B, ws, us, c, d, ns, e, h1, h2, h3, h4⟩ := h
  exact ⟨T, A, B, ws, us, c, d, ns, e, hs _ h1, hs _ h2, hs _ h3, h4⟩
theorem HeldIn.sub {led led' : List (Addr × Obj)} {hv : List Value} (h : HeldIn led hv) (hs : ∀ p ∈ led, p ∈ led') : HeldIn led' hv := fun v hv' => (h v hv').sub hs
theorem held_append {led : List (Addr × Obj)} {a b : List Value} (h : HeldIn led a) (h' : HeldIn led b) : HeldIn led (a ++ b) := fun v hv => (List.mem_append.mp hv).elim (h v) (h' v)
def PairAt (h : Heap) (v : Value) : Prop := ∃ (T A B : Addr) (ws us : List Value) (ns : List Int), v = .ref T ∧ h.IsTuple T #[.ref A, .ref B] ∧ h.IsList A ws.toArray ∧ h.IsList B us.toArray ∧ IntsAre ws ns ∧ IntsAre us ns ∧ ns.length ≤ 100000
theorem pair_at {g h : Heap} {L : Addr} {led : List (Addr × Obj)} {v : Value} (N : News g L h led) (H : PairIn led v) : PairAt h v := by
  obtain ⟨T, A, B, ws, us, c, d, ns, e, h1, h2, h3, h4⟩ := H
  exact ⟨T, A, B, ws, us, ns, e, ⟨_, (N _ h1).1, rfl, _, rfl⟩, lst_led N h2, lst_led N h3, h4⟩
end Mine
namespace Mine
section
variable {prog : Program} {w : World} {A : Around} {E : Value → Shared → Prop} {s : Shared} {l : Addr} {vs : List Value} {ns : List Int} {k : Int} {t : Tok} {Q : Value → Shared → Prop}
theorem ints_kf {vs : List Value} {ns : List Int} (h : IntsAre vs ns) : kf_ints vs = true := by
  induction h with
  | nil => rfl
  | cons n t h ih => exact ih
theorem ints_any {vs : List Value} {ns : List Int} (h : IntsAre vs ns) (k : Int) : vs.any (isInt k) = decide (k ∈ ns) := by
  induction h with
  | nil => rfl
  | cons n t h ih =>
    rw [List.any_cons, ih]
    have e : isInt k (.int n t) = decide (n = k) := by by_cases hnk : n = k <;> simp [isInt, hnk]
    rw [e]
    by_cases hk : k = n
    · subst hk; simp
    · have hk' : ¬ n = k := fun h => hk h.symm
      simp [hk, hk']
theorem in_ints (hl : s.heap.IsList l vs.toArray) (hi : IntsAre vs ns) (h : Q (.bool (decide (k ∈ ns))) s) : wpAny (model prog w) A (compareOp .In (.int k t) (.ref l)) Q E s :=
  SeqInW.in_listW (isInt k) (fun y hy => kf_eq (ints_kf hi) y (by simpa using hy)) hl (by rw [← Array.any_toList, List.toList_toArray, ints_any hi]; exact h)
theorem notin_ints (hl : s.heap.IsList l vs.toArray) (hi : IntsAre vs ns) (h : Q (.bool (!decide (k ∈ ns))) s) : wpAny (model prog w) A (compareOp .NotIn (.int k t) (.ref l)) Q E s :=
  SeqInW.notIn_listW (isInt k) (fun y hy => kf_eq (ints_kf hi) y (by simpa using hy)) hl (by rw [← Array.any_toList, List.toList_toArray, ints_any hi]; exact h)
theorem in_ints_no (hl : s.heap.IsList l vs.toArray) (hi : IntsAre vs ns) (hk : ¬ k ∈ ns) (h : Q (.bool false) s) : wpAny (model prog w) A (compareOp .In (.int k t) (.ref l)) Q E s := in_ints hl hi (by rw [decide_eq_false hk]; exact h)
theorem in_ints_yes (hl : s.heap.IsList l vs.toArray) (hi : IntsAre vs ns) (hk : k ∈ ns) (h : Q (.bool true) s) : wpAny (model prog w) A (compareOp .In (.int k t) (.ref l)) Q E s := in_ints hl hi (by rw [decide_eq_true hk]; exact h)
theorem notin_ints_no (hl : s.heap.IsList l vs.toArray) (hi : IntsAre vs ns) (hk : ¬ k ∈ ns) (h : Q (.bool true) s) : wpAny (model prog w) A (compareOp .NotIn (.int k t) (.ref l)) Q E s := notin_ints hl hi (by rw [decide_eq_false hk]; exact h)
theorem notin_ints_yes (hl : s.heap.IsList l vs.toArray) (hi : IntsAre vs ns) (hk : k ∈ ns) (h : Q (.bool false) s) : wpAny (model prog w) A (compareOp .NotIn (.int k t) (.ref l)) Q E s := notin_ints hl hi (by rw [decide_eq_true hk]; exact h)
end
/-- what a frame hands back of its ledger -/
theorem led_of {g h : Heap} {L : Addr} {led small : List (Addr × Obj)} (N : News g L h led) (hs : ∀ q ∈ small, q ∈ led) : ∀ q ∈ small, h.get? q.1 = some q.2 ∧ g.get? q.1 = none := fun q hq => ⟨(N q (hs q hq)).1, (N q (hs q hq)).2.2⟩
end Mine
namespace Mine
end Mine
namespace Mine
/-- a turn that has handed a list of this frame's to a callee which appended to it -/
theorem end_H {own conc prs prs' : List (Addr × Obj)} {H : Addr} {o o' : Obj} (ho : OwnOff own (((H, o) :: (conc ++ prs)).map (·.1))) (hoff : ∀ q ∈ (H, o') :: prs', ∀ p ∈ conc ++ (prs ++ own), p.1 ≠ q.1) :
    (∀ p ∈ (H, o') :: (conc ++ (prs' ++ prs)), p ∈ ((H, o') :: prs') ++ (conc ++ (prs ++ own))) ∧ (∀ p ∈ own, p ∈ ((H, o') :: prs') ++ (conc ++ (prs ++ own))) ∧ OwnOff own (((H, o') :: (conc ++ (prs' ++ prs))).map (·.1)) := by
  refine ⟨fun p hp => ?_, fun p hp => ?_, fun p hp c hc => ?_⟩
  · simp only [List.mem_cons, List.mem_append] at hp ⊢
    rcases hp with h | h | h | h
    · exact .inl (.inl h)
    · exact .inr (.inl h)
    · exact .inl (.inr h)
    · exact .inr (.inr (.inl h))
  · simp only [List.mem_cons, List.mem_append]
    exact .inr (.inr (.inr hp))
  · obtain ⟨q, hq, rfl⟩ := List.mem_map.mp hc
    simp only [List.mem_cons, List.mem_append] at hq
    have inn : p ∈ conc ++ (prs ++ own) := by simp only [List.mem_append]; exact .inr (.inr hp)
    rcases hq with h | h | h | h
    · subst h
      exact ho p hp _ (List.mem_map.mpr ⟨(H, o), .head _, rfl⟩)
    · exact ho p hp _ (List.mem_map.mpr ⟨q, .tail _ (List.mem_append_left _ h), rfl⟩)
    · exact hoff q (.tail _ h) p inn
    · exact ho p hp _ (List.mem_map.mpr ⟨q, .tail _ (List.mem_append_right _ h), rfl⟩)
theorem off_H {own conc prs : List (Addr × Obj)} {H : Addr} {o : Obj} (hc : ∀ p ∈ conc, @Ne Nat p.1 H) (hp : ∀ p ∈ prs, @Ne Nat p.1 H) (ho : OwnOff own (((H, o) :: (conc ++ prs)).map (·.1))) : ∀ p ∈ conc ++ (prs ++ own), p.1 ∉ [(H, o)].map (·.1) := fun p h1 h2 => by
  have e : p.1 = H := List.mem_singleton.mp h2
  simp only [List.mem_append] at h1
  rcases h1 with h | h | h
  · exact hc p h e
  · exact hp p h e
  · exact ho p h H (.head _) e
theorem held_at {g h : Heap} {L : Addr} {led : List (Addr × Obj)} {hv : List Value} (N : News g L h led) (H : HeldIn led hv) : ∀ v ∈ hv, PairAt h v := fun v hv' => pair_at N (H v hv')
end Mine
namespace Mine
end Mine
namespace Mine
end Mine
namespace Mine
end Mine

end

section
open PySem PySem.W PySem.Calls PyProof.Rows
local macro_rules | `(tactic| walk_at "eval ListComp") => `(tactic| refine Mine.stop_of ?_)
local macro_rules | `(tactic| walk_at "call ref") => `(tactic| refine Mine.stop_of ?_)
local macro_rules | `(tactic| walk_at "exec For Name Name cons nil") => `(tactic| refine Mine.stop_of ?_)
local macro_rules | `(tactic| walk_at "exec For Name Call cons nil") => `(tactic| refine Mine.stop_of ?_)
local macro_rules | `(tactic| walk_at "exec For Name Attribute cons nil") => `(tactic| refine Mine.stop_of ?_)
local macro_rules | `(tactic| walk_at "exec For Name List cons nil") => `(tactic| refine Mine.stop_of ?_)
local macro_rules | `(tactic| walk_at "exec For Name Subscript cons nil") => `(tactic| refine Mine.stop_of ?_)
local macro_rules | `(tactic| walk_at "exec For Tuple Name cons nil") => `(tactic| refine Mine.stop_of ?_)
local macro_rules | `(tactic| walk_at "exec For Tuple Call cons nil") => `(tactic| refine Mine.stop_of ?_)
local macro_rules | `(tactic| walk_at "exec For Tuple Attribute cons nil") => `(tactic| refine Mine.stop_of ?_)
local macro_rules | `(tactic| walk_at "exec For Tuple List cons nil") => `(tactic| refine Mine.stop_of ?_)
local macro_rules | `(tactic| walk_at "exec For Tuple Subscript cons nil") => `(tactic| refine Mine.stop_of ?_)
local macro_rules | `(tactic| walk_at "exec For") => `(tactic| refine Mine.stop_of ?_)
local macro_rules | `(tactic| walk_at "exec While") => `(tactic| refine Mine.stop_of ?_)
local macro_rules | `(tactic| walk_at "exec While Compare cons nil") => `(tactic| refine Mine.stop_of ?_)
local macro_rules | `(tactic| walk_at "exec Try") => `(tactic| refine Mine.stop_of ?_)
local macro_rules | `(tactic| walk_at "leaving ref") => `(tactic| refine Mine.stop_of ?_)
local macro_rules | `(tactic| walk_at "noteFrame ref") => `(tactic| refine Mine.stop_of ?_)
local macro_rules | `(tactic| walk_at "handleBy ref") => `(tactic| refine Mine.stop_of ?_)
local macro_rules | `(tactic| walk_at "call type:zip") => `(tactic| refine Mine.stop_of ?_)
local macro_rules | `(tactic| walk_at "call type:enumerate") => `(tactic| refine Mine.stop_of ?_)
local macro_rules | `(tactic| walk_at "m:list") => `(tactic| first | exact Mine.lst_led (by assumption) (by k_mem) | exact Mine.lst_base (by assumption) (by assumption) | assumption)
local macro_rules | `(tactic| walk_at "m:len") => `(tactic| first | omega | (simp only [Mine.addOf_length]; omega))
local macro_rules | `(tactic| walk_at "m:row") => `(tactic| first | assumption | exact Mine.addOf_isRow _ _)
local macro_rules | `(tactic| walk_at "eval Call") => `(tactic| (k_dflt (refine Call_ ?_)))
local macro_rules | `(tactic| walk_at "eval Call Attribute") => `(tactic| (k_dflt (refine MethodCall_ ?_)))
local macro_rules | `(tactic| walk_at "execs cons Assign cons") => `(tactic| (refine wpAny_execs_cons ?_; try dsimp only))
local macro_rules | `(tactic| walk_at "exec Assign cons ListComp") => `(tactic| refine wpAny_Assign_Name ?_)
namespace Mine
section
variable {w : World} {mean : ExcName → Option Value} {mg mb : Str → Option Value} {base : Heap} {fr : List Env} {dp un : Nat} {gd : Option (List Code)} {s : Shared} {Q E : Value → Shared → Prop}

theorem c_is_sign {n : Int} {t : Tok} (G : Gd (Mine.KK w.params) Mine.view (looseW Mine.view [Str.ofString "MOST_NOUGHTS"]) mean mg mb base fr s.heap) (hd : dp + 1 < recursionLimit) (hu : un + 110 < cLine)
    
    (ret : ∀ h' tk', s.heap.StaysIn h' → Q (.bool (decide (0 ≤ n) && decide (n ≤ 1))) { s with heap := h', toks := tk' }) :
    wpAny (model PySem.Challenge.rw_uf040037_09.row.prog w) (arA dp un gd fr) (call (.ref 113) [.int n t]) Q E s := by
  revert G; k_fill; intro G
  refine' enter0 (binds := [(Str.ofString "sign", .int n t)]) G ?k6 ?k7 ?k8 ?k9 ?kB ?_ ?c2 ?c3 ?c4 ?c5
  case k6 => k_is
  case k7 => k_is
  case k8 => omega
  case k9 => exact BindsTo.of_eq rfl
  case kB => exact locs rfl
  case c2 => exact rfl
  case c3 => exact rfl
  case c4 => exact rfl
  case c5 => decide
  intro L' h' tk F'
  have N' : News s.heap L' h' [] := News.nil
  have B' := G.below dp un gd
  have X' := G.kin
  have T' := G.top
  k_steps
  · refine ret_val (s := s) (Q := Q) ret ?_ F'.keep; simp [*]
  · refine ret_val (s := s) (Q := Q) ret ?_ F'.keep; simp [*]

theorem c_need_row {l : Addr} {vs : List Value} {ns : List Int} (G : Gd (Mine.KK w.params) Mine.view (looseW Mine.view [Str.ofString "MOST_NOUGHTS"]) mean mg mb base fr s.heap) (hd : dp + 2 < recursionLimit) (hu : un + 120 < cLine)
    (hl : s.heap.IsList l vs.toArray) (hi : IntsAre vs ns) (hr : IsRow ns)
    (ret : ∀ h' tk', s.heap.StaysIn h' → Q (.none) { s with heap := h', toks := tk' }) :
    wpAny (model PySem.Challenge.rw_uf040037_09.row.prog w) (arA dp un gd fr) (call (.ref 120) [.ref l]) Q E s := by
  revert G; k_fill; intro G
  refine' enter0 (binds := [(Str.ofString "row", .ref l)]) G ?k6 ?k7 ?k8 ?k9 ?kB ?_ ?c2 ?c3 ?c4 ?c5
  case k6 => k_is
  case k7 => k_is
  case k8 => omega
  case k9 => exact BindsTo.of_eq rfl
  case kB => exact locs rfl
  case c2 => exact rfl
  case c3 => exact rfl
  case c4 => exact rfl
  case c5 => decide
  intro L' h' tk F'
  have N' : News s.heap L' h' [] := News.nil
  have B' := G.below dp un gd
  have X' := G.kin
  have T' := G.top
  k_steps
  refine go_on (for_list (fun _ _ _ => True) rfl F' N' rfl hl hi trivial ?_ ?_ rfl rfl rfl (by decide) (by passes_own))
  · intro i n t m₁ news₁ h₂ tk₂ own hn hm ho _ F₂ N₂
    clear F' N'
    obtain rfl : news₁ = [] := List.map_eq_nil_iff.mp hm
    have hx := hr n (List.mem_of_getElem? hn)
    k_steps
    refine go_on (c_is_sign (G.push F₂ rfl) (by omega) (by omega) fun h₃ tk₃ k₃ => ?_)
    have F₃ := fr_on F₂ k₃
    have N₃ := news_on N₂ k₃
    clear F₂ N₂
    k_steps
    exact TEnd.intro (nx := []) F₃ N₃ trivial rfl (by simp) (by simp)
  · intro m₁ news₁ h₂ tk₂ _ F₂ N₂
    exact wpAny_execs_nil (ret _ _ F₂.keep)

local macro_rules | `(tactic| walk_at "call ref") => `(tactic| (k_dflt (
  (rename Fr _ _ _ _ => fF'); (rename News _ _ _ _ => fN');
  (first | refine' Mine.c_need_row (Mine.Gd.push (by assumption) fF' ?kk) ?hd ?hu ?hl ?hi ?hr ?_ | refine' Mine.c_need_row (Mine.Gd.pushC (by assumption) fF' ?kk) ?hd ?hu ?hl ?hi ?hr ?_); ((case kk => exact rfl); (case hd => omega); (case hu => omega); (case hl => walk_at "m:list"); (case hi => assumption); (case hr => assumption); skip);
  intro h' tk' k'; (have F' := Mine.fr_on fF' k'); (have N' := Mine.news_on fN' k'); clear fF' fN' k'; (try dsimp only))))
section
local macro_rules | `(tactic| walk_at "subscriptTail Name Slice ref ref") => `(tactic| refine Mine.stop_of ?_)

theorem c_parted {l l₂ : Addr} {vs vs₂ : List Value} {ns ms : List Int} (G : Gd (Mine.KK w.params) Mine.view (looseW Mine.view [Str.ofString "MOST_NOUGHTS"]) mean mg mb base fr s.heap) (hd : dp + 3 < recursionLimit) (hu : un + 130 < cLine)
    (hl : s.heap.IsList l vs.toArray) (hi : IntsAre vs ns) (hz : ns.length ≤ 10000) (hr : IsRow ns) (hl₂ : s.heap.IsList l₂ vs₂.toArray) (hi₂ : IntsAre vs₂ ms) (hz₂ : ms.length ≤ 10000) (hr₂ : IsRow ms) (raise : (ms.length = 0 ∨ ms.getD 0 0 = 0) → ∀ e t us h' tk', RaisedS base s.heap fr e (.ref 56) t us [] h' → s.heap.UpToSlots h' → E (.ref e) { s with heap := h', toks := tk' })
    (ret : IsDiv1 ms → ∀ h' tk' T D₁ vs₁ c₁ D₂ vs₂ c₂, s.heap.StaysIn h' → s.heap.get? T = none → s.heap.get? D₁ = none → s.heap.get? D₂ = none → h'.get? T = some (tupO [.ref D₁, .ref D₂]) → h'.get? D₁ = some (listOf (List.toArray vs₁) c₁) → IntsAre vs₁ (quotOf ns ms) → h'.get? D₂ = some (listOf (List.toArray vs₂) c₂) → IntsAre vs₂ (restBy ns ms) → @LT.lt Nat _ D₁ D₂ → @LT.lt Nat _ D₂ T → Q (.ref T) { s with heap := h', toks := tk' }) :
    wpAny (model PySem.Challenge.rw_uf040037_09.row.prog w) (arA dp un gd fr) (call (.ref 141) [.ref l, .ref l₂]) Q E s := by
  revert G; k_fill; intro G
  refine' enter0 (binds := [(Str.ofString "row", .ref l), (Str.ofString "divisor", .ref l₂)]) G ?k6 ?k7 ?k8 ?k9 ?kB ?_ ?c2 ?c3 ?c4 ?c5
  case k6 => k_is
  case k7 => k_is
  case k8 => omega
  case k9 => exact BindsTo.of_eq rfl
  case kB => exact locs rfl
  case c2 => exact rfl
  case c3 => exact rfl
  case c4 => exact rfl
  case c5 => decide
  intro L' h' tk F'
  have N' : News s.heap L' h' [] := News.nil
  have B' := G.below dp un gd
  have X' := G.kin
  have T' := G.top
  k_steps
  · rename Heap.MadeExcOf _ _ _ _ _ => hx
    rename Fr _ _ _ _ => F₉
    refine go_on (A_raise G hx F₉ (fun h₈ t₈ R U => raise (.inl (by omega)) _ _ _ _ _ R U) rfl)
  · rename Heap.MadeExcOf _ _ _ _ _ => hx
    rename Fr _ _ _ _ => F₉
    refine go_on (A_raise G hx F₉ (fun h₈ t₈ R U => raise (.inr (by assumption)) _ _ _ _ _ R U) rfl)
  rename_i hq1 _ hq2 _ _ _ _ _ _ _ _ _ i1 n1 s1 e1 e2 e3 _ ll ws _ hI₉ _ _ lq _ hlt _ F₉ N₉
  clear i1 s1 e1 e2 e3
  have N₈ := news_pick2 N₉ (.head _) (.tail _ (.head _))
  have hd1 : IsDiv1 ms := isDiv1_of hr₂ (fun h => h.elim (fun h => hq1 (by omega)) hq2)
  rw [leftOf_eq ns ms _ (by split <;> omega)] at hI₉
  have hlen := leftOf_length ns ms
  have hlr := leftOf_isRow hr ms
  clear N₉
  refine go_on (for_range (L := L') (n := (leftOf ns ms).length - (ms.length - 1)) (a₀ := 0) (b₀ := ((leftOf ns ms).length : Int) - ((ms.length : Int) - 1)) (fun i m nx => ∃ (us ls : List Value) (cq cl : Nat), nx = [(lq, listOf us.toArray cq), (ll, listOf ls.toArray cl)] ∧ m (Str.ofString "quotient") = some (.ref lq) ∧ m (Str.ofString "left") = some (.ref ll) ∧ m (Str.ofString "divisor") = some (.ref l₂) ∧ (∃ tw, m (Str.ofString "width") = some (.int ((ms.length : Int) - 1) tw)) ∧ IntsAre us (partLoop ms (leftOf ns ms) i).2 ∧ IntsAre ls (partLoop ms (leftOf ns ms) i).1) rfl rfl F₉ N₈ (by omega) (by omega) ?_ ⟨[], _, _, _, rfl, rfl, rfl, rfl, ⟨_, rfl⟩, .nil, hI₉⟩ ?_ ?_ rfl rfl (fun _ => rfl) (by passes_own))
  · intro Q' q
    k_steps
    exact q _ _ _ _ _ _ (by assumption) (by assumption) (by assumption)
  · rintro i ti m₁ news₁ h₂ tk₂ own hin hadr ho ⟨us, ls, cq, cl, rfl, e1, e2, e3, ⟨tw, e4⟩, hIu, hIl⟩ F₂ N₂
    clear F₉ N₈ hI₉
    replace F₂ := fr_know (Str.ofString "quotient") (fr_know (Str.ofString "left") (fr_know (Str.ofString "divisor") F₂ e3) e2) e1
    have hpl := (partLoop_len ms (leftOf ns ms) i).1
    have hpr := (partLoop_isRow ms hlr i).1
    have hql := (partLoop_len ms (leftOf ns ms) i).2
    k_steps
    · rename_i hs1
      rename Fr _ _ _ _ => F₅
      rename News _ _ _ _ => N₅
      refine go_on (for_enumK (L := L') (news := [(lq, _), (ll, listOf ls.toArray cl)]) (fun j m nx => ∃ (ls' : List Value) (rs' : List Int), nx = [(lq, _), (ll, listOf ls'.toArray cl)] ∧ m (Str.ofString "quotient") = some (.ref lq) ∧ m (Str.ofString "left") = some (.ref ll) ∧ m (Str.ofString "divisor") = some (.ref l₂) ∧ m (Str.ofString "width") = some (.int ((ms.length : Int) - 1) tw) ∧ m (Str.ofString "place") = some (.int (0 + (i : Int)) ti) ∧ IntsAre ls' rs' ∧ rs' = xorFrom (partLoop ms (leftOf ns ms) i).1 i (ms.take j)) rfl rfl F₅ N₅ ho hl₂ hi₂ ?_ ⟨ls, _, rfl, rfl, rfl, rfl, e4, rfl, hIl, by rw [List.take_zero]; rfl⟩ ?_ ?_ rfl rfl rfl (fun _ => rfl) (by passes_own))
      · intro Q' q; k_steps; exact go_on q
      · rintro j x t₃ t₄ m₃ news₃ h₃ tk₃ own₃ hx hadr₃ ho₃ ⟨ls₃, rs₃, rfl, e1₃, e2₃, e3₃, e4₃, e5₃, hI₃, hrs₃⟩ F₃ N₃
        clear F₅ N₅ hIl
        replace F₃ := fr_know (Str.ofString "left") (fr_know (Str.ofString "place") F₃ e5₃) e2₃
        have hjm : j < ms.length := (List.getElem?_eq_some_iff.mp hx).1
        have hl₃ : rs₃.length = (leftOf ns ms).length := by rw [hrs₃, xorFrom_length, hpl]
        k_steps
        rename Fr _ _ _ _ => F₆
        rename News _ _ _ _ => N₆
        rename IntsAre (List.set _ _ _) _ => hI₆
        refine TEnd.intro (nx := [(lq, _), (ll, _)]) F₆ N₆ ⟨_, _, rfl, e1₃, rfl, e3₃, e4₃, rfl, hI₆, ?_⟩ rfl (List.forall_mem_cons.mpr ⟨.head _, List.forall_mem_cons.mpr ⟨.tail _ (.head _), List.forall_mem_nil _⟩⟩) (fun p hp => .tail _ (.tail _ hp))
        rw [Int.zero_add]
        exact xor_next hrs₃ hx
      · rintro m₃ news₃ h₃ tk₃ ⟨ls₃, rs₃, rfl, e1₃, e2₃, e3₃, e4₃, e5₃, hI₃, hrs₃⟩ hadr₃ F₃ N₃
        clear F₅ N₅ hIl
        k_steps
        have e0 : (0 + (i : Int)).toNat = i := by omega
        simp only [List.push_toArray, e0] at N₃
        refine TEnd.intro (nx := [(lq, listOf (us ++ [_]).toArray (cq + 1)), (ll, listOf ls₃.toArray cl)]) F₃ N₃ ⟨_, _, _, _, rfl, e1₃, e2₃, e3₃, ⟨_, e4₃⟩, hIu.append (.cons _ _ .nil), ?_⟩ rfl (List.forall_mem_cons.mpr ⟨.head _, List.forall_mem_cons.mpr ⟨.tail _ (.head _), List.forall_mem_nil _⟩⟩) (fun p hp => .tail _ (.tail _ hp))
        rw [hrs₃, List.take_length] at hI₃
        rw [partLoop_succ, if_pos (by rw [Int.zero_add] at hs1; exact hs1)]
        exact hI₃
    · rename_i hs1
      rename Fr _ _ _ _ => F₅
      rename News _ _ _ _ => N₅
      have e0 : (0 + (i : Int)).toNat = i := by omega
      simp only [List.push_toArray, e0] at N₅
      refine TEnd.intro (nx := [(lq, listOf (us ++ [_]).toArray (cq + 1)), (ll, listOf ls.toArray cl)]) F₅ N₅ ⟨_, _, _, _, rfl, rfl, rfl, rfl, ⟨_, e4⟩, hIu.append (.cons _ _ .nil), ?_⟩ rfl (List.forall_mem_cons.mpr ⟨.head _, List.forall_mem_cons.mpr ⟨.tail _ (.head _), List.forall_mem_nil _⟩⟩) (fun p hp => .tail _ (.tail _ hp))
      rw [partLoop_succ, if_neg (by rw [Int.zero_add] at hs1; exact hs1)]
      exact hIl
  · rintro m₁ news₁ h₂ tk₂ ⟨us, ls, cq, cl, rfl, e1, e2, e3, ⟨tw, e4⟩, hIu, hIl⟩ F₂ N₂
    clear F₉ N₈ hI₉
    replace F₂ := fr_know (Str.ofString "quotient") (fr_know (Str.ofString "left") (fr_know (Str.ofString "width") F₂ e4) e2) e1
    have hpl := (partLoop_len ms (leftOf ns ms) ((leftOf ns ms).length - (ms.length - 1))).1
    have hw1 : ms.length - 1 ≤ (leftOf ns ms).length := by rw [hlen]; omega
    have hw2 : (leftOf ns ms).length ≤ 10000 := by rw [hlen]; omega
    generalize hrs : (partLoop ms (leftOf ns ms) ((leftOf ns ms).length - (ms.length - 1))).1 = rs at hIl hpl
    have hb1 : (ms.length : Int) - 1 ≤ (rs.length : Int) := by omega
    have hb2 : rs.length ≤ 10000 := by omega
    have hrs' := go_on hrs
    clear hlen hlr hpl hrs hw1 hw2
    k_steps
    rename Fr _ _ _ _ => F₅
    rename News _ _ _ _ => N₅
    refine go_on ?_
    refine' kmk_slice_ints (vs := ls) (ns := rs) (lo := some ((rs.length : Int) - ((ms.length : Int) - 1))) (hi := none) (ms := rs.drop ((rs.length : Int) - ((ms.length : Int) - 1)).toNat) ?sF ?sN ?sl ?sp ?sq hIl ?sm rfl ?_ ?ss ?st ?sz
    case sF => exact F₅
    case sN => exact N₅
    case sl => exact lst_led N₅ (by k_mem)
    case sp => first | exact IsPart.none | exact IsPart.int _ _
    case sq => first | exact IsPart.none | exact IsPart.int _ _
    case sm => exact (kmk_from hIl (by omega))
    case ss => with_unfolding_all rfl
    case st => intro _; with_unfolding_all rfl
    case sz => rw [List.size_toArray, hIl.length, sizeLine_eq]; omega

    intro D₅ wr h₅ F₆ N₆ l₅ hIr _ hl₅
    replace l₅ := allLt_of l₅
    try simp only [AllLt, and_true] at l₅
    clear F₅ N₅
    dsimp only
    k_steps
    rename Fr _ _ _ _ => F₈
    rename News _ _ _ _ => N₈
    rename D₅ < _ ∧ _ => l2
    have hpl := (partLoop_len ms (leftOf ns ms) ((leftOf ns ms).length - (ms.length - 1))).1
    have hrs₁ := (show _ = rs from hrs')
    clear hrs'
    subst hrs₁
    refine ret hd1 _ _ _ _ us _ _ wr _ F₈.keep (N₈ _ (.head _)).2.2 (N₈ _ (.tail _ (.tail _ (.head _)))).2.2 (N₈ _ (.tail _ (.head _))).2.2 (N₈ _ (.head _)).1 (N₈ _ (.tail _ (.tail _ (.head _)))).1 hIu (N₈ _ (.tail _ (.head _))).1 ?_ l₅.1 l2.1
    rw [hpl, show (((leftOf ns ms).length : Int) - ((ms.length : Int) - 1)).toNat = (leftOf ns ms).length - (ms.length - 1) by omega, parted_rest hd1 hr] at hIr
    exact hIr
end

theorem c_law_cell_at {l : Addr} {vs : List Value} {ns : List Int} {k : Int} {t : Tok} (G : Gd (Mine.KK w.params) Mine.view (looseW Mine.view [Str.ofString "MOST_NOUGHTS"]) mean mg mb base fr s.heap) (hd : dp + 1 < recursionLimit) (hu : un + 110 < cLine)
    (hl : s.heap.IsList l vs.toArray) (hi : IntsAre vs ns) (hz : ns.length ≤ 1000000) (h0 : 0 ≤ k)
    (ret : ∀ h' tk' t', s.heap.StaysIn h' → Q (.int (ns.getD k.toNat 0) t') { s with heap := h', toks := tk' }) :
    wpAny (model PySem.Challenge.rw_uf040037_09.row.prog w) (arA dp un gd fr) (call (.ref 239) [.ref l, .int k t]) Q E s := by
  revert G; k_fill; intro G
  refine' enter0 (binds := [(Str.ofString "_law_script", .ref l), (Str.ofString "_law_k", .int k t)]) G ?k6 ?k7 ?k8 ?k9 ?kB ?_ ?c2 ?c3 ?c4 ?c5
  case k6 => k_is
  case k7 => k_is
  case k8 => omega
  case k9 => exact BindsTo.of_eq rfl
  case kB => exact locs rfl
  case c2 => exact rfl
  case c3 => exact rfl
  case c4 => exact rfl
  case c5 => decide
  intro L' h' tk F'
  have N' : News s.heap L' h' [] := News.nil
  have B' := G.below dp un gd
  have X' := G.kin
  have T' := G.top
  k_steps
  · exact ret_int (s := s) (Q := Q) ret rfl F'.keep
  · refine ret_int (s := s) (Q := Q) ret ?_ F'.keep
    rw [List.getD_eq_getElem?_getD, List.getElem?_eq_none (by omega)]; rfl

local macro_rules | `(tactic| walk_at "call ref") => `(tactic| (k_dflt (
  (rename Fr _ _ _ _ => fF'); (rename News _ _ _ _ => fN');
  (first | refine' Mine.c_law_cell_at (Mine.Gd.push (by assumption) fF' ?kk) ?hd ?hu ?hl ?hi ?hz ?h0 ?_ | refine' Mine.c_law_cell_at (Mine.Gd.pushC (by assumption) fF' ?kk) ?hd ?hu ?hl ?hi ?hz ?h0 ?_); ((case kk => exact rfl); (case hd => omega); (case hu => omega); (case hl => walk_at "m:list"); (case hi => assumption); (case hz => omega); (case h0 => decide); skip);
  intro h' tk' t' k'; (have F' := Mine.fr_on fF' k'); (have N' := Mine.news_on fN' k'); clear fF' fN' k'; (try dsimp only))))

theorem c_law_row_by {c : Int} {n : Nat} {t t₂ : Tok} (G : Gd (Mine.KK w.params) Mine.view (looseW Mine.view [Str.ofString "MOST_NOUGHTS"]) mean mg mb base fr s.heap) (hd : dp + 1 < recursionLimit) (hu : un + 110 < cLine)
    (hn : n ≤ 100000)
    (ret : ∀ h' tk' D vs' c rs, s.heap.StaysIn h' → s.heap.get? D = none → h'.get? D = some (listOf (List.toArray vs') c) → IntsAre vs' rs → IsRow rs → rs.length = n → Q (.ref D) { s with heap := h', toks := tk' }) :
    wpAny (model PySem.Challenge.rw_uf040037_09.row.prog w) (arA dp un gd fr) (call (.ref 244) [.int c t, .int (n : Int) t₂]) Q E s := by
  revert G; k_fill; intro G
  refine' enter0C (binds := [(Str.ofString "_law_cell", .int c t), (Str.ofString "_law_size", .int (n : Int) t₂)]) G ?k6 ?k7 ?k8 ?k9 ?kB ?kD ?_ ?c2 ?c3 ?c4
  case k6 => k_is
  case k7 => k_is
  case k8 => omega
  case k9 => exact BindsTo.of_eq rfl
  case kB => exact rfl
  case kD => decide +kernel
  case c2 => exact rfl
  case c3 => exact rfl
  case c4 => exact rfl
  intro L' h' tk cells' F' N' Y'
  obtain ⟨oc0, oc1, hE', dc0, dc1⟩ := CellsAre.two Y'
  subst hE'
  clear Y'
  have B' := G.below dp un gd
  have X' := G.kin
  have T' := G.top
  k_steps
  rename_i l₉ hh1 hl₉ hh2 hh3 F₉ N₉
  have hz0 := Int.emod_nonneg (c.fdiv 8) (show (2147483647 : Int) ≠ 0 by decide)
  have hz1 := Int.emod_lt_of_pos (c.fdiv 8) (show (0 : Int) < 2147483647 by decide)
  have hz2 : (c.fdiv 8).fmod 2147483647 = (c.fdiv 8) % 2147483647 := Int.fmod_eq_emod_of_nonneg _ (by decide)
  refine go_on (for_range (n := n) (a₀ := 0) (b₀ := (n : Int)) (fun i m nx => ∃ (z : Int) (tz : Tok) (vs : List Value) (rs : List Int) (cc : Nat), nx = [(l₉, listOf vs.toArray cc), (L' + 1 + 1, oc0), (L' + 1, oc1)] ∧ m (Str.ofString "_law_state") = some (.int z tz) ∧ 0 ≤ z ∧ z < 2147483647 ∧ m (Str.ofString "_law_found") = some (.ref l₉) ∧ IntsAre vs rs ∧ IsRow rs ∧ rs.length = i) rfl rfl F₉ N₉ (by omega) (by omega) ?_ ⟨_, _, [], [], 0, rfl, rfl, by omega, by omega, rfl, .nil, isRow_nil, rfl⟩ ?_ ?_ rfl rfl (fun _ => rfl) (by passes_own))
  · intro Q' q
    k_steps
    exact q _ _ _ _ _ _ (by assumption) (by assumption) (by assumption)
  · rintro i ti m₁ news₁ h₂ tk₂ own hi hadr ho ⟨z, tz, vs, rs, cc, rfl, hm1, hz3, hz4, hm2, hI, hR, hlen⟩ F₂ N₂
    clear F₉ N₉
    have F₃ := fr_know (Str.ofString "_law_found") (fr_know (Str.ofString "_law_state") F₂ hm1) hm2
    clear F₂
    k_steps
    rename Fr _ _ _ _ => F₅
    rename News _ _ _ _ => N₅
    simp only [List.push_toArray] at N₅
    have hb0 := Int.emod_nonneg (z * 48271 + 11) (show (2147483647 : Int) ≠ 0 by decide)
    have hb1 := Int.emod_lt_of_pos (z * 48271 + 11) (show (0 : Int) < 2147483647 by decide)
    have hb2 : (z * 48271 + 11).fmod 2147483647 = (z * 48271 + 11) % 2147483647 := Int.fmod_eq_emod_of_nonneg _ (by decide)
    generalize (z * 48271 + 11).fmod 2147483647 = z' at *
    have hb3 : (z'.fdiv 7).fmod 2 = 0 ∨ (z'.fdiv 7).fmod 2 = 1 := by rw [Int.fmod_eq_emod_of_nonneg _ (by decide)]; omega
    exact TEnd.intro (nx := [(l₉, listOf (vs ++ [_]).toArray (cc + 1)), (L' + 1 + 1, oc0), (L' + 1, oc1)]) F₅ N₅ ⟨z', _, _, rs ++ [_], _, rfl, rfl, by omega, by omega, rfl, hI.append (.cons _ _ .nil), isRow_append.mpr ⟨hR, isRow_single hb3⟩, by simp [hlen]⟩ rfl
      (List.forall_mem_cons.mpr ⟨.head _, List.forall_mem_cons.mpr ⟨.tail _ (.head _), List.forall_mem_cons.mpr ⟨.tail _ (.tail _ (.head _)), List.forall_mem_nil _⟩⟩⟩) (fun p hp => .tail _ (.tail _ (.tail _ hp)))
  · rintro m₁ news₁ h₂ tk₂ ⟨z, tz, vs, rs, cc, rfl, hm1, hz3, hz4, hm2, hI, hR, hlen⟩ F₂ N₂
    clear F₉ N₉
    refine cut (RowI s s.heap L' [(L' + 1 + 1, oc0), (L' + 1, oc1)] (Str.ofString "_law_found") n) ?_ ?_
    · have F₃ := fr_know (Str.ofString "_law_found") F₂ hm2
      clear F₂
      k_steps
      · rename Fr _ _ _ _ => F₈
        rename News _ _ _ _ => N₈
        exact RowI.of F₈ N₈ rfl (.head _) (fun p hp => .tail _ (.tail _ (.tail _ hp))) (by assumption) (isRow_flat (.inl rfl)) (by rw [flat_length]; simp)
      · exact RowI.of F₃ N₂ rfl (.head _) (fun p hp => .tail _ hp) hI hR hlen
    · rintro s' ⟨h₃, tk₃, D₃, vs₃, cc₃, rs₃, m₃, rfl, F₃, N₃, hm₃, hI₃, hR₃, hl₃⟩
      refine cut (RowI s s.heap L' [(L' + 1 + 1, oc0), (L' + 1, oc1)] (Str.ofString "_law_found") n) ?_ ?_
      · have F₄ := fr_know (Str.ofString "_law_found") F₃ hm₃
        clear F₃
        k_steps
        · rename Fr _ _ _ _ => F₈
          rename News _ _ _ _ => N₈
          exact RowI.of F₈ N₈ rfl (.head _) (fun p hp => .tail _ (.tail _ hp)) (by assumption) (isRow_map_ite _ _) (by simp [rangeKs_length])
        · exact RowI.of F₄ N₃ rfl (.head _) (fun p hp => .tail _ hp) hI₃ hR₃ hl₃
      · clear F₃ N₃
        rintro s' ⟨h₄, tk₄, D₄, vs₄, cc₄, rs₄, m₄, rfl, F₄, N₄, hm₄, hI₄, hR₄, hl₄⟩
        refine cut (RowI s s.heap L' [(L' + 1 + 1, oc0), (L' + 1, oc1)] (Str.ofString "_law_found") n) ?_ ?_
        · have F₅ := fr_know (Str.ofString "_law_found") F₄ hm₄
          clear F₄
          k_steps
          · rename Fr _ _ _ _ => F₈
            rename News _ _ _ _ => N₈
            exact RowI.of F₈ N₈ rfl (.head _) (fun p hp => .tail _ (.tail _ (.tail _ hp))) (by assumption) (isRow_flat (.inr rfl)) (by rw [flat_length]; simp)
          · exact RowI.of F₅ N₄ rfl (.head _) (fun p hp => .tail _ hp) hI₄ hR₄ hl₄
        · clear F₄ N₄
          rintro s' ⟨h₅, tk₅, D₅, vs₅, cc₅, rs₅, m₅, rfl, F₅, N₅, hm₅, hI₅, hR₅, hl₅⟩
          have F₆ := fr_know (Str.ofString "_law_found") F₅ hm₅
          clear F₅
          k_steps
          exact ret _ _ D₅ vs₅ cc₅ rs₅ F₆.keep (N₅ _ (.head _)).2.2 (N₅ _ (.head _)).1 hI₅ hR₅ hl₅

local macro_rules | `(tactic| walk_at "call ref") => `(tactic| (k_dflt (
  (rename Fr _ _ _ _ => fF'); (rename News _ _ _ _ => fN');
  (first | refine' Mine.c_law_row_by (Mine.Gd.push (by assumption) fF' ?kk) ?hd ?hu ?hn ?_ | refine' Mine.c_law_row_by (Mine.Gd.pushC (by assumption) fF' ?kk) ?hd ?hu ?hn ?_); ((case kk => exact rfl); (case hd => omega); (case hu => omega); (case hn => omega); skip);
  intro h' tk' D' vs' c' rs' k' hn' ho' hi' hr' hlen'; (have F' := Mine.fr_on fF' k'); (have ne' := Mine.allNe_of (Mine.news_ne fN' hn')); (try simp only [Mine.AllNe, and_true] at ne'); (have N' := Mine.news_more fF' fN' k' hn' ho'); clear fF' fN' k' hn' ho'; (try dsimp only))))

theorem c_law_is_row {l : Addr} {vs : List Value} {ns : List Int} {k : Int} {t : Tok} (G : Gd (Mine.KK w.params) Mine.view (looseW Mine.view [Str.ofString "MOST_NOUGHTS"]) mean mg mb base fr s.heap) (hd : dp + 1 < recursionLimit) (hu : un + 110 < cLine)
    (hl : s.heap.IsList l vs.toArray) (hi : IntsAre vs ns) (hz : ns.length ≤ 1000000) (hr : IsRow ns)
    (ret : ∀ h' tk', s.heap.StaysIn h' → Q (.bool (decide ((ns.length : Int) = k))) { s with heap := h', toks := tk' }) :
    wpAny (model PySem.Challenge.rw_uf040037_09.row.prog w) (arA dp un gd fr) (call (.ref 249) [.ref l, .int k t]) Q E s := by
  revert G; k_fill; intro G
  refine' enter0 (binds := [(Str.ofString "_law_found", .ref l), (Str.ofString "_law_size", .int k t)]) G ?k6 ?k7 ?k8 ?k9 ?kB ?_ ?c2 ?c3 ?c4 ?c5
  case k6 => k_is
  case k7 => k_is
  case k8 => omega
  case k9 => exact BindsTo.of_eq rfl
  case kB => exact locs rfl
  case c2 => exact rfl
  case c3 => exact rfl
  case c4 => exact rfl
  case c5 => decide
  intro L' h' tk F'
  have N' : News s.heap L' h' [] := News.nil
  have B' := G.below dp un gd
  have X' := G.kin
  have T' := G.top
  k_steps
  · refine ret_bool (s := s) (Q := Q) ret ?_ F'.keep; simp [*]
  · refine go_on (comp_list (fun _ v => v = .bool true) rfl F' N' (lst_base F' hl) (by rw [hi.length, sizeLine_eq]; omega) (fun Q' q => ld F' rfl q) ?_ ?_ rfl (by decide) rfl (by decide) rfl (fun _ => rfl))
    · intro i x C h₂ tk₂ m₂ E' hx hC hns hma hup
      obtain ⟨oC, hoC, hNs⟩ := LCg.ns_obj hns
      have F₂ := fr_on F' hup
      have N₂ := news_more F' N' hup hC hoC
      clear F' N'
      have hlt : i < ns.length := by rw [← hi.length]; exact (List.getElem?_eq_some_iff.mp hx).1
      obtain ⟨t₂, e₂⟩ := hi.get i ns[i] (List.getElem?_eq_getElem hlt)
      obtain rfl : x = .int ns[i] t₂ := Option.some.inj (hx.symm.trans e₂)
      have hx01 := hr.getElem hlt
      generalize ns[i] = n at *
      k_steps
      · rcases hx01 with rfl | rfl <;> rfl
      · exact fun _ _ e => e
    · intro D h₂ tk₂ zs F₂ N₂ l₂ hl₂ hP₂
      clear F' N'
      k_steps
      refine LSm.all_bools F₂ N₂ rfl (lst_led N₂ (.head _)) (bools_true hP₂) fun h₃ tk₃ F₃ N₃ => ?_
      refine ret_bool (s := s) (Q := Q) ret ?_ F₃.keep
      rw [all_true]; simp [*]

local macro_rules | `(tactic| walk_at "call ref") => `(tactic| (k_dflt (
  (rename Fr _ _ _ _ => fF'); (rename News _ _ _ _ => fN');
  (first | refine' Mine.c_law_is_row (Mine.Gd.push (by assumption) fF' ?kk) ?hd ?hu ?hl ?hi ?hz ?hr ?_ | refine' Mine.c_law_is_row (Mine.Gd.pushC (by assumption) fF' ?kk) ?hd ?hu ?hl ?hi ?hz ?hr ?_); ((case kk => exact rfl); (case hd => omega); (case hu => omega); (case hl => walk_at "m:list"); (case hi => assumption); (case hz => walk_at "m:len"); (case hr => walk_at "m:row"); skip);
  intro h' tk' k'; (have F' := Mine.fr_on fF' k'); (have N' := Mine.news_on fN' k'); clear fF' fN' k'; (try dsimp only))))

theorem c_value_of {l : Addr} {vs : List Value} {ns : List Int} (G : Gd (Mine.KK w.params) Mine.view (looseW Mine.view [Str.ofString "MOST_NOUGHTS"]) mean mg mb base fr s.heap) (hd : dp + 1 < recursionLimit) (hu : un + 110 < cLine)
    (hl : s.heap.IsList l vs.toArray) (hi : IntsAre vs ns) (hr : IsRow ns)
    (ret : ∀ h' tk' t', s.heap.StaysIn h' → Q (.int ((val ns : Int)) t') { s with heap := h', toks := tk' }) :
    wpAny (model PySem.Challenge.rw_uf040037_09.row.prog w) (arA dp un gd fr) (call (.ref 127) [.ref l]) Q E s := by
  revert G; k_fill; intro G
  refine' enter0 (binds := [(Str.ofString "row", .ref l)]) G ?k6 ?k7 ?k8 ?k9 ?kB ?_ ?c2 ?c3 ?c4 ?c5
  case k6 => k_is
  case k7 => k_is
  case k8 => omega
  case k9 => exact BindsTo.of_eq rfl
  case kB => exact locs rfl
  case c2 => exact rfl
  case c3 => exact rfl
  case c4 => exact rfl
  case c5 => decide
  intro L' h' tk F'
  have N' : News s.heap L' h' [] := News.nil
  have B' := G.below dp un gd
  have X' := G.kin
  have T' := G.top
  k_steps
  rename Fr _ _ _ _ => F₉
  rename News _ _ _ _ => N₉
  refine go_on (for_list (L := L') (fun i m nx => nx = [] ∧ ∃ z t, m (Str.ofString "found") = some (.int z t) ∧ z = (val (ns.take i) : Int)) rfl F₉ N₉ rfl hl hi ⟨rfl, _, _, rfl, by simp [val_nil]⟩ ?_ ?_ rfl rfl rfl (by decide) (by passes_own))
  · rintro i n t m₁ news₁ h₂ tk₂ own hn hm ho ⟨rfl, z, tz, e1, hz1⟩ F₂ N₂
    clear F₉ N₉
    replace F₂ := fr_know (Str.ofString "found") F₂ e1
    have hn01 : n = 0 ∨ n = 1 := hr n (List.mem_of_getElem? hn)
    k_steps
    rename Fr _ _ _ _ => F₅
    rename News _ _ _ _ => N₅
    refine TEnd.intro (nx := []) F₅ N₅ ⟨rfl, _, _, rfl, ?_⟩ rfl (by simp) (fun p hp => hp)
    rw [List.take_add_one, hn, Option.toList_some, val_snoc, hz1]
    rcases hn01 with rfl | rfl <;> simp <;> omega
  · rintro m₁ news₁ h₂ tk₂ ⟨rfl, z, tz, e1, hz1⟩ F₂ N₂
    clear F₉ N₉
    replace F₂ := fr_know (Str.ofString "found") F₂ e1
    k_steps
    refine ret_int (s := s) (Q := Q) ret ?_ F₂.keep
    rw [hz1, List.take_length]

local macro_rules | `(tactic| walk_at "call ref") => `(tactic| (k_dflt (
  (rename Fr _ _ _ _ => fF'); (rename News _ _ _ _ => fN');
  (first | refine' Mine.c_value_of (Mine.Gd.push (by assumption) fF' ?kk) ?hd ?hu ?hl ?hi ?hr ?_ | refine' Mine.c_value_of (Mine.Gd.pushC (by assumption) fF' ?kk) ?hd ?hu ?hl ?hi ?hr ?_); ((case kk => exact rfl); (case hd => omega); (case hu => omega); (case hl => walk_at "m:list"); (case hi => assumption); (case hr => walk_at "m:row"); skip);
  intro h' tk' t' k'; (have F' := Mine.fr_on fF' k'); (have N' := Mine.news_on fN' k'); clear fF' fN' k'; (try dsimp only))))

theorem c_onward {a b c : Int} {t₁ t₂ t₃ : Tok} (v n wd : Nat) (G : Gd (Mine.KK w.params) Mine.view (looseW Mine.view [Str.ofString "MOST_NOUGHTS"]) mean mg mb base fr s.heap) (hd : dp + 1 < recursionLimit) (hu : un + 110 < cLine)
    (ha : a = (v : Int)) (hb : b = (n : Int)) (hc : c = (wd : Int))
    (ret : ∀ h' tk' t', s.heap.StaysIn h' → Q (.int ((onw n wd v : Int)) t') { s with heap := h', toks := tk' }) :
    wpAny (model PySem.Challenge.rw_uf040037_09.row.prog w) (arA dp un gd fr) (call (.ref 155) [.int a t₁, .int b t₂, .int c t₃]) Q E s := by
  revert G; k_fill; intro G
  refine' enter0 (binds := [(Str.ofString "value", .int a t₁), (Str.ofString "divisor", .int b t₂), (Str.ofString "width", .int c t₃)]) G ?k6 ?k7 ?k8 ?k9 ?kB ?_ ?c2 ?c3 ?c4 ?c5
  case k6 => k_is
  case k7 => k_is
  case k8 => omega
  case k9 => exact BindsTo.of_eq rfl
  case kB => exact locs rfl
  case c2 => exact rfl
  case c3 => exact rfl
  case c4 => exact rfl
  case c5 => decide
  intro L' h' tk F'
  have N' : News s.heap L' h' [] := News.nil
  have B' := G.below dp un gd
  have X' := G.kin
  have T' := G.top
  subst ha hb hc
  k_steps
  · rename Fr _ _ _ _ => F₈
    exact ret_int (s := s) (Q := Q) ret (onward_yes (by assumption)) F₈.keep
  · rename Fr _ _ _ _ => F₈
    exact ret_int (s := s) (Q := Q) ret (onward_no (by assumption)) F₈.keep

theorem c_need_divisor {l : Addr} {vs : List Value} {ns : List Int} (G : Gd (Mine.KK w.params) Mine.view (looseW Mine.view [Str.ofString "MOST_NOUGHTS"]) mean mg mb base fr s.heap) (hd : dp + 3 < recursionLimit) (hu : un + 130 < cLine)
    (hl : s.heap.IsList l vs.toArray) (hi : IntsAre vs ns) (hz : ns.length ≤ 10000) (hr : IsRow ns) (raise : ¬ IsDiv ns → ∀ e t us h' tk', RaisedS base s.heap fr e (.ref 56) t us [] h' → s.heap.UpToSlots h' → E (.ref e) { s with heap := h', toks := tk' })
    (ret : IsDiv ns → ∀ h' tk', s.heap.StaysIn h' → Q .none { s with heap := h', toks := tk' }) :
    wpAny (model PySem.Challenge.rw_uf040037_09.row.prog w) (arA dp un gd fr) (call (.ref 148) [.ref l]) Q E s := by
  revert G; k_fill; intro G
  refine' enter0 (binds := [(Str.ofString "divisor", .ref l)]) G ?k6 ?k7 ?k8 ?k9 ?kB ?_ ?c2 ?c3 ?c4 ?c5
  case k6 => k_is
  case k7 => k_is
  case k8 => omega
  case k9 => exact BindsTo.of_eq rfl
  case kB => exact locs rfl
  case c2 => exact rfl
  case c3 => exact rfl
  case c4 => exact rfl
  case c5 => decide
  intro L' h' tk F'
  have N' : News s.heap L' h' [] := News.nil
  have B' := G.below dp un gd
  have X' := G.kin
  have T' := G.top
  k_steps
  · rename_i h2 h13 h0 _ _ hx
    rename Fr _ _ _ _ => F₉
    exact go_on (A_raise G hx F₉ (fun h₈ t₈ R U => raise (fun hd => by have := hd.first; rw [show Int.toNat 0 = 0 from rfl] at h0; omega) _ _ _ _ _ R U) rfl)
  · rename_i h2 h13 h0 h1 _ _ hx
    rename Fr _ _ _ _ => F₉
    exact go_on (A_raise G hx F₉ (fun h₈ t₈ R U => raise (fun hd => by have := hd.final; rw [show ((ns.length : Int) - 1).toNat = ns.length - 1 by omega] at h1; omega) _ _ _ _ _ R U) rfl)
  · rename Fr _ _ _ _ => F₉
    refine ret (isDiv_of hr (by omega) (by omega) (by assumption) ?_) _ _ F₉.keep
    rw [← show ((ns.length : Int) - 1).toNat = ns.length - 1 by omega]
    assumption
  · rename_i h2 h13 _ _ hx
    rename Fr _ _ _ _ => F₉
    exact go_on (A_raise G hx F₉ (fun h₈ t₈ R U => raise (fun hd => by have := hd.most; omega) _ _ _ _ _ R U) rfl)
  · rename_i h2 _ _ hx
    rename Fr _ _ _ _ => F₉
    exact go_on (A_raise G hx F₉ (fun h₈ t₈ R U => raise (fun hd => by have := hd.least; omega) _ _ _ _ _ R U) rfl)

def WdI (s : Shared) (g : Heap) (L : Addr) (c b : Value) (s' : Shared) : Prop :=
  ∃ h tk m a ta, s' = { s with heap := h, toks := tk } ∧ Fr g L h m ∧ m (Str.ofString "_law_cell") = some c ∧ m (Str.ofString "_law_bits") = some b ∧ m (Str.ofString "_law_width") = some (.int a ta) ∧ 1 ≤ a ∧ a ≤ 12

theorem c_law_divisor_by {c b : Int} {t t₂ : Tok} (G : Gd (Mine.KK w.params) Mine.view (looseW Mine.view [Str.ofString "MOST_NOUGHTS"]) mean mg mb base fr s.heap) (hd : dp + 1 < recursionLimit) (hu : un + 110 < cLine)
    
    (ret : ∀ h' tk' D vs' c ds, s.heap.StaysIn h' → s.heap.get? D = none → h'.get? D = some (listOf (List.toArray vs') c) → IntsAre vs' ds → IsDiv ds → Q (.ref D) { s with heap := h', toks := tk' }) :
    wpAny (model PySem.Challenge.rw_uf040037_09.row.prog w) (arA dp un gd fr) (call (.ref 268) [.int c t, .int b t₂]) Q E s := by
  revert G; k_fill; intro G
  refine' enter0 (binds := [(Str.ofString "_law_cell", .int c t), (Str.ofString "_law_bits", .int b t₂)]) G ?k6 ?k7 ?k8 ?k9 ?kB ?_ ?c2 ?c3 ?c4 ?c5
  case k6 => k_is
  case k7 => k_is
  case k8 => omega
  case k9 => exact BindsTo.of_eq rfl
  case kB => exact locs rfl
  case c2 => exact rfl
  case c3 => exact rfl
  case c4 => exact rfl
  case c5 => decide
  intro L' h' tk F'
  have N' : News s.heap L' h' [] := News.nil
  have B' := G.below dp un gd
  have X' := G.kin
  have T' := G.top
  refine hide1 fun r₁ hr₁ => ?_
  k_steps
  subst hr₁
  rename Fr _ _ _ _ => F₁
  dsimp only
  refine cut (WdI s s.heap L' (.int c t) (.int b t₂)) ?_ ?_
  · k_steps
    · rename Fr _ _ _ _ => F₈
      exact ⟨rfl, _, _, _, _, _, rfl, F₈, rfl, rfl, rfl, by have := fm_ge (c.fdiv 128) 2 (by decide); omega, by have := fm_le (c.fdiv 128) 2 1 (by decide) (by decide); omega⟩
    · exact ⟨rfl, _, _, _, _, _, rfl, F₁, rfl, rfl, rfl, by have := fm_ge c 8 (by decide); omega, by have := fm_le c 8 7 (by decide) (by decide); omega⟩
  clear F₁
  rintro s' ⟨h₂, tk₂, m₂, a, ta, rfl, F₂, e1, e2, e3, ha1, ha2⟩
  replace F₂ := fr_know (Str.ofString "_law_width") (fr_know (Str.ofString "_law_bits") (fr_know (Str.ofString "_law_cell") F₂ e1) e2) e3
  have N₂ : News s.heap L' h₂ [] := News.nil
  refine cut (WdI s s.heap L' (.int c t) (.int b t₂)) ?_ ?_
  · k_steps
    · rename Fr _ _ _ _ => F₈
      exact ⟨rfl, _, _, _, _, _, rfl, F₈, rfl, rfl, rfl, by have := fm_ge (c.fdiv 512) 2 (by decide); omega, by have := fm_le (c.fdiv 512) 2 1 (by decide) (by decide); omega⟩
    · exact ⟨rfl, _, _, _, _, _, rfl, F₂, rfl, rfl, rfl, ha1, ha2⟩
  clear F₂ N₂ e1 e2 e3 ha1 ha2 a ta m₂
  rintro s' ⟨h₃, tk₃, m₃, a, ta, rfl, F₃, e1, e2, e3, ha1, ha2⟩
  replace F₃ := fr_know (Str.ofString "_law_width") (fr_know (Str.ofString "_law_bits") F₃ e2) e3
  have N₃ : News s.heap L' h₃ [] := News.nil
  k_steps
  rename_i l₉ _ _ _ F₉ N₉
  obtain ⟨a, rfl⟩ := Int.eq_ofNat_of_zero_le (show 0 ≤ a by omega)
  refine go_on (for_range (L := L') (n := a - 1) (a₀ := 0) (b₀ := (a : Int) - 1) (fun i m nx => ∃ (us : List Value) (rs : List Int) (cc : Nat) (bb : Int) (tb : Tok), nx = [(l₉, listOf us.toArray cc)] ∧ m (Str.ofString "_law_inner") = some (.ref l₉) ∧ m (Str.ofString "_law_bits") = some (.int bb tb) ∧ IntsAre us rs ∧ IsRow rs ∧ rs.length = i) rfl rfl F₉ N₉ (by omega) (by omega) ?_ ⟨[], [], 0, _, _, rfl, rfl, rfl, .nil, isRow_nil, rfl⟩ ?_ ?_ rfl rfl (fun _ => rfl) (by passes_own))
  · intro Q' q
    k_steps
    exact q _ _ _ _ _ _ (by assumption) (by assumption) (by assumption)
  · rintro i ti m₁ news₁ h₄ tk₄ own hin hadr ho ⟨us, rs, cc, bb, tb, rfl, f1, f2, hI, hR, hlen⟩ F₄ N₄
    clear F₉ N₉
    replace F₄ := fr_know (Str.ofString "_law_inner") (fr_know (Str.ofString "_law_bits") F₄ f2) f1
    k_steps
    rename Fr _ _ _ _ => F₅
    rename News _ _ _ _ => N₅
    simp only [List.push_toArray] at N₅
    exact TEnd.intro (nx := [(l₉, listOf (us ++ [_]).toArray (cc + 1))]) F₅ N₅ ⟨_, rs ++ [_], _, _, _, rfl, rfl, rfl, hI.append (.cons _ _ .nil), isRow_append.mpr ⟨hR, isRow_single (by rw [Int.fmod_eq_emod_of_nonneg _ (by decide)]; omega)⟩, by simp [hlen]⟩ rfl (List.forall_mem_cons.mpr ⟨.head _, List.forall_mem_nil _⟩) (fun p hp => .tail _ hp)
  · rintro m₁ news₁ h₄ tk₄ ⟨us, rs, cc, bb, tb, rfl, f1, f2, hI, hR, hlen⟩ F₄ N₄
    clear F₉ N₉
    replace F₄ := fr_know (Str.ofString "_law_inner") F₄ f1
    k_steps
    rename IntsAre _ ([1] ++ rs ++ [1]) => hI₈
    rename Fr _ _ _ _ => F₈
    rename News _ _ _ _ => N₈
    exact ret _ _ _ _ _ _ F₈.keep (N₈ _ (.head _)).2.2 (N₈ _ (.head _)).1 hI₈ (isDiv_wrap hR (by omega))

local macro_rules | `(tactic| walk_at "call ref") => `(tactic| (k_dflt (
  (rename Fr _ _ _ _ => fF'); (rename News _ _ _ _ => fN');
  (first | refine' Mine.c_law_divisor_by (Mine.Gd.push (by assumption) fF' ?kk) ?hd ?hu  ?_ | refine' Mine.c_law_divisor_by (Mine.Gd.pushC (by assumption) fF' ?kk) ?hd ?hu  ?_); ((case kk => exact rfl); (case hd => omega); (case hu => omega);  skip);
  intro h' tk' D' vs' c' ds' k' hn' ho' hi' hd'; (have F' := Mine.fr_on fF' k'); (have ne' := Mine.allNe_of (Mine.news_ne fN' hn')); (try simp only [Mine.AllNe, and_true] at ne'); (have N' := Mine.news_more fF' fN' k' hn' ho'); clear fF' fN' k' hn' ho'; (try dsimp only))))
section
local macro_rules | `(tactic| walk_at "exec Assign cons ListComp") => `(tactic| refine Mine.stop_of ?_)

theorem c_law_step_by {l l₂ : Addr} {vs vs₂ : List Value} {ns ms : List Int} {x : Int} {t : Tok} (G : Gd (Mine.KK w.params) Mine.view (looseW Mine.view [Str.ofString "MOST_NOUGHTS"]) mean mg mb base fr s.heap) (hd : dp + 1 < recursionLimit) (hu : un + 110 < cLine)
    (hl : s.heap.IsList l vs.toArray) (hi : IntsAre vs ns) (hz : ns.length ≤ 100) (hl₂ : s.heap.IsList l₂ vs₂.toArray) (hi₂ : IntsAre vs₂ ms) (hz₂ : ms.length ≤ 100) (hn₀ : ns.length + 1 = ms.length)
    (ret : ∀ h' tk' D vs' c, s.heap.StaysIn h' → s.heap.get? D = none → h'.get? D = some (listOf (List.toArray vs') c) → IntsAre vs' (stepBy ns x ms) → Q (.ref D) { s with heap := h', toks := tk' }) :
    wpAny (model PySem.Challenge.rw_uf040037_09.row.prog w) (arA dp un gd fr) (call (.ref 254) [.ref l, .int x t, .ref l₂]) Q E s := by
  revert G; k_fill; intro G
  refine' enter0 (binds := [(Str.ofString "_law_rest", .ref l), (Str.ofString "_law_sign", .int x t), (Str.ofString "_law_divisor", .ref l₂)]) G ?k6 ?k7 ?k8 ?k9 ?kB ?_ ?c2 ?c3 ?c4 ?c5
  case k6 => k_is
  case k7 => k_is
  case k8 => omega
  case k9 => exact BindsTo.of_eq rfl
  case kB => exact locs rfl
  case c2 => exact rfl
  case c3 => exact rfl
  case c4 => exact rfl
  case c5 => decide
  intro L' h' tk F'
  have N' : News s.heap L' h' [] := News.nil
  have B' := G.below dp un gd
  have X' := G.kin
  have T' := G.top
  have hn : Stop (ns.length + 1 = ms.length) := hn₀
  clear hn₀
  refine hide1 fun r₁ hr₁ => ?_
  k_steps
  subst hr₁
  dsimp only
  rename Fr _ _ _ _ => F₁
  rename News _ _ _ _ => N₁
  rename IntsAre _ (ns ++ [x]) => hI₁
  have hg0 : (ns ++ [x]).getD 0 0 = 1 ↔ (ns ++ [x]).head? = some 1 := by cases ns <;> simp
  refine cut (IntsI s s.heap L' (Str.ofString "_law_longer") (if (ns ++ [x]).head? = some 1 then sum2 (ns ++ [x]) ms else ns ++ [x])) ?_ ?_
  · k_steps
    · rename_i hc
      refine go_on (comp_zipA (fun a b => (a + b).fmod 2) rfl (by with_unfolding_all rfl) rfl F₁ N₁ (lst_led N₁ (.head _)) (lst_base F₁ hl₂) hI₁ hi₂ (by rw [sizeLine_eq]; simp; omega) ?_ ?_ ?_ rfl (by decide) rfl (by decide) rfl rfl (by decide) (fun _ => rfl) rfl rfl)
      · intro Q' q; k_steps; exact go_on q
      · intro x₁ y₁ tx ty C h tk m₂ E' hns hx hy
        exact elt_sum hns hx hy rfl rfl rfl (by decide) (by decide)
      · intro D h₃ tk₃ zs F₃ N₃ l₃ hI₃
        refine wpAny_execs_nil ?_
        refine IntsI.of (s₀ := s) (L := L') (x := Str.ofString "_law_longer") F₃ N₃ rfl (.head _) hI₃ ?_
        rw [zipWith_fmod, if_pos (hg0.mp hc)]
    · rename_i hc
      refine IntsI.of (s₀ := s) (L := L') (x := Str.ofString "_law_longer") F₁ N₁ rfl (.head _) hI₁ ?_
      rw [if_neg (fun h => hc (hg0.mpr h))]
  · clear F₁ N₁ hg0
    rintro s' ⟨h₂, tk₂, D₂, us, cc, m₂, rfl, F₂, N₂, e1, hI₂⟩
    replace F₂ := fr_know (Str.ofString "_law_longer") F₂ e1
    have hl₃ : (if (ns ++ [x]).head? = some 1 then sum2 (ns ++ [x]) ms else ns ++ [x]).length ≤ 101 := by
      split
      · simp [sum2]; omega
      · simp; omega
    generalize hq : (if (ns ++ [x]).head? = some 1 then sum2 (ns ++ [x]) ms else ns ++ [x]) = rs at *
    replace hq := go_on hq
    k_steps
    rename IntsAre _ (List.drop 1 rs) => hI₄
    rename Fr _ _ _ _ => F₄
    rename News _ _ _ _ => N₄
    refine ret_list (s := s) (Q := Q) ret F₄ N₄ (.head _) hI₄ ?_
    have hq' : (if (ns ++ [x]).head? = some 1 then sum2 (ns ++ [x]) ms else ns ++ [x]) = rs := hq
    rw [stepBy, hq', List.drop_one]
end

local macro_rules | `(tactic| walk_at "call ref") => `(tactic| (k_dflt (
  (rename Fr _ _ _ _ => fF'); (rename News _ _ _ _ => fN');
  (first | refine' Mine.c_law_step_by (Mine.Gd.push (by assumption) fF' ?kk) ?hd ?hu ?hl ?hi ?hz ?hlb ?hib ?hzb ?hn ?_ | refine' Mine.c_law_step_by (Mine.Gd.pushC (by assumption) fF' ?kk) ?hd ?hu ?hl ?hi ?hz ?hlb ?hib ?hzb ?hn ?_); ((case kk => exact rfl); (case hd => omega); (case hu => omega); (case hl => walk_at "m:list"); (case hi => assumption); (case hz => walk_at "m:len"); (case hlb => walk_at "m:list"); (case hib => assumption); (case hzb => walk_at "m:len"); (case hn => walk_at "m:len"); skip);
  intro h' tk' D' vs' c'  k' hn' ho' hi' ; (have F' := Mine.fr_on fF' k'); (have ne' := Mine.allNe_of (Mine.news_ne fN' hn')); (try simp only [Mine.AllNe, and_true] at ne'); (have N' := Mine.news_more fF' fN' k' hn' ho'); clear fF' fN' k' hn' ho'; (try dsimp only))))

theorem c_reach {l : Addr} {vs : List Value} {ns : List Int} (G : Gd (Mine.KK w.params) Mine.view (looseW Mine.view [Str.ofString "MOST_NOUGHTS"]) mean mg mb base fr s.heap) (hd : dp + 4 < recursionLimit) (hu : un + 140 < cLine)
    (hl : s.heap.IsList l vs.toArray) (hi : IntsAre vs ns) (hz : ns.length ≤ 10000) (hr : IsRow ns) (raise : ¬ IsDiv ns → ∀ e t us h' tk', RaisedS base s.heap fr e (.ref 56) t us [] h' → s.heap.UpToSlots h' → E (.ref e) { s with heap := h', toks := tk' })
    (ret : IsDiv ns → ∀ P, Reach ns P → ∀ h' tk' t', s.heap.StaysIn h' → Q (.int (P : Int) t') { s with heap := h', toks := tk' }) :
    wpAny (model PySem.Challenge.rw_uf040037_09.row.prog w) (arA dp un gd fr) (call (.ref 162) [.ref l]) Q E s := by
  revert G; k_fill; intro G
  refine' enter0 (binds := [(Str.ofString "divisor", .ref l)]) G ?k6 ?k7 ?k8 ?k9 ?kB ?_ ?c2 ?c3 ?c4 ?c5
  case k6 => k_is
  case k7 => k_is
  case k8 => omega
  case k9 => exact BindsTo.of_eq rfl
  case kB => exact locs rfl
  case c2 => exact rfl
  case c3 => exact rfl
  case c4 => exact rfl
  case c5 => decide
  intro L' h' tk F'
  have N' : News s.heap L' h' [] := News.nil
  have B' := G.below dp un gd
  have X' := G.kin
  have T' := G.top
  k_steps
  refine go_on (c_need_divisor (G.push F' rfl) (by omega) (by omega) (lst_base F' hl) hi hz hr (fun hnd e t us h₂ tk₂ R U => ?_) (fun hd₁ h₂ tk₂ k₂ => ?_))
  · exact A_on G F' R U (fun h₃ R₃ U₃ => raise hnd _ _ _ _ _ R₃ U₃)
  have F₂ := fr_on F' k₂
  have N₂ := news_on N' k₂
  clear F' N' k₂
  have hz1 : 2 ≤ ns.length := hd₁.least
  have hz2 : ns.length ≤ 13 := hd₁.most
  dsimp only
  k_steps
  rename Fr _ _ _ _ => F₃
  rename News _ _ _ _ => N₃
  refine go_on (c_onward 1 (val ns) (ns.length - 1) (G.push F₃ rfl) (by omega) (by omega) rfl rfl (by omega) (fun h₄ tk₄ t₄ k₄ => ?_))
  have F₄ := fr_on F₃ k₄
  have N₄ := news_on N₃ k₄
  clear F₃ N₃ k₄
  dsimp only
  k_steps
  rename Fr _ _ _ _ => F₅
  rename News _ _ _ _ => N₅
  refine go_on (While_inv2 (L := L') (n₀ := 5000) (fun n m nx => nx = [] ∧ ∃ (k : Nat) (v f : Int) (tv tf tn tw : Tok), v = (pow (val ns) (ns.length - 1) k 1 : Nat) ∧ f = (k : Int) ∧ m (Str.ofString "value") = some (.int v tv) ∧ m (Str.ofString "found") = some (.int f tf) ∧ m (Str.ofString "number") = some (.int (val ns : Nat) tn) ∧ m (Str.ofString "width") = some (.int ((ns.length : Int) - 1) tw) ∧ 1 ≤ k ∧ n + k = 5001 ∧ (∀ j, 1 ≤ j → j < k → pow (val ns) (ns.length - 1) j 1 ≠ 1)) F₅ N₅ ⟨rfl, 1, _, _, _, _, _, _, rfl, rfl, rfl, rfl, rfl, rfl, Nat.le_refl _, rfl, fun j h1 h2 => by omega⟩ ?_ (by passes_own))
  rintro n m₁ news₁ h₆ tk₆ F₆ N₆ ⟨rfl, k, v, f, tv, tf, tn, tw, hv, hf, e1, e2, e3, e4, hk1, hnk, hmin⟩
  clear F₅ N₅
  replace F₆ := fr_know (Str.ofString "value") (fr_know (Str.ofString "found") (fr_know (Str.ofString "number") (fr_know (Str.ofString "width") F₆ e4) e3) e2) e1
  have hmin' := go_on hmin
  clear hmin
  have hv' := go_on hv
  clear hv
  k_steps
  · rename_i hne
    obtain ⟨P, hP, hP5⟩ := hd₁.reach
    have hkP : k < P := by
      rcases Nat.lt_trichotomy k P with h | h | h
      · exact h
      · refine absurd ?_ hne
        have hv₀ : v = (pow (val ns) (ns.length - 1) k 1 : Nat) := hv'
        rw [hv₀, h, hP.back]; rfl
      · exact absurd hP.back (hmin' P hP.pos h)
    refine go_on (c_onward _ (val ns) (ns.length - 1) (G.push F₆ rfl) (by omega) (by omega) hv' rfl (by omega) (fun h₇ tk₇ t₇ k₇ => ?_))
    have F₇ := fr_on F₆ k₇
    have N₇ := news_on N₆ k₇
    clear F₆ N₆ k₇
    dsimp only
    k_steps
    rename Fr _ _ _ _ => F₈
    rename News _ _ _ _ => N₈
    refine ⟨_, _, _, _, n - 1, rfl, F₈, N₈, by omega, rfl, k + 1, _, _, _, _, _, _, rfl, ?_, rfl, rfl, rfl, rfl, by omega, by omega, fun j h1 h2 => ?_⟩
    · omega
    · by_cases hj : j < k
      · exact hmin' j h1 hj
      · obtain rfl : j = k := by omega
        intro h
        refine hne ?_
        have hv₀ : v = (pow (val ns) (ns.length - 1) j 1 : Nat) := hv'
        rw [hv₀, h]; rfl
  · rename_i heq
    subst hf
    refine ret hd₁ k ⟨hk1, ?_, hmin'⟩ _ _ _ F₆.keep
    have hv₀ : v = (pow (val ns) (ns.length - 1) k 1 : Nat) := hv'
    omega

theorem c_Gate {l : Addr} {vs : List Value} {ns : List Int} (G : Gd (Mine.KK w.params) Mine.view (looseW Mine.view [Str.ofString "MOST_NOUGHTS"]) mean mg mb base fr s.heap) (hd : dp + 6 < recursionLimit) (hu : un + 160 < cLine)
    (hl : s.heap.IsList l vs.toArray) (hi : IntsAre vs ns) (hz : ns.length ≤ 10000) (hr : IsRow ns) (raise : ¬ IsDiv ns → ∀ e t us h' tk', RaisedS base s.heap fr e (.ref 56) t us [] h' → s.heap.UpToSlots h' → E (.ref e) { s with heap := h', toks := tk' })
    (ret : IsDiv ns → ∀ P, Reach ns P → ∀ h' tk' (x dx lD : Addr) (vs' : List Value) (c t0 t1 t2 t3 tP tw : Nat), s.heap.StaysIn h' → s.heap.get? x = none → s.heap.get? dx = none → s.heap.get? lD = none → h'.get? x = some (instObj 228 dx) → h'.get? dx = some (gateD w.params t0 t1 t2 t3 P tP lD ((ns.length : Int) - 1) tw (ns.sum.fmod 2 == 0)) → h'.get? lD = some (listOf (List.toArray vs') c) → IntsAre vs' ns → @LT.lt Nat _ dx x → @LT.lt Nat _ x lD → Q (.ref x) { s with heap := h', toks := tk' }) :
    wpAny (model PySem.Challenge.rw_uf040037_09.row.prog w) (arA dp un gd fr) (call (.ref 228) [.ref l]) Q E s := by
  revert G; k_fill; intro G
  refine' enterInit (fun x => [(Str.ofString "self", .ref x), (Str.ofString "divisor", .ref l)]) G ?m1 ?m2 ?m3 ?k6 ?k7 ?k8 ?k9 ?kB ?_ ?c2 ?c3 ?c4 ?c5
  case m1 => k_is
  case m2 => k_is
  case m3 => k_is
  case k6 => k_is
  case k7 => k_is
  case k8 => omega
  case k9 => exact fun _ _ => BindsTo.of_eq rfl
  case kB => exact fun _ => locs rfl
  case c2 => exact rfl
  case c3 => exact rfl
  case c4 => exact rfl
  case c5 => decide
  intro x dx L' h' tk hdx F' N'
  replace hdx := ltN hdx
  have B' := G.below (dp + 1) (un + 1) gd
  have X' := G.kin
  have T' := G.top
  k_steps
  refine go_on (c_reach (dp := dp + 2) (un := un + 4) (G.push F' rfl) (by omega) (by omega) (lst_base F' hl) hi hz hr (fun hnd e t us h₂ tk₂ R U => ?_) (fun hd₁ P hP h₂ tk₂ t₂ k₂ => ?_))
  · exact A_on (dp := dp + 1) (un := un + 1) G F' R U (fun h₃ R₃ U₃ => raise hnd _ _ _ _ _ R₃ U₃)
  have F₂ := fr_on F' k₂
  have N₂ := news_on N' k₂
  clear F' N' k₂
  have hz1 : 2 ≤ ns.length := hd₁.least
  have hz2 : ns.length ≤ 13 := hd₁.most
  dsimp only
  k_steps
  rename Fr _ _ _ _ => F₈
  rename News _ _ _ _ => N₈
  rename _ ∧ _ => l₈
  exact ret hd₁ P hP _ _ x dx _ vs _ _ _ _ _ _ _ F₈.keep (N₈ _ (.tail _ (.head _))).2.2 (N₈ _ (.tail _ (.tail _ (.head _)))).2.2 (N₈ _ (.head _)).2.2 (N₈ _ (.tail _ (.head _))).1 (N₈ _ (.tail _ (.tail _ (.head _)))).1 (N₈ _ (.head _)).1 hi hdx l₈.1
section
local macro_rules | `(tactic| walk_at "getAttr ref") => `(tactic| (k_dflt (refine' Mine.get_ownS ?k1 ?k2 ?k3 ?k4 ?k5 ?k6 ?k7 ?k8 ?k9 ?_; (case k1 => k_asm); (case k2 => k_asm); (case k3 => exact Mine.inst_base (by assumption) (by assumption)); (case k4 => k_is); (case k5 => k_is); (case k6 => k_is); (case k7 => k_is); (case k8 => k_get); (case k9 => k_handed))))
local macro_rules | `(tactic| walk_at "getMethod ref") => `(tactic| (k_dflt (refine' Mine.method_instS ?k1 ?k2 ?k3 ?k4 ?k5 ?k6 ?k7 ?_; (case k1 => k_asm); (case k2 => k_asm); (case k3 => exact Mine.inst_base (by assumption) (by assumption)); (case k4 => k_is); (case k5 => k_is); (case k6 => k_is); (case k7 => k_get))))

theorem c_Gate_rest {x l : Addr} {P : Nat} {ds : List Int} {vs : List Value} {ns : List Int} (G : Gd (Mine.KK w.params) Mine.view (looseW Mine.view [Str.ofString "MOST_NOUGHTS"]) mean mg mb base fr s.heap) (hd : dp + 4 < recursionLimit) (hu : un + 140 < cLine)
    (hG : GateAt w.params 228 s.heap x P ds) (hdv : IsDiv ds) (hP : Reach ds P) (hl : s.heap.IsList l vs.toArray) (hi : IntsAre vs ns) (hz : ns.length ≤ 10000) (hr : IsRow ns)
    (ret : ∀ h' tk' D vs' c, s.heap.StaysIn h' → s.heap.get? D = none → h'.get? D = some (listOf (List.toArray vs') c) → IntsAre vs' (restBy ns ds) → Q (.ref D) { s with heap := h', toks := tk' }) :
    wpAny (model PySem.Challenge.rw_uf040037_09.row.prog w) (arA dp un gd fr) (call (.ref 183) [.ref x, .ref l]) Q E s := by
  revert G; k_fill; intro G
  refine' enter0 (binds := [(Str.ofString "self", .ref x), (Str.ofString "row", .ref l)]) G ?k6 ?k7 ?k8 ?k9 ?kB ?_ ?c2 ?c3 ?c4 ?c5
  case k6 => k_is
  case k7 => k_is
  case k8 => omega
  case k9 => exact BindsTo.of_eq rfl
  case kB => exact locs rfl
  case c2 => exact rfl
  case c3 => exact rfl
  case c4 => exact rfl
  case c5 => decide
  intro L' h' tk F'
  have N' : News s.heap L' h' [] := News.nil
  have B' := G.below dp un gd
  have X' := G.kin
  have T' := G.top
  obtain ⟨dx, lD, sl1, sl2, vD, t0, t1, t2, t3, tP, tw, hIn, hlD, hiD⟩ := hG
  have hz1 : 2 ≤ ds.length := hdv.least
  have hz2 : ds.length ≤ 13 := hdv.most
  have hrd : IsRow ds := hdv.row
  have hP1 : 1 ≤ P := hP.pos
  have hP2 : P ≤ 4095 := by obtain ⟨P', h1, h2⟩ := hdv.reach; rw [hP.unique h1]; exact h2

  k_steps
  rename Fr _ _ _ _ => F₅
  rename News _ _ _ _ => N₅
  refine go_on (c_parted (G.push F₅ rfl) (by omega) (by omega) (lst_base F₅ hl) hi hz hr (lst_base F₅ hlD) hiD (by omega) hdv.row (fun h => absurd h (isDiv1_not hdv.one)) ?_)
  intro _ h₆ tk₆ T D₁ v₁ k₁ D₂ v₂ k₂ k hT hD₁ hD₂ oT o₁ i₁ o₂ i₂ l12 l2T
  have F₆ := fr_on F₅ k
  have N₆ := news_add F₅ (news_add F₅ (news_add F₅ (news_on N₅ k) hD₁ o₁) hD₂ o₂) hT oT
  clear F₅ N₅ k hT hD₁ hD₂ oT o₁ o₂
  dsimp only
  k_steps
  rename Fr _ _ _ _ => F₇
  rename News _ _ _ _ => N₇
  exact ret_list (s := s) (Q := Q) ret F₇ N₇ (by k_mem) i₂ rfl
end

theorem c_law_reach_by {l : Addr} {vs : List Value} {ds : List Int} {P : Nat} (G : Gd (Mine.KK w.params) Mine.view (looseW Mine.view [Str.ofString "MOST_NOUGHTS"]) mean mg mb base fr s.heap) (hd : dp + 2 < recursionLimit) (hu : un + 120 < cLine)
    (hl : s.heap.IsList l vs.toArray) (hi : IntsAre vs ds) (hd₀ : IsDiv ds) (hP : Reach ds P)
    (ret : ∀ h' tk' t', s.heap.StaysIn h' → Q (.int ((P : Int)) t') { s with heap := h', toks := tk' }) :
    wpAny (model PySem.Challenge.rw_uf040037_09.row.prog w) (arA dp un gd fr) (call (.ref 275) [.ref l]) Q E s := by
  revert G; k_fill; intro G
  refine' enter0 (binds := [(Str.ofString "_law_divisor", .ref l)]) G ?k6 ?k7 ?k8 ?k9 ?kB ?_ ?c2 ?c3 ?c4 ?c5
  case k6 => k_is
  case k7 => k_is
  case k8 => omega
  case k9 => exact BindsTo.of_eq rfl
  case kB => exact locs rfl
  case c2 => exact rfl
  case c3 => exact rfl
  case c4 => exact rfl
  case c5 => decide
  intro L' h' tk F'
  have N' : News s.heap L' h' [] := News.nil
  have B' := G.below dp un gd
  have X' := G.kin
  have T' := G.top
  have hz1 : 2 ≤ ds.length := hd₀.least
  have hz2 : ds.length ≤ 13 := hd₀.most
  obtain ⟨hb1, hb2, hb3⟩ := beginOf_spec hz1
  k_steps
  rename_i i1 n1 s1 e1 e2 e3 _ _ _ _ B bs _ hIB lB _ _ F₇ N₇
  clear i1 s1 e1 e2 e3
  rw [flatten_replicate_single, show ((ds.length : Int) - 2).toNat = ds.length - 2 by omega] at hIB
  replace hIB : IntsAre bs (beginOf ds) := hIB
  have N₈ := news_pick2 N₇ (.head _) (.head _)
  clear N₇
  refine go_on (for_rangeG (L := L') (n := 4095) (a₀ := 1) (b₀ := 4096) (fun i m nx => ∃ (D : Addr) (us : List Value) (cc : Nat), nx = [(D, listOf us.toArray cc), (B, listOf bs.toArray 0)] ∧ m (Str.ofString "_law_rest") = some (.ref D) ∧ m (Str.ofString "_law_begin") = some (.ref B) ∧ m (Str.ofString "_law_divisor") = some (.ref l) ∧ IntsAre us (stepsBy ds i (beginOf ds)) ∧ (∀ j, 1 ≤ j → j ≤ i → pow (val ds) (ds.length - 1) j 1 ≠ 1)) rfl rfl F₇ N₈ (by decide) (by decide) ?_ ⟨B, bs, 0, rfl, rfl, rfl, rfl, hIB, fun j h1 h2 => by omega⟩ ?_ ?_ rfl rfl (fun _ => rfl) (by passes_own))
  · intro Q' q
    k_steps
    exact q _ _ _ _ _ _ (by assumption) (by assumption) (by assumption)
  · rintro i ti m₁ news₁ h₉ tk₉ own hin ho ⟨D, us, cc, rfl, f1, f2, f3, hI₉, hmin⟩ F₉ N₉
    clear F₇ N₈
    replace F₉ := fr_know (Str.ofString "_law_rest") (fr_know (Str.ofString "_law_begin") (fr_know (Str.ofString "_law_divisor") F₉ f3) f2) f1
    have hsl := (stepsBy_spec hd₀.one hb1 hb2 i).2.1
    have hmin' := go_on hmin
    clear hmin
    simp only [List.cons_append, List.nil_append] at N₉
    k_steps
    · rename_i D₁ u₁ c₁ hI₁ hn₁ _ F₁ N₁ heq
      have hPi := reach_first hP (k := i + 1) (by omega) ((stepsBy_begin hd₀ (i + 1)).mp heq) (fun j h1 h2 => hmin' j h1 (by omega))
      exact ret_int (s := s) (Q := Q) ret (by omega) F₁.keep
    · rename_i D₁ u₁ c₁ hI₁ hn₁ _ F₁ N₁ hne
      refine GEnd.intro (nx := [(D₁, listOf u₁.toArray c₁), (B, listOf bs.toArray 0)]) F₁ N₁ ⟨D₁, u₁, c₁, rfl, rfl, rfl, rfl, hI₁, fun j h1 h2 => ?_⟩ (List.forall_mem_cons.mpr ⟨.head _, List.forall_mem_cons.mpr ⟨.tail _ (.tail _ (.head _)), List.forall_mem_nil _⟩⟩) (fun p hp => .tail _ (.tail _ (.tail _ hp))) (off_cons hn₁.2.2 fun p hp c hc => ho p hp c (.tail _ hc))
      by_cases hj : j ≤ i
      · exact hmin' j h1 hj
      · obtain rfl : j = i + 1 := by omega
        exact fun h => hne ((stepsBy_begin hd₀ (i + 1)).mpr h)
  · rintro m₁ news₁ h₉ tk₉ ⟨D, us, cc, rfl, f1, f2, f3, hI₉, hmin⟩ F₉ N₉
    exfalso
    obtain ⟨P', hP', hP5⟩ := hd₀.reach
    exact hmin P' hP'.pos hP5 hP'.back

local macro_rules | `(tactic| walk_at "call ref") => `(tactic| (k_dflt (
  (rename Fr _ _ _ _ => fF'); (rename News _ _ _ _ => fN');
  (first | refine' Mine.c_law_reach_by (Mine.Gd.push (by assumption) fF' ?kk) ?hd ?hu ?hl ?hi ?hd0 ?hP ?_ | refine' Mine.c_law_reach_by (Mine.Gd.pushC (by assumption) fF' ?kk) ?hd ?hu ?hl ?hi ?hd0 ?hP ?_); ((case kk => exact rfl); (case hd => omega); (case hu => omega); (case hl => walk_at "m:list"); (case hi => assumption); (case hd0 => assumption); (case hP => assumption); skip);
  intro h' tk' t' k'; (have F' := Mine.fr_on fF' k'); (have N' := Mine.news_on fN' k'); clear fF' fN' k'; (try dsimp only))))

theorem c_law_rest_by {l l₂ : Addr} {vs vs₂ : List Value} {ns ms : List Int} (G : Gd (Mine.KK w.params) Mine.view (looseW Mine.view [Str.ofString "MOST_NOUGHTS"]) mean mg mb base fr s.heap) (hd : dp + 2 < recursionLimit) (hu : un + 120 < cLine)
    (hl : s.heap.IsList l vs.toArray) (hi : IntsAre vs ns) (hr : IsRow ns) (hl₂ : s.heap.IsList l₂ vs₂.toArray) (hi₂ : IntsAre vs₂ ms) (hz₂ : ms.length ≤ 100) (hd₁ : IsDiv1 ms)
    (ret : ∀ h' tk' D vs' c, s.heap.StaysIn h' → s.heap.get? D = none → h'.get? D = some (listOf (List.toArray vs') c) → IntsAre vs' (restBy ns ms) → Q (.ref D) { s with heap := h', toks := tk' }) :
    wpAny (model PySem.Challenge.rw_uf040037_09.row.prog w) (arA dp un gd fr) (call (.ref 261) [.ref l, .ref l₂]) Q E s := by
  revert G; k_fill; intro G
  refine' enter0 (binds := [(Str.ofString "_law_row_here", .ref l), (Str.ofString "_law_divisor", .ref l₂)]) G ?k6 ?k7 ?k8 ?k9 ?kB ?_ ?c2 ?c3 ?c4 ?c5
  case k6 => k_is
  case k7 => k_is
  case k8 => omega
  case k9 => exact BindsTo.of_eq rfl
  case kB => exact locs rfl
  case c2 => exact rfl
  case c3 => exact rfl
  case c4 => exact rfl
  case c5 => decide
  intro L' h' tk F'
  have N' : News s.heap L' h' [] := News.nil
  have B' := G.below dp un gd
  have X' := G.kin
  have T' := G.top
  have hml : 1 ≤ ms.length := by obtain ⟨t, rfl, _⟩ := hd₁.cons; simp
  k_steps
  rename Fr _ _ _ _ => F₉
  rename News _ _ _ _ => N₉
  rename IntsAre _ (List.flatten _) => hI₉
  have e₀ : (List.replicate ((ms.length : Int) - 1).toNat [(0 : Int)]).flatten = restBy (ns.take 0) ms := by rw [flatten_replicate_single, List.take_zero, restBy_nil, show ((ms.length : Int) - 1).toNat = ms.length - 1 by omega]
  rw [e₀] at hI₉
  have N₈ := news_head N₉
  clear N₉
  refine go_on (for_listG (L := L') (fun i m nx => ∃ (D : Addr) (us : List Value) (cc : Nat), nx = [(D, listOf us.toArray cc)] ∧ m (Str.ofString "_law_rest") = some (.ref D) ∧ m (Str.ofString "_law_divisor") = some (.ref l₂) ∧ IntsAre us (restBy (ns.take i) ms)) rfl rfl F₉ N₈ hl hi ?_ ⟨_, _, _, rfl, rfl, rfl, hI₉⟩ ?_ ?_ rfl rfl (fun _ => rfl) (by passes_own))
  · intro Q' q
    k_steps
    exact q
  · rintro i n t m₁ news₁ h₂ tk₂ own hn ho ⟨D, us, cc, rfl, f1, f2, hIu⟩ F₂ N₂
    clear F₉ N₈ hI₉
    replace F₂ := fr_know (Str.ofString "_law_rest") (fr_know (Str.ofString "_law_divisor") F₂ f2) f1
    have hlen : (restBy (ns.take i) ms).length + 1 = ms.length := by have := restBy_len hd₁ (hr.take i); omega
    have hst := go_on (restBy_take ns ms i n hn)
    generalize restBy (ns.take i) ms = rs at *
    simp only [List.cons_append, List.nil_append] at N₂
    k_steps
    rename_i D₁ u₁ c₁ hI₁ hn₁ _ F₁ N₁
    refine GEnd.intro (nx := [(D₁, listOf u₁.toArray c₁)]) F₁ N₁ ⟨D₁, u₁, c₁, rfl, rfl, rfl, ?_⟩ (List.forall_mem_cons.mpr ⟨.head _, List.forall_mem_nil _⟩) (fun p hp => .tail _ (.tail _ hp)) (off_cons hn₁.2 off_nil)
    have hst' : restBy (ns.take (i + 1)) ms = stepBy rs n ms := hst
    rw [hst']; exact hI₁
  · rintro m₁ news₁ h₂ tk₂ ⟨D, us, cc, rfl, f1, f2, hIu⟩ F₂ N₂
    clear F₉ N₈ hI₉
    replace F₂ := fr_know (Str.ofString "_law_rest") F₂ f1
    rw [List.take_length] at hIu
    k_steps
    exact ret_list (s := s) (Q := Q) ret F₂ N₂ (.head _) hIu rfl

local macro_rules | `(tactic| walk_at "call ref") => `(tactic| (k_dflt (
  (rename Fr _ _ _ _ => fF'); (rename News _ _ _ _ => fN');
  (first | refine' Mine.c_law_rest_by (Mine.Gd.push (by assumption) fF' ?kk) ?hd ?hu ?hl ?hi ?hr ?hlb ?hib ?hzb ?hdv1 ?_ | refine' Mine.c_law_rest_by (Mine.Gd.pushC (by assumption) fF' ?kk) ?hd ?hu ?hl ?hi ?hr ?hlb ?hib ?hzb ?hdv1 ?_); ((case kk => exact rfl); (case hd => omega); (case hu => omega); (case hl => walk_at "m:list"); (case hi => assumption); (case hr => walk_at "m:row"); (case hlb => walk_at "m:list"); (case hib => assumption); (case hzb => walk_at "m:len"); (case hdv1 => assumption); skip);
  intro h' tk' D' vs' c'  k' hn' ho' hi' ; (have F' := Mine.fr_on fF' k'); (have ne' := Mine.allNe_of (Mine.news_ne fN' hn')); (try simp only [Mine.AllNe, and_true] at ne'); (have N' := Mine.news_more fF' fN' k' hn' ho'); clear fF' fN' k' hn' ho'; (try dsimp only))))
section
local macro_rules | `(tactic| walk_at "getAttr ref") => `(tactic| (k_dflt (refine' Mine.get_ownS ?k1 ?k2 ?k3 ?k4 ?k5 ?k6 ?k7 ?k8 ?k9 ?_; (case k1 => k_asm); (case k2 => k_asm); (case k3 => exact Mine.inst_base (by assumption) (by assumption)); (case k4 => k_is); (case k5 => k_is); (case k6 => k_is); (case k7 => k_is); (case k8 => k_get); (case k9 => k_handed))))
local macro_rules | `(tactic| walk_at "getMethod ref") => `(tactic| (k_dflt (refine' Mine.method_instS ?k1 ?k2 ?k3 ?k4 ?k5 ?k6 ?k7 ?_; (case k1 => k_asm); (case k2 => k_asm); (case k3 => exact Mine.inst_base (by assumption) (by assumption)); (case k4 => k_is); (case k5 => k_is); (case k6 => k_is); (case k7 => k_get))))

theorem c_Gate_holds {x l : Addr} {P : Nat} {ds : List Int} {vs : List Value} {ns : List Int} (G : Gd (Mine.KK w.params) Mine.view (looseW Mine.view [Str.ofString "MOST_NOUGHTS"]) mean mg mb base fr s.heap) (hd : dp + 5 < recursionLimit) (hu : un + 150 < cLine)
    (hG : GateAt w.params 228 s.heap x P ds) (hdv : IsDiv ds) (hP : Reach ds P) (hl : s.heap.IsList l vs.toArray) (hi : IntsAre vs ns) (hz : ns.length ≤ 10000) (hr : IsRow ns) (raise1 : ns.length < ds.length - 1 → ∀ e t us h' tk', RaisedS base s.heap fr e (.ref 92) t us [] h' → s.heap.UpToSlots h' → E (.ref e) { s with heap := h', toks := tk' }) (raise2 : (ds.length - 1 ≤ ns.length ∧ P < ns.length) → ∀ e t us h' tk', RaisedS base s.heap fr e (.ref 80) t us [] h' → s.heap.UpToSlots h' → E (.ref e) { s with heap := h', toks := tk' })
    (ret : (ds.length - 1 ≤ ns.length ∧ ns.length ≤ P) → ∀ h' tk', s.heap.StaysIn h' → Q (.bool (decide ((restBy ns ds).sum = 0))) { s with heap := h', toks := tk' }) :
    wpAny (model PySem.Challenge.rw_uf040037_09.row.prog w) (arA dp un gd fr) (call (.ref 211) [.ref x, .ref l]) Q E s := by
  revert G; k_fill; intro G
  refine' enter0 (binds := [(Str.ofString "self", .ref x), (Str.ofString "row", .ref l)]) G ?k6 ?k7 ?k8 ?k9 ?kB ?_ ?c2 ?c3 ?c4 ?c5
  case k6 => k_is
  case k7 => k_is
  case k8 => omega
  case k9 => exact BindsTo.of_eq rfl
  case kB => exact locs rfl
  case c2 => exact rfl
  case c3 => exact rfl
  case c4 => exact rfl
  case c5 => decide
  intro L' h' tk F'
  have N' : News s.heap L' h' [] := News.nil
  have B' := G.below dp un gd
  have X' := G.kin
  have T' := G.top
  have hG₀ := go_on hG

  obtain ⟨dx, lD, sl1, sl2, vD, t0, t1, t2, t3, tP, tw, hIn, hlD, hiD⟩ := hG
  have hz1 : 2 ≤ ds.length := hdv.least
  have hz2 : ds.length ≤ 13 := hdv.most
  have hrd : IsRow ds := hdv.row
  have hP1 : 1 ≤ P := hP.pos
  have hP2 : P ≤ 4095 := by obtain ⟨P', h1, h2⟩ := hdv.reach; rw [hP.unique h1]; exact h2

  have hw3 : ns.length < ds.length - 1 ∨ (ds.length - 1 ≤ ns.length ∧ P < ns.length) ∨ (ds.length - 1 ≤ ns.length ∧ ns.length ≤ P) := by omega

  rcases hw3 with hw | hw | hw
  · k_steps
    rename Heap.MadeExcOf _ _ _ _ _ => hx
    rename Fr _ _ _ _ => F₈
    exact go_on (A_raise G hx F₈ (fun h₉ t₉ R U => raise1 hw _ _ _ _ _ R U) rfl)
  · have hw1 := hw.1
    have hw2 := hw.2
    replace hw := go_on hw
    k_steps
    rename Heap.MadeExcOf _ _ _ _ _ => hx
    rename Fr _ _ _ _ => F₈
    exact go_on (A_raise G hx F₈ (fun h₉ t₉ R U => raise2 hw _ _ _ _ _ R U) rfl)
  have ret' := go_on (ret hw)
  have hlo := hw.1
  have hhi := hw.2
  clear ret raise1 raise2 hw
  k_steps
  rename Fr _ _ _ _ => F₅
  rename News _ _ _ _ => N₅
  refine go_on (c_Gate_rest (G.push F₅ rfl) (by omega) (by omega) (gate_base F₅ hG₀) hdv hP (lst_base F₅ hl) hi (by omega) hr (fun h₇ tk₇ D₇ v₇ c₇ k₇ n₇ o₇ i₇ => ?_))
  have F₇ := fr_on F₅ k₇
  have N₇ := news_more F₅ N₅ k₇ n₇ o₇
  clear F₅ N₅ k₇
  have hrl := restBy_len hdv.one hr
  dsimp only
  k_steps
  rename Fr _ _ _ _ => F₈
  refine ret_bool (s := s) (Q := Q) ret' ?_ F₈.keep
  by_cases h : (restBy ns ds).sum = 0 <;> simp [h]

theorem c_Gate_opened {x l : Addr} {P : Nat} {ds : List Int} {vs : List Value} {ns : List Int} (G : Gd (Mine.KK w.params) Mine.view (looseW Mine.view [Str.ofString "MOST_NOUGHTS"]) mean mg mb base fr s.heap) (hd : dp + 6 < recursionLimit) (hu : un + 160 < cLine)
    (hG : GateAt w.params 228 s.heap x P ds) (hdv : IsDiv ds) (hP : Reach ds P) (hl : s.heap.IsList l vs.toArray) (hi : IntsAre vs ns) (hz : ns.length ≤ 10000) (hr : IsRow ns) (raise1 : ns.length < ds.length - 1 → ∀ e t us h' tk', RaisedS base s.heap fr e (.ref 92) t us [] h' → s.heap.UpToSlots h' → E (.ref e) { s with heap := h', toks := tk' }) (raise2 : (ds.length - 1 ≤ ns.length ∧ P < ns.length) → ∀ e t us h' tk', RaisedS base s.heap fr e (.ref 80) t us [] h' → s.heap.UpToSlots h' → E (.ref e) { s with heap := h', toks := tk' }) (raise3 : (ds.length - 1 ≤ ns.length ∧ ns.length ≤ P) → (restBy ns ds).sum ≠ 0 → ∀ e t us h' tk', RaisedS base s.heap fr e (.ref 104) t us [] h' → s.heap.UpToSlots h' → E (.ref e) { s with heap := h', toks := tk' })
    (ret : (ds.length - 1 ≤ ns.length ∧ ns.length ≤ P) → (restBy ns ds).sum = 0 → ∀ h' tk' D vs' c, s.heap.StaysIn h' → s.heap.get? D = none → h'.get? D = some (listOf (List.toArray vs') c) → IntsAre vs' (ns.take (ns.length - (ds.length - 1))) → Q (.ref D) { s with heap := h', toks := tk' }) :
    wpAny (model PySem.Challenge.rw_uf040037_09.row.prog w) (arA dp un gd fr) (call (.ref 218) [.ref x, .ref l]) Q E s := by
  revert G; k_fill; intro G
  refine' enter0 (binds := [(Str.ofString "self", .ref x), (Str.ofString "row", .ref l)]) G ?k6 ?k7 ?k8 ?k9 ?kB ?_ ?c2 ?c3 ?c4 ?c5
  case k6 => k_is
  case k7 => k_is
  case k8 => omega
  case k9 => exact BindsTo.of_eq rfl
  case kB => exact locs rfl
  case c2 => exact rfl
  case c3 => exact rfl
  case c4 => exact rfl
  case c5 => decide
  intro L' h' tk F'
  have N' : News s.heap L' h' [] := News.nil
  have B' := G.below dp un gd
  have X' := G.kin
  have T' := G.top
  have hG₀ := go_on hG

  obtain ⟨dx, lD, sl1, sl2, vD, t0, t1, t2, t3, tP, tw, hIn, hlD, hiD⟩ := hG
  have hz1 : 2 ≤ ds.length := hdv.least
  have hz2 : ds.length ≤ 13 := hdv.most
  have hrd : IsRow ds := hdv.row
  have hP1 : 1 ≤ P := hP.pos
  have hP2 : P ≤ 4095 := by obtain ⟨P', h1, h2⟩ := hdv.reach; rw [hP.unique h1]; exact h2

  k_steps
  rename Fr _ _ _ _ => F₅
  rename News _ _ _ _ => N₅
  refine go_on (c_Gate_holds (G.push F₅ rfl) (by omega) (by omega) (gate_base F₅ hG₀) hdv hP (lst_base F₅ hl) hi hz hr (fun hc e t us h₂ tk₂ R U => ?_) (fun hc e t us h₂ tk₂ R U => ?_) (fun hc h₇ tk₇ k₇ => ?_))
  · exact A_on G F₅ R U (fun h₃ R₃ U₃ => raise1 hc _ _ _ _ _ R₃ U₃)
  · exact A_on G F₅ R U (fun h₃ R₃ U₃ => raise2 hc _ _ _ _ _ R₃ U₃)
  have F₇ := fr_on F₅ k₇
  have N₇ := news_on N₅ k₇
  clear F₅ N₅ k₇ raise1 raise2
  have hlo := hc.1
  have hhi := hc.2
  by_cases hs : (restBy ns ds).sum = 0
  · have ret' := go_on (ret hc hs)
    clear ret raise3
    replace hc := go_on hc
    rw [decide_eq_true hs]
    dsimp only
    k_steps
    rename Fr _ _ _ _ => F₈
    rename News _ _ _ _ => N₈
    rename IntsAre _ (List.take _ ns) => hI₈
    refine ret_list (s := s) (Q := Q) ret' F₈ N₈ (.head _) hI₈ ?_
    congr 1; omega
  · replace hc := go_on hc
    rw [decide_eq_false hs]
    dsimp only
    k_steps
    rename Heap.MadeExcOf _ _ _ _ _ => hx
    rename Fr _ _ _ _ => F₈
    exact go_on (A_raise G hx F₈ (fun h₉ t₉ R U => raise3 hc hs _ _ _ _ _ R U) rfl)
end

def wordOf (wd P len : Nat) (sm : Int) (op : Bool) : String := if len < wd then "short" else if P < len then "long" else if op = true ∧ sm ≠ 0 then "broken" else "none"
section
local macro_rules | `(tactic| walk_at "getAttr ref") => `(tactic| (k_dflt (refine' Mine.get_ownS ?k1 ?k2 ?k3 ?k4 ?k5 ?k6 ?k7 ?k8 ?k9 ?_; (case k1 => k_asm); (case k2 => k_asm); (case k3 => exact Mine.inst_base (by assumption) (by assumption)); (case k4 => k_is); (case k5 => k_is); (case k6 => k_is); (case k7 => k_is); (case k8 => k_get); (case k9 => k_handed))))
local macro_rules | `(tactic| walk_at "getMethod ref") => `(tactic| (k_dflt (refine' Mine.method_instS ?k1 ?k2 ?k3 ?k4 ?k5 ?k6 ?k7 ?_; (case k1 => k_asm); (case k2 => k_asm); (case k3 => exact Mine.inst_base (by assumption) (by assumption)); (case k4 => k_is); (case k5 => k_is); (case k6 => k_is); (case k7 => k_get))))

theorem c_law_words {x l : Addr} {P : Nat} {ds : List Int} {vs : List Value} {ns : List Int} {op : Bool} (G : Gd (Mine.KK w.params) Mine.view (looseW Mine.view [Str.ofString "MOST_NOUGHTS"]) mean mg mb base fr s.heap) (hd : dp + 7 < recursionLimit) (hu : un + 170 < cLine)
    (hG : GateAt w.params 228 s.heap x P ds) (hdv : IsDiv ds) (hP : Reach ds P) (hl : s.heap.IsList l vs.toArray) (hi : IntsAre vs ns) (hz : ns.length ≤ 10000) (hr : IsRow ns) 
    (ret : ∀ g' h' tk' t', KtsTurn (frs fr) s.heap g' → g'.StaysIn h' → Q (.str (Str.ofString (wordOf (ds.length - 1) P ns.length (restBy ns ds).sum op)) t') { s with heap := h', toks := tk' }) :
    wpAny (model PySem.Challenge.rw_uf040037_09.row.prog w) (arA dp un gd fr) (call (.ref 282) [.ref x, .ref l, .bool op]) Q E s := by
  revert G; k_fill; intro G
  refine' enter0 (binds := [(Str.ofString "_law_gate", .ref x), (Str.ofString "_law_row_here", .ref l), (Str.ofString "_law_opens", .bool op)]) G ?k6 ?k7 ?k8 ?k9 ?kB ?_ ?c2 ?c3 ?c4 ?c5
  case k6 => k_is
  case k7 => k_is
  case k8 => omega
  case k9 => exact BindsTo.of_eq rfl
  case kB => exact locs rfl
  case c2 => exact rfl
  case c3 => exact rfl
  case c4 => exact rfl
  case c5 => decide
  intro L' h' tk F'
  have N' : News s.heap L' h' [] := News.nil
  have B' := G.below dp un gd
  have X' := G.kin
  have T' := G.top
  have hG₀ := go_on hG

  obtain ⟨dx, lD, sl1, sl2, vD, t0, t1, t2, t3, tP, tw, hIn, hlD, hiD⟩ := hG
  have hz1 : 2 ≤ ds.length := hdv.least
  have hz2 : ds.length ≤ 13 := hdv.most
  have hrd : IsRow ds := hdv.row
  have hP1 : 1 ≤ P := hP.pos
  have hP2 : P ≤ 4095 := by obtain ⟨P', h1, h2⟩ := hdv.reach; rw [hP.unique h1]; exact h2

  cases op
  · k_steps
    refine go_on (wpAny_Try_except ?_)
    k_steps
    rename Fr _ _ _ _ => F₂
    rename News _ _ _ _ => N₂
    refine go_on (c_Gate_holds (G.push F₂ rfl) (by omega) (by omega) (gate_base F₂ hG₀) hdv hP (lst_base F₂ hl) hi hz hr (fun hc e t us h₃ tk₃ R U => ?_) (fun hc e t us h₃ tk₃ R U => ?_) (fun hc h₇ tk₇ k₇ => ?_))
    · refine A_look G F₂ N₂ R U (fun h₄ h₅ F₅ R₅ U₅ => ?_)
      refine A_hit0 G F₅ R₅ U₅ (by kts_test) (fun h₆ g₆ T₆ F₆ N₆ G₆ => ?_) (by passes_own)
      have B₆ := G₆.below dp un gd
      have X₆ := G₆.kin
      have T₆' := G₆.top
      clear F₂ N₂ R U F₅ R₅ U₅ B' X' T'
      dsimp only
      k_steps
      rename Fr _ _ _ _ => F₉
      have hwd : wordOf (ds.length - 1) P ns.length (restBy ns ds).sum false = "short" := by
        unfold wordOf; rw [if_pos hc]
      rw [hwd] at ret
      exact ret _ _ _ _ T₆ F₉.keep
    · refine A_look G F₂ N₂ R U (fun h₄ h₅ F₅ R₅ U₅ => ?_)
      refine A_pass G F₅ R₅ U₅ (by kts_test) (fun hp0 Rp0 Up0 => ?_)
      refine A_hit0 G F₅ Rp0 Up0 (by kts_test) (fun h₆ g₆ T₆ F₆ N₆ G₆ => ?_) (by passes_own)
      have B₆ := G₆.below dp un gd
      have X₆ := G₆.kin
      have T₆' := G₆.top
      clear F₂ N₂ R U F₅ R₅ U₅ B' X' T'
      dsimp only
      k_steps
      rename Fr _ _ _ _ => F₉
      have hwd : wordOf (ds.length - 1) P ns.length (restBy ns ds).sum false = "long" := by
        unfold wordOf; rw [if_neg (by omega), if_pos (by omega)]
      rw [hwd] at ret
      exact ret _ _ _ _ T₆ F₉.keep
    have F₇ := fr_on F₂ k₇
    have N₇ := news_on N₂ k₇
    clear F₂ N₂ k₇
    replace hc := go_on hc
    dsimp only
    k_steps
    rename Fr _ _ _ _ => F₉
    have hwd : wordOf (ds.length - 1) P ns.length (restBy ns ds).sum false = "none" := by
      unfold wordOf; have hc' : (ds.length - 1 ≤ ns.length ∧ ns.length ≤ P) := hc; rw [if_neg (by omega), if_neg (by omega), if_neg (fun h => by cases h.1)]
    rw [hwd] at ret
    exact ret _ _ _ _ KtsTurn.refl F₉.keep
  · k_steps
    refine go_on (wpAny_Try_except ?_)
    k_steps
    rename Fr _ _ _ _ => F₂
    rename News _ _ _ _ => N₂
    refine go_on (c_Gate_opened (G.push F₂ rfl) (by omega) (by omega) (gate_base F₂ hG₀) hdv hP (lst_base F₂ hl) hi hz hr (fun hc e t us h₃ tk₃ R U => ?_) (fun hc e t us h₃ tk₃ R U => ?_) (fun hc hs e t us h₃ tk₃ R U => ?_) (fun hc hs h₇ tk₇ D₇ v₇ c₇ k₇ n₇ o₇ i₇ => ?_))
    · refine A_look G F₂ N₂ R U (fun h₄ h₅ F₅ R₅ U₅ => ?_)
      refine A_hit0 G F₅ R₅ U₅ (by kts_test) (fun h₆ g₆ T₆ F₆ N₆ G₆ => ?_) (by passes_own)
      have B₆ := G₆.below dp un gd
      have X₆ := G₆.kin
      have T₆' := G₆.top
      clear F₂ N₂ R U F₅ R₅ U₅ B' X' T'
      dsimp only
      k_steps
      rename Fr _ _ _ _ => F₉
      have hwd : wordOf (ds.length - 1) P ns.length (restBy ns ds).sum true = "short" := by
        unfold wordOf; rw [if_pos hc]
      rw [hwd] at ret
      exact ret _ _ _ _ T₆ F₉.keep
    · refine A_look G F₂ N₂ R U (fun h₄ h₅ F₅ R₅ U₅ => ?_)
      refine A_pass G F₅ R₅ U₅ (by kts_test) (fun hp0 Rp0 Up0 => ?_)
      refine A_hit0 G F₅ Rp0 Up0 (by kts_test) (fun h₆ g₆ T₆ F₆ N₆ G₆ => ?_) (by passes_own)
      have B₆ := G₆.below dp un gd
      have X₆ := G₆.kin
      have T₆' := G₆.top
      clear F₂ N₂ R U F₅ R₅ U₅ B' X' T'
      dsimp only
      k_steps
      rename Fr _ _ _ _ => F₉
      have hwd : wordOf (ds.length - 1) P ns.length (restBy ns ds).sum true = "long" := by
        unfold wordOf; rw [if_neg (by omega), if_pos (by omega)]
      rw [hwd] at ret
      exact ret _ _ _ _ T₆ F₉.keep
    · refine A_look G F₂ N₂ R U (fun h₄ h₅ F₅ R₅ U₅ => ?_)
      refine A_pass G F₅ R₅ U₅ (by kts_test) (fun hp0 Rp0 Up0 => ?_)
      refine A_pass G F₅ Rp0 Up0 (by kts_test) (fun hp1 Rp1 Up1 => ?_)
      refine A_hit0 G F₅ Rp1 Up1 (by kts_test) (fun h₆ g₆ T₆ F₆ N₆ G₆ => ?_) (by passes_own)
      have B₆ := G₆.below dp un gd
      have X₆ := G₆.kin
      have T₆' := G₆.top
      clear F₂ N₂ R U F₅ R₅ U₅ B' X' T'
      dsimp only
      k_steps
      rename Fr _ _ _ _ => F₉
      have hwd : wordOf (ds.length - 1) P ns.length (restBy ns ds).sum true = "broken" := by
        unfold wordOf; rw [if_neg (by omega), if_neg (by omega), if_pos ⟨rfl, hs⟩]
      rw [hwd] at ret
      exact ret _ _ _ _ T₆ F₉.keep
    have F₇ := fr_on F₂ k₇
    have N₇ := news_on N₂ k₇
    clear F₂ N₂ k₇
    replace hc := go_on hc
    dsimp only
    k_steps
    rename Fr _ _ _ _ => F₉
    have hwd : wordOf (ds.length - 1) P ns.length (restBy ns ds).sum true = "none" := by
      unfold wordOf; have hc' : (ds.length - 1 ≤ ns.length ∧ ns.length ≤ P) := hc; rw [if_neg (by omega), if_neg (by omega), if_neg (fun h => h.2 hs)]
    rw [hwd] at ret
    exact ret _ _ _ _ KtsTurn.refl F₉.keep
end
section
local macro_rules | `(tactic| walk_at "call builtin:isinstance") => `(tactic| (refine' Mine.isi_exc ?iX ?iT ?iE ?iN ?_; (case iT => (intro M; exact Mine.exc_type (by assumption) (by k_mem) (by assumption))); (case iX => k_in); (case iE => kts_exm); (case iN => (intro e; cases e))))
local macro_rules | `(tactic| walk_at "bind") => `(tactic| ((with_reducible rename Fr _ _ _ _ => fF'); (with_reducible rename News _ _ _ _ => fN'); refine name_goes_keeps fF' fN' ?_ rfl rfl; intro _ _ _ _; clear fF' fN'; (try dsimp only)))
local macro_rules | `(tactic| walk_at "getAttr ref") => `(tactic| (k_dflt (refine' Mine.get_ownS ?k1 ?k2 ?k3 ?k4 ?k5 ?k6 ?k7 ?k8 ?k9 ?_; (case k1 => k_asm); (case k2 => k_asm); (case k3 => exact Mine.inst_base (by assumption) (by assumption)); (case k4 => k_is); (case k5 => k_is); (case k6 => k_is); (case k7 => k_is); (case k8 => k_get); (case k9 => k_handed))))
local macro_rules | `(tactic| walk_at "getMethod ref") => `(tactic| (k_dflt (refine' Mine.method_instS ?k1 ?k2 ?k3 ?k4 ?k5 ?k6 ?k7 ?_; (case k1 => k_asm); (case k2 => k_asm); (case k3 => exact Mine.inst_base (by assumption) (by assumption)); (case k4 => k_is); (case k5 => k_is); (case k6 => k_is); (case k7 => k_get))))

theorem c_law_any {x l : Addr} {P : Nat} {ds : List Int} {vs : List Value} {ns : List Int} (G : Gd (Mine.KK w.params) Mine.view (looseW Mine.view [Str.ofString "MOST_NOUGHTS"]) mean mg mb base fr s.heap) (hd : dp + 7 < recursionLimit) (hu : un + 170 < cLine)
    (hG : GateAt w.params 228 s.heap x P ds) (hdv : IsDiv ds) (hP : Reach ds P) (hl : s.heap.IsList l vs.toArray) (hi : IntsAre vs ns) (hz : ns.length ≤ 10000) (hr : IsRow ns)  (hbad : ¬ ((ds.length - 1 ≤ ns.length ∧ ns.length ≤ P) ∧ (restBy ns ds).sum = 0))
    (ret : ∀ g' h' tk', KtsTurn (frs fr) s.heap g' → g'.StaysIn h' → Q (.bool true) { s with heap := h', toks := tk' }) :
    wpAny (model PySem.Challenge.rw_uf040037_09.row.prog w) (arA dp un gd fr) (call (.ref 289) [.ref x, .ref l]) Q E s := by
  revert G; k_fill; intro G
  refine' enter0 (binds := [(Str.ofString "_law_gate", .ref x), (Str.ofString "_law_row_here", .ref l)]) G ?k6 ?k7 ?k8 ?k9 ?kB ?_ ?c2 ?c3 ?c4 ?c5
  case k6 => k_is
  case k7 => k_is
  case k8 => omega
  case k9 => exact BindsTo.of_eq rfl
  case kB => exact locs rfl
  case c2 => exact rfl
  case c3 => exact rfl
  case c4 => exact rfl
  case c5 => decide
  intro L' h' tk F'
  have N' : News s.heap L' h' [] := News.nil
  have B' := G.below dp un gd
  have X' := G.kin
  have T' := G.top
  have hG₀ := go_on hG

  obtain ⟨dx, lD, sl1, sl2, vD, t0, t1, t2, t3, tP, tw, hIn, hlD, hiD⟩ := hG
  have hz1 : 2 ≤ ds.length := hdv.least
  have hz2 : ds.length ≤ 13 := hdv.most
  have hrd : IsRow ds := hdv.row
  have hP1 : 1 ≤ P := hP.pos
  have hP2 : P ≤ 4095 := by obtain ⟨P', h1, h2⟩ := hdv.reach; rw [hP.unique h1]; exact h2

  have hbad' := go_on hbad
  clear hbad
  k_steps
  refine go_on (wpAny_Try_except ?_)
  k_steps
  rename Fr _ _ _ _ => F₂
  rename News _ _ _ _ => N₂
  refine go_on (c_Gate_opened (G.push F₂ rfl) (by omega) (by omega) (gate_base F₂ hG₀) hdv hP (lst_base F₂ hl) hi hz hr (fun hc e t us h₃ tk₃ R U => ?_) (fun hc e t us h₃ tk₃ R U => ?_) (fun hc hs e t us h₃ tk₃ R U => ?_) (fun hc hs => absurd ⟨hc, hs⟩ hbad'))
  · refine A_look G F₂ N₂ R U (fun h₄ h₅ F₅ R₅ U₅ => ?_)
    refine A_hitB G F₅ R₅ U₅ (by kts_test) (fun h₇ g₇ tk₇ oe ot T₇ F₇ N₇ hc₇ hw₇ G₇ => ?_) rfl rfl
    have B₇ := G₇.below dp un gd
    have X₇ := G₇.kin
    have T₇' := G₇.top
    replace hc := go_on hc
    clear F₂ N₂ R U F₅ R₅ U₅ B' X' T'
    dsimp only
    k_steps
    rename Fr _ _ _ _ => F₈
    exact ret _ _ _ T₇ F₈.keep
  · refine A_look G F₂ N₂ R U (fun h₄ h₅ F₅ R₅ U₅ => ?_)
    refine A_hitB G F₅ R₅ U₅ (by kts_test) (fun h₇ g₇ tk₇ oe ot T₇ F₇ N₇ hc₇ hw₇ G₇ => ?_) rfl rfl
    have B₇ := G₇.below dp un gd
    have X₇ := G₇.kin
    have T₇' := G₇.top
    replace hc := go_on hc
    clear F₂ N₂ R U F₅ R₅ U₅ B' X' T'
    dsimp only
    k_steps
    rename Fr _ _ _ _ => F₈
    exact ret _ _ _ T₇ F₈.keep
  · refine A_look G F₂ N₂ R U (fun h₄ h₅ F₅ R₅ U₅ => ?_)
    refine A_hitB G F₅ R₅ U₅ (by kts_test) (fun h₇ g₇ tk₇ oe ot T₇ F₇ N₇ hc₇ hw₇ G₇ => ?_) rfl rfl
    have B₇ := G₇.below dp un gd
    have X₇ := G₇.kin
    have T₇' := G₇.top
    replace hc := go_on hc
    clear F₂ N₂ R U F₅ R₅ U₅ B' X' T'
    dsimp only
    k_steps
    rename Fr _ _ _ _ => F₈
    exact ret _ _ _ T₇ F₈.keep
end

def Rw9 (s : Shared) (g : Heap) (L Dd : Addr) (wd : Int) (P : Nat) (se : Int) (s' : Shared) : Prop :=
  ∃ h tk m a ta tw ts c tc, s' = { s with heap := h, toks := tk } ∧ Fr g L h m ∧ m (Str.ofString "_law_more") = some (.int c tc) ∧ m (Str.ofString "_law_seals") = some (.int se ts) ∧ m (Str.ofString "_law_divisor") = some (.ref Dd) ∧ m (Str.ofString "_law_width") = some (.int wd tw) ∧ m (Str.ofString "_law_size") = some (.int a ta) ∧ 0 ≤ a ∧ a ≤ 5000

theorem c_law_row {Dd : Addr} {P : Nat} {ds : List Int} {vd : List Value} {c mo se : Int} {t t₂ t₃ t₄ : Tok} (G : Gd (Mine.KK w.params) Mine.view (looseW Mine.view [Str.ofString "MOST_NOUGHTS"]) mean mg mb base fr s.heap) (hd : dp + 3 < recursionLimit) (hu : un + 130 < cLine)
    (hl : s.heap.IsList Dd vd.toArray) (hi : IntsAre vd ds) (hdv : IsDiv ds) (hP2 : P ≤ 4095)
    (ret : ∀ h' tk' D vs' c rs, s.heap.StaysIn h' → s.heap.get? D = none → h'.get? D = some (listOf (List.toArray vs') c) → IntsAre vs' rs → IsRow rs → rs.length ≤ 6000 → Q (.ref D) { s with heap := h', toks := tk' }) :
    wpAny (model PySem.Challenge.rw_uf040037_09.row.prog w) (arA dp un gd fr) (call (.ref 296) [.int c t, .int mo t₂, .int se t₃, .ref Dd, .int (P : Int) t₄]) Q E s := by
  revert G; k_fill; intro G
  refine' enter0 (binds := [(Str.ofString "_law_cell", .int c t), (Str.ofString "_law_more", .int mo t₂), (Str.ofString "_law_seals", .int se t₃), (Str.ofString "_law_divisor", .ref Dd), (Str.ofString "_law_most", .int (P : Int) t₄)]) G ?k6 ?k7 ?k8 ?k9 ?kB ?_ ?c2 ?c3 ?c4 ?c5
  case k6 => k_is
  case k7 => k_is
  case k8 => omega
  case k9 => exact BindsTo.of_eq rfl
  case kB => exact locs rfl
  case c2 => exact rfl
  case c3 => exact rfl
  case c4 => exact rfl
  case c5 => decide
  intro L' h' tk F'
  have N' : News s.heap L' h' [] := News.nil
  have B' := G.below dp un gd
  have X' := G.kin
  have T' := G.top
  have hz1 : 2 ≤ ds.length := hdv.least
  have hz2 : ds.length ≤ 13 := hdv.most
  have hd₁ := hdv.one
  refine hide2 fun r₁ hr₁ => ?_
  k_steps
  subst hr₁
  dsimp only
  rename Fr _ _ _ _ => F₁
  refine cut (Rw9 s s.heap L' Dd ((ds.length : Int) - 1) P se) ?_ ?_
  · k_steps
    · rename Fr _ _ _ _ => F₈
      exact ⟨rfl, _, _, _, _, _, _, _, _, _, rfl, F₈, rfl, rfl, rfl, rfl, rfl, fm_ge _ _ (by omega), Int.le_trans (fm_le _ _ ((P : Int) + 3) (by omega) (by omega)) (by omega)⟩
    · rename Fr _ _ _ _ => F₈
      exact ⟨rfl, _, _, _, _, _, _, _, _, _, rfl, F₈, rfl, rfl, rfl, rfl, rfl, fm_ge _ _ (by decide), Int.le_trans (fm_le _ _ 20 (by decide) (by decide)) (by decide)⟩
  clear F₁
  rintro s' ⟨h₂, tk₂, m₂, a, ta, tw, ts, c, tc, rfl, F₂, e1, e2, e3, e4, e5, ha0, ha1⟩
  obtain ⟨a, rfl⟩ := Int.eq_ofNat_of_zero_le ha0
  replace F₂ := fr_know (Str.ofString "_law_size") (fr_know (Str.ofString "_law_width") (fr_know (Str.ofString "_law_divisor") (fr_know (Str.ofString "_law_seals") (fr_know (Str.ofString "_law_more") F₂ e1) e2) e3) e4) e5
  have N₂ : News s.heap L' h₂ [] := News.nil
  clear e1 e2 e3 e4 e5 ha0
  k_steps
  · rename IntsAre _ (List.take _ _ ++ _) => hI₇
    rename Fr _ _ _ _ => FA1
    rename News _ _ _ _ => NA1
    rename IsRow _ => hRs
    have hz' := isRow_append.mpr ⟨hRs.take ((a : Int) - ((ds.length : Int) - 1)).toNat, isRow_flat (n := ((ds.length : Int) - 1).toNat) (x := 0) (.inl rfl)⟩
    refine go_on (c_law_rest_by (G.push FA1 rfl) (by omega) (by omega) (lst_led NA1 (.head _)) hI₇ hz' (lst_base FA1 hl) hi (by omega) hd₁ (fun hB tB DB vB cB kB nB oB iB => ?_))
    have FB := fr_on FA1 kB
    have neB := allNe_of (news_ne NA1 nB)
    simp only [AllNe, and_true] at neB
    have NB := news_more FA1 NA1 kB nB oB
    clear FA1 NA1 kB nB oB hI₇
    have hq := restBy_len hd₁ hz'
    have hqr := restBy_row hd₁ hz'
    clear hz'
    generalize restBy (_ ++ _) ds = qs at *
    dsimp only
    k_steps
    rename IntsAre _ (List.take _ _ ++ qs) => hI₈
    rename Fr _ _ _ _ => F₈
    rename News _ _ _ _ => N₈
    exact ret _ _ _ _ _ _ F₈.keep (N₈ _ (.head _)).2.2 (N₈ _ (.head _)).1 hI₈ (isRow_append.mpr ⟨hRs.take _, hqr⟩) (by rw [List.length_append, List.length_take]; omega)
  · rename Fr _ _ _ _ => F₈
    rename News _ _ _ _ => N₈
    exact ret _ _ _ _ _ _ F₈.keep (N₈ _ (.head _)).2.2 (N₈ _ (.head _)).1 (by assumption) (by assumption) (by omega)
  · rename Fr _ _ _ _ => F₈
    rename News _ _ _ _ => N₈
    exact ret _ _ _ _ _ _ F₈.keep (N₈ _ (.head _)).2.2 (N₈ _ (.head _)).1 (by assumption) (by assumption) (by omega)

local macro_rules | `(tactic| walk_at "call ref") => `(tactic| (k_dflt (
  (rename Fr _ _ _ _ => fF'); (rename News _ _ _ _ => fN');
  (first | refine' Mine.c_law_row (Mine.Gd.push (by assumption) fF' ?kk) ?hd ?hu ?hl ?hi ?hdv ?hP2 ?_ | refine' Mine.c_law_row (Mine.Gd.pushC (by assumption) fF' ?kk) ?hd ?hu ?hl ?hi ?hdv ?hP2 ?_); ((case kk => exact rfl); (case hd => omega); (case hu => omega); (case hl => walk_at "m:list"); (case hi => assumption); (case hdv => assumption); (case hP2 => omega); skip);
  intro h' tk' D' vs' c' rs' k' hn' ho' hi' hr' hlen'; (have F' := Mine.fr_on fF' k'); (have ne' := Mine.allNe_of (Mine.news_ne fN' hn')); (try simp only [Mine.AllNe, and_true] at ne'); (have N' := Mine.news_more fF' fN' k' hn' ho'); clear fF' fN' k' hn' ho'; (try dsimp only))))

theorem c_law_kept {H : Addr} {hv : List Value} (G : Gd (Mine.KK w.params) Mine.view (looseW Mine.view [Str.ofString "MOST_NOUGHTS"]) mean mg mb base fr s.heap) (hd : dp + 1 < recursionLimit) (hu : un + 110 < cLine)
    (hl : s.heap.IsList H hv.toArray) (hp : ∀ v ∈ hv, PairAt s.heap v)
    (ret : ∀ h' tk', s.heap.StaysIn h' → Q (.bool true) { s with heap := h', toks := tk' }) :
    wpAny (model PySem.Challenge.rw_uf040037_09.row.prog w) (arA dp un gd fr) (call (.ref 310) [.ref H]) Q E s := by
  revert G; k_fill; intro G
  refine' enter0 (binds := [(Str.ofString "_law_held", .ref H)]) G ?k6 ?k7 ?k8 ?k9 ?kB ?_ ?c2 ?c3 ?c4 ?c5
  case k6 => k_is
  case k7 => k_is
  case k8 => omega
  case k9 => exact BindsTo.of_eq rfl
  case kB => exact locs rfl
  case c2 => exact rfl
  case c3 => exact rfl
  case c4 => exact rfl
  case c5 => decide
  intro L' h' tk F'
  have N' : News s.heap L' h' [] := News.nil
  have B' := G.below dp un gd
  have X' := G.kin
  have T' := G.top
  have hp' := go_on hp
  clear hp
  obtain ⟨oH, hoH, _⟩ := id hl
  k_steps
  refine go_on (for_in F' (fun Q' q => ?_) (fun _ => rfl) (by passes_own))
  k_steps
  refine q _ _ (loop_pairs (news := []) (still := []) (fun _ _ nx => nx = []) (fun i x y => ∃ A B ws us ns, x = .ref A ∧ y = .ref B ∧ s.heap.IsList A (List.toArray ws) ∧ s.heap.IsList B (List.toArray us) ∧ IntsAre ws ns ∧ IntsAre us ns ∧ ns.length ≤ 100000) rfl F' N' (lst_base F' hl) (.inr ⟨oH, hoH⟩) off_nil ?_ rfl ?_ ?_ rfl rfl rfl)
  · intro i v h hv' hk _
    obtain ⟨T, A, B, ws, us, ns, rfl, hT, hA, hB, h1, h2, h3⟩ := hp' v (List.mem_of_getElem? hv')
    exact ⟨T, .ref A, .ref B, rfl, hT.at fun o e => hk _ o e, A, B, ws, us, ns, rfl, rfl, hA, hB, h1, h2, h3⟩
  · rintro i x y m₁ news₁ h tk own hi ⟨A, B, ws, us, ns, rfl, rfl, hA, hB, h1, h2, h3⟩ ho rfl _ F₂ N₂
    clear F' N'
    simp only [List.nil_append] at N₂
    k_steps
    exact GEnd.intro (nx := []) F₂ N₂ rfl (List.forall_mem_nil _) (fun p hp => hp) off_nil
  · rintro m₁ news₁ h tk rfl F₂ N₂
    clear F' N'
    k_steps
    exact ret _ _ F₂.keep
section
local macro_rules | `(tactic| walk_at "getAttr ref") => `(tactic| (k_dflt (refine' Mine.get_ownS ?k1 ?k2 ?k3 ?k4 ?k5 ?k6 ?k7 ?k8 ?k9 ?_; (case k1 => k_asm); (case k2 => k_asm); (case k3 => exact Mine.inst_base (by assumption) (by assumption)); (case k4 => k_is); (case k5 => k_is); (case k6 => k_is); (case k7 => k_is); (case k8 => k_get); (case k9 => k_handed))))
local macro_rules | `(tactic| walk_at "getMethod ref") => `(tactic| (k_dflt (refine' Mine.method_instS ?k1 ?k2 ?k3 ?k4 ?k5 ?k6 ?k7 ?_; (case k1 => k_asm); (case k2 => k_asm); (case k3 => exact Mine.inst_base (by assumption) (by assumption)); (case k4 => k_is); (case k5 => k_is); (case k6 => k_is); (case k7 => k_get))))
local macro_rules | `(tactic| walk_at "compareOp In int ref") => `(tactic| (k_dflt (first | (refine' Mine.in_ints_no ?iL ?iI ?iK ?_; (case iK => assumption); (case iI => assumption); (case iL => walk_at "m:list")) | (refine' Mine.in_ints_yes ?iL ?iI ?iK ?_; (case iK => assumption); (case iI => assumption); (case iL => walk_at "m:list")))))
local macro_rules | `(tactic| walk_at "compareOp NotIn int ref") => `(tactic| (k_dflt (first | (refine' Mine.notin_ints_no ?iL ?iI ?iK ?_; (case iK => assumption); (case iI => assumption); (case iL => walk_at "m:list")) | (refine' Mine.notin_ints_yes ?iL ?iI ?iK ?_; (case iK => assumption); (case iI => assumption); (case iL => walk_at "m:list")))))
local macro_rules | `(tactic| walk_at "m:size") => `(tactic| first | (rw [Array.size_push, List.size_toArray, IntsAre.length (by assumption), sizeLine_eq]; omega) | (rw [List.size_toArray, IntsAre.length (by assumption), sizeLine_eq]; omega))
local macro_rules | `(tactic| walk_at "call type:list") => `(tactic| ((with_reducible rename Fr _ _ _ _ => fF'); (with_reducible rename News _ _ _ _ => fN'); (refine' list_copyK fF' fN' ?cl ?_ ?cz; (case cl => walk_at "m:list"); (case cz => walk_at "m:size")); intro D' c' h' F' N' l1; clear fF' fN'; (try k_lt l1); (try k_sweep)))

theorem c_law_asked {g : Heap} {x Dd lr H : Addr} {P : Nat} {ds : List Int} {vd vr hv : List Value} {rr : List Int} {tb : Bool} {tM : Tok} {hc : Nat} (G : Gd (Mine.KK w.params) Mine.view (looseW Mine.view [Str.ofString "MOST_NOUGHTS"]) mean mg mb base fr g) (hkg : g.StaysIn s.heap) (hsg : g.objs.size ≤ s.heap.objs.size) (hNg : ∀ q ∈ [(H, listOf hv.toArray hc)], s.heap.get? q.1 = some q.2 ∧ g.get? q.1 = none) (hd : dp + 9 < recursionLimit) (hu : un + 190 < cLine)
    (hG : GateAt w.params 228 g x P ds) (hdv : IsDiv ds) (hP : Reach ds P) (hld : g.IsList Dd vd.toArray) (hid : IntsAre vd ds) (hlr : g.IsList lr vr.toArray) (hir : IntsAre vr rr) (hrr : IsRow rr) (hzr : rr.length ≤ 9000) (hhv : hv.length ≤ 100)
    (ret : ∀ g' h' tk' hv' hc' prs', KtsTurn (frs fr) g g' → g'.StaysIn h' → (∀ q ∈ (H, listOf (List.toArray (hv ++ hv')) hc') :: prs', h'.get? q.1 = some q.2 ∧ g'.get? q.1 = none) → (∀ q ∈ prs', @Ne Nat q.1 H) → HeldIn prs' hv' → List.length hv' ≤ 3 → Q (.bool true) { s with heap := h', toks := tk' }) :
    wpAny (model PySem.Challenge.rw_uf040037_09.row.prog w) (arA dp un gd fr) (call (.ref 303) [.ref x, .ref Dd, .int (P : Int) tM, .ref lr, .bool tb, .ref H]) Q E s := by
  revert G; k_fill; intro G
  refine' enter0H (binds := [(Str.ofString "_law_gate", .ref x), (Str.ofString "_law_divisor", .ref Dd), (Str.ofString "_law_most", .int (P : Int) tM), (Str.ofString "_law_row_here", .ref lr), (Str.ofString "_law_turned", .bool tb), (Str.ofString "_law_held", .ref H)]) G hkg hsg hNg ?k6 ?k7 ?k8 ?k9 ?kB ?_ ?c2 ?c3 ?c4 ?c5
  case k6 => k_is
  case k7 => k_is
  case k8 => omega
  case k9 => exact BindsTo.of_eq rfl
  case kB => exact locs rfl
  case c2 => exact rfl
  case c3 => exact rfl
  case c4 => exact rfl
  case c5 => decide
  intro L' h' tk F' N'
  clear hkg hsg hNg
  have B' := G.below dp un gd
  have X' := G.kin
  have T' := G.top
  have hG₀ := go_on hG

  obtain ⟨dx, lD, sl1, sl2, vD, t0, t1, t2, t3, tP, tw, hIn, hlD, hiD⟩ := hG
  have hz1 : 2 ≤ ds.length := hdv.least
  have hz2 : ds.length ≤ 13 := hdv.most
  have hrd : IsRow ds := hdv.row
  have hP1 : 1 ≤ P := hP.pos
  have hP2 : P ≤ 4095 := by obtain ⟨P', h1, h2⟩ := hdv.reach; rw [hP.unique h1]; exact h2

  have hge := hP.ge
  have hd₁ := hdv.one
  have hw3 : rr.length < ds.length - 1 ∨ (ds.length - 1 ≤ rr.length ∧ P < rr.length) ∨ (ds.length - 1 ≤ rr.length ∧ rr.length ≤ P) := by omega
  rcases hw3 with hw | ⟨hw1, hw2⟩ | ⟨hw1, hw2⟩
  · have hwd := go_on (show ∀ sm op, wordOf (ds.length - 1) P rr.length sm op = "short" from fun _ _ => by unfold wordOf; rw [if_pos hw])
    have hbad := go_on (show ¬ ((ds.length - 1 ≤ rr.length ∧ rr.length ≤ P) ∧ (restBy rr ds).sum = 0) from fun h => by omega)
    k_steps
    rename Fr _ _ _ _ => FC1
    rename News _ _ _ _ => NC1
    refine go_on (c_law_words (op := false) (G.push FC1 rfl) (by omega) (by omega) (gate_base FC1 hG₀) hdv hP (lst_led NC1 (by k_mem)) hir (by omega) hrr (fun gD1 hD1 tD1 sD1 TD1 kD1 => ?_))
    rw [hwd _ _] 
    obtain ⟨gE1, TE1, FE1, NE1⟩ := turn_call G FC1 NC1 rfl TD1 kD1
    have GE1 := G.turn TE1
    have BE1 := GE1.below dp un gd
    have XE1 := GE1.kin
    have PE1 := GE1.top
    replace hG₀ := go_on (gate_turn TE1 hG₀)
    obtain ⟨dx, lD, sl1, sl2, vD, t0, t1, t2, t3, tP, tw, hIn, hlD, hiD⟩ := id hG₀
    replace hlr := list_turn TE1 hlr
    replace hld := list_turn TE1 hld
    clear FC1 NC1 kD1
    clear B' X' T'
    dsimp only
    k_steps
    rename Fr _ _ _ _ => FC2
    rename News _ _ _ _ => NC2
    refine go_on (c_law_words (op := true) (GE1.push FC2 rfl) (by omega) (by omega) (gate_base FC2 hG₀) hdv hP (lst_led NC2 (by k_mem)) hir (by omega) hrr (fun gD2 hD2 tD2 sD2 TD2 kD2 => ?_))
    rw [hwd _ _] 
    obtain ⟨gE2, TE2, FE2, NE2⟩ := turn_call GE1 FC2 NC2 rfl TD2 kD2
    have GE2 := GE1.turn TE2
    have BE2 := GE2.below dp un gd
    have XE2 := GE2.kin
    have PE2 := GE2.top
    replace hG₀ := go_on (gate_turn TE2 hG₀)
    obtain ⟨dx, lD, sl1, sl2, vD, t0, t1, t2, t3, tP, tw, hIn, hlD, hiD⟩ := id hG₀
    replace hlr := list_turn TE2 hlr
    replace hld := list_turn TE2 hld
    clear FC2 NC2 kD2
    clear BE1 XE1 PE1
    dsimp only
    k_steps
    rename Fr _ _ _ _ => FC3
    rename News _ _ _ _ => NC3
    refine go_on (c_law_any (GE2.push FC3 rfl) (by omega) (by omega) (gate_base FC3 hG₀) hdv hP (lst_led NC3 (by k_mem)) hir (by omega) hrr hbad (fun gD3 hD3 tD3 TD3 kD3 => ?_))
    obtain ⟨gE3, TE3, FE3, NE3⟩ := turn_call GE2 FC3 NC3 rfl TD3 kD3
    have GE3 := GE2.turn TE3
    have BE3 := GE3.below dp un gd
    have XE3 := GE3.kin
    have PE3 := GE3.top
    replace hG₀ := go_on (gate_turn TE3 hG₀)
    obtain ⟨dx, lD, sl1, sl2, vD, t0, t1, t2, t3, tP, tw, hIn, hlD, hiD⟩ := id hG₀
    replace hlr := list_turn TE3 hlr
    replace hld := list_turn TE3 hld
    clear FC3 NC3 kD3
    clear BE2 XE2 PE2
    dsimp only
    k_steps
    rename Fr _ _ _ _ => FZ
    rename News _ _ _ _ => NZ
    exact ret gE3 _ _ [] _ [] (TE1.trans (TE2.trans (TE3))) FZ.keep (led_of NZ (List.forall_mem_cons.mpr ⟨by rw [List.append_nil]; k_mem, List.forall_mem_nil _⟩)) (List.forall_mem_nil _) (held_nil _) (Nat.zero_le _)
  · have hwd := go_on (show ∀ sm op, wordOf (ds.length - 1) P rr.length sm op = "long" from fun _ _ => by unfold wordOf; rw [if_neg (by omega), if_pos hw2])
    have hbad := go_on (show ¬ ((ds.length - 1 ≤ rr.length ∧ rr.length ≤ P) ∧ (restBy rr ds).sum = 0) from fun h => by omega)
    k_steps
    rename Fr _ _ _ _ => FC1
    rename News _ _ _ _ => NC1
    refine go_on (c_law_words (op := false) (G.push FC1 rfl) (by omega) (by omega) (gate_base FC1 hG₀) hdv hP (lst_led NC1 (by k_mem)) hir (by omega) hrr (fun gD1 hD1 tD1 sD1 TD1 kD1 => ?_))
    rw [hwd _ _] 
    obtain ⟨gE1, TE1, FE1, NE1⟩ := turn_call G FC1 NC1 rfl TD1 kD1
    have GE1 := G.turn TE1
    have BE1 := GE1.below dp un gd
    have XE1 := GE1.kin
    have PE1 := GE1.top
    replace hG₀ := go_on (gate_turn TE1 hG₀)
    obtain ⟨dx, lD, sl1, sl2, vD, t0, t1, t2, t3, tP, tw, hIn, hlD, hiD⟩ := id hG₀
    replace hlr := list_turn TE1 hlr
    replace hld := list_turn TE1 hld
    clear FC1 NC1 kD1
    clear B' X' T'
    dsimp only
    k_steps
    rename Fr _ _ _ _ => FC2
    rename News _ _ _ _ => NC2
    refine go_on (c_law_words (op := true) (GE1.push FC2 rfl) (by omega) (by omega) (gate_base FC2 hG₀) hdv hP (lst_led NC2 (by k_mem)) hir (by omega) hrr (fun gD2 hD2 tD2 sD2 TD2 kD2 => ?_))
    rw [hwd _ _] 
    obtain ⟨gE2, TE2, FE2, NE2⟩ := turn_call GE1 FC2 NC2 rfl TD2 kD2
    have GE2 := GE1.turn TE2
    have BE2 := GE2.below dp un gd
    have XE2 := GE2.kin
    have PE2 := GE2.top
    replace hG₀ := go_on (gate_turn TE2 hG₀)
    obtain ⟨dx, lD, sl1, sl2, vD, t0, t1, t2, t3, tP, tw, hIn, hlD, hiD⟩ := id hG₀
    replace hlr := list_turn TE2 hlr
    replace hld := list_turn TE2 hld
    clear FC2 NC2 kD2
    clear BE1 XE1 PE1
    dsimp only
    k_steps
    rename Fr _ _ _ _ => FC3
    rename News _ _ _ _ => NC3
    refine go_on (c_law_any (GE2.push FC3 rfl) (by omega) (by omega) (gate_base FC3 hG₀) hdv hP (lst_led NC3 (by k_mem)) hir (by omega) hrr hbad (fun gD3 hD3 tD3 TD3 kD3 => ?_))
    obtain ⟨gE3, TE3, FE3, NE3⟩ := turn_call GE2 FC3 NC3 rfl TD3 kD3
    have GE3 := GE2.turn TE3
    have BE3 := GE3.below dp un gd
    have XE3 := GE3.kin
    have PE3 := GE3.top
    replace hG₀ := go_on (gate_turn TE3 hG₀)
    obtain ⟨dx, lD, sl1, sl2, vD, t0, t1, t2, t3, tP, tw, hIn, hlD, hiD⟩ := id hG₀
    replace hlr := list_turn TE3 hlr
    replace hld := list_turn TE3 hld
    clear FC3 NC3 kD3
    clear BE2 XE2 PE2
    dsimp only
    k_steps
    rename Fr _ _ _ _ => FZ
    rename News _ _ _ _ => NZ
    exact ret gE3 _ _ [] _ [] (TE1.trans (TE2.trans (TE3))) FZ.keep (led_of NZ (List.forall_mem_cons.mpr ⟨by rw [List.append_nil]; k_mem, List.forall_mem_nil _⟩)) (List.forall_mem_nil _) (held_nil _) (Nat.zero_le _)
  · by_cases hs : (restBy rr ds).sum = 0
    · have hno : ¬ (1 : Int) ∈ restBy rr ds := (noOne_iff hdv.one hrr).mpr ((holds_iff hdv.one hrr).mp hs)
      have hwF := go_on (show wordOf (ds.length - 1) P rr.length (restBy rr ds).sum false = "none" by unfold wordOf; rw [if_neg (by omega), if_neg (by omega), if_neg (fun h => by cases h.1)])
      have hwT := go_on (show wordOf (ds.length - 1) P rr.length (restBy rr ds).sum true = "none" by unfold wordOf; rw [if_neg (by omega), if_neg (by omega), if_neg (fun h => h.2 hs)])
      cases tb
      · k_steps
        rename Fr _ _ _ _ => FC2
        rename News _ _ _ _ => NC2
        refine go_on (c_law_words (op := false) (G.push FC2 rfl) (by omega) (by omega) (gate_base FC2 hG₀) hdv hP (lst_led NC2 (by k_mem)) hir (by omega) hrr (fun gD2 hD2 tD2 sD2 TD2 kD2 => ?_))
        rw [hwF] 
        obtain ⟨gE2, TE2, FE2, NE2⟩ := turn_call G FC2 NC2 rfl TD2 kD2
        have GE2 := G.turn TE2
        have BE2 := GE2.below dp un gd
        have XE2 := GE2.kin
        have PE2 := GE2.top
        replace hG₀ := go_on (gate_turn TE2 hG₀)
        obtain ⟨dx, lD, sl1, sl2, vD, t0, t1, t2, t3, tP, tw, hIn, hlD, hiD⟩ := id hG₀
        replace hlr := list_turn TE2 hlr
        replace hld := list_turn TE2 hld
        clear FC2 NC2 kD2
        clear B' X' T'
        dsimp only
        k_steps
        rename Fr _ _ _ _ => FA3
        rename News _ _ _ _ => NA3
        refine go_on (c_Gate_holds (GE2.push FA3 rfl) (by omega) (by omega) (gate_base FA3 hG₀) hdv hP (lst_led NA3 (by k_mem)) hir (by omega) hrr (fun h => absurd h (by omega)) (fun h => absurd h.2 (by omega)) (fun _ hB3 tB3 kB3 => ?_))
        have FB3 := fr_on FA3 kB3
        have NB3 := news_on NA3 kB3
        clear FA3 NA3 kB3
        rw [decide_eq_true hs]
        dsimp only
        k_steps
        rename Fr _ _ _ _ => FA4
        rename News _ _ _ _ => NA4
        refine go_on (c_Gate_opened (GE2.push FA4 rfl) (by omega) (by omega) (gate_base FA4 hG₀) hdv hP (lst_led NA4 (by k_mem)) hir (by omega) hrr (fun h => absurd h (by omega)) (fun h => absurd h.2 (by omega)) (fun _ h => absurd hs h) (fun _ _ hB4 tB4 DB4 vB4 cB4 kB4 nB4 oB4 iB4 => ?_))
        have FB4 := fr_on FA4 kB4
        have ne4 := allNe_of (news_ne NA4 nB4)
        simp only [AllNe, and_true] at ne4
        have NB4 := news_more FA4 NA4 kB4 nB4 oB4
        clear FA4 NA4 kB4 nB4 oB4
        have hol : (rr.take (rr.length - (ds.length - 1))).length = rr.length - (ds.length - 1) := by rw [List.length_take]; omega
        have hor := hrr.take (rr.length - (ds.length - 1))
        have hA1 := go_on (show ((rr.take (rr.length - (ds.length - 1))).length : Int) = (rr.length : Int) - ((ds.length : Int) - 1) by omega)
        have hA2 := go_on (show rr.take (rr.length - (ds.length - 1)) = rr.take ((rr.length : Int) - ((ds.length : Int) - 1)).toNat by congr 1; omega)
        dsimp only
        k_steps <;> try (first | exact absurd hA1 (by assumption) | exact absurd hA2 (by assumption))
        rename_i C1 cc1 _ lC1 T1 _ lT1 _ FZ NZ
        try simp only [List.push_toArray, List.append_assoc, List.cons_append, List.nil_append] at NZ
        exact ret gE2 _ _ [.ref T1] _ [(T1, _), (DB4, _), (C1, _)] (TE2) FZ.keep (led_of NZ (List.forall_mem_cons.mpr ⟨by k_mem, List.forall_mem_cons.mpr ⟨by k_mem, List.forall_mem_cons.mpr ⟨by k_mem, List.forall_mem_cons.mpr ⟨by k_mem, List.forall_mem_nil _⟩⟩⟩⟩)) (by intro q hq; simp only [List.mem_cons, List.not_mem_nil, or_false] at hq; rcases hq with rfl | rfl | rfl <;> (dsimp only; omega)) (List.forall_mem_cons.mpr ⟨⟨T1, DB4, C1, _, _, _, _, rr.take (rr.length - (ds.length - 1)) ++ [1], rfl, .head _, .tail _ (.head _), .tail _ (.tail _ (.head _)), (iB4.append (.cons _ _ .nil)), (iB4.append (.cons _ _ .nil)), by rw [List.length_append, hol]; simp; omega⟩, List.forall_mem_nil _⟩) (by simp)
      · k_steps
        rename Fr _ _ _ _ => FC1
        rename News _ _ _ _ => NC1
        refine go_on (c_law_words (op := true) (G.push FC1 rfl) (by omega) (by omega) (gate_base FC1 hG₀) hdv hP (lst_led NC1 (by k_mem)) hir (by omega) hrr (fun gD1 hD1 tD1 sD1 TD1 kD1 => ?_))
        rw [hwT] 
        obtain ⟨gE1, TE1, FE1, NE1⟩ := turn_call G FC1 NC1 rfl TD1 kD1
        have GE1 := G.turn TE1
        have BE1 := GE1.below dp un gd
        have XE1 := GE1.kin
        have PE1 := GE1.top
        replace hG₀ := go_on (gate_turn TE1 hG₀)
        obtain ⟨dx, lD, sl1, sl2, vD, t0, t1, t2, t3, tP, tw, hIn, hlD, hiD⟩ := id hG₀
        replace hlr := list_turn TE1 hlr
        replace hld := list_turn TE1 hld
        clear FC1 NC1 kD1
        clear B' X' T'
        dsimp only
        k_steps
        rename Fr _ _ _ _ => FC2
        rename News _ _ _ _ => NC2
        refine go_on (c_law_words (op := false) (GE1.push FC2 rfl) (by omega) (by omega) (gate_base FC2 hG₀) hdv hP (lst_led NC2 (by k_mem)) hir (by omega) hrr (fun gD2 hD2 tD2 sD2 TD2 kD2 => ?_))
        rw [hwF] 
        obtain ⟨gE2, TE2, FE2, NE2⟩ := turn_call GE1 FC2 NC2 rfl TD2 kD2
        have GE2 := GE1.turn TE2
        have BE2 := GE2.below dp un gd
        have XE2 := GE2.kin
        have PE2 := GE2.top
        replace hG₀ := go_on (gate_turn TE2 hG₀)
        obtain ⟨dx, lD, sl1, sl2, vD, t0, t1, t2, t3, tP, tw, hIn, hlD, hiD⟩ := id hG₀
        replace hlr := list_turn TE2 hlr
        replace hld := list_turn TE2 hld
        clear FC2 NC2 kD2
        clear BE1 XE1 PE1
        dsimp only
        k_steps
        rename Fr _ _ _ _ => FA3
        rename News _ _ _ _ => NA3
        refine go_on (c_Gate_holds (GE2.push FA3 rfl) (by omega) (by omega) (gate_base FA3 hG₀) hdv hP (lst_led NA3 (by k_mem)) hir (by omega) hrr (fun h => absurd h (by omega)) (fun h => absurd h.2 (by omega)) (fun _ hB3 tB3 kB3 => ?_))
        have FB3 := fr_on FA3 kB3
        have NB3 := news_on NA3 kB3
        clear FA3 NA3 kB3
        rw [decide_eq_true hs]
        dsimp only
        k_steps
        rename Fr _ _ _ _ => FA4
        rename News _ _ _ _ => NA4
        refine go_on (c_Gate_opened (GE2.push FA4 rfl) (by omega) (by omega) (gate_base FA4 hG₀) hdv hP (lst_led NA4 (by k_mem)) hir (by omega) hrr (fun h => absurd h (by omega)) (fun h => absurd h.2 (by omega)) (fun _ h => absurd hs h) (fun _ _ hB4 tB4 DB4 vB4 cB4 kB4 nB4 oB4 iB4 => ?_))
        have FB4 := fr_on FA4 kB4
        have ne4 := allNe_of (news_ne NA4 nB4)
        simp only [AllNe, and_true] at ne4
        have NB4 := news_more FA4 NA4 kB4 nB4 oB4
        clear FA4 NA4 kB4 nB4 oB4
        have hol : (rr.take (rr.length - (ds.length - 1))).length = rr.length - (ds.length - 1) := by rw [List.length_take]; omega
        have hor := hrr.take (rr.length - (ds.length - 1))
        have hA1 := go_on (show ((rr.take (rr.length - (ds.length - 1))).length : Int) = (rr.length : Int) - ((ds.length : Int) - 1) by omega)
        have hA2 := go_on (show rr.take (rr.length - (ds.length - 1)) = rr.take ((rr.length : Int) - ((ds.length : Int) - 1)).toNat by congr 1; omega)
        dsimp only
        k_steps <;> try (first | exact absurd hA1 (by assumption) | exact absurd hA2 (by assumption))
        rename_i C1 cc1 _ lC1 T1 _ lT1 _ FZ NZ
        try simp only [List.push_toArray, List.append_assoc, List.cons_append, List.nil_append] at NZ
        exact ret gE2 _ _ [.ref T1] _ [(T1, _), (DB4, _), (C1, _)] (TE1.trans (TE2)) FZ.keep (led_of NZ (List.forall_mem_cons.mpr ⟨by k_mem, List.forall_mem_cons.mpr ⟨by k_mem, List.forall_mem_cons.mpr ⟨by k_mem, List.forall_mem_cons.mpr ⟨by k_mem, List.forall_mem_nil _⟩⟩⟩⟩)) (by intro q hq; simp only [List.mem_cons, List.not_mem_nil, or_false] at hq; rcases hq with rfl | rfl | rfl <;> (dsimp only; omega)) (List.forall_mem_cons.mpr ⟨⟨T1, DB4, C1, _, _, _, _, rr.take (rr.length - (ds.length - 1)) ++ [1], rfl, .head _, .tail _ (.head _), .tail _ (.tail _ (.head _)), (iB4.append (.cons _ _ .nil)), (iB4.append (.cons _ _ .nil)), by rw [List.length_append, hol]; simp; omega⟩, List.forall_mem_nil _⟩) (by simp)
    · have hno : (1 : Int) ∈ restBy rr ds := Decidable.byContradiction fun h => hs ((holds_iff hdv.one hrr).mpr ((noOne_iff hdv.one hrr).mp h))
      have hwF := go_on (show wordOf (ds.length - 1) P rr.length (restBy rr ds).sum false = "none" by unfold wordOf; rw [if_neg (by omega), if_neg (by omega), if_neg (fun h => by cases h.1)])
      have hwT := go_on (show wordOf (ds.length - 1) P rr.length (restBy rr ds).sum true = "broken" by unfold wordOf; rw [if_neg (by omega), if_neg (by omega), if_pos ⟨rfl, hs⟩])
      have hbad := go_on (show ¬ ((ds.length - 1 ≤ rr.length ∧ rr.length ≤ P) ∧ (restBy rr ds).sum = 0) from fun h => hs h.2)
      cases tb
      · k_steps
        rename Fr _ _ _ _ => FC2
        rename News _ _ _ _ => NC2
        refine go_on (c_law_words (op := false) (G.push FC2 rfl) (by omega) (by omega) (gate_base FC2 hG₀) hdv hP (lst_led NC2 (by k_mem)) hir (by omega) hrr (fun gD2 hD2 tD2 sD2 TD2 kD2 => ?_))
        rw [hwF] 
        obtain ⟨gE2, TE2, FE2, NE2⟩ := turn_call G FC2 NC2 rfl TD2 kD2
        have GE2 := G.turn TE2
        have BE2 := GE2.below dp un gd
        have XE2 := GE2.kin
        have PE2 := GE2.top
        replace hG₀ := go_on (gate_turn TE2 hG₀)
        obtain ⟨dx, lD, sl1, sl2, vD, t0, t1, t2, t3, tP, tw, hIn, hlD, hiD⟩ := id hG₀
        replace hlr := list_turn TE2 hlr
        replace hld := list_turn TE2 hld
        clear FC2 NC2 kD2
        clear B' X' T'
        dsimp only
        k_steps
        rename Fr _ _ _ _ => FA3
        rename News _ _ _ _ => NA3
        refine go_on (c_Gate_holds (GE2.push FA3 rfl) (by omega) (by omega) (gate_base FA3 hG₀) hdv hP (lst_led NA3 (by k_mem)) hir (by omega) hrr (fun h => absurd h (by omega)) (fun h => absurd h.2 (by omega)) (fun _ hB3 tB3 kB3 => ?_))
        have FB3 := fr_on FA3 kB3
        have NB3 := news_on NA3 kB3
        clear FA3 NA3 kB3
        rw [decide_eq_false hs]
        dsimp only
        k_steps
        rename Fr _ _ _ _ => FC5
        rename News _ _ _ _ => NC5
        refine go_on (c_law_words (op := true) (GE2.push FC5 rfl) (by omega) (by omega) (gate_base FC5 hG₀) hdv hP (lst_led NC5 (by k_mem)) hir (by omega) hrr (fun gD5 hD5 tD5 sD5 TD5 kD5 => ?_))
        rw [hwT] 
        obtain ⟨gE5, TE5, FE5, NE5⟩ := turn_call GE2 FC5 NC5 rfl TD5 kD5
        have GE5 := GE2.turn TE5
        have BE5 := GE5.below dp un gd
        have XE5 := GE5.kin
        have PE5 := GE5.top
        replace hG₀ := go_on (gate_turn TE5 hG₀)
        obtain ⟨dx, lD, sl1, sl2, vD, t0, t1, t2, t3, tP, tw, hIn, hlD, hiD⟩ := id hG₀
        replace hlr := list_turn TE5 hlr
        replace hld := list_turn TE5 hld
        clear FC5 NC5 kD5
        clear BE2 XE2 PE2
        dsimp only
        k_steps
        rename Fr _ _ _ _ => FC6
        rename News _ _ _ _ => NC6
        refine go_on (c_law_any (GE5.push FC6 rfl) (by omega) (by omega) (gate_base FC6 hG₀) hdv hP (lst_led NC6 (by k_mem)) hir (by omega) hrr hbad (fun gD6 hD6 tD6 TD6 kD6 => ?_))
        obtain ⟨gE6, TE6, FE6, NE6⟩ := turn_call GE5 FC6 NC6 rfl TD6 kD6
        have GE6 := GE5.turn TE6
        have BE6 := GE6.below dp un gd
        have XE6 := GE6.kin
        have PE6 := GE6.top
        replace hG₀ := go_on (gate_turn TE6 hG₀)
        obtain ⟨dx, lD, sl1, sl2, vD, t0, t1, t2, t3, tP, tw, hIn, hlD, hiD⟩ := id hG₀
        replace hlr := list_turn TE6 hlr
        replace hld := list_turn TE6 hld
        clear FC6 NC6 kD6
        clear BE5 XE5 PE5
        dsimp only
        k_steps
        rename Fr _ _ _ _ => FZ
        rename News _ _ _ _ => NZ
        exact ret gE6 _ _ [] _ [] (TE2.trans (TE5.trans (TE6))) FZ.keep (led_of NZ (List.forall_mem_cons.mpr ⟨by rw [List.append_nil]; k_mem, List.forall_mem_nil _⟩)) (List.forall_mem_nil _) (held_nil _) (Nat.zero_le _)
      · k_steps
        rename Fr _ _ _ _ => FC1
        rename News _ _ _ _ => NC1
        refine go_on (c_law_words (op := true) (G.push FC1 rfl) (by omega) (by omega) (gate_base FC1 hG₀) hdv hP (lst_led NC1 (by k_mem)) hir (by omega) hrr (fun gD1 hD1 tD1 sD1 TD1 kD1 => ?_))
        rw [hwT] 
        obtain ⟨gE1, TE1, FE1, NE1⟩ := turn_call G FC1 NC1 rfl TD1 kD1
        have GE1 := G.turn TE1
        have BE1 := GE1.below dp un gd
        have XE1 := GE1.kin
        have PE1 := GE1.top
        replace hG₀ := go_on (gate_turn TE1 hG₀)
        obtain ⟨dx, lD, sl1, sl2, vD, t0, t1, t2, t3, tP, tw, hIn, hlD, hiD⟩ := id hG₀
        replace hlr := list_turn TE1 hlr
        replace hld := list_turn TE1 hld
        clear FC1 NC1 kD1
        clear B' X' T'
        dsimp only
        k_steps
        rename Fr _ _ _ _ => FC2
        rename News _ _ _ _ => NC2
        refine go_on (c_law_words (op := false) (GE1.push FC2 rfl) (by omega) (by omega) (gate_base FC2 hG₀) hdv hP (lst_led NC2 (by k_mem)) hir (by omega) hrr (fun gD2 hD2 tD2 sD2 TD2 kD2 => ?_))
        rw [hwF] 
        obtain ⟨gE2, TE2, FE2, NE2⟩ := turn_call GE1 FC2 NC2 rfl TD2 kD2
        have GE2 := GE1.turn TE2
        have BE2 := GE2.below dp un gd
        have XE2 := GE2.kin
        have PE2 := GE2.top
        replace hG₀ := go_on (gate_turn TE2 hG₀)
        obtain ⟨dx, lD, sl1, sl2, vD, t0, t1, t2, t3, tP, tw, hIn, hlD, hiD⟩ := id hG₀
        replace hlr := list_turn TE2 hlr
        replace hld := list_turn TE2 hld
        clear FC2 NC2 kD2
        clear BE1 XE1 PE1
        dsimp only
        k_steps
        rename Fr _ _ _ _ => FA3
        rename News _ _ _ _ => NA3
        refine go_on (c_Gate_holds (GE2.push FA3 rfl) (by omega) (by omega) (gate_base FA3 hG₀) hdv hP (lst_led NA3 (by k_mem)) hir (by omega) hrr (fun h => absurd h (by omega)) (fun h => absurd h.2 (by omega)) (fun _ hB3 tB3 kB3 => ?_))
        have FB3 := fr_on FA3 kB3
        have NB3 := news_on NA3 kB3
        clear FA3 NA3 kB3
        rw [decide_eq_false hs]
        dsimp only
        k_steps
        rename Fr _ _ _ _ => FC5
        rename News _ _ _ _ => NC5
        refine go_on (c_law_words (op := true) (GE2.push FC5 rfl) (by omega) (by omega) (gate_base FC5 hG₀) hdv hP (lst_led NC5 (by k_mem)) hir (by omega) hrr (fun gD5 hD5 tD5 sD5 TD5 kD5 => ?_))
        rw [hwT] 
        obtain ⟨gE5, TE5, FE5, NE5⟩ := turn_call GE2 FC5 NC5 rfl TD5 kD5
        have GE5 := GE2.turn TE5
        have BE5 := GE5.below dp un gd
        have XE5 := GE5.kin
        have PE5 := GE5.top
        replace hG₀ := go_on (gate_turn TE5 hG₀)
        obtain ⟨dx, lD, sl1, sl2, vD, t0, t1, t2, t3, tP, tw, hIn, hlD, hiD⟩ := id hG₀
        replace hlr := list_turn TE5 hlr
        replace hld := list_turn TE5 hld
        clear FC5 NC5 kD5
        clear BE2 XE2 PE2
        dsimp only
        k_steps
        rename Fr _ _ _ _ => FC6
        rename News _ _ _ _ => NC6
        refine go_on (c_law_any (GE5.push FC6 rfl) (by omega) (by omega) (gate_base FC6 hG₀) hdv hP (lst_led NC6 (by k_mem)) hir (by omega) hrr hbad (fun gD6 hD6 tD6 TD6 kD6 => ?_))
        obtain ⟨gE6, TE6, FE6, NE6⟩ := turn_call GE5 FC6 NC6 rfl TD6 kD6
        have GE6 := GE5.turn TE6
        have BE6 := GE6.below dp un gd
        have XE6 := GE6.kin
        have PE6 := GE6.top
        replace hG₀ := go_on (gate_turn TE6 hG₀)
        obtain ⟨dx, lD, sl1, sl2, vD, t0, t1, t2, t3, tP, tw, hIn, hlD, hiD⟩ := id hG₀
        replace hlr := list_turn TE6 hlr
        replace hld := list_turn TE6 hld
        clear FC6 NC6 kD6
        clear BE5 XE5 PE5
        dsimp only
        k_steps
        rename Fr _ _ _ _ => FZ
        rename News _ _ _ _ => NZ
        exact ret gE6 _ _ [] _ [] (TE1.trans (TE2.trans (TE5.trans (TE6)))) FZ.keep (led_of NZ (List.forall_mem_cons.mpr ⟨by rw [List.append_nil]; k_mem, List.forall_mem_nil _⟩)) (List.forall_mem_nil _) (held_nil _) (Nat.zero_le _)
end

theorem c_law {l : Addr} {vs : List Value} {ns : List Int} (G : Gd (Mine.KK w.params) Mine.view (looseW Mine.view [Str.ofString "MOST_NOUGHTS"]) mean mg mb base fr s.heap) (hd : dp + 11 < recursionLimit) (hu : un + 210 < cLine)
    (hfr : fr = []) (hl : s.heap.IsList l vs.toArray) (hi : IntsAre vs ns) (hz : ns.length ≤ 63)
    (ret : ∀ g' h' tk', KtsTurn (frs fr) s.heap g' → g'.StaysIn h' → Q (.bool true) { s with heap := h', toks := tk' }) :
    wpAny (model PySem.Challenge.rw_uf040037_09.row.prog w) (arA dp un gd fr) (call (.ref 317) [.ref l]) Q E s := by
  revert G; k_fill; intro G
  refine' enter0 (binds := [(Str.ofString "_law_script", .ref l)]) G ?k6 ?k7 ?k8 ?k9 ?kB ?_ ?c2 ?c3 ?c4 ?c5
  case k6 => k_is
  case k7 => k_is
  case k8 => omega
  case k9 => exact BindsTo.of_eq rfl
  case kB => exact locs rfl
  case c2 => exact rfl
  case c3 => exact rfl
  case c4 => exact rfl
  case c5 => decide
  intro L' h' tk F'
  have N' : News s.heap L' h' [] := News.nil
  have B' := G.below dp un gd
  have X' := G.kin
  have T' := G.top
  subst hfr
  refine hide1 fun r₁ hr₁ => ?_
  k_steps
  subst hr₁
  dsimp only
  rename Fr _ _ _ _ => F₁
  rename News _ _ _ _ => N₁
  rename IsDiv _ => hdv
  rename IntsAre _ _ => hid
  rename_i Dd vd cd ds _ _
  have hrd := hdv.row
  obtain ⟨P, hP, hP5⟩ := hdv.reach
  have hz1 := hdv.least
  have hz2 := hdv.most
  have hge := hP.ge
  k_steps
  rename_i D1 v1 c1 r1 hi1 hr1 hl1 ne1 _ _ _ _ _ _ _ _ _ D2 v2 c2 r2 hi2 hr2 hl2 ne2 _ Dh ch _ F₅ N₅ lh
  refine' go_on (c_Gate (G.push F₅ rfl) ?hd ?hu ?b1 hid ?b3 hrd ?r ?_)
  case hd => omega
  case hu => omega
  case b1 => exact lst_led N₅ (.head _)
  case b3 => omega
  case r => exact fun h => absurd hdv h
  intro _ P' hP' h₆ tk₆ x dx lD vD cD t0 t1 t2 t3 tP tv k hx hdx hlD ox od ol hiD l1 l2
  obtain rfl : P' = P := hP'.unique hP
  have nx := allNe_of (news_ne N₅ hx)
  have nd := allNe_of (news_ne N₅ hdx)
  have nl := allNe_of (news_ne N₅ hlD)
  simp only [AllNe, and_true] at nx nd nl
  have F₆ := fr_on F₅ k
  have N₆ := news_add F₅ (news_add F₅ (news_add F₅ (news_on N₅ k) hlD ol) hdx od) hx ox
  clear F₅ N₅ k hx hdx hlD ox od ol

  dsimp only
  k_steps

  rename_i H _ lH _ _ F₈ N₈
  generalize (((ns.getD (Int.toNat 4) 0).fdiv 4).fmod 2 == 1) = fb at *
  have hcon : ∀ p ∈ ([(x, instObj 228 dx), (dx, gateD w.params t0 t1 t2 t3 (P' : Int) tP lD ((ds.length : Int) - 1) tv (ds.sum.fmod 2 == 0)), (lD, listOf vD.toArray cD), (D2, listOf v2.toArray c2), (D1, listOf v1.toArray c1), (Dd, listOf vd.toArray cd)] : List (Addr × Obj)), @Ne Nat p.1 H := by intro q hq; simp only [List.mem_cons, List.not_mem_nil, or_false] at hq; rcases hq with rfl | rfl | rfl | rfl | rfl | rfl <;> (dsimp only; omega)
  refine go_on (for_in F₈ (fun Q' q => ?_) (fun _ => rfl) (by passes_own))
  k_steps
  rename_i T1 _ lT1 T2 _ lT2 T3 _ lT3 T4 _ lT4 l₄ _ F₉ N₉ lT5
  refine q _ _ (loop_pairs (l := l₄) (vs := [.ref T1, .ref T2, .ref T3, .ref T4]) (news := (H, listOf (List.toArray []) 0) :: [(x, instObj 228 dx), (dx, gateD w.params t0 t1 t2 t3 (P' : Int) tP lD ((ds.length : Int) - 1) tv (ds.sum.fmod 2 == 0)), (lD, listOf vD.toArray cD), (D2, listOf v2.toArray c2), (D1, listOf v1.toArray c1), (Dd, listOf vd.toArray cd)]) (still := [(l₄, listOf (List.toArray [.ref T1, .ref T2, .ref T3, .ref T4]) 0), (T4, tupO [.ref D2, .bool fb]), (T3, tupO [.ref D1, .bool (!fb)]), (T2, tupO [.ref D2, .bool (!fb)]), (T1, tupO [.ref D1, .bool fb])]) (fun i m nx => ∃ (hv : List Value) (hc : Nat) (prs : List (Addr × Obj)), nx = (H, listOf hv.toArray hc) :: ([(x, instObj 228 dx), (dx, gateD w.params t0 t1 t2 t3 (P' : Int) tP lD ((ds.length : Int) - 1) tv (ds.sum.fmod 2 == 0)), (lD, listOf vD.toArray cD), (D2, listOf v2.toArray c2), (D1, listOf v1.toArray c1), (Dd, listOf vd.toArray cd)] ++ prs) ∧ hv.length ≤ 3 * i ∧ HeldIn prs hv ∧ (∀ p ∈ prs, @Ne Nat p.1 H) ∧ m (Str.ofString "_law_gate") = some (.ref x) ∧ m (Str.ofString "_law_divisor") = some (.ref Dd) ∧ (∃ tM, m (Str.ofString "_law_most") = some (.int (P' : Int) tM)) ∧ m (Str.ofString "_law_held") = some (.ref H)) (fun _ x y => (x = .ref D1 ∨ x = .ref D2) ∧ ∃ b, y = .bool b) rfl F₉ ?lN ?ll (.inl ⟨_, .head _⟩) ?lo ?lR ⟨[], 0, [], rfl, Nat.zero_le _, held_nil _, List.forall_mem_nil _, rfl, rfl, ⟨_, rfl⟩, rfl⟩ ?_ ?_ rfl rfl rfl)
  case lN => exact news_sub N₉ (List.forall_mem_cons.mpr ⟨by k_mem, List.forall_mem_cons.mpr ⟨by k_mem, List.forall_mem_cons.mpr ⟨by k_mem, List.forall_mem_cons.mpr ⟨by k_mem, List.forall_mem_cons.mpr ⟨by k_mem, List.forall_mem_cons.mpr ⟨by k_mem, List.forall_mem_cons.mpr ⟨by k_mem, List.forall_mem_cons.mpr ⟨by k_mem, List.forall_mem_cons.mpr ⟨by k_mem, List.forall_mem_cons.mpr ⟨by k_mem, List.forall_mem_cons.mpr ⟨by k_mem, List.forall_mem_cons.mpr ⟨by k_mem, List.forall_mem_nil _⟩⟩⟩⟩⟩⟩⟩⟩⟩⟩⟩⟩)
  case ll => exact lst_led N₉ (by k_mem)
  case lo => intro p hp c hc; simp only [List.map_cons, List.map_nil, List.mem_cons, List.not_mem_nil, or_false] at hp hc; rcases hp with rfl | rfl | rfl | rfl | rfl <;> rcases hc with rfl | rfl | rfl | rfl | rfl | rfl | rfl <;> (show @Ne Nat _ _; dsimp only; omega)
  case lR =>
    intro i v h hv _ hst
    have hm := List.mem_of_getElem? hv
    simp only [List.mem_cons, List.not_mem_nil, or_false] at hm
    rcases hm with rfl | rfl | rfl | rfl
    · exact ⟨T1, .ref D1, .bool _, rfl, ⟨_, hst _ (.tail _ (.tail _ (.tail _ (.tail _ (.head _))))), rfl, _, rfl⟩, .inl rfl, _, rfl⟩
    · exact ⟨T2, .ref D2, .bool _, rfl, ⟨_, hst _ (.tail _ (.tail _ (.tail _ (.head _)))), rfl, _, rfl⟩, .inr rfl, _, rfl⟩
    · exact ⟨T3, .ref D1, .bool _, rfl, ⟨_, hst _ (.tail _ (.tail _ (.head _))), rfl, _, rfl⟩, .inl rfl, _, rfl⟩
    · exact ⟨T4, .ref D2, .bool _, rfl, ⟨_, hst _ (.tail _ (.head _)), rfl, _, rfl⟩, .inr rfl, _, rfl⟩
  · rintro i x₁ y₁ m₁ news₁ h₂ tk₂ own hi₂ ⟨hx, b, rfl⟩ ho ⟨hv, hc, prs, rfl, hln, hH, hne, f1, f2, ⟨tM, f3⟩, f4⟩ _ F₂ N₂
    clear F₉ N₉
    replace F₂ := fr_know (Str.ofString "_law_gate") (fr_know (Str.ofString "_law_divisor") (fr_know (Str.ofString "_law_most") (fr_know (Str.ofString "_law_held") F₂ f4) f3) f2) f1
    simp only [List.cons_append, List.nil_append, List.append_assoc] at N₂
    have hi₃ : i < 4 := hi₂
    rcases hx with rfl | rfl
    · k_steps
      rename Fr _ _ _ _ => FA
      rename News _ _ _ _ => NA
      have hoH := off_H (o := listOf hv.toArray hc) hcon hne ho
      have Ng := news_hide (led := [(H, listOf hv.toArray hc)]) (rest := [(x, instObj 228 dx), (dx, gateD w.params t0 t1 t2 t3 (P' : Int) tP lD ((ds.length : Int) - 1) tv (ds.sum.fmod 2 == 0)), (lD, listOf vD.toArray cD), (D2, listOf v2.toArray c2), (D1, listOf v1.toArray c1), (Dd, listOf vd.toArray cd)] ++ (prs ++ own)) NA hoH
      simp only [List.cons_append, List.nil_append] at Ng
      refine' go_on (c_law_asked (P := P') (ds := ds) (G.pushH (led := [(H, listOf hv.toArray hc)]) FA (news_head NA) rfl) stays_hide size_hide (led_hide (news_head NA)) ?hd ?hu ?gg hdv hP ?ld hid ?lr hi1 hr1 ?lz ?lh ?_)
      case hd => omega
      case hu => omega
      case gg => exact gate_led Ng (by k_mem) (by k_mem) (by k_mem) hiD
      case ld => exact lst_led Ng (by k_mem)
      case lr => exact lst_led Ng (by k_mem)
      case lz => omega
      case lh => omega
      intro g₁ h₁ tk₁ hv' hc' prs' T₁ k₁ N₁ hne' hH' hlen'
      obtain ⟨g', T', F₇, N₇, hoff'⟩ := back_H (led := [(H, listOf hv.toArray hc)]) (rest := [(x, instObj 228 dx), (dx, gateD w.params t0 t1 t2 t3 (P' : Int) tP lD ((ds.length : Int) - 1) tv (ds.sum.fmod 2 == 0)), (lD, listOf vD.toArray cD), (D2, listOf v2.toArray c2), (D1, listOf v1.toArray c1), (Dd, listOf vd.toArray cd)] ++ (prs ++ own)) G FA NA hoH rfl T₁ k₁ N₁
      replace F₇ := fr_nil T' F₇
      replace N₇ := news_nil T' N₇
      have hend := go_on (end_H (conc := [(x, instObj 228 dx), (dx, gateD w.params t0 t1 t2 t3 (P' : Int) tP lD ((ds.length : Int) - 1) tv (ds.sum.fmod 2 == 0)), (lD, listOf vD.toArray cD), (D2, listOf v2.toArray c2), (D1, listOf v1.toArray c1), (Dd, listOf vd.toArray cd)]) ho hoff')
      clear FA NA Ng T₁ k₁ N₁ T' hoff'
      dsimp only
      k_steps
      obtain ⟨e1, e2, e3⟩ := hend
      exact GEnd.intro F₇ N₇ ⟨hv ++ hv', hc', prs' ++ prs, rfl, by rw [List.length_append]; omega, held_append (hH.sub fun p hp => List.mem_append_right _ hp) (hH'.sub fun p hp => List.mem_append_left _ hp), fun p hp => (List.mem_append.mp hp).elim (hne' p) (hne p), rfl, rfl, ⟨_, rfl⟩, rfl⟩ e1 e2 e3
    · k_steps
      rename Fr _ _ _ _ => FA
      rename News _ _ _ _ => NA
      have hoH := off_H (o := listOf hv.toArray hc) hcon hne ho
      have Ng := news_hide (led := [(H, listOf hv.toArray hc)]) (rest := [(x, instObj 228 dx), (dx, gateD w.params t0 t1 t2 t3 (P' : Int) tP lD ((ds.length : Int) - 1) tv (ds.sum.fmod 2 == 0)), (lD, listOf vD.toArray cD), (D2, listOf v2.toArray c2), (D1, listOf v1.toArray c1), (Dd, listOf vd.toArray cd)] ++ (prs ++ own)) NA hoH
      simp only [List.cons_append, List.nil_append] at Ng
      refine' go_on (c_law_asked (P := P') (ds := ds) (G.pushH (led := [(H, listOf hv.toArray hc)]) FA (news_head NA) rfl) stays_hide size_hide (led_hide (news_head NA)) ?hd ?hu ?gg hdv hP ?ld hid ?lr hi2 hr2 ?lz ?lh ?_)
      case hd => omega
      case hu => omega
      case gg => exact gate_led Ng (by k_mem) (by k_mem) (by k_mem) hiD
      case ld => exact lst_led Ng (by k_mem)
      case lr => exact lst_led Ng (by k_mem)
      case lz => omega
      case lh => omega
      intro g₁ h₁ tk₁ hv' hc' prs' T₁ k₁ N₁ hne' hH' hlen'
      obtain ⟨g', T', F₇, N₇, hoff'⟩ := back_H (led := [(H, listOf hv.toArray hc)]) (rest := [(x, instObj 228 dx), (dx, gateD w.params t0 t1 t2 t3 (P' : Int) tP lD ((ds.length : Int) - 1) tv (ds.sum.fmod 2 == 0)), (lD, listOf vD.toArray cD), (D2, listOf v2.toArray c2), (D1, listOf v1.toArray c1), (Dd, listOf vd.toArray cd)] ++ (prs ++ own)) G FA NA hoH rfl T₁ k₁ N₁
      replace F₇ := fr_nil T' F₇
      replace N₇ := news_nil T' N₇
      have hend := go_on (end_H (conc := [(x, instObj 228 dx), (dx, gateD w.params t0 t1 t2 t3 (P' : Int) tP lD ((ds.length : Int) - 1) tv (ds.sum.fmod 2 == 0)), (lD, listOf vD.toArray cD), (D2, listOf v2.toArray c2), (D1, listOf v1.toArray c1), (Dd, listOf vd.toArray cd)]) ho hoff')
      clear FA NA Ng T₁ k₁ N₁ T' hoff'
      dsimp only
      k_steps
      obtain ⟨e1, e2, e3⟩ := hend
      exact GEnd.intro F₇ N₇ ⟨hv ++ hv', hc', prs' ++ prs, rfl, by rw [List.length_append]; omega, held_append (hH.sub fun p hp => List.mem_append_right _ hp) (hH'.sub fun p hp => List.mem_append_left _ hp), fun p hp => (List.mem_append.mp hp).elim (hne' p) (hne p), rfl, rfl, ⟨_, rfl⟩, rfl⟩ e1 e2 e3
  · rintro m₁ news₁ h₂ tk₂ ⟨hv, hc, prs, rfl, hln, hH, hne, f1, f2, ⟨tM, f3⟩, f4⟩ F₂ N₂
    clear F₉ N₉
    replace F₂ := fr_know (Str.ofString "_law_held") F₂ f4
    simp only [List.cons_append, List.nil_append] at N₂
    k_steps
    rename Fr _ _ _ _ => FA
    rename News _ _ _ _ => NA
    refine' go_on (c_law_kept (hv := hv) (G.push FA rfl) ?hd ?hu ?kl ?kp ?_)
    case hd => omega
    case hu => omega
    case kl => exact lst_led NA (by k_mem)
    case kp => exact held_at NA (hH.sub fun p hp => .tail _ (.tail _ (.tail _ (.tail _ (.tail _ (.tail _ (.tail _ (hp))))))))
    intro h₃ tk₃ k₃
    exact ret _ _ _ KtsTurn.refl (fr_on FA k₃).keep

end
end Mine
end

namespace Mine
open PySem PySem.W PyProof.Rows
theorem good_true {c : ClaimW} {cl : Str → Option Addr} {mean : ExcName → Option Value} {args : List WData} {s₁ : Shared} {h' : Heap} {tk : Nat} (hg : s₁.gens = #[]) (hr : ∀ cls, c.raises args cls = false) (hp : c.post args (.bool true) args = true) (k : s₁.heap.StaysIn h') :
    GoodWG c cl mean args s₁ (.ok (.ret (.bool true))) { s₁ with heap := h', toks := tk } :=
  GoodW.toG ⟨.inl ⟨_, .bool true, [], rfl, hr, .bool true, hp, fun _ => ⟨List.nodup_nil, fun _ h => nomatch h⟩⟩, k, rfl, hg⟩
end Mine
theorem PySem.Challenge.cw_uf040037_09_holds : PySem.Challenge.rw_uf040037_09.Holds := by
  w_on; o_law
  refine PySem.W.holds_open (q := Mine.view) (loose := [Str.ofString "MOST_NOUGHTS"]) (Xt := fun s => xlAt Mine.view [(PySem.Str.ofString "MOST_NOUGHTS", .int 1000000000000000000)] s && recOk (RowW.records PySem.Challenge.rw_uf040037_09.row.toRowW) s) (XP := XL Mine.view [(PySem.Str.ofString "MOST_NOUGHTS", .int 1000000000000000000)]) (Yf := Hook.obs Mine.kkHook) (Ya := Hook.val Mine.kkHook) (YP := Hook.says Mine.kkHook) (N := 5506) ?hl (Hook.of Mine.kkHook) (Hook.keeps Mine.kkHook) (fun s e => xl_of s (Bool.and_eq_true_iff.mp e).1) XL.keeps (by rfl) (by rfl) (by rfl) (fun s e => recFacts_of (Bool.and_eq_true_iff.mp e).2) (by rfl) (by first | assumption | decide +kernel) (by decide +kernel) ⟨rfl, rfl, rfl, rfl, rfl, by decide +kernel⟩ ?hw ?hc
  case hl => exact Mine.left_
  case hw => w_witness2
  k_fill
  intro w s₀ s₁ mg mb G Y fa o pm cd doc dV kV ho hd hcd hD hmg hg args vals as hpre hlay hrd hwl hlo
  have KX := kIn_of Y
  refine Ground.open G ?_
  intro T B D TE TW
  wrow_args hpre hlay hrd hwl hlo
  have hf : mg (Str.ofString "law") = some (.ref 317) := mg_of KX T.g (by k_is)
  obtain rfl : fa = 317 := Value.ref.inj (Option.some.inj (hmg.symm.trans hf))
  rename s₁.heap.IsList _ _ => hL
  rename IntsAre _ _ => hI
  refine Mine.c_law (dp := 301) (un := 4) (gd := some []) (fr := []) ⟨fun _ _ e => e, trivial, KX, T, KX, T, ktsDicts_nil⟩ (by decide) (by decide) rfl hL hI (by omega) fun g' h' tk' T' k' => ?_
  have k : s₁.heap.StaysIn h' := fun b o e => k' b o (Mine.turn_nil T' b o e)
  exact Mine.good_true hg (fun _ => rfl) (postW_of (X := (true == true)) rfl (w_eq_bool (k := true) (l := true) (w_res rfl) w_lit) rfl) k
